import PyProof.Rows.All
import Wide.All
import OpenK.AllK
import Wide.FinOn
import HandS.ForMost
import HandS.Walk
import HandS.Zip
import HandS.Style
import HandS.Flow
import HandS.TupAny
import HandS.TupMul
import HandS.DictTup
import HandS.DictComp
import HandS.Deep
import HandS.WordsExc
import HandS.CallSlots
import HandS.Codes
import HandS.IsInst
import HandS.Lambda
import KE.SortData
import KE.SortKeyHeap
import KE.KMinKey
import KE.GoesEnum
import HandS.More
import KE.LtData
import HandS.TupLe
import KE.KDictPairs
import KE.GoesMore
import KE.GoesZip
import HandS.Star
import HandS.ExcInit
import KE.KExcSuper
import HandS.TryMany
import HandS.ExcField
import HandS.Set
import PyProof.Rows.SetFrom
import PyProof.Rows.SortShellAny
import PyProof.Rows.SortStr
import KE.KDictZip
import HandS.EndOwn
import KE.DataCmp
import PySem.Challenge.RW_kindboughs_k05_books_amended_and_put_bac
set_option Elab.async false
set_option linter.all false
set_option maxRecDepth 100000

set_option maxRecDepth 100000
set_option maxHeartbeats 4000000
/-! Z: a functional semantics for the defs of a text, over HandS. Values are data; own lists and dicts of a frame stand in its slots; what several frames change stands in a small heap. -/
namespace Z
open PySem PySem.Spec PyProof.Rows L2

def keyD : Key → PyData
  | .inl i => .int i
  | .inr x => .str x
/-- an object that is changed -/
inductive PO where
  | lst (xs : List PyData)
  | dk (kvs : List (Key × PyData))
  | dt (kvs : List (List Key × PyData))
  | tb (p : Nat) (q : Str)
def PO.data : PO → PyData
  | .lst xs => .list xs
  | .dk kvs => .dict (kvs.map fun p => (keyD p.1, p.2))
  | .dt kvs => .dict (kvs.map fun p => (.tuple (p.1.map keyD), p.2))
  | .tb _ _ => .dict [(.none, .none)]
/-- what a slot holds, what an expression gives: data; the k-th object of the small heap; an object of its own -/
inductive SV where
  | d (x : PyData)
  | r (k : Nat)
  | o (b : PO)
structure S where
  s : List (Option SV)
  h : List PO
/-- an exception: its class, its fields -/
structure Ex where
  c : Str
  fs : List (Str × PyData)
inductive Res (α : Type) where
  | ok (a : α) (s : S)
  | ex (x : Ex) (s : S)
  | no
/-- how a statement ends -/
inductive Fl where
  | nx (s : S)
  | rt (v : SV) (s : S)
  | bk (s : S)
  | ct (s : S)
  | ex (x : Ex) (s : S)
  | no
/-- how a call ends -/
inductive FR where
  | ok (v : SV) (h : List PO)
  | ex (x : Ex) (h : List PO)
  | no
abbrev Fn := List SV → List PO → FR
abbrev SE := S → Res SV
abbrev SS := S → Fl
/-- where something stands that is read -/
inductive Pl where
  | v (x : PyData)
  | sl (i : Nat)
  | hp (k : Nat)
  | tm (b : PO)
abbrev SPl := S → Res Pl
def ld (st : S) : Pl → Option PyData
  | .v x => some x
  | .sl i => match st.s[i]? with
    | some (some (.o b)) => some b.data
    | _ => none
  | .hp k => (st.h[k]?).map PO.data
  | .tm b => some b.data

/-- what may be changed -/
def MutZ (o : HO) : Prop := match o with
  | .tbl _ => True
  | o => Mut (some o)
/-! ### what data stands for in the abstract heap; M: what may be changed -/
section
variable (K : PySem.W.Frag) (M : List Addr) (H : Hp)
def NdL (_ : PySem.W.Frag) (M : List Addr) (H : Hp) (a : Addr) (xs : List V) : Prop := Rd H a (.lst xs) ∧ a ∉ M
/-- pairs, all of them (what dict(..) may be asked of); such a tuple is told with its very object -/
def pairy : List PyData → Bool
  | [] => false
  | ds => ds.all fun d => match d with | .tuple [_, _] => true | _ => false
/-- the law's script: a list that is read, or one of the written part -/
def NdS (a : Addr) (xs : List V) : Prop := (Rd H a (.lst xs) ∧ a ∉ M) ∨ ∃ (o : Obj) (its : Array Value) (n : Nat), K.lookup a = some o ∧ o.cls = .type "list" ∧ o.dict = none ∧ o.data = .seq its n ∧ its.size ≤ sizeLine ∧ Vals xs its.toList
def NdT (a : Addr) (xs : List V) (pr : Bool) : Prop := (H a = some (.tup xs) ∧ a ∉ M ∧ pr = false) ∨ (∃ o, H a = some (.frz o (.tup xs)) ∧ o.dict = none ∧ a ∉ M) ∨
  ∃ (o : Obj) (its : Array Value) (n : Nat), K.lookup a = some o ∧ o.cls = .type "tuple" ∧ o.dict = none ∧ o.data = .seq its n ∧ its.size ≤ sizeLine ∧ Vals xs its.toList
mutual
inductive Rp : V → PyData → Prop
  | non : Rp .non .none
  | bl (b : Bool) : Rp (.bl b) (.bool b)
  | int (i : Int) : Rp (.int i) (.int i)
  | str (x : Str) : Rp (.str x) (.str x)
  | lst {a : Addr} {xs : List V} {ds : List PyData} : NdL K M H a xs → RpAll xs ds → Rp (.ref a) (.list ds)
  | tup {a : Addr} {xs : List V} {ds : List PyData} : NdT K M H a xs (pairy ds) → RpAll xs ds → Rp (.ref a) (.tuple ds)
  | dk {a : Addr} {kvs : List (Key × V)} {ds : List PyData} : Rd H a (.dK kvs) → a ∉ M → RpAll (kvs.map (·.2)) ds → Rp (.ref a) (.dict (((kvs.map (·.1)).zip ds).map fun p => (keyD p.1, p.2)))
  | dt {a : Addr} {kvs : List (List Key × V)} {ds : List PyData} : Rd H a (.dT kvs) → a ∉ M → RpAll (kvs.map (·.2)) ds → Rp (.ref a) (.dict (((kvs.map (·.1)).zip ds).map fun p => (.tuple (p.1.map keyD), p.2)))
  | op (a : Addr) : Rp (.ref a) (.dict [(.none, .int (a : Nat))])
  | any (a : Addr) : Rp (.ref a) (.dict [(.none, .none)])
  | scr {a : Addr} {xs : List V} {ds : List PyData} : NdS K M H a xs → RpAll xs ds → Rp (.ref a) (.dict [(.none, .list ds)])
  | exc {a d : Addr} {fs : List Str} {vs : List V} {ds : List PyData} : H d = some (.xd (fs.zip vs)) → d ∉ M → fs.length = vs.length → RpAll vs ds →
    Rp (.ref a) (.dict ((.none, .int (a : Nat)) :: (.none, .int (d : Nat)) :: (fs.zip ds).map fun p => (.str p.1, p.2)))
inductive RpAll : List V → List PyData → Prop
  | nil : RpAll [] []
  | cons {v : V} {vs : List V} {d : PyData} {ds : List PyData} : Rp v d → RpAll vs ds → RpAll (v :: vs) (d :: ds)
end
/-- an object that is changed, at a -/
def Ob (a : Addr) : PO → Prop
  | .lst ds => ∃ xs, H a = some (.lst xs) ∧ RpAll K M H xs ds
  | .dk kds => ∃ kvs : List (Key × V), H a = some (.dK kvs) ∧ kvs.map (·.1) = kds.map (·.1) ∧ RpAll K M H (kvs.map (·.2)) (kds.map (·.2))
  | .dt kds => ∃ kvs : List (List Key × V), H a = some (.dT kvs) ∧ kvs.map (·.1) = kds.map (·.1) ∧ RpAll K M H (kvs.map (·.2)) (kds.map (·.2))
  | .tb p q => a = p ∧ ∃ ps : Array Value, H a = some (.tbl ps) ∧ TriplesOk ps.toList ∧ ∀ (pos : Pos) (cv : Value), codeAmong pos ps.toList = some cv → ∃ c, cv = .ref c ∧ c ∉ M ∧ H c = some (LamX.CodeO c q)
/-- what is read: data, or an object as it stands -/
inductive Top : V → PyData → Prop
  | rp {v : V} {d : PyData} : Rp K M H v d → Top v d
  | ob {a : Addr} {b : PO} : Ob K M H a b → Top (.ref a) b.data
/-- what a slot holds -/
def Sl (ρ : List Addr) : SV → V → Prop
  | .d x, v => Rp K M H v x
  | .r k, v => ∃ a, ρ[k]? = some a ∧ v = .ref a
  | .o b, v => ∃ a, v = .ref a ∧ Ob K M H a b
end
/-- the addresses of the slots' own objects -/
def owns : List (Option SV) → L2.St → List Addr
  | some (.o _) :: r, some (.ref a) :: q => a :: owns r q
  | _ :: r, _ :: q => owns r q
  | _, _ => []
/-- what may be changed now; what data avoids -/
abbrev chg (ρ : List Addr) (st : S) (σ : L2.St) : List Addr := ρ ++ owns st.s σ
abbrev avd (ρ E : List Addr) (st : S) (σ : L2.St) : List Addr := ρ ++ owns st.s σ ++ E
/-- the small heap -/
def HpR (K : PySem.W.Frag) (M : List Addr) (H : Hp) (ρ : List Addr) (h : List PO) : Prop := ρ.length = h.length ∧ ∀ (k : Nat) (b : PO), h[k]? = some b → ∃ a, ρ[k]? = some a ∧ Ob K M H a b
/-- the state of a frame; E: what is told apart besides -/
structure Rel (K : PySem.W.Frag) (ρ E : List Addr) (st : S) (σ : L2.St) (H : Hp) : Prop where
  nd : (avd ρ E st σ).Nodup
  dom : ∀ a ∈ avd ρ E st σ, ∃ o, H a = some o ∧ MutZ o
  len : st.s.length = σ.length
  slot : ∀ (i : Nat) (sv : SV), st.s[i]? = some (some sv) → ∃ v, σ[i]? = some (some v) ∧ Sl K (avd ρ E st σ) H ρ sv v
  heap : HpR K (avd ρ E st σ) H ρ st.h
structure Post (K : PySem.W.Frag) (ρ E : List Addr) (st : S) (σ : L2.St) (H : Hp) (ρ' E' : List Addr) (st' : S) (σ' : L2.St) (H' : Hp) : Prop where
  rel : Rel K ρ' E' st' σ' H'
  pre : ρ <+: ρ'
  fr : ∀ a o, a ∉ chg ρ st σ → H a = some o → H' a = some o
  mu : ∀ a ∈ chg ρ' st' σ', a ∈ chg ρ st σ ∨ H a = none

/-! ### carrying -/
section
variable {K : PySem.W.Frag} {M M' : List Addr} {H H' : Hp}
theorem NdL.frame {a : Addr} {xs : List V} (h : NdL K M H a xs) (f : ∀ a o, a ∉ M → H a = some o → H' a = some o) (m : ∀ a ∈ M', a ∈ M ∨ H a = none) : NdL K M' H' a xs := by
  obtain ⟨r, n⟩ := h
  refine ⟨?_, fun z => ?_⟩
  · rcases r with r | ⟨o, r⟩
    · exact .inl (f _ _ n r)
    · exact .inr ⟨o, f _ _ n r⟩
  · rcases m _ z with q | q
    · exact n q
    · rcases r with r | ⟨o, r⟩ <;> rw [q] at r <;> cases r
theorem NdS.frame {a : Addr} {xs : List V} (h : NdS K M H a xs) (f : ∀ a o, a ∉ M → H a = some o → H' a = some o) (m : ∀ a ∈ M', a ∈ M ∨ H a = none) : NdS K M' H' a xs := by
  rcases h with ⟨r, n⟩ | h
  · refine .inl ⟨?_, fun z => ?_⟩
    · rcases r with r | ⟨o, r⟩
      · exact .inl (f _ _ n r)
      · exact .inr ⟨o, f _ _ n r⟩
    · rcases m _ z with q | q
      · exact n q
      · rcases r with r | ⟨o, r⟩ <;> rw [q] at r <;> cases r
  · exact .inr h
theorem NdS.sq {a : Addr} {xs : List V} (h : NdS K M H a xs) : SqL K H a xs := h.elim (fun h => .inl h.1) .inr
theorem NdT.frame {a : Addr} {xs : List V} {pr : Bool} (h : NdT K M H a xs pr) (f : ∀ a o, a ∉ M → H a = some o → H' a = some o) (m : ∀ a ∈ M', a ∈ M ∨ H a = none) : NdT K M' H' a xs pr := by
  have off : ∀ {u : HO}, H a = some u → a ∉ M → a ∉ M' := fun e n z => by
    rcases m _ z with q | q
    · exact n q
    · rw [q] at e; cases e
  rcases h with ⟨r, n, e⟩ | ⟨o, r, d, n⟩ | h
  · exact .inl ⟨f _ _ n r, off r n, e⟩
  · exact .inr (.inl ⟨o, f _ _ n r, d, off r n⟩)
  · exact .inr (.inr h)
theorem NdT.sq {a : Addr} {xs : List V} {pr : Bool} (n : NdT K M H a xs pr) : SqT K H a xs := by
  rcases n with ⟨e, _⟩ | ⟨o, e, _⟩ | ⟨o, its, n, e, c, _, r⟩
  · exact .inl (.inl e)
  · exact .inl (.inr ⟨o, e⟩)
  · exact .inr ⟨o, its, n, e, c, r⟩
/-- a new tuple -/
def tupO (pr : Bool) (xs : List V) (its : List Value) : HO := if pr = true then .frz { cls := .type "tuple", data := .seq its.toArray } (.tup xs) else .tup xs
theorem tupO_nd {p : Addr} {xs : List V} {its : List Value} {pr : Bool} (hp : p ∉ M) : NdT K M (upd H p (tupO pr xs its)) p xs pr := by
  cases pr
  · exact .inl ⟨upd_same, hp, rfl⟩
  · exact .inr (.inl ⟨_, upd_same, rfl, hp⟩)
theorem Rd.frame {a : Addr} {u : HO} (r : Rd H a u) (n : a ∉ M) (f : ∀ a o, a ∉ M → H a = some o → H' a = some o) : Rd H' a u := by
  rcases r with r | ⟨o, r⟩
  · exact .inl (f _ _ n r)
  · exact .inr ⟨o, f _ _ n r⟩
theorem notin_frame {a : Addr} {u : HO} (r : Rd H a u) (n : a ∉ M) (m : ∀ a ∈ M', a ∈ M ∨ H a = none) : a ∉ M' := fun z => by
  rcases m _ z with q | q
  · exact n q
  · rcases r with r | ⟨o, r⟩ <;> rw [q] at r <;> cases r
mutual
theorem Rp.frame (f : ∀ a o, a ∉ M → H a = some o → H' a = some o) (m : ∀ a ∈ M', a ∈ M ∨ H a = none) : ∀ {v : V} {d : PyData}, Rp K M H v d → Rp K M' H' v d
  | _, _, .non => .non
  | _, _, .bl b => .bl b
  | _, _, .int i => .int i
  | _, _, .str x => .str x
  | _, _, .lst n a => .lst (n.frame f m) (RpAll.frame f m a)
  | _, _, .tup n a => .tup (n.frame f m) (RpAll.frame f m a)
  | _, _, .dk r n a => .dk (Rd.frame r n f) (notin_frame r n m) (RpAll.frame f m a)
  | _, _, .dt r n a => .dt (Rd.frame r n f) (notin_frame r n m) (RpAll.frame f m a)
  | _, _, .op a => .op a
  | _, _, .any a => .any a
  | _, _, .scr n a => .scr (n.frame f m) (RpAll.frame f m a)
  | _, _, .exc e n l al => .exc (f _ _ n e) (fun z => by
      rcases m _ z with q | q
      · exact n q
      · rw [e] at q; cases q) l (RpAll.frame f m al)
theorem RpAll.frame (f : ∀ a o, a ∉ M → H a = some o → H' a = some o) (m : ∀ a ∈ M', a ∈ M ∨ H a = none) : ∀ {vs : List V} {ds : List PyData}, RpAll K M H vs ds → RpAll K M' H' vs ds
  | _, _, .nil => .nil
  | _, _, .cons r a => .cons (Rp.frame f m r) (RpAll.frame f m a)
end
theorem RpAll.length : ∀ {vs : List V} {ds : List PyData}, RpAll K M H vs ds → vs.length = ds.length
  | _, _, .nil => rfl
  | _, _, .cons _ a => by simp [RpAll.length a]
theorem RpAll.get : ∀ {vs : List V} {ds : List PyData} {i : Nat} {d : PyData}, RpAll K M H vs ds → ds[i]? = some d → ∃ v, vs[i]? = some v ∧ Rp K M H v d
  | _, _, _, _, .nil, e => by simp at e
  | _, _, 0, _, .cons r _, e => by simp at e; subst e; exact ⟨_, rfl, r⟩
  | _, _, i + 1, d, .cons _ a, e => by
    obtain ⟨v, e1, r⟩ := RpAll.get (i := i) (d := d) a (by simpa using e)
    exact ⟨v, by simpa using e1, r⟩
theorem RpAll.getV : ∀ {vs : List V} {ds : List PyData} {i : Nat} {v : V}, RpAll K M H vs ds → vs[i]? = some v → ∃ d, ds[i]? = some d ∧ Rp K M H v d
  | _, _, _, _, .nil, e => by simp at e
  | _, _, 0, _, .cons r _, e => by simp at e; subst e; exact ⟨_, rfl, r⟩
  | _, _, i + 1, v, .cons _ a, e => by
    obtain ⟨d, e1, r⟩ := RpAll.getV (i := i) (v := v) a (by simpa using e)
    exact ⟨d, by simpa using e1, r⟩
theorem RpAll.append : ∀ {xs ys : List V} {as bs : List PyData}, RpAll K M H xs as → RpAll K M H ys bs → RpAll K M H (xs ++ ys) (as ++ bs)
  | _, _, _, _, .nil, b => b
  | _, _, _, _, .cons r a, b => .cons r (RpAll.append a b)
theorem RpAll.set {v : V} {d : PyData} (r : Rp K M H v d) : ∀ {xs : List V} {as : List PyData} (i : Nat), RpAll K M H xs as → RpAll K M H (xs.set i v) (as.set i d)
  | _, _, _, .nil => .nil
  | _, _, 0, .cons _ a => .cons r a
  | _, _, i + 1, .cons q a => .cons q (RpAll.set r i a)
theorem RpAll.take : ∀ {xs : List V} {as : List PyData} (n : Nat), RpAll K M H xs as → RpAll K M H (xs.take n) (as.take n)
  | _, _, 0, _ => .nil
  | _, _, _ + 1, .nil => .nil
  | _, _, n + 1, .cons r a => .cons r (RpAll.take n a)
theorem RpAll.drop : ∀ {xs : List V} {as : List PyData} (n : Nat), RpAll K M H xs as → RpAll K M H (xs.drop n) (as.drop n)
  | _, _, 0, r => r
  | _, _, _ + 1, .nil => .nil
  | _, _, n + 1, .cons _ a => RpAll.drop n a
theorem RpAll.reverse : ∀ {xs : List V} {as : List PyData}, RpAll K M H xs as → RpAll K M H xs.reverse as.reverse
  | _, _, .nil => .nil
  | _, _, .cons r a => by
    rw [List.reverse_cons, List.reverse_cons]
    exact (RpAll.reverse a).append (.cons r .nil)
theorem RpAll.dropLast {xs : List V} {as : List PyData} (h : RpAll K M H xs as) : RpAll K M H xs.dropLast as.dropLast := by
  rw [List.dropLast_eq_take, List.dropLast_eq_take, h.length]
  exact h.take _
theorem RpAll.replicate {v : V} {d : PyData} (r : Rp K M H v d) : ∀ n : Nat, RpAll K M H (List.replicate n v) (List.replicate n d)
  | 0 => .nil
  | n + 1 => .cons r (RpAll.replicate r n)
theorem RpAll.reps {xs : List V} {as : List PyData} (h : RpAll K M H xs as) : ∀ n : Nat, RpAll K M H (List.replicate n xs).flatten (List.replicate n as).flatten
  | 0 => .nil
  | n + 1 => by
    rw [List.replicate_succ, List.replicate_succ, List.flatten_cons, List.flatten_cons]
    exact h.append (RpAll.reps h n)
theorem RpAll.insertIdx {v : V} {d : PyData} (r : Rp K M H v d) : ∀ {xs : List V} {as : List PyData} (i : Nat), RpAll K M H xs as → RpAll K M H (xs.insertIdx i v) (as.insertIdx i d)
  | _, _, 0, h => by simpa using RpAll.cons r h
  | _, _, _ + 1, .nil => by simpa using RpAll.nil
  | _, _, i + 1, .cons q a => by simpa using RpAll.cons q (RpAll.insertIdx r i a)
theorem Ob.frame {a : Addr} {b : PO} (h : Ob K M H a b) (ha : ∀ o, H a = some o → H' a = some o) (f : ∀ a o, a ∉ M → H a = some o → H' a = some o) (m : ∀ a ∈ M', a ∈ M ∨ H a = none) : Ob K M' H' a b := by
  cases b with
  | lst ds => obtain ⟨xs, e, r⟩ := h; exact ⟨xs, ha _ e, r.frame f m⟩
  | dk kds => obtain ⟨xs, e, ek, r⟩ := h; exact ⟨xs, ha _ e, ek, r.frame f m⟩
  | dt kds => obtain ⟨xs, e, ek, r⟩ := h; exact ⟨xs, ha _ e, ek, r.frame f m⟩
  | tb p q =>
    obtain ⟨ep, ps, e, t, k⟩ := h
    refine ⟨ep, ps, ha _ e, t, fun pos cv h => ?_⟩
    obtain ⟨c, e1, n, e2⟩ := k pos cv h
    refine ⟨c, e1, fun z => ?_, f _ _ n e2⟩
    rcases m c z with q | q
    · exact n q
    · rw [e2] at q; cases q
theorem Ob.some {a : Addr} {b : PO} (h : Ob K M H a b) : ∃ o, H a = some o ∧ MutZ o := by
  cases b with
  | lst ds => obtain ⟨xs, e, r⟩ := h; exact ⟨_, e, trivial⟩
  | dk kds => obtain ⟨xs, e, ek, r⟩ := h; exact ⟨_, e, trivial⟩
  | dt kds => obtain ⟨xs, e, ek, r⟩ := h; exact ⟨_, e, trivial⟩
  | tb p q => obtain ⟨_, ps, e, _⟩ := h; exact ⟨_, e, trivial⟩
end
section
variable {K : PySem.W.Frag} {ρ ρ' ρ'' E E' E'' : List Addr} {st st' st'' : S} {σ σ' σ'' : L2.St} {H H' H'' : Hp}
theorem chg_sub {a : Addr} (h : a ∈ chg ρ st σ) : a ∈ avd ρ E st σ := List.mem_append_left _ h
theorem Post.refl (r : Rel K ρ E st σ H) : Post K ρ E st σ H ρ E st σ H := ⟨r, List.prefix_refl _, fun _ _ _ e => e, fun _ h => .inl h⟩
theorem Post.trans (a : Post K ρ E st σ H ρ' E' st' σ' H') (b : Post K ρ' E' st' σ' H' ρ'' E'' st'' σ'' H'') : Post K ρ E st σ H ρ'' E'' st'' σ'' H'' :=
  ⟨b.rel, a.pre.trans b.pre, fun x o n e => b.fr x o (fun z => (a.mu x z).elim n fun q => by rw [q] at e; cases e) (a.fr x o n e), fun x h => by
    rcases b.mu x h with q | q
    · exact a.mu x q
    · by_cases hm : x ∈ chg ρ st σ
      · exact .inl hm
      · refine .inr ?_
        cases e : H x with
        | none => rfl
        | some o => rw [a.fr x o hm e] at q; cases q⟩
/-- data as it stood, behind a step -/
theorem Post.rp (p : Post K ρ E st σ H ρ' E' st' σ' H') (hE : ∀ a ∈ E', a ∈ avd ρ E st σ ∨ H a = none) {v : V} {x : PyData} (r : Rp K (avd ρ E st σ) H v x) : Rp K (avd ρ' E' st' σ') H' v x :=
  r.frame (fun a o n e => p.fr a o (fun z => n (chg_sub z)) e) fun a h => by
    rcases List.mem_append.mp h with h | h
    · rcases p.mu a h with q | q
      · exact .inl (chg_sub q)
      · exact .inr q
    · exact hE a h
theorem Post.rpAll (p : Post K ρ E st σ H ρ' E' st' σ' H') (hE : ∀ a ∈ E', a ∈ avd ρ E st σ ∨ H a = none) {v : List V} {x : List PyData} (r : RpAll K (avd ρ E st σ) H v x) : RpAll K (avd ρ' E' st' σ') H' v x :=
  r.frame (fun a o n e => p.fr a o (fun z => n (chg_sub z)) e) fun a h => by
    rcases List.mem_append.mp h with h | h
    · rcases p.mu a h with q | q
      · exact .inl (chg_sub q)
      · exact .inr q
    · exact hE a h
theorem Post.avm (p : Post K ρ E st σ H ρ' E' st' σ' H') (hE : ∀ a ∈ E', a ∈ avd ρ E st σ ∨ H a = none) : ∀ a ∈ avd ρ' E' st' σ', a ∈ avd ρ E st σ ∨ H a = none := fun a h => by
    rcases List.mem_append.mp h with h | h
    · rcases p.mu a h with q | q
      · exact .inl (chg_sub q)
      · exact .inr q
    · exact hE a h
theorem Post.avf (p : Post K ρ E st σ H ρ' E' st' σ' H') : ∀ a o, a ∉ avd ρ E st σ → H a = some o → H' a = some o := fun a o n e => p.fr a o (fun z => n (chg_sub z)) e
theorem Post.dt (p : Post K ρ E st σ H ρ' E' st' σ' H') {k : Nat} {a : Addr} (h : ρ[k]? = some a) : ρ'[k]? = some a := by
  obtain ⟨t, e⟩ := p.pre
  have hk : k < ρ.length := (List.getElem?_eq_some_iff.mp h).1
  rw [← e, List.getElem?_append_left hk]; exact h
/-- an object apart stays as it is -/
theorem Post.tmp (p : Post K ρ E st σ H ρ' E' st' σ' H') (r : Rel K ρ E st σ H) {q : Addr} (hq : q ∈ E) {o : HO} (e : H q = some o) : H' q = some o :=
  p.fr q o (fun z => by
    have nd := r.nd
    rw [show avd ρ E st σ = chg ρ st σ ++ E from rfl, List.nodup_append] at nd
    exact nd.2.2 q z q hq rfl) e
end
end Z

set_option maxRecDepth 100000
set_option maxHeartbeats 4000000
namespace Z
open PySem PySem.Spec PyProof.Rows L2

theorem PE.mono {X : Cx} {e : Expr} {t t' : TE} (h : PE X e t) (m : ∀ σ H Q, t' σ H Q → t σ H Q) : PE X e t' := ⟨fun pins s σ H Q I q => h.run pins s σ H Q I (m σ H Q q)⟩
theorem PT.mono {X : Cx} {e : Expr} {t t' : TT} (h : PT X e t) (m : ∀ σ H Q, t' σ H Q → t σ H Q) : PT X e t' := ⟨fun pins s σ H Q I q => h.run pins s σ H Q I (m σ H Q q)⟩
theorem PW.mono {X : Cx} {e : Expr} {t t' : TT} (h : PW X e t) (m : ∀ σ H Q, t' σ H Q → t σ H Q) : PW X e t' := ⟨fun wh pins s σ H Q I q => h.run wh pins s σ H Q I (m σ H Q q)⟩
theorem PA.mono {X : Cx} {e : List Expr} {t t' : TA} (h : PA X e t) (m : ∀ σ H Q, t' σ H Q → t σ H Q) : PA X e t' := ⟨fun ps pins s σ H Q I q => h.run ps pins s σ H Q I (m σ H Q q)⟩
theorem PS.mono {X : Cx} {e : Stmt} {t t' : TS} (h : PS X e t) (m : ∀ D σ H, t' D σ H → t D σ H) : PS X e t' := ⟨fun pins s σ H D I q => h.run pins s σ H D I (m D σ H q)⟩
theorem PSs.mono {X : Cx} {e : List Stmt} {t t' : TS} (h : PSs X e t) (m : ∀ D σ H, t' D σ H → t D σ H) : PSs X e t' := ⟨fun pins s σ H D I q => h.run pins s σ H D I (m D σ H q)⟩

section
variable {K : PySem.W.Frag} {M M' : List Addr} {H : Hp}
theorem Rp.mono (m : ∀ a ∈ M', a ∈ M) {v : V} {d : PyData} (r : Rp K M H v d) : Rp K M' H v d := r.frame (fun _ _ _ e => e) fun a h => .inl (m a h)
theorem RpAll.mono (m : ∀ a ∈ M', a ∈ M) {v : List V} {d : List PyData} (r : RpAll K M H v d) : RpAll K M' H v d := r.frame (fun _ _ _ e => e) fun a h => .inl (m a h)
theorem Ob.mono (m : ∀ a ∈ M', a ∈ M) {a : Addr} {b : PO} (r : Ob K M H a b) : Ob K M' H a b := r.frame (fun _ e => e) (fun _ _ _ e => e) fun a h => .inl (m a h)
theorem zip_fst {α β : Type} : ∀ {l : List α} {m : List β}, l.length = m.length → (l.zip m).map (·.1) = l
  | [], [], _ => rfl
  | a :: l, b :: m, h => by simp [zip_fst (l := l) (m := m) (by simpa using h)]
theorem zip_map {α β γ δ : Type} (f : α → γ) (g : β → δ) : ∀ (l : List α) (m : List β), (l.zip m).map (fun p => (f p.1, g p.2)) = (l.map f).zip (m.map g)
  | [], _ => rfl
  | _ :: _, [] => rfl
  | a :: l, b :: m => by simp [zip_map f g l m]
theorem zip_self {α β : Type} : ∀ (l : List (α × β)), (l.map (·.1)).zip (l.map (·.2)) = l
  | [] => rfl
  | a :: l => by simp [zip_self l]
/-- an object that is changed no more is data -/
theorem Ob.rp {a : Addr} {b : PO} (h : Ob K M H a b) (n : a ∉ M') (m : ∀ a ∈ M', a ∈ M) : Rp K M' H (.ref a) b.data := by
  cases b with
  | lst ds => obtain ⟨xs, e, r⟩ := h; exact .lst ⟨.inl e, n⟩ (r.mono m)
  | dk kds =>
    obtain ⟨kvs, e, ek, r⟩ := h
    have q : PO.data (.dk kds) = .dict (((kvs.map (·.1)).zip (kds.map (·.2))).map fun p => (keyD p.1, p.2)) := by
      rw [ek, zip_self]; rfl
    rw [q]
    exact .dk (.inl e) n (r.mono m)
  | dt kds =>
    obtain ⟨kvs, e, ek, r⟩ := h
    have q : PO.data (.dt kds) = .dict (((kvs.map (·.1)).zip (kds.map (·.2))).map fun p => (.tuple (p.1.map keyD), p.2)) := by
      rw [ek, zip_self]; rfl
    rw [q]
    exact .dt (.inl e) n (r.mono m)
  | tb p q => exact .any a
theorem Top.mono (m : ∀ a ∈ M', a ∈ M) {v : V} {d : PyData} (r : Top K M H v d) : Top K M' H v d := by
  cases r with
  | rp r => exact .rp (r.mono m)
  | ob r => exact .ob (r.mono m)
end

section
variable {K : PySem.W.Frag} {ρ ρ' ρ'' E E' E'' : List Addr} {st st' st'' : S} {σ σ' σ'' : L2.St} {H H' H'' : Hp} {p : Addr}
theorem Rel.drop (r : Rel K ρ (p :: E) st σ H) : Rel K ρ E st σ H := by
  have sub : ∀ a ∈ avd ρ E st σ, a ∈ avd ρ (p :: E) st σ := fun a h => by
    rcases List.mem_append.mp h with h | h
    · exact List.mem_append_left _ h
    · exact List.mem_append_right _ (List.mem_cons_of_mem _ h)
  refine ⟨?_, fun a h => r.dom a (sub a h), r.len, fun i sv e => ?_, r.heap.1, fun k b e => ?_⟩
  · exact r.nd.sublist (List.Sublist.append (List.Sublist.refl _) (List.sublist_cons_self _ _))
  · obtain ⟨v, e1, q⟩ := r.slot i sv e
    refine ⟨v, e1, ?_⟩
    cases sv with
    | d x => exact Rp.mono sub q
    | r k => exact q
    | o b => obtain ⟨a, e2, q⟩ := q; exact ⟨a, e2, q.mono sub⟩
  · obtain ⟨a, e1, q⟩ := r.heap.2 k b e
    exact ⟨a, e1, q.mono sub⟩
theorem Rel.fresh (r : Rel K ρ (p :: E) st σ H) : p ∉ avd ρ E st σ := fun h => by
  have nd := r.nd
  rw [show avd ρ (p :: E) st σ = chg ρ st σ ++ p :: E from rfl, List.nodup_append] at nd
  obtain ⟨_, n2, n3⟩ := nd
  rcases List.mem_append.mp h with h | h
  · exact n3 p h p List.mem_cons_self rfl
  · exact (List.nodup_cons.mp n2).1 h
theorem Post.drop (q : Post K ρ E st σ H ρ' (p :: E') st' σ' H') : Post K ρ E st σ H ρ' E' st' σ' H' := ⟨q.rel.drop, q.pre, q.fr, q.mu⟩
end

/-! ### readings -/
/-- an exception, as it lies -/
def XR (K : PySem.W.Frag) (mg : Str → Option Value) (M : List Addr) (H : Hp) (x : Ex) (cls : Value) (d : Option Addr) : Prop :=
  ∃ C, mg x.c = some (.ref C) ∧ cls = .ref C ∧ ((x.fs = [] ∧ d = none) ∨ ∃ dd vs, d = some dd ∧ H dd = some (.xd ((x.fs.map (·.1)).zip vs)) ∧ dd ∉ M ∧ RpAll K M H vs (x.fs.map (·.2)))
/-- how what is given stands for what is had: the start, the end -/
abbrev Rep (α β : Type) := List Addr → List Addr → S → L2.St → Hp → List Addr → List Addr → S → L2.St → Hp → α → β → Prop
section
variable (K : PySem.W.Frag) (mg : Str → Option Value) (W : WX)
/-- what is wanted of an end -/
def Go {α β : Type} (rep : Rep α β) (Q : β → Hp → Prop) (ρ E : List Addr) (st : S) (σ : L2.St) (H : Hp) (r : Res α) : Prop := match r with
  | .ok a st' => ∀ b ρ' E' H', Post K ρ E st σ H ρ' E' st' σ H' → rep ρ E st σ H ρ' E' st' σ H' a b → Q b H'
  | .ex x st' => ∀ cls d ρ' E' H', E.Sublist E' → Post K ρ E st σ H ρ' E' st' σ H' → XR K mg (avd ρ' E' st' σ) H' x cls d → W cls d σ H'
  | .no => False
def tzG {α β : Type} (rep : Rep α β) (f : S → Res α) : L2.St → Hp → (β → Hp → Prop) → Prop := fun σ H Q => ∃ ρ E st, Rel K ρ E st σ H ∧ Go K mg W rep Q ρ E st σ H (f st)
def rD : Rep PyData V := fun ρ E st σ H ρ' E' st' σ' H' x v => E' = E ∧ Rp K (avd ρ' E' st' σ') H' v x
def rR : Rep Nat V := fun ρ E st σ H ρ' E' st' σ' H' k v => E' = E ∧ ∃ a, ρ'[k]? = some a ∧ v = .ref a
def rO : Rep PO V := fun ρ E st σ H ρ' E' st' σ' H' b v => ∃ p, v = .ref p ∧ E' = p :: E ∧ (p ∈ chg ρ st σ ∨ H p = none) ∧ Ob K (avd ρ' E' st' σ') H' p b
def rE : Rep SV V := fun ρ E st σ H ρ' E' st' σ' H' sv v => match sv with
  | .d x => rD K ρ E st σ H ρ' E' st' σ' H' x v
  | .r k => rR ρ E st σ H ρ' E' st' σ' H' k v
  | .o b => rO K ρ E st σ H ρ' E' st' σ' H' b v
def rPl : Rep Pl V := fun ρ E st σ H ρ' E' st' σ' H' pl v => match pl with
  | .v x => rD K ρ E st σ H ρ' E' st' σ' H' x v
  | .sl i => E' = E ∧ σ'[i]? = some (some v)
  | .hp k => rR ρ E st σ H ρ' E' st' σ' H' k v
  | .tm b => rO K ρ E st σ H ρ' E' st' σ' H' b v
def rB : Rep Bool Bool := fun ρ E st σ H ρ' E' st' σ' H' a b => E' = E ∧ b = a
def rL : Rep (List PyData) (List V) := fun ρ E st σ H ρ' E' st' σ' H' xs vs => E' = E ∧ RpAll K (avd ρ' E' st' σ') H' vs xs
/-- arguments: data and references -/
inductive Ags (M : List Addr) (H : Hp) (ρ : List Addr) : List SV → List V → Prop
  | nil : Ags M H ρ [] []
  | d {x : PyData} {v : V} {ss : List SV} {vs : List V} : Rp K M H v x → Ags M H ρ ss vs → Ags M H ρ (.d x :: ss) (v :: vs)
  | r {k : Nat} {a : Addr} {ss : List SV} {vs : List V} : ρ[k]? = some a → Ags M H ρ ss vs → Ags M H ρ (.r k :: ss) (.ref a :: vs)
def rAg : Rep (List SV) (List V) := fun ρ E st σ H ρ' E' st' σ' H' xs vs => E' = E ∧ Ags K (avd ρ' E' st' σ') H' ρ' xs vs
/-- places that are read together -/
inductive PlAll (R : Pl → V → Prop) : List Pl → List V → Prop
  | nil : PlAll R [] []
  | cons {pl : Pl} {v : V} {pls : List Pl} {vs : List V} : R pl v → PlAll R pls vs → PlAll R (pl :: pls) (v :: vs)

abbrev tzE : SE → TE := tzG K mg W (rE K)
abbrev tzP : SPl → TE := tzG K mg W (rPl K)
abbrev tzB : (S → Res Bool) → TT := tzG K mg W rB
abbrev tzL : (S → Res (List PyData)) → TA := tzG K mg W (rL K)
abbrev tzA : (S → Res (List SV)) → TA := tzG K mg W (rAg K)
/-- a statement -/
def tzS (f : SS) : TS := fun D σ H => ∃ ρ E st, Rel K ρ E st σ H ∧ match f st with
    | .nx st' => ∀ ρ' σ' H', Post K ρ E st σ H ρ' E st' σ' H' → D.nx σ' H'
    | .bk st' => ∀ ρ' σ' H', Post K ρ E st σ H ρ' E st' σ' H' → D.bk σ' H'
    | .ct st' => ∀ ρ' σ' H', Post K ρ E st σ H ρ' E st' σ' H' → D.ct σ' H'
    | .rt sv st' => ∀ v ρ' E' σ' H', Post K ρ E st σ H ρ' E' st' σ' H' → rE K ρ E st σ H ρ' E' st' σ' H' sv v → D.rt v H'
    | .ex x st' => ∀ cls d ρ' E' σ' H', E.Sublist E' → Post K ρ E st σ H ρ' E' st' σ' H' → XR K mg (avd ρ' E' st' σ') H' x cls d → W cls d σ' H'
    | .no => False
end
/-- an expression; a place; a test; items; arguments; statements -/
def ZE (X : Cx) (W : WX) (e : Expr) (f : SE) : Prop := PE X e (tzE X.K X.mg W f)
def ZP (X : Cx) (W : WX) (e : Expr) (f : SPl) : Prop := PE X e (tzP X.K X.mg W f)
def ZT (X : Cx) (W : WX) (e : Expr) (f : S → Res Bool) : Prop := PT X e (tzB X.K X.mg W f)
def ZW (X : Cx) (W : WX) (e : Expr) (f : S → Res Bool) : Prop := PW X e (tzB X.K X.mg W f)
def ZL (X : Cx) (W : WX) (es : List Expr) (f : S → Res (List PyData)) : Prop := PA X es (tzL X.K X.mg W f)
def ZA (X : Cx) (W : WX) (es : List Expr) (f : S → Res (List SV)) : Prop := PA X es (tzA X.K X.mg W f)
def ZS (X : Cx) (W : WX) (st : Stmt) (f : SS) : Prop := PS X st (tzS X.K X.mg W f)
def ZSs (X : Cx) (W : WX) (st : List Stmt) (f : SS) : Prop := PSs X st (tzS X.K X.mg W f)

/-! ### how Res goes on -/
def Res.bind {α β : Type} (r : Res α) (g : α → S → Res β) : Res β := match r with
  | .ok a s => g a s
  | .ex x s => .ex x s
  | .no => .no
@[simp] theorem Res.bind_ok {α β : Type} (a : α) (s : S) (g : α → S → Res β) : (Res.ok a s).bind g = g a s := rfl
@[simp] theorem Res.bind_ex {α β : Type} (x : Ex) (s : S) (g : α → S → Res β) : (Res.ex x s : Res α).bind g = .ex x s := rfl
@[simp] theorem Res.bind_no {α β : Type} (g : α → S → Res β) : (Res.no : Res α).bind g = .no := rfl
def Res.flow {α : Type} (r : Res α) (g : α → S → Fl) : Fl := match r with
  | .ok a s => g a s
  | .ex x s => .ex x s
  | .no => .no
@[simp] theorem Res.flow_ok {α : Type} (a : α) (s : S) (g : α → S → Fl) : (Res.ok a s).flow g = g a s := rfl
@[simp] theorem Res.flow_ex {α : Type} (x : Ex) (s : S) (g : α → S → Fl) : (Res.ex x s : Res α).flow g = .ex x s := rfl
@[simp] theorem Res.flow_no {α : Type} (g : α → S → Fl) : (Res.no : Res α).flow g = .no := rfl
/-- a value that stays -/
def retn {α : Type} (o : Option α) (s : S) : Res α := match o with
  | some a => .ok a s
  | none => .no
@[simp] theorem retn_some {α : Type} (a : α) (s : S) : retn (some a) s = .ok a s := rfl
@[simp] theorem retn_none {α : Type} (s : S) : retn (none : Option α) s = .no := rfl

section
variable {K : PySem.W.Frag} {mg : Str → Option Value} {W : WX} {ρ ρ' ρ'' E E' E'' : List Addr} {st st' st'' : S} {σ σ' σ'' : L2.St} {H H' H'' : Hp}
theorem Rel.sub (r : Rel K ρ E' st σ H) (s : E.Sublist E') : Rel K ρ E st σ H := by
  have sub : ∀ a ∈ avd ρ E st σ, a ∈ avd ρ E' st σ := fun a h => by
    rcases List.mem_append.mp h with h | h
    · exact List.mem_append_left _ h
    · exact List.mem_append_right _ (s.subset h)
  refine ⟨r.nd.sublist (List.Sublist.append (List.Sublist.refl _) s), fun a h => r.dom a (sub a h), r.len, fun i sv e => ?_, r.heap.1, fun k b e => ?_⟩
  · obtain ⟨v, e1, q⟩ := r.slot i sv e
    refine ⟨v, e1, ?_⟩
    cases sv with
    | d x => exact Rp.mono sub q
    | r k => exact q
    | o b => obtain ⟨a, e2, q⟩ := q; exact ⟨a, e2, q.mono sub⟩
  · obtain ⟨a, e1, q⟩ := r.heap.2 k b e
    exact ⟨a, e1, q.mono sub⟩
theorem avd_sub (s : E.Sublist E') : ∀ a ∈ avd ρ E st σ, a ∈ avd ρ E' st σ := fun a h => by
  rcases List.mem_append.mp h with h | h
  · exact List.mem_append_left _ h
  · exact List.mem_append_right _ (s.subset h)
theorem Post.sub (q : Post K ρ E st σ H ρ' E' st' σ' H') (s : E''.Sublist E') : Post K ρ E st σ H ρ' E'' st' σ' H' := ⟨q.rel.sub s, q.pre, q.fr, q.mu⟩
/-- where the tracked things of E' come from -/
def Come (ρ E : List Addr) (st : S) (σ : L2.St) (H : Hp) (E' : List Addr) : Prop := E.Sublist E' ∧ ∀ a ∈ E', a ∈ avd ρ E st σ ∨ H a = none
theorem Come.refl : Come ρ E st σ H E := ⟨.refl _, fun a h => .inl (List.mem_append_right _ h)⟩
theorem Come.trans (a : Come ρ E st σ H E') (p : Post K ρ E st σ H ρ' E' st' σ' H') (b : Come ρ' E' st' σ' H' E'') : Come ρ E st σ H E'' :=
  ⟨a.1.trans b.1, fun x h => by
    rcases b.2 x h with q | q
    · exact (p.avm a.2 x q)
    · by_cases hm : x ∈ avd ρ E st σ
      · exact .inl hm
      · refine .inr ?_
        cases e : H x with
        | none => rfl
        | some o => rw [p.avf x o hm e] at q; cases q⟩
theorem rO.come {b : PO} {v : V} (r : rO K ρ E st σ H ρ' E' st' σ' H' b v) : Come ρ E st σ H E' := by
  obtain ⟨p, _, e, hp, _⟩ := r
  subst e
  refine ⟨List.sublist_cons_self _ _, fun a h => ?_⟩
  rcases List.mem_cons.mp h with rfl | h
  · rcases hp with hp | hp
    · exact .inl (chg_sub hp)
    · exact .inr hp
  · exact .inl (List.mem_append_right _ h)
theorem come_of (e : E' = E) : Come ρ E st σ H E' := by subst e; exact Come.refl
theorem rE.come {sv : SV} {v : V} (r : rE K ρ E st σ H ρ' E' st' σ' H' sv v) : Come ρ E st σ H E' := by
  cases sv with
  | d x => exact come_of r.1
  | r k => exact come_of r.1
  | o b => exact rO.come r
theorem rPl.come {sv : Pl} {v : V} (r : rPl K ρ E st σ H ρ' E' st' σ' H' sv v) : Come ρ E st σ H E' := by
  cases sv with
  | v x => exact come_of r.1
  | sl i => exact come_of r.1
  | hp k => exact come_of r.1
  | tm b => exact rO.come r
/-- .. what is given, by an elder start -/
theorem rE.elder (p : Post K ρ E st σ H ρ' E' st' σ' H') (c : Come ρ E st σ H E') {σ'' : L2.St} {sv : SV} {v : V} (q : Post K ρ' E' st' σ' H' ρ'' E'' st'' σ'' H'') (r : rE K ρ' E' st' σ' H' ρ'' E'' st'' σ'' H'' sv v) :
    ∃ F, F.Sublist E'' ∧ rE K ρ E st σ H ρ'' F st'' σ'' H'' sv v := by
  cases sv with
  | d x => exact ⟨E, c.1.trans (rE.come r).1, rfl, Rp.mono (avd_sub (c.1.trans (rE.come r).1)) r.2⟩
  | r k => exact ⟨E, c.1.trans (rE.come r).1, rfl, r.2⟩
  | o b =>
    obtain ⟨x, e1, e2, hx, ob⟩ := r
    subst e2
    refine ⟨x :: E, List.Sublist.cons_cons _ c.1, x, e1, rfl, ?_, ob.mono (avd_sub (List.Sublist.cons_cons _ c.1))⟩
    rcases hx with hx | hx
    · exact p.mu x hx
    · by_cases hm : x ∈ chg ρ st σ
      · exact .inl hm
      · refine .inr ?_
        cases e : H x with
        | none => rfl
        | some o => rw [p.fr x o hm e] at hx; cases hx
/-- reading a place -/
theorem rPl.top {pl : Pl} {v : V} {d : PyData} (r : rPl K ρ E st σ H ρ' E' st' σ' H' pl v) (R : Rel K ρ' E' st' σ' H') (e : ld st' pl = some d) : Top K (avd ρ' E' st' σ') H' v d := by
  cases pl with
  | v x => cases e; exact .rp r.2
  | sl i =>
    simp only [ld] at e
    cases q : st'.s[i]? with
    | none => rw [q] at e; simp at e
    | some y =>
      rw [q] at e
      cases y with
      | none => simp at e
      | some sv =>
        cases sv with
        | d x => simp at e
        | r k => simp at e
        | o b =>
          simp at e
          subst e
          obtain ⟨w, ew, a, ea, ob⟩ := R.slot i _ q
          have h2 := r.2
          rw [ew] at h2
          cases h2
          subst ea
          exact .ob ob
  | hp k =>
    simp only [ld] at e
    cases q : st'.h[k]? with
    | none => rw [q] at e; simp at e
    | some b =>
      rw [q] at e
      simp at e
      subst e
      obtain ⟨a, ea, ob⟩ := R.heap.2 k b q
      obtain ⟨_, a', e1, e2⟩ := r
      rw [ea] at e1; cases e1
      subst e2
      exact .ob ob
  | tm b =>
    simp only [ld] at e
    simp at e
    subst e
    obtain ⟨p, e1, _, _, ob⟩ := r
    subst e1
    exact .ob ob
/-- a place, behind a step that leaves the slots' values -/
theorem rPl.later {pl : Pl} {v : V} (r : rPl K ρ E st σ H ρ' E' st' σ H' pl v) (R : Rel K ρ' E' st' σ H') (p : Post K ρ' E' st' σ H' ρ'' E'' st'' σ H'') (c : Come ρ' E' st' σ H' E'') {d : PyData} (e : ld st'' pl = some d) : Top K (avd ρ'' E'' st'' σ) H'' v d := by
  cases pl with
  | v x => cases e; exact .rp (p.rp c.2 r.2)
  | sl i => exact rPl.top (pl := .sl i) (ρ := ρ'') (E := E'') (st := st'') (σ := σ) (H := H'') ⟨rfl, r.2⟩ p.rel e
  | hp k =>
    obtain ⟨_, a', e1, e2⟩ := r
    exact rPl.top (pl := .hp k) (ρ := ρ'') (E := E'') (st := st'') (σ := σ) (H := H'') ⟨rfl, a', p.dt e1, e2⟩ p.rel e
  | tm b =>
    simp only [ld] at e
    simp at e
    subst e
    obtain ⟨q, e1, e2, _, ob⟩ := r
    subst e1
    have hq : q ∈ E' := by rw [e2]; exact List.mem_cons_self
    exact .ob (ob.frame (fun o eo => p.tmp R hq eo) p.avf (p.avm c.2))
end
end Z

set_option maxRecDepth 100000
set_option maxHeartbeats 4000000
namespace Z
open PySem PySem.Spec PyProof.Rows L2

/-! ### slots -/
def own1 : Option SV → Option V → List Addr
  | some (.o _), some (.ref a) => [a]
  | _, _ => []
theorem owns_cons (y : Option SV) (w : Option V) (s : List (Option SV)) (σ : L2.St) : owns (y :: s) (w :: σ) = own1 y w ++ owns s σ := by
  cases y with
  | none => cases w <;> rfl
  | some sv =>
    cases sv with
    | d x => cases w <;> rfl
    | r k => cases w <;> rfl
    | o b =>
      cases w with
      | none => rfl
      | some v => cases v <;> rfl
theorem owns_split : ∀ (s : List (Option SV)) (σ : L2.St) (i : Nat), s.length = σ.length → i < s.length → ∃ l1 l2, ∀ y w, owns (s.set i y) (σ.set i w) = l1 ++ own1 y w ++ l2
  | [], _, _, _, hi => absurd hi (Nat.not_lt_zero _)
  | y0 :: s, [], _, hl, _ => by simp at hl
  | y0 :: s, w0 :: σ, 0, hl, hi => ⟨[], owns s σ, fun y w => by simp [owns_cons]⟩
  | y0 :: s, w0 :: σ, i + 1, hl, hi => by
    obtain ⟨l1, l2, h⟩ := owns_split s σ i (by simpa using hl) (by simpa using hi)
    refine ⟨own1 y0 w0 ++ l1, l2, fun y w => ?_⟩
    rw [List.set_cons_succ, List.set_cons_succ, owns_cons, h]
    simp
theorem owns_at {s : List (Option SV)} {σ : L2.St} {i : Nat} {y : Option SV} {w : Option V} (hl : s.length = σ.length) (hs : s[i]? = some y) (hw : σ[i]? = some w) :
    ∃ l1 l2, owns s σ = l1 ++ own1 y w ++ l2 ∧ (∀ y', owns (s.set i y') σ = l1 ++ own1 y' w ++ l2) ∧ ∀ y' w', owns (s.set i y') (σ.set i w') = l1 ++ own1 y' w' ++ l2 := by
  have hi : i < s.length := (List.getElem?_eq_some_iff.mp hs).1
  obtain ⟨l1, l2, h⟩ := owns_split s σ i hl hi
  have e1 : σ.set i w = σ := by
    obtain ⟨h1, h2⟩ := List.getElem?_eq_some_iff.mp hw
    subst h2
    exact List.set_getElem_self h1
  have e2 : s.set i y = s := by
    obtain ⟨h1, h2⟩ := List.getElem?_eq_some_iff.mp hs
    subst h2
    exact List.set_getElem_self h1
  refine ⟨l1, l2, ?_, fun y' => ?_, h⟩
  · have := h y w
    rw [e1, e2] at this
    exact this
  · have := h y' w
    rw [e1] at this
    exact this
theorem own_mem {s : List (Option SV)} {σ : L2.St} {i : Nat} {b : PO} {a : Addr} (hl : s.length = σ.length) (hs : s[i]? = some (some (.o b))) (hw : σ[i]? = some (some (.ref a))) : a ∈ owns s σ := by
  obtain ⟨l1, l2, h, _⟩ := owns_at hl hs hw
  rw [h]
  simp [own1]

/-! ### what is given without a step of the state -/
section
variable {X : Cx} {W : WX} {K : PySem.W.Frag} {mg : Str → Option Value} {ρ ρ' E E' : List Addr} {st st' : S} {σ : L2.St} {H H' : Hp}
def eC (x : PyData) : SE := fun s => .ok (.d x) s
theorem ze_of {e : Expr} {v : V} {x : PyData} (h : PE X e (tC v)) (r : ∀ M H, Rp X.K M H v x) : ZE X W e (eC x) := by
  refine PE.mono h fun σ H Q ⟨ρ, E, st, R, q⟩ => ?_
  exact q v ρ E H (.refl R) ⟨rfl, r _ _⟩
theorem ze_int {i j pos} : ZE X W (.Constant (.int i) j pos) (eC (.int i)) := ze_of pe_int fun _ _ => .int _
theorem ze_bl {i j pos} : ZE X W (.Constant (.bool i) j pos) (eC (.bool i)) := ze_of pe_bl fun _ _ => .bl _
theorem ze_non {j pos} : ZE X W (.Constant .none j pos) (eC .none) := ze_of pe_non fun _ _ => .non
theorem ze_str {x j pos} : ZE X W (.Constant (.str x) j pos) (eC (.str x)) := ze_of pe_str fun _ _ => .str _
/-- a name whose value is kept: an own object of the frame is changed no more from here on -/
def eV (i : Nat) : SE := fun s => match s.s[i]? with
  | some (some (.o b)) => .ok (.d b.data) { s with s := s.s.set i (some (.d b.data)) }
  | some (some v) => .ok v s
  | _ => .no
/-- a name whose value is handed on, and then forgotten -/
def eM (i : Nat) : SE := fun s => match s.s[i]? with
  | some (some (.o b)) => .ok (.o b) { s with s := s.s.set i none }
  | some (some v) => .ok v s
  | _ => .no
/-- a name that is read -/
def pV (i : Nat) : SPl := fun s => match s.s[i]? with
  | some (some (.d x)) => .ok (.v x) s
  | some (some (.r k)) => .ok (.hp k) s
  | some (some (.o b)) => .ok (.sl i) s
  | _ => .no
def SV.pl : SV → Pl
  | .d x => .v x
  | .r k => .hp k
  | .o b => .tm b
def pE (f : SE) : SPl := fun s => (f s).bind fun sv s => .ok sv.pl s
/-- an own object leaves the slot i -/
theorem Rel.leave (R : Rel K ρ E st σ H) {i : Nat} {b : PO} {a : Addr} (hs : st.s[i]? = some (some (.o b))) (hw : σ[i]? = some (some (.ref a))) (y : Option SV) (hy : ∀ b, y ≠ some (.o b)) (hv : ∀ x, y = some (.d x) → x = b.data) (hr : ∀ k, y ≠ some (.r k)) :
    Rel K ρ (if y = none then a :: E else E) { st with s := st.s.set i y } σ H ∧ a ∉ avd ρ E { st with s := st.s.set i y } σ ∧ ∀ x ∈ chg ρ { st with s := st.s.set i y } σ, x ∈ chg ρ st σ := by
  obtain ⟨l1, l2, e0, e1, _⟩ := owns_at R.len hs hw
  have e2 : owns (st.s.set i y) σ = l1 ++ l2 := by
    rw [e1]
    cases y with
    | none => simp [own1]
    | some sv =>
      cases sv with
      | d x => simp [own1]
      | r k => simp [own1]
      | o b => exact absurd rfl (hy b)
  have e0' : owns st.s σ = l1 ++ a :: l2 := by rw [e0]; simp [own1]
  have nd := R.nd
  have ndA : (a :: avd ρ E { st with s := st.s.set i y } σ).Nodup := by
    have : (avd ρ E st σ).Perm (a :: avd ρ E { st with s := st.s.set i y } σ) := by
      show (ρ ++ owns st.s σ ++ E).Perm (a :: (ρ ++ owns (st.s.set i y) σ ++ E))
      rw [e0', e2]
      have q : (ρ ++ (l1 ++ a :: l2) ++ E).Perm (a :: (ρ ++ (l1 ++ l2) ++ E)) := by
        have : ρ ++ (l1 ++ a :: l2) ++ E = (ρ ++ l1) ++ a :: (l2 ++ E) := by simp
        rw [this]
        have : ρ ++ (l1 ++ l2) ++ E = (ρ ++ l1) ++ (l2 ++ E) := by simp
        rw [this]
        exact List.perm_middle
      exact q
    exact this.nodup_iff.mp nd
  have sub : ∀ x ∈ avd ρ E { st with s := st.s.set i y } σ, x ∈ avd ρ E st σ := fun x h => by
    show x ∈ ρ ++ owns st.s σ ++ E
    have h : x ∈ ρ ++ owns (st.s.set i y) σ ++ E := h
    rw [e0']; rw [e2] at h
    simp only [List.mem_append, List.mem_cons] at h ⊢
    rcases h with (h | h | h) | h
    · exact .inl (.inl h)
    · exact .inl (.inr (.inl h))
    · exact .inl (.inr (.inr (.inr h)))
    · exact .inr h
  have hi : i < st.s.length := (List.getElem?_eq_some_iff.mp hs).1
  obtain ⟨va, eva, a', ea', obA⟩ := R.slot i _ hs
  rw [hw] at eva; cases eva; cases ea'
  have core : ∀ E'' : List Addr, (E'' = E ∨ E'' = a :: E) → (avd ρ E'' { st with s := st.s.set i y } σ).Nodup → (∀ x ∈ avd ρ E'' { st with s := st.s.set i y } σ, x ∈ avd ρ E st σ) →
      (∀ x, y = some (.d x) → a ∉ avd ρ E'' { st with s := st.s.set i y } σ) → Rel K ρ E'' { st with s := st.s.set i y } σ H := fun E'' hE nd'' sub'' hd => by
    refine ⟨nd'', fun x h => R.dom x (sub'' x h), by simpa using R.len, fun j sv e => ?_, R.heap.1, fun k b e => ?_⟩
    · by_cases hj : j = i
      · subst hj
        have e : (st.s.set j y)[j]? = some (some sv) := e
        rw [List.getElem?_set_self hi] at e
        cases e
        refine ⟨_, hw, ?_⟩
        cases sv with
        | d x =>
          have := hv x rfl
          subst this
          exact obA.rp (hd _ rfl) sub''
        | r k => exact absurd rfl (hr k)
        | o b => exact absurd rfl (hy b)
      · have e : (st.s.set i y)[j]? = some (some sv) := e
        rw [List.getElem?_set_ne (Ne.symm hj)] at e
        obtain ⟨v, e3, q⟩ := R.slot j sv e
        refine ⟨v, e3, ?_⟩
        cases sv with
        | d x => exact Rp.mono sub'' q
        | r k => exact q
        | o b => obtain ⟨c, e4, q⟩ := q; exact ⟨c, e4, q.mono sub''⟩
    · obtain ⟨c, e3, q⟩ := R.heap.2 k b e
      exact ⟨c, e3, q.mono sub''⟩
  refine ⟨?_, (List.nodup_cons.mp ndA).1, fun x h => ?_⟩
  · split
    · rename_i hyn
      refine core (a :: E) (.inr rfl) ?_ ?_ ?_
      · have : (avd ρ (a :: E) { st with s := st.s.set i y } σ).Perm (a :: avd ρ E { st with s := st.s.set i y } σ) := List.perm_middle
        exact this.nodup_iff.mpr ndA
      · intro x h
        have h : x ∈ chg ρ { st with s := st.s.set i y } σ ++ a :: E := h
        rcases List.mem_append.mp h with h | h
        · exact sub x (List.mem_append_left _ h)
        · rcases List.mem_cons.mp h with rfl | h
          · exact chg_sub (List.mem_append_right _ (by rw [e0']; simp))
          · exact sub x (List.mem_append_right _ h)
      · intro x hx; rw [hyn] at hx; cases hx
    · exact core E (.inl rfl) (List.nodup_cons.mp ndA).2 sub fun _ _ => (List.nodup_cons.mp ndA).1
  · have h : x ∈ ρ ++ owns (st.s.set i y) σ := h
    show x ∈ ρ ++ owns st.s σ
    rw [e0']; rw [e2] at h
    simp only [List.mem_append, List.mem_cons] at h ⊢
    rcases h with h | h | h
    · exact .inl h
    · exact .inr (.inl h)
    · exact .inr (.inr (.inr h))
theorem ze_v {i : Nat} {e : Expr} (h : PE X e (tVar i)) : ZE X W e (eV i) := by
  refine PE.mono h fun σ H Q ⟨ρ, E, st, R, q⟩ => ?_
  unfold eV at q
  cases e : st.s[i]? with
  | none => rw [e] at q; exact q.elim
  | some y =>
    rw [e] at q
    cases y with
    | none => exact q.elim
    | some sv =>
      obtain ⟨v, ev, r⟩ := R.slot i sv e
      refine ⟨v, ev, ?_⟩
      cases sv with
      | d x => exact q v ρ E H (.refl R) ⟨rfl, r⟩
      | r k => exact q v ρ E H (.refl R) ⟨rfl, r⟩
      | o b =>
        obtain ⟨a, rfl, ob⟩ := r
        obtain ⟨R1, na, sub⟩ := R.leave e ev (some (.d b.data)) (fun _ z => by cases z) (fun x z => by cases z; rfl) (fun _ z => by cases z)
        rw [if_neg (by simp)] at R1
        refine q (.ref a) ρ E H ⟨R1, List.prefix_refl _, fun _ _ _ e => e, fun x hx => .inl (sub x hx)⟩ ⟨rfl, ?_⟩
        refine ob.rp na fun x hx => ?_
        rcases List.mem_append.mp hx with hx | hx
        · exact chg_sub (sub x hx)
        · exact List.mem_append_right _ hx
theorem ze_m {i : Nat} {e : Expr} (h : PE X e (tVar i)) : ZE X W e (eM i) := by
  refine PE.mono h fun σ H Q ⟨ρ, E, st, R, q⟩ => ?_
  unfold eM at q
  cases e : st.s[i]? with
  | none => rw [e] at q; exact q.elim
  | some y =>
    rw [e] at q
    cases y with
    | none => exact q.elim
    | some sv =>
      obtain ⟨v, ev, r⟩ := R.slot i sv e
      refine ⟨v, ev, ?_⟩
      cases sv with
      | d x => exact q v ρ E H (.refl R) ⟨rfl, r⟩
      | r k => exact q v ρ E H (.refl R) ⟨rfl, r⟩
      | o b =>
        obtain ⟨a, rfl, ob⟩ := r
        obtain ⟨R1, na, sub⟩ := R.leave e ev none (fun _ z => by cases z) (fun x z => by cases z) (fun _ z => by cases z)
        rw [if_pos rfl] at R1
        have ha : a ∈ chg ρ st σ := List.mem_append_right _ (own_mem R.len e ev)
        refine q (.ref a) ρ (a :: E) H ⟨R1, List.prefix_refl _, fun _ _ _ e => e, fun x hx => .inl (sub x hx)⟩ ⟨a, rfl, rfl, .inl ha, ?_⟩
        refine ob.mono fun x hx => ?_
        have hx : x ∈ chg ρ { st with s := st.s.set i none } σ ++ a :: E := hx
        rcases List.mem_append.mp hx with hx | hx
        · exact chg_sub (sub x hx)
        · rcases List.mem_cons.mp hx with rfl | hx
          · exact chg_sub ha
          · exact List.mem_append_right _ hx
theorem zp_v {i : Nat} {e : Expr} (h : PE X e (tVar i)) : ZP X W e (pV i) := by
  refine PE.mono h fun σ H Q ⟨ρ, E, st, R, q⟩ => ?_
  unfold pV at q
  cases e : st.s[i]? with
  | none => rw [e] at q; exact q.elim
  | some y =>
    rw [e] at q
    cases y with
    | none => exact q.elim
    | some sv =>
      obtain ⟨v, ev, r⟩ := R.slot i sv e
      refine ⟨v, ev, ?_⟩
      cases sv with
      | d x => exact q v ρ E H (.refl R) ⟨rfl, r⟩
      | r k => exact q v ρ E H (.refl R) ⟨rfl, r⟩
      | o b => exact q v ρ E H (.refl R) ⟨rfl, ev⟩
theorem zp_e {e : Expr} {f : SE} (h : ZE X W e f) : ZP X W e (pE f) := by
  refine PE.mono h fun σ H Q ⟨ρ, E, st, R, q⟩ => ⟨ρ, E, st, R, ?_⟩
  unfold pE at q
  cases e : f st with
  | no => rw [e] at q; exact q
  | ex x s => rw [e] at q; exact q
  | ok sv s =>
    rw [e] at q
    intro v ρ' E' H' P r
    refine q v ρ' E' H' P ?_
    cases sv with
    | d x => exact r
    | r k => exact r
    | o b => exact r
end

/-! ### what is new -/
/-- a value given by a built-in thing: the heap grows -/
def New (K : PySem.W.Frag) (M : List Addr) (H H' : Hp) (sv : SV) (z : V) : Prop := (∀ a o, H a = some o → H' a = some o) ∧ match sv with
  | .d d => Rp K M H' z d
  | .o b => ∃ p, z = .ref p ∧ H p = none ∧ Ob K (p :: M) H' p b
  | .r _ => False
section
variable {K : PySem.W.Frag} {mg : Str → Option Value} {W : WX} {ρ ρ' E E' : List Addr} {st st' : S} {σ : L2.St} {H H' : Hp}
theorem Rel.grow (R : Rel K ρ E st σ H) (g : ∀ a o, H a = some o → H' a = some o) : Rel K ρ E st σ H' := by
  refine ⟨R.nd, fun a h => ?_, R.len, fun i sv e => ?_, R.heap.1, fun k b e => ?_⟩
  · obtain ⟨o, e, m⟩ := R.dom a h; exact ⟨o, g _ _ e, m⟩
  · obtain ⟨v, ev, r⟩ := R.slot i sv e
    refine ⟨v, ev, ?_⟩
    cases sv with
    | d x => exact Rp.frame (fun a o _ e => g a o e) (fun a h => .inl h) r
    | r k => exact r
    | o b => obtain ⟨a, ea, ob⟩ := r; exact ⟨a, ea, ob.frame (fun o e => g _ _ e) (fun a o _ e => g a o e) (fun a h => .inl h)⟩
  · obtain ⟨a, ea, ob⟩ := R.heap.2 k b e
    exact ⟨a, ea, ob.frame (fun o e => g _ _ e) (fun a o _ e => g a o e) (fun a h => .inl h)⟩
theorem Rel.more (R : Rel K ρ E st σ H) {p : Addr} (hp : H p = none) (g : ∀ a o, H a = some o → H' a = some o) (hp' : ∃ o, H' p = some o ∧ MutZ o) : Rel K ρ (p :: E) st σ H' := by
  have np : p ∉ avd ρ E st σ := fun h => by obtain ⟨o, e, _⟩ := R.dom p h; rw [hp] at e; cases e
  have perm : (avd ρ (p :: E) st σ).Perm (p :: avd ρ E st σ) := List.perm_middle
  have m : ∀ a ∈ avd ρ (p :: E) st σ, a ∈ avd ρ E st σ ∨ H a = none := fun a h => by
    rcases List.mem_cons.mp (perm.mem_iff.mp h) with rfl | h
    · exact .inr hp
    · exact .inl h
  refine ⟨perm.nodup_iff.mpr (List.nodup_cons.mpr ⟨np, R.nd⟩), fun a h => ?_, R.len, fun i sv e => ?_, R.heap.1, fun k b e => ?_⟩
  · rcases List.mem_cons.mp (perm.mem_iff.mp h) with rfl | h
    · exact hp'
    · obtain ⟨o, e, m⟩ := R.dom a h; exact ⟨o, g _ _ e, m⟩
  · obtain ⟨v, ev, r⟩ := R.slot i sv e
    refine ⟨v, ev, ?_⟩
    cases sv with
    | d x => exact Rp.frame (fun a o _ e => g a o e) m r
    | r k => exact r
    | o b => obtain ⟨a, ea, ob⟩ := r; exact ⟨a, ea, ob.frame (fun o e => g _ _ e) (fun a o _ e => g a o e) m⟩
  · obtain ⟨a, ea, ob⟩ := R.heap.2 k b e
    exact ⟨a, ea, ob.frame (fun o e => g _ _ e) (fun a o _ e => g a o e) m⟩
theorem New.post (R : Rel K ρ E st σ H) {sv : SV} {z : V} (n : New K (avd ρ E st σ) H H' sv z) : ∃ E', Post K ρ E st σ H ρ E' st σ H' ∧ rE K ρ E st σ H ρ E' st σ H' sv z := by
  obtain ⟨g, n⟩ := n
  cases sv with
  | d x => exact ⟨E, ⟨R.grow g, List.prefix_refl _, fun a o _ e => g a o e, fun a h => .inl h⟩, rfl, n⟩
  | r k => exact n.elim
  | o b =>
    obtain ⟨p, rfl, hp, ob⟩ := n
    refine ⟨p :: E, ⟨R.more hp g ob.some, List.prefix_refl _, fun a o _ e => g a o e, fun a h => .inl h⟩, p, rfl, rfl, .inr hp, ob.mono fun a h => ?_⟩
    have perm : (avd ρ (p :: E) st σ).Perm (p :: avd ρ E st σ) := List.perm_middle
    exact perm.mem_iff.mp h
/-- the end of an operation: its value is new, behind what went ahead -/
theorem Go.new {Q : V → Hp → Prop} {ρ0 E0 : List Addr} {st0 : S} {H0 : Hp} {sv : SV} (h : Go K mg W (rE K) Q ρ0 E0 st0 σ H0 (.ok sv st)) (P : Post K ρ0 E0 st0 σ H0 ρ E st σ H) (c : Come ρ0 E0 st0 σ H0 E) {z : V} (n : New K (avd ρ E st σ) H H' sv z) : Q z H' := by
  obtain ⟨E', P', r⟩ := n.post P.rel
  obtain ⟨F, s, r'⟩ := rE.elder P c P' r
  exact h z ρ F H' ((P.trans P').sub s) r'
end
end Z

set_option maxRecDepth 100000
set_option maxHeartbeats 4000000
namespace Z
open PySem PySem.Spec PyProof.Rows L2

/-! ### operations by data -/
abbrev Dom (M : List Addr) (H : Hp) : Prop := ∀ a ∈ M, ∃ o, H a = some o ∧ MutZ o
inductive TopAll (K : PySem.W.Frag) (M : List Addr) (H : Hp) : List V → List PyData → Prop
  | nil : TopAll K M H [] []
  | cons {v : V} {vs : List V} {d : PyData} {ds : List PyData} : Top K M H v d → TopAll K M H vs ds → TopAll K M H (v :: vs) (d :: ds)
section
variable (K : PySem.W.Frag)
def rop (o : PyData → PyData → Option SV) : R2 := fun x y H Q => ∃ M dx dy sv, Dom M H ∧ Top K M H x dx ∧ Top K M H y dy ∧ o dx dy = some sv ∧ ∀ z H', New K M H H' sv z → Q z H'
def run1 (o : PyData → Option SV) : V → Hp → VK → Prop := fun x H Q => ∃ M dx sv, Dom M H ∧ Top K M H x dx ∧ o dx = some sv ∧ ∀ z H', New K M H H' sv z → Q z H'
def rcall (o : List PyData → Option SV) : List V → Hp → VK → Prop := fun xs H Q => ∃ M ds sv, Dom M H ∧ TopAll K M H xs ds ∧ o ds = some sv ∧ ∀ z H', New K M H H' sv z → Q z H'
def rsl (o : PyData → Option Int → Option Int → Option SV) : V → Option Int → Option Int → Hp → VK → Prop := fun x lo hi H Q => ∃ M dx sv, Dom M H ∧ Top K M H x dx ∧ o dx lo hi = some sv ∧ ∀ z H', New K M H H' sv z → Q z H'
def rmt (o : PyData → List PyData → Option SV) : V → List V → Hp → VK → Prop := fun x xs H Q => ∃ M dx ds sv, Dom M H ∧ Top K M H x dx ∧ TopAll K M H xs ds ∧ o dx ds = some sv ∧ ∀ z H', New K M H H' sv z → Q z H'
end
/-- a truth value -/
def SV.bool? : SV → Option Bool
  | .d (.bool b) => some b
  | _ => none
def SV.int? : SV → Option Int
  | .d (.int i) => some i
  | _ => none
/-- what is kept of a value in another one -/
def SV.keep : SV → Option PyData
  | .d x => some x
  | .o b => some b.data
  | .r _ => none
/-- an argument -/
def SV.arg : SV → SV
  | .o b => .d b.data
  | v => v

def eBin (o : PyData → PyData → Option SV) (f g : SPl) : SE := fun s => (f s).bind fun p s => (g s).bind fun q s => retn ((ld s p).bind fun x => (ld s q).bind fun y => o x y) s
def eUn (o : PyData → Option SV) (f : SPl) : SE := fun s => (f s).bind fun p s => retn ((ld s p).bind o) s
def eSl (o : PyData → Option Int → Option Int → Option SV) (f : SPl) (g h : S → Res (Option Int)) : SE := fun s => (f s).bind fun p s => (g s).bind fun lo s => (h s).bind fun hi s => retn ((ld s p).bind fun x => o x lo hi) s
/-- places read one behind another -/
def pls : List SPl → S → Res (List Pl)
  | [], s => .ok [] s
  | f :: fs, s => (f s).bind fun p s => (pls fs s).bind fun ps s => .ok (p :: ps) s
def ldAll (s : S) : List Pl → Option (List PyData)
  | [] => some []
  | p :: ps => (ld s p).bind fun x => (ldAll s ps).bind fun xs => some (x :: xs)
def eCallB (o : List PyData → Option SV) (fs : List SPl) : SE := fun s => (pls fs s).bind fun ps s => retn ((ldAll s ps).bind o) s
def eMt (o : PyData → List PyData → Option SV) (f : SPl) (fs : List SPl) : SE := fun s => (f s).bind fun p s => (pls fs s).bind fun ps s => retn ((ld s p).bind fun x => (ldAll s ps).bind fun xs => o x xs) s

section
variable {X : Cx} {W : WX} {ρ ρ' ρ'' E E' E'' : List Addr} {st st' st'' : S} {σ : L2.St} {H H' H'' : Hp}
theorem Go.exs {K : PySem.W.Frag} {mg : Str → Option Value} {α β γ δ : Type} {rep : Rep α β} {rep' : Rep γ δ} {Q : β → Hp → Prop} {Q' : δ → Hp → Prop} {x : Ex} {s : S} (h : Go K mg W rep Q ρ E st σ H (.ex x s)) (P : Post K ρ E st σ H ρ' E' st' σ H') (c : Come ρ E st σ H E') : Go K mg W rep' Q' ρ' E' st' σ H' (.ex x s) :=
  fun cls d ρ2 E2 H2 sub P2 xr => h cls d ρ2 E2 H2 (c.1.trans sub) (P.trans P2) xr
theorem ze_bin {op : Operator} {o : PyData → PyData → Option SV} {a b : Expr} {f g : SPl} {pos : Pos} (ho : OpR X (binaryOp op) (rop X.K o)) (ha : ZP X W a f) (hb : ZP X W b g) : ZE X W (.BinOp a op b pos) (eBin o f g) := by
  refine PE.mono (pe_op ho ha hb) fun σ H Q ⟨ρ, E, st, R, q⟩ => ⟨ρ, E, st, R, ?_⟩
  unfold eBin at q
  cases e : f st with
  | no => rw [e] at q; exact q
  | ex x s => rw [e] at q; exact q
  | ok p s =>
    rw [e] at q
    intro x ρ1 E1 H1 P1 r1
    refine ⟨ρ1, E1, s, P1.rel, ?_⟩
    have q : Go X.K X.mg W (rE X.K) Q ρ E st σ H ((g s).bind fun q s => retn ((ld s p).bind fun x => (ld s q).bind fun y => o x y) s) := q
    cases e2 : g s with
    | no => rw [e2] at q; exact q
    | ex x2 s2 => rw [e2] at q; exact Go.exs q P1 r1.come
    | ok p2 s2 =>
      rw [e2] at q
      intro y ρ2 E2 H2 P2 r2
      have q : Go X.K X.mg W (rE X.K) Q ρ E st σ H (retn ((ld s2 p).bind fun x => (ld s2 p2).bind fun y => o x y) s2) := q
      cases l1 : ld s2 p with
      | none => rw [l1] at q; exact q.elim
      | some dx =>
        cases l2 : ld s2 p2 with
        | none => rw [l1, l2] at q; exact q.elim
        | some dy =>
          rw [l1, l2] at q
          have q : Go X.K X.mg W (rE X.K) Q ρ E st σ H (retn (o dx dy) s2) := q
          cases l3 : o dx dy with
          | none => rw [l3] at q; exact q.elim
          | some sv =>
            rw [l3] at q
            exact ⟨_, dx, dy, sv, P2.rel.dom, rPl.later r1 P1.rel P2 r2.come l1, r2.top P2.rel l2, l3, fun z H' n => Go.new q (P1.trans P2) (r1.come.trans P1 r2.come) n⟩
/-- two operands, by any rule of the form of tOp -/
theorem core2 {K : PySem.W.Frag} {mg : Str → Option Value} {o : PyData → PyData → Option SV} {f g : SPl} {Q : VK} (h : tzE K mg W (eBin o f g) σ H Q) : tOp (rop K o) (tzP K mg W f) (tzP K mg W g) σ H Q := by
  obtain ⟨ρ, E, st, R, q⟩ := h
  refine ⟨ρ, E, st, R, ?_⟩
  unfold eBin at q
  cases e : f st with
  | no => rw [e] at q; exact q
  | ex x s => rw [e] at q; exact q
  | ok p s =>
    rw [e] at q
    intro x ρ1 E1 H1 P1 r1
    refine ⟨ρ1, E1, s, P1.rel, ?_⟩
    have q : Go K mg W (rE K) Q ρ E st σ H ((g s).bind fun q s => retn ((ld s p).bind fun x => (ld s q).bind fun y => o x y) s) := q
    cases e2 : g s with
    | no => rw [e2] at q; exact q
    | ex x2 s2 => rw [e2] at q; exact Go.exs q P1 r1.come
    | ok p2 s2 =>
      rw [e2] at q
      intro y ρ2 E2 H2 P2 r2
      have q : Go K mg W (rE K) Q ρ E st σ H (retn ((ld s2 p).bind fun x => (ld s2 p2).bind fun y => o x y) s2) := q
      cases l1 : ld s2 p with
      | none => rw [l1] at q; exact q.elim
      | some dx =>
        cases l2 : ld s2 p2 with
        | none => rw [l1, l2] at q; exact q.elim
        | some dy =>
          rw [l1, l2] at q
          have q : Go K mg W (rE K) Q ρ E st σ H (retn (o dx dy) s2) := q
          cases l3 : o dx dy with
          | none => rw [l3] at q; exact q.elim
          | some sv =>
            rw [l3] at q
            exact ⟨_, dx, dy, sv, P2.rel.dom, rPl.later r1 P1.rel P2 r2.come l1, r2.top P2.rel l2, l3, fun z H' n => Go.new q (P1.trans P2) (r1.come.trans P1 r2.come) n⟩
theorem ze_cmp {op : CmpOp} {o : PyData → PyData → Option SV} {a b : Expr} {f g : SPl} {pos : Pos} (ho : OpR X (compareOp op) (rop X.K o)) (ha : ZP X W a f) (hb : ZP X W b g) (hm : behindInMarks op b = false) : ZE X W (.Compare a [op] [b] pos) (eBin o f g) :=
  PE.mono (pe_cmpR ho ha hb hm) fun _ _ _ h => core2 h
theorem ze_ix {o : PyData → PyData → Option SV} {a b : Expr} {f g : SPl} {pos : Pos} (ho : IxR X (rop X.K o)) (ha : ZP X W a f) (hb : ZP X W b g) (hs : PlainIx b) : ZE X W (.Subscript a b pos) (eBin o f g) :=
  PE.mono (pe_ix ho ha hb hs) fun _ _ _ h => core2 h
/-- a value as a test -/
def tOf (f : SE) : S → Res Bool := fun s => (f s).bind fun sv s => retn sv.bool? s
theorem boolTop {K : PySem.W.Frag} {sv : SV} {b : Bool} (h : sv.bool? = some b) : sv = .d (.bool b) := by
  unfold SV.bool? at h
  split at h
  · cases h; rfl
  · cases h
theorem coreT {K : PySem.W.Frag} {mg : Str → Option Value} {f : SE} {Q : Bool → Hp → Prop} (h : tzB K mg W (tOf f) σ H Q) : tzE K mg W f σ H fun x H' => ∃ k, x = .bl k ∧ Q k H' := by
  obtain ⟨ρ, E, st, R, q⟩ := h
  refine ⟨ρ, E, st, R, ?_⟩
  unfold tOf at q
  cases e : f st with
  | no => rw [e] at q; exact q
  | ex x s => rw [e] at q; exact q
  | ok sv s =>
    rw [e] at q
    intro x ρ1 E1 H1 P1 r1
    have q : Go K mg W rB Q ρ E st σ H (retn sv.bool? s) := q
    cases l : sv.bool? with
    | none => rw [l] at q; exact q.elim
    | some k =>
      rw [l] at q
      have := boolTop (K := K) l
      subst this
      obtain ⟨e1, r⟩ := r1
      cases r
      exact ⟨k, rfl, q k ρ1 E1 H1 P1 ⟨e1, rfl⟩⟩
theorem tzE.mono {K : PySem.W.Frag} {mg : Str → Option Value} {α β : Type} {rep : Rep α β} {f : S → Res α} {Q Q' : β → Hp → Prop} (h : tzG K mg W rep f σ H Q) (m : ∀ b H, Q b H → Q' b H) : tzG K mg W rep f σ H Q' := by
  obtain ⟨ρ, E, st, R, q⟩ := h
  refine ⟨ρ, E, st, R, ?_⟩
  cases e : f st with
  | no => rw [e] at q; exact q
  | ex x s => rw [e] at q; exact q
  | ok sv s => rw [e] at q; exact fun b ρ' E' H' P r => m _ _ (q b ρ' E' H' P r)
theorem zt_cmp {op : CmpOp} {o : PyData → PyData → Option SV} {a b : Expr} {f g : SPl} {pos : Pos} (ho : OpR X (compareOp op) (rop X.K o)) (ha : ZP X W a f) (hb : ZP X W b g) (hm : behindInMarks op b = false) : ZT X W (.Compare a [op] [b] pos) (tOf (eBin o f g)) :=
  PT.mono (pt_cmpR ho ha hb hm) fun _ _ _ h => core2 (coreT h)
theorem zt_val {e : Expr} {f : SE} (h : ZE X W e f) (he : ∀ whole, isTrue e X.env whole = (do let v ← whole; standAt e.pos; holding [v] (truthy v)) := by intro _; rfl) : ZT X W e (tOf f) :=
  PT.mono (pt_val h he) fun _ _ _ h => coreT h
def tAnd (f g : S → Res Bool) : S → Res Bool := fun s => (f s).bind fun b s => if b = true then g s else .ok false s
def tOr (f g : S → Res Bool) : S → Res Bool := fun s => (f s).bind fun b s => if b = true then .ok true s else g s
def tNot (f : S → Res Bool) : S → Res Bool := fun s => (f s).bind fun b s => .ok (!b) s
/-- how a test goes on -/
theorem core_test {K : PySem.W.Frag} {mg : Str → Option Value} {α β : Type} {rep : Rep α β} {f : S → Res Bool} {g : Bool → S → Res α} {Q : β → Hp → Prop} (h : tzG K mg W rep (fun s => (f s).bind g) σ H Q)
    (el : ∀ {ρ E st σ H ρ' E' st' H'} {a : α} {b : β} {ρ0 st0 H0}, Post K ρ0 E st0 σ H0 ρ E st σ H → rep ρ E st σ H ρ' E' st' σ H' a b → rep ρ0 E st0 σ H0 ρ' E' st' σ H' a b) : tzB K mg W f σ H fun b H1 => tzG K mg W rep (g b) σ H1 Q := by
  obtain ⟨ρ, E, st, R, q⟩ := h
  refine ⟨ρ, E, st, R, ?_⟩
  cases e : f st with
  | no => have q : Go K mg W rep Q ρ E st σ H ((f st).bind g) := q; rw [e] at q; exact q
  | ex x s => have q : Go K mg W rep Q ρ E st σ H ((f st).bind g) := q; rw [e] at q; exact q
  | ok b s =>
    have q : Go K mg W rep Q ρ E st σ H ((f st).bind g) := q
    rw [e] at q
    intro c ρ1 E1 H1 P1 r1
    obtain ⟨e1, e2⟩ := r1
    subst e1 e2
    refine ⟨ρ1, E1, s, P1.rel, ?_⟩
    have q : Go K mg W rep Q ρ E1 st σ H (g c s) := q
    cases e3 : g c s with
    | no => rw [e3] at q; exact q
    | ex x s => rw [e3] at q; exact Go.exs q P1 Come.refl
    | ok a s2 => rw [e3] at q; exact fun b ρ' E' H' P r => q b ρ' E' H' (P1.trans P) (el P1 r)
theorem rB.el {K : PySem.W.Frag} {ρ E st σ H ρ' E' st' H'} {a : Bool} {b : Bool} {ρ0 st0 H0} (_ : Post K ρ0 E st0 σ H0 ρ E st σ H) (r : rB ρ E st σ H ρ' E' st' σ H' a b) : rB ρ0 E st0 σ H0 ρ' E' st' σ H' a b := r
theorem rO.el {K : PySem.W.Frag} {ρ E st σ H ρ' E' st' σ' H'} {a : PO} {b : V} {ρ0 st0 σ0 H0} (P : Post K ρ0 E st0 σ0 H0 ρ E st σ H) (r : rO K ρ E st σ H ρ' E' st' σ' H' a b) : rO K ρ0 E st0 σ0 H0 ρ' E' st' σ' H' a b := by
  obtain ⟨x, e1, e2, hx, ob⟩ := r
  refine ⟨x, e1, e2, ?_, ob⟩
  rcases hx with hx | hx
  · exact P.mu x hx
  · by_cases hm : x ∈ chg ρ0 st0 σ0
    · exact .inl hm
    · refine .inr ?_
      cases e : H0 x with
      | none => rfl
      | some o => rw [P.fr x o hm e] at hx; cases hx
theorem rE.el {K : PySem.W.Frag} {ρ E st σ H ρ' E' st' σ' H'} {a : SV} {b : V} {ρ0 st0 σ0 H0} (P : Post K ρ0 E st0 σ0 H0 ρ E st σ H) (r : rE K ρ E st σ H ρ' E' st' σ' H' a b) : rE K ρ0 E st0 σ0 H0 ρ' E' st' σ' H' a b := by
  cases a with
  | d x => exact r
  | r k => exact r
  | o p => exact rO.el P r
theorem tzG.congr {K : PySem.W.Frag} {mg : Str → Option Value} {α β : Type} {rep : Rep α β} {f g : S → Res α} {Q : β → Hp → Prop} (h : tzG K mg W rep f σ H Q) (e : ∀ s, f s = g s) : tzG K mg W rep g σ H Q := by
  have : f = g := funext e
  rw [← this]; exact h
theorem zw_and1 {a : Expr} {f : S → Res Bool} {pos : Pos} (ha : ZT X W a f) : ZW X W (.BoolOp .And [a] pos) f := pw_and1 ha
theorem zw_or1 {a : Expr} {f : S → Res Bool} {pos : Pos} (ha : ZT X W a f) : ZW X W (.BoolOp .Or [a] pos) f := pw_or1 ha
theorem zw_and {a b : Expr} {rest : List Expr} {f g : S → Res Bool} {pos : Pos} (ha : ZT X W a f) (hb : ZW X W (.BoolOp .And (b :: rest) pos) g) : ZW X W (.BoolOp .And (a :: b :: rest) pos) (tAnd f g) := by
  refine PW.mono (pw_and ha hb) fun σ H Q h => ?_
  refine tzE.mono (core_test (g := fun b s => if b = true then g s else .ok false s) h rB.el) fun b H1 q => ?_
  cases b with
  | true => exact q
  | false =>
    rw [if_neg (by decide)]
    obtain ⟨ρ, E, st, R, q⟩ := q
    exact q false ρ E H1 (.refl R) ⟨rfl, rfl⟩
theorem zw_or {a b : Expr} {rest : List Expr} {f g : S → Res Bool} {pos : Pos} (ha : ZT X W a f) (hb : ZW X W (.BoolOp .Or (b :: rest) pos) g) : ZW X W (.BoolOp .Or (a :: b :: rest) pos) (tOr f g) := by
  refine PW.mono (pw_or ha hb) fun σ H Q h => ?_
  refine tzE.mono (core_test (g := fun b s => if b = true then .ok true s else g s) h rB.el) fun b H1 q => ?_
  cases b with
  | false => exact q
  | true =>
    rw [if_pos rfl]
    obtain ⟨ρ, E, st, R, q⟩ := q
    exact q true ρ E H1 (.refl R) ⟨rfl, rfl⟩
theorem zt_w {e : Expr} {f : S → Res Bool} (h : ZW X W e f) : ZT X W e f := PW.pt h
theorem zt_not {a : Expr} {f : S → Res Bool} {pos : Pos} (ha : ZT X W a f) : ZT X W (.UnaryOp .Not a pos) (tNot f) := by
  refine PT.mono (pt_not ha) fun σ H Q h => ?_
  refine tzE.mono (core_test (g := fun b s => .ok (!b) s) h rB.el) fun b H1 q => ?_
  obtain ⟨ρ, E, st, R, q⟩ := q
  exact q (!b) ρ E H1 (.refl R) ⟨rfl, rfl⟩
/-! values that are truths -/
def eAnd (f g : SE) : SE := fun s => (tOf f s).bind fun b s => if b = true then g s else .ok (.d (.bool false)) s
def eOr (f g : SE) : SE := fun s => (tOf f s).bind fun b s => if b = true then .ok (.d (.bool true)) s else g s
def eNot (f : SE) : SE := fun s => (tOf f s).bind fun b s => .ok (.d (.bool (!b))) s
def eIf (t : S → Res Bool) (f g : SE) : SE := fun s => (t s).bind fun b s => if b = true then f s else g s
theorem ze_one {op} {a : Expr} {f : SE} {pos : Pos} (ha : ZE X W a f) : ZE X W (.BoolOp op [a] pos) f := pe_one ha
theorem ze_and {a b : Expr} {rest : List Expr} {f g : SE} {pos : Pos} (ha : ZE X W a f) (hb : ZE X W (.BoolOp .And (b :: rest) pos) g) : ZE X W (.BoolOp .And (a :: b :: rest) pos) (eAnd f g) := by
  refine PE.mono (pe_and ha hb) fun σ H Q h => ?_
  refine tzE.mono (coreT (core_test (g := fun b s => if b = true then g s else .ok (.d (.bool false)) s) h rE.el)) fun x H1 ⟨b, e, q⟩ => ⟨b, e, ?_⟩
  cases b with
  | true => exact q
  | false =>
    rw [if_neg (by decide)]
    obtain ⟨ρ, E, st, R, q⟩ := q
    exact q (.bl false) ρ E H1 (.refl R) ⟨rfl, .bl _⟩
theorem ze_or {a b : Expr} {rest : List Expr} {f g : SE} {pos : Pos} (ha : ZE X W a f) (hb : ZE X W (.BoolOp .Or (b :: rest) pos) g) : ZE X W (.BoolOp .Or (a :: b :: rest) pos) (eOr f g) := by
  refine PE.mono (pe_or ha hb) fun σ H Q h => ?_
  refine tzE.mono (coreT (core_test (rep := rE X.K) (g := fun b s => if b = true then .ok (.d (.bool true)) s else g s) h fun P r => rE.el P r)) fun x H1 ⟨b, e, q⟩ => ⟨b, e, ?_⟩
  cases b with
  | false => exact q
  | true =>
    rw [if_pos rfl]
    obtain ⟨ρ, E, st, R, q⟩ := q
    exact q (.bl true) ρ E H1 (.refl R) ⟨rfl, .bl _⟩
theorem ze_not {a : Expr} {f : SE} {pos : Pos} (ha : ZE X W a f) : ZE X W (.UnaryOp .Not a pos) (eNot f) := by
  refine PE.mono (pe_not ha) fun σ H Q h => ?_
  refine tzE.mono (coreT (core_test (rep := rE X.K) (g := fun b s => .ok (.d (.bool (!b))) s) h fun P r => rE.el P r)) fun x H1 ⟨b, e, q⟩ => ⟨b, e, ?_⟩
  obtain ⟨ρ, E, st, R, q⟩ := q
  exact q (.bl (!b)) ρ E H1 (.refl R) ⟨rfl, .bl _⟩
theorem ze_if {c a b : Expr} {t : S → Res Bool} {f g : SE} {pos : Pos} (hc : ZT X W c t) (ha : ZE X W a f) (hb : ZE X W b g) : ZE X W (.IfExp c a b pos) (eIf t f g) := by
  refine PE.mono (pe_ifExp hc ha hb) fun σ H Q h => ?_
  refine tzE.mono (core_test (g := fun b s => if b = true then f s else g s) h rE.el) fun b H1 q => ?_
  cases b <;> exact q
/-! two comparisons -/
def eChain (o o' : PyData → PyData → Option SV) (f g h : SPl) : SE := fun s => (f s).bind fun p s => (g s).bind fun q s => (retn ((ld s p).bind fun x => (ld s q).bind fun y => (o x y).bind SV.bool?) s).bind fun b s =>
  if b = true then (h s).bind fun r s => retn ((ld s q).bind fun x => (ld s r).bind fun y => o' x y) s else .ok (.d (.bool false)) s
theorem coreC {K : PySem.W.Frag} {mg : Str → Option Value} {o o' : PyData → PyData → Option SV} {f g h : SPl} {Q : VK} (hh : tzE K mg W (eChain o o' f g h) σ H Q) : tChain (rop K o) (rop K o') (tzP K mg W f) (tzP K mg W g) (tzP K mg W h) σ H Q := by
  obtain ⟨ρ, E, st, R, q⟩ := hh
  refine ⟨ρ, E, st, R, ?_⟩
  unfold eChain at q
  cases e : f st with
  | no => rw [e] at q; exact q
  | ex x s => rw [e] at q; exact q
  | ok p s =>
    rw [e] at q
    intro x ρ1 E1 H1 P1 r1
    refine ⟨ρ1, E1, s, P1.rel, ?_⟩
    rw [Res.bind_ok] at q
    cases e2 : g s with
    | no => rw [e2] at q; exact q
    | ex x2 s2 => rw [e2] at q; exact Go.exs q P1 r1.come
    | ok p2 s2 =>
      rw [e2, Res.bind_ok] at q
      intro y ρ2 E2 H2 P2 r2
      cases l1 : ld s2 p with
      | none => rw [l1] at q; exact q.elim
      | some dx =>
        cases l2 : ld s2 p2 with
        | none => rw [l1, l2] at q; exact q.elim
        | some dy =>
          rw [l1, l2] at q
          cases l3 : o dx dy with
          | none => simp only [Option.bind_some, l3] at q; exact q.elim
          | some sv =>
            cases l4 : sv.bool? with
            | none => simp only [Option.bind_some, l3, l4] at q; exact q.elim
            | some b =>
              have es := boolTop (K := K) l4
              subst es
              simp only [Option.bind_some, l3, l4] at q
              rw [retn_some, Res.bind_ok] at q
              refine ⟨_, dx, dy, _, P2.rel.dom, rPl.later r1 P1.rel P2 r2.come l1, r2.top P2.rel l2, l3, fun z H' n => ?_⟩
              obtain ⟨gr, rz⟩ := n
              cases rz
              refine ⟨b, rfl, ?_⟩
              have P3 : Post K ρ2 E2 s2 σ H2 ρ2 E2 s2 σ H' := ⟨P2.rel.grow gr, List.prefix_refl _, fun a o _ e => gr a o e, fun a h => .inl h⟩
              have c2 := r1.come.trans P1 r2.come
              cases b with
              | false =>
                rw [if_neg (by decide)] at q ⊢
                exact Go.new q ((P1.trans P2).trans P3) c2 (z := .bl false) ⟨fun _ _ e => e, .bl _⟩
              | true =>
                rw [if_pos rfl] at q ⊢
                refine ⟨ρ2, E2, s2, P3.rel, ?_⟩
                cases e5 : h s2 with
                | no => rw [e5] at q; exact q
                | ex x5 s5 => rw [e5] at q; exact Go.exs q ((P1.trans P2).trans P3) c2
                | ok p5 s5 =>
                  rw [e5, Res.bind_ok] at q
                  intro w ρ5 E5 H5 P5 r5
                  cases l6 : ld s5 p2 with
                  | none => rw [l6] at q; exact q.elim
                  | some dx' =>
                    cases l7 : ld s5 p5 with
                    | none => rw [l6, l7] at q; exact q.elim
                    | some dy' =>
                      rw [l6, l7] at q
                      cases l8 : o' dx' dy' with
                      | none => simp only [Option.bind_some, l8] at q; exact q.elim
                      | some sv' =>
                        simp only [Option.bind_some, l8] at q
                        exact ⟨_, dx', dy', sv', P5.rel.dom, rPl.later r2 P2.rel (P3.trans P5) (Come.refl.trans P3 r5.come) l6, r5.top P5.rel l7, l8, fun z H' n => Go.new q (((P1.trans P2).trans P3).trans P5) (c2.trans ((P1.trans P2).trans P3) r5.come) n⟩
theorem ze_chain {op op' : CmpOp} {o o' : PyData → PyData → Option SV} {a b c : Expr} {f g h : SPl} {pos : Pos} (ho : OpR X (compareOp op) (rop X.K o)) (ho' : OpR X (compareOp op') (rop X.K o')) (ha : ZP X W a f) (hb : ZP X W b g) (hc : ZP X W c h)
    (hm : lastMarks [op, op'] [b, c] = false := by with_unfolding_all rfl) : ZE X W (.Compare a [op, op'] [b, c] pos) (eChain o o' f g h) := PE.mono (pe_chain ho ho' ha hb hc hm) fun _ _ _ h => coreC h
theorem zt_chain {op op' : CmpOp} {o o' : PyData → PyData → Option SV} {a b c : Expr} {f g h : SPl} {pos : Pos} (ho : OpR X (compareOp op) (rop X.K o)) (ho' : OpR X (compareOp op') (rop X.K o')) (ha : ZP X W a f) (hb : ZP X W b g) (hc : ZP X W c h)
    (hm : lastMarks [op, op'] [b, c] = false := by with_unfolding_all rfl) : ZT X W (.Compare a [op, op'] [b, c] pos) (tOf (eChain o o' f g h)) := PT.mono (pt_chain ho ho' ha hb hc hm) fun _ _ _ h => coreC (coreT h)
end
end Z

set_option maxRecDepth 100000
set_option maxHeartbeats 4000000
namespace Z
open PySem PySem.Spec PyProof.Rows L2

/-! ### places, items, arguments -/
def Pl.still : Pl → Bool
  | .v _ => true
  | .tm _ => true
  | _ => false
def rPls (K : PySem.W.Frag) : Rep (List Pl) (List V) := fun ρ E st σ H ρ' E' st' σ' H' ps vs => Come ρ E st σ H E' ∧ ∀ ρ2 E2 st2 H2, Post K ρ' E' st' σ' H' ρ2 E2 st2 σ' H2 → Come ρ' E' st' σ' H' E2 → ∀ ds, ldAll st2 ps = some ds → TopAll K (avd ρ2 E2 st2 σ') H2 vs ds ∧ (ps.all Pl.still = true → RpAll K (avd ρ2 E st2 σ') H2 vs ds)
theorem rPl.stay {K : PySem.W.Frag} {ρ ρ' ρ'' E E' E'' : List Addr} {st st' st'' : S} {σ : L2.St} {H H' H'' : Hp} {pl : Pl} {v : V} (r : rPl K ρ E st σ H ρ' E' st' σ H' pl v) (R : Rel K ρ' E' st' σ H') (p : Post K ρ' E' st' σ H' ρ'' E'' st'' σ H'') (c : Come ρ' E' st' σ H' E'') (hs : pl.still = true) {d : PyData} (e : ld st'' pl = some d) : Rp K (avd ρ'' E st'' σ) H'' v d := by
  cases pl with
  | v x => cases e; exact Rp.mono (avd_sub (r.come.1.trans c.1)) (p.rp c.2 r.2)
  | sl i => cases hs
  | hp k => cases hs
  | tm b =>
    simp only [ld] at e
    simp at e
    subst e
    obtain ⟨q, e1, e2, _, ob⟩ := r
    subst e1 e2
    have hq : q ∈ q :: E := List.mem_cons_self
    refine (ob.frame (fun o eo => p.tmp R hq eo) p.avf (p.avm c.2)).rp (fun z => ?_) (avd_sub ((List.sublist_cons_self _ _).trans c.1))
    have nd := p.rel.sub c.1
    exact nd.fresh z
abbrev tzPs (K : PySem.W.Frag) (mg : Str → Option Value) (W : WX) : (S → Res (List Pl)) → TA := tzG K mg W (rPls K)
def ZPs (X : Cx) (W : WX) (es : List Expr) (fs : List SPl) : Prop := PA X es (tzPs X.K X.mg W (pls fs))
section
variable {X : Cx} {W : WX} {ρ ρ' ρ'' E E' E'' : List Addr} {st st' st'' : S} {σ : L2.St} {H H' H'' : Hp}
theorem zps_nil : ZPs X W [] [] := by
  refine PA.mono pa_nil fun σ H Q ⟨ρ, E, st, R, q⟩ => ?_
  exact q [] ρ E H (.refl R) ⟨Come.refl, fun ρ2 E2 st2 H2 _ _ ds e => by
    cases e; exact ⟨.nil, fun _ => .nil⟩⟩
theorem zps_cons {e : Expr} {es : List Expr} {f : SPl} {fs : List SPl} (h : ZP X W e f) (hs : ZPs X W es fs) (hst : starEach (e :: es) X.env = (false, eval e X.env) :: starEach es X.env := by rfl) : ZPs X W (e :: es) (f :: fs) := by
  refine PA.mono (pa_cons h hs hst) fun σ H Q ⟨ρ, E, st, R, q⟩ => ⟨ρ, E, st, R, ?_⟩
  have q : Go X.K X.mg W (rPls X.K) Q ρ E st σ H ((f st).bind fun p s => (pls fs s).bind fun ps s => .ok (p :: ps) s) := q
  cases e1 : f st with
  | no => rw [e1] at q; exact q
  | ex x s => rw [e1] at q; exact q
  | ok p s =>
    rw [e1, Res.bind_ok] at q
    intro x ρ1 E1 H1 P1 r1
    refine ⟨ρ1, E1, s, P1.rel, ?_⟩
    cases e2 : pls fs s with
    | no => rw [e2] at q; exact q
    | ex x2 s2 => rw [e2] at q; exact Go.exs q P1 r1.come
    | ok ps s2 =>
      rw [e2, Res.bind_ok] at q
      intro xs ρ2 E2 H2 P2 r2
      refine q (x :: xs) ρ2 E2 H2 (P1.trans P2) ⟨r1.come.trans P1 r2.1, fun ρ3 E3 st3 H3 P3 c3 ds eds => ?_⟩
      have eds : ((ld st3 p).bind fun x => (ldAll st3 ps).bind fun xs => some (x :: xs)) = some ds := eds
      cases l1 : ld st3 p with
      | none => rw [l1] at eds; cases eds
      | some d =>
        cases l2 : ldAll st3 ps with
        | none => rw [l1, l2] at eds; cases eds
        | some dss =>
          rw [l1, l2] at eds
          cases eds
          obtain ⟨t1, t2⟩ := r2.2 ρ3 E3 st3 H3 P3 c3 dss l2
          refine ⟨.cons (rPl.later r1 P1.rel (P2.trans P3) (r2.1.trans P2 c3) l1) t1, fun hs => ?_⟩
          have hs : (p.still && ps.all Pl.still) = true := hs
          rw [Bool.and_eq_true] at hs
          exact .cons (rPl.stay r1 P1.rel (P2.trans P3) (r2.1.trans P2 c3) hs.1 l1) ((t2 hs.2).mono (avd_sub r1.come.1))
/-- a call of a built-in thing -/
theorem coreB {K : PySem.W.Frag} {mg : Str → Option Value} {o : List PyData → Option SV} {fs : List SPl} {Q : VK} (h : tzE K mg W (eCallB o fs) σ H Q) : tCB (rcall K o) (tzPs K mg W (pls fs)) σ H Q := by
  obtain ⟨ρ, E, st, R, q⟩ := h
  refine ⟨ρ, E, st, R, ?_⟩
  unfold eCallB at q
  cases e1 : pls fs st with
  | no => rw [e1] at q; exact q
  | ex x s => rw [e1] at q; exact q
  | ok ps s =>
    rw [e1, Res.bind_ok] at q
    intro xs ρ1 E1 H1 P1 r1
    cases l1 : ldAll s ps with
    | none => rw [l1] at q; exact q.elim
    | some ds =>
      rw [l1] at q
      cases l2 : o ds with
      | none => simp only [Option.bind_some, l2] at q; exact q.elim
      | some sv =>
        simp only [Option.bind_some, l2] at q
        exact ⟨_, ds, sv, P1.rel.dom, (r1.2 _ _ _ _ (.refl P1.rel) Come.refl ds l1).1, l2, fun z H' n => Go.new q P1 r1.1 n⟩
theorem ze_callB {id : String} {x : Str} {o : List PyData → Option SV} {e : Expr} {es : List Expr} {fs : List SPl} {p pos : Pos} (hc : CallR X (.builtin id) (rcall X.K o)) (hg : Gl X x) (hm : X.mg x = none) (hv : bootBuiltins x = some (.builtin id)) (ha : ZPs X W (e :: es) fs) (hn : x ≠ "__name__" := by decide) (hdb : (x == ("__debug__" : Str)) = false := by decide)
    (he : starEach (e :: es) X.env = (false, eval e X.env) :: starEach es X.env := by rfl) (hpl : (backTo pos (starEach es X.env)).any (·.1) = false := by rfl) : ZE X W (.Call (.Name x p) (e :: es) [] pos) (eCallB o fs) :=
  PE.mono (pe_callB hc hg hm hv ha hn hdb he hpl) fun _ _ _ h => coreB h
theorem ze_callTy {T : String} {x : Str} {o : List PyData → Option SV} {e : Expr} {es : List Expr} {fs : List SPl} {p pos : Pos} (hc : CallR X (.type T) (rcall X.K o)) (hg : Gl X x) (hm : X.mg x = none) (hv : bootBuiltins x = some (.type T)) (ha : ZPs X W (e :: es) fs) (hn : x ≠ "__name__" := by decide) (hdb : (x == ("__debug__" : Str)) = false := by decide)
    (he : starEach (e :: es) X.env = (false, eval e X.env) :: starEach es X.env := by rfl) (hpl : (backTo pos (starEach es X.env)).any (·.1) = false := by rfl) : ZE X W (.Call (.Name x p) (e :: es) [] pos) (eCallB o fs) :=
  PE.mono (pe_callTy hc hg hm hv ha hn hdb he hpl) fun _ _ _ h => coreB h
/-- operators of one operand -/
theorem ze_un {op : UnaryOp} {o : PyData → Option SV} {a : Expr} {f : SPl} {pos : Pos} (ho : UnR X (unaryOp op) (run1 X.K o)) (ha : ZP X W a f) : ZE X W (.UnaryOp op a pos) (eUn o f) := by
  refine PE.mono (pe_un ho ha) fun σ H Q ⟨ρ, E, st, R, q⟩ => ⟨ρ, E, st, R, ?_⟩
  unfold eUn at q
  cases e : f st with
  | no => rw [e] at q; exact q
  | ex x s => rw [e] at q; exact q
  | ok p s =>
    rw [e, Res.bind_ok] at q
    intro x ρ1 E1 H1 P1 r1
    cases l1 : ld s p with
    | none => rw [l1] at q; exact q.elim
    | some d =>
      rw [l1] at q
      cases l2 : o d with
      | none => simp only [Option.bind_some, l2] at q; exact q.elim
      | some sv =>
        simp only [Option.bind_some, l2] at q
        exact ⟨_, d, sv, P1.rel.dom, r1.top P1.rel l1, l2, fun z H' n => Go.new q P1 r1.come n⟩
/-! slices -/
abbrev SO := S → Res (Option Int)
def rOI : Rep (Option Int) (Option Int) := fun ρ E st σ H ρ' E' st' σ' H' a b => E' = E ∧ b = a
def ZO (X : Cx) (W : WX) (e : Option Expr) (f : SO) : Prop := L2.PO X e (tzG X.K X.mg W rOI f)
def oNone : SO := fun s => .ok none s
def oSome (f : SE) : SO := fun s => (f s).bind fun sv s => retn (sv.int?.map some) s
theorem intTop {sv : SV} {b : Int} (h : sv.int? = some b) : sv = .d (.int b) := by
  unfold SV.int? at h
  split at h
  · cases h; rfl
  · cases h
theorem POm {X : Cx} {e : Option Expr} {t t' : TO} (h : L2.PO X e t) (m : ∀ σ H Q, t' σ H Q → t σ H Q) : L2.PO X e t' := ⟨fun pins s σ H Q I q => h.run pins s σ H Q I (m σ H Q q)⟩
theorem zo_none : ZO X W none oNone := POm po_none fun σ H Q ⟨ρ, E, st, R, q⟩ => q none ρ E H (.refl R) ⟨rfl, rfl⟩
theorem zo_some {e : Expr} {f : SE} (h : ZE X W e f) : ZO X W (some e) (oSome f) := by
  refine POm (po_some h) fun σ H Q ⟨ρ, E, st, R, q⟩ => ⟨ρ, E, st, R, ?_⟩
  unfold oSome at q
  cases e : f st with
  | no => rw [e] at q; exact q
  | ex x s => rw [e] at q; exact q
  | ok sv s =>
    rw [e, Res.bind_ok] at q
    intro x ρ1 E1 H1 P1 r1
    cases l1 : sv.int? with
    | none => rw [l1] at q; exact q.elim
    | some i =>
      rw [l1] at q
      have es := intTop l1
      subst es
      obtain ⟨e1, r⟩ := r1
      cases r
      exact ⟨i, rfl, q (some i) ρ1 E1 H1 P1 ⟨e1, rfl⟩⟩
theorem ze_sl {o : PyData → Option Int → Option Int → Option SV} {a : Expr} {l u : Option Expr} {f : SPl} {g h : SO} {pos p2 : Pos} (ho : SlR X (rsl X.K o)) (ha : ZP X W a f) (hl : ZO X W l g) (hu : ZO X W u h) : ZE X W (.Subscript a (.Slice l u none p2) pos) (eSl o f g h) := by
  refine PE.mono (pe_slice ho ha hl hu) fun σ H Q ⟨ρ, E, st, R, q⟩ => ⟨ρ, E, st, R, ?_⟩
  unfold eSl at q
  cases e : f st with
  | no => rw [e] at q; exact q
  | ex x s => rw [e] at q; exact q
  | ok p s =>
    rw [e, Res.bind_ok] at q
    intro x ρ1 E1 H1 P1 r1
    refine ⟨ρ1, E1, s, P1.rel, ?_⟩
    cases e2 : g s with
    | no => rw [e2] at q; exact q
    | ex x2 s2 => rw [e2] at q; exact Go.exs q P1 r1.come
    | ok lo s2 =>
      rw [e2, Res.bind_ok] at q
      intro y ρ2 E2 H2 P2 r2
      obtain ⟨k1, k2⟩ := r2
      subst k1 k2
      refine ⟨ρ2, E2, s2, P2.rel, ?_⟩
      cases e3 : h s2 with
      | no => rw [e3] at q; exact q
      | ex x3 s3 => rw [e3] at q; exact Go.exs q (P1.trans P2) r1.come
      | ok hi s3 =>
        rw [e3, Res.bind_ok] at q
        intro w ρ3 E3 H3 P3 r3
        obtain ⟨k1, k2⟩ := r3
        subst k1 k2
        cases l1 : ld s3 p with
        | none => rw [l1] at q; exact q.elim
        | some d =>
          rw [l1] at q
          cases l2 : o d y w with
          | none => simp only [Option.bind_some, l2] at q; exact q.elim
          | some sv =>
            simp only [Option.bind_some, l2] at q
            exact ⟨_, d, sv, P3.rel.dom, rPl.later r1 P1.rel (P2.trans P3) Come.refl l1, l2, fun z H' n => Go.new q ((P1.trans P2).trans P3) r1.come n⟩
/-! ### items that are kept: displays -/
/-- an own tmp that is kept: data from here on -/
theorem rE.keep {K : PySem.W.Frag} {sv : SV} {v : V} {x : PyData} (r : rE K ρ E st σ H ρ' E' st' σ H' sv v) (P : Post K ρ E st σ H ρ' E' st' σ H') (h : sv.keep = some x) : Post K ρ E st σ H ρ' E st' σ H' ∧ Rp K (avd ρ' E st' σ) H' v x := by
  cases sv with
  | d y => cases h; obtain ⟨e, r⟩ := r; subst e; exact ⟨P, r⟩
  | r k => cases h
  | o b =>
    cases h
    obtain ⟨p, e1, e2, _, ob⟩ := r
    subst e1 e2
    exact ⟨P.drop, ob.rp P.rel.fresh (avd_sub (List.sublist_cons_self _ _))⟩
def its : List SE → S → Res (List PyData)
  | [], s => .ok [] s
  | f :: fs, s => (f s).bind fun sv s => (retn sv.keep s).bind fun x s => (its fs s).bind fun xs s => .ok (x :: xs) s
def ZIs (X : Cx) (W : WX) (es : List Expr) (fs : List SE) : Prop := PA X es (tzL X.K X.mg W (its fs))
theorem zis_nil : ZIs X W [] [] := PA.mono pa_nil fun σ H Q ⟨ρ, E, st, R, q⟩ => q [] ρ E H (.refl R) ⟨rfl, .nil⟩
theorem zis_cons {e : Expr} {es : List Expr} {f : SE} {fs : List SE} (h : ZE X W e f) (hs : ZIs X W es fs) (hst : starEach (e :: es) X.env = (false, eval e X.env) :: starEach es X.env := by rfl) : ZIs X W (e :: es) (f :: fs) := by
  refine PA.mono (pa_cons h hs hst) fun σ H Q ⟨ρ, E, st, R, q⟩ => ⟨ρ, E, st, R, ?_⟩
  have q : Go X.K X.mg W (rL X.K) Q ρ E st σ H ((f st).bind fun sv s => (retn sv.keep s).bind fun x s => (its fs s).bind fun xs s => .ok (x :: xs) s) := q
  cases e1 : f st with
  | no => rw [e1] at q; exact q
  | ex x s => rw [e1] at q; exact q
  | ok sv s =>
    rw [e1, Res.bind_ok] at q
    intro v ρ1 E1 H1 P1 r1
    cases l1 : sv.keep with
    | none => rw [l1] at q; exact q.elim
    | some x =>
      rw [l1, retn_some, Res.bind_ok] at q
      obtain ⟨P1, r1⟩ := r1.keep P1 l1
      refine ⟨ρ1, E, s, P1.rel, ?_⟩
      cases e2 : its fs s with
      | no => rw [e2] at q; exact q
      | ex x2 s2 => rw [e2] at q; exact Go.exs q P1 Come.refl
      | ok xs s2 =>
        rw [e2, Res.bind_ok] at q
        intro vs ρ2 E2 H2 P2 r2
        obtain ⟨k, r2⟩ := r2
        subst k
        exact q (v :: vs) ρ2 E2 H2 (P1.trans P2) ⟨rfl, .cons (P2.rp Come.refl.2 r1) r2⟩
/-- how many a list may hold -/
def fits (n : Nat) : Bool := decide (n ≤ sizeLine)
def eTup (fs : List SE) : SE := fun s => (its fs s).bind fun xs s => if fits xs.length = true then .ok (.d (.tuple xs)) s else .no
def eLst (fs : List SE) : SE := fun s => (its fs s).bind fun xs s => if fits xs.length = true then .ok (.o (.lst xs)) s else .no
theorem upd_grow {p : Addr} {o : HO} (hp : H p = none) : ∀ a u, H a = some u → upd H p o a = some u := fun a u e => by rw [upd_ne (ne_of_none e hp)]; exact e
/-- a new tuple, told as it stands -/
theorem newT {pins : List (Addr × Obj)} {s : Shared} {ys : List V} {its : List Value} {t' : Nat} (pr : Bool) (I : Inv X pins σ H s) (r : Vals ys its) (hz : ys.length ≤ sizeLine) :
    Inv X pins σ (upd H s.heap.objs.size (tupO pr ys its)) { s with heap := s.heap.push { cls := .type "tuple", data := .seq its.toArray }, toks := t' } := by
  have ex : (s.heap.push { cls := .type "tuple", data := .seq its.toArray }).get? s.heap.objs.size = some { cls := .type "tuple", data := .seq its.toArray } := Heap.get?_push_size _ rfl
  refine I.laid (fun b u e => Heap.get?_push_of_some _ e) (Nat.le_refl _) ?_
  cases pr
  · exact ⟨hz, its, r, ⟨_, ex, rfl, _, rfl⟩⟩
  · exact ⟨ex, hz, its, r, ⟨_, ex, rfl, _, rfl⟩⟩
theorem newTup {M : List Addr} {K : PySem.W.Frag} {p : Addr} {vs : List V} {its : List Value} {ds : List PyData} (hp : H p = none) (dm : Dom M H) (al : RpAll K M H vs ds) : New K M H (upd H p (tupO (pairy ds) vs its)) (.d (.tuple ds)) (.ref p) :=
  ⟨upd_grow hp, .tup (tupO_nd fun z => by obtain ⟨o, e, _⟩ := dm p z; rw [hp] at e; cases e) (al.frame (fun a o _ e => upd_grow hp a o e) fun a h => .inl h)⟩
def tTupP (t : TA) : TE := fun σ H Q => t σ H fun xs H1 => xs.length ≤ sizeLine ∧ ∀ p its, H1 p = none → ∃ pr, Q (.ref p) (upd H1 p (tupO pr xs its))
theorem pe_tupP {es : List Expr} {t : TA} {x1 pos} (h : PA X es t) : PE X (.Tuple es x1 pos) (tTupP t) := by
  refine ⟨fun pins s σ H Q I hq => ?_⟩
  refine wpAny_Tuple_spliced (thn (h.run pos pins s σ H _ I hq) fun us s1 ⟨xs, H1, I1, r, z, q⟩ => ⟨by rw [← r.length]; exact z, ?_⟩)
  obtain ⟨pr, q⟩ := q _ us (I1.hok.fresh (Nat.le_refl _))
  exact ⟨.ref s1.heap.objs.size, _, newT (t' := s1.toks) pr I1 r z, rfl, q⟩
theorem ze_tup {es : List Expr} {fs : List SE} {x1 pos} (h : ZIs X W es fs) : ZE X W (.Tuple es x1 pos) (eTup fs) := by
  refine PE.mono (pe_tupP h) fun σ H Q ⟨ρ, E, st, R, q⟩ => ⟨ρ, E, st, R, ?_⟩
  unfold eTup at q
  cases e1 : its fs st with
  | no => rw [e1] at q; exact q
  | ex x s => rw [e1] at q; exact q
  | ok xs s =>
    rw [e1, Res.bind_ok] at q
    intro vs ρ1 E1 H1 P1 r1
    obtain ⟨k, r1⟩ := r1
    subst k
    by_cases hl : fits xs.length = true
    · rw [if_pos hl] at q
      have hl' : xs.length ≤ sizeLine := of_decide_eq_true hl
      exact ⟨by rw [r1.length]; exact hl', fun p us hp => ⟨_, Go.new q P1 Come.refl (newTup hp P1.rel.dom r1)⟩⟩
    · rw [if_neg hl] at q; exact q.elim
theorem ze_lst {es : List Expr} {fs : List SE} {pos} (h : ZIs X W es fs) : ZE X W (.List es pos) (eLst fs) := by
  refine PE.mono (pe_lst h) fun σ H Q ⟨ρ, E, st, R, q⟩ => ⟨ρ, E, st, R, ?_⟩
  unfold eLst at q
  cases e1 : its fs st with
  | no => rw [e1] at q; exact q
  | ex x s => rw [e1] at q; exact q
  | ok xs s =>
    rw [e1, Res.bind_ok] at q
    intro vs ρ1 E1 H1 P1 r1
    obtain ⟨k, r1⟩ := r1
    subst k
    by_cases hl : fits xs.length = true
    · rw [if_pos hl] at q
      have hl' : xs.length ≤ sizeLine := of_decide_eq_true hl
      refine ⟨by rw [r1.length]; exact hl', fun p hp => Go.new q P1 Come.refl ⟨upd_grow hp, p, rfl, hp, vs, upd_same, ?_⟩⟩
      exact r1.frame (fun a o _ e => upd_grow hp a o e) fun a h => (List.mem_cons.mp h).elim (fun e => .inr (by rw [e]; exact hp)) .inl
    · rw [if_neg hl] at q; exact q.elim
end

/-! ### defs -/
/-- no list, no dict within: what may be handed out though lists of the frame were lent -/
def noL : PyData → Bool
  | .list _ => false
  | .dict _ => false
  | .tuple xs => noLs xs
  | _ => true
where noLs : List PyData → Bool
  | [] => true
  | x :: xs => noL x && noLs xs
def SV.free : SV → Bool
  | .d x => noL x
  | .r _ => false
  | .o (.lst xs) => noL.noLs xs
  | .o _ => false
section
variable {K : PySem.W.Frag} {M M' : List Addr} {H H' : Hp}
mutual
theorem Rp.free : ∀ {v : V} {d : PyData}, Rp K M H v d → noL d = true → Dom M' H → Rp K M' H v d
  | _, _, .non, _, _ => .non
  | _, _, .bl b, _, _ => .bl b
  | _, _, .int i, _, _ => .int i
  | _, _, .str x, _, _ => .str x
  | _, _, .lst n a, h, _ => by simp [noL] at h
  | _, _, .tup n a, h, m => by
    refine .tup ?_ (RpAll.free a (by simpa [noL] using h) m)
    have off : ∀ {b : Addr} {u : HO}, H b = some u → ¬ MutZ u → b ∉ M' := fun e n z => by
      obtain ⟨o, e', h1⟩ := m _ z
      rw [e] at e'
      cases e'
      exact n h1
    rcases n with ⟨r, _, e⟩ | ⟨o, r, d, _⟩ | n
    · exact .inl ⟨r, off r (fun z => z), e⟩
    · exact .inr (.inl ⟨o, r, d, off r (fun z => z)⟩)
    · exact .inr (.inr n)
  | _, _, .dk r n a, h, _ => by simp [noL] at h
  | _, _, .dt r n a, h, _ => by simp [noL] at h
  | _, _, .op a, _, _ => .op a
  | _, _, .any a, _, _ => .any a
  | _, _, .scr n a, h, _ => by simp [noL] at h
  | _, _, .exc _ _ _ _, h, _ => by simp [noL] at h
theorem RpAll.free : ∀ {vs : List V} {ds : List PyData}, RpAll K M H vs ds → noL.noLs ds = true → Dom M' H → RpAll K M' H vs ds
  | _, _, .nil, _, _ => .nil
  | _, _, .cons r a, h, m => by
    simp only [noL.noLs, Bool.and_eq_true] at h
    exact .cons (Rp.free r h.1 m) (RpAll.free a h.2 m)
end
end
/-- what a def of this meaning promises -/
def spF (K : PySem.W.Frag) (mg : Str → Option Value) (F : Fn) (n : Nat) : Sp := fun vs H Q E => vs.length = n ∧ ∃ ρ B h svs, Rel K ρ B ⟨[], h⟩ [] H ∧ Ags K (avd ρ B ⟨[], h⟩ []) H ρ svs vs ∧ match F svs h with
  | .ok sv h' => ∀ v ρ' B' H', Post K ρ B ⟨[], h⟩ [] H ρ' B' ⟨[], h'⟩ [] H' → rE K ρ B ⟨[], h⟩ [] H ρ' B' ⟨[], h'⟩ [] H' sv v → Q v H'
  | .ex x h' => ∀ cls d ρ' B' H', B.Sublist B' → Post K ρ B ⟨[], h⟩ [] H ρ' B' ⟨[], h'⟩ [] H' → XR K mg (avd ρ' B' ⟨[], h'⟩ []) H' x cls d → E cls d H'
  | .no => False
/-- a def's meaning by its body's -/
def fnS (n : Nat) (body : SS) : Fn := fun svs h => match body ⟨svs.map some ++ List.replicate (n - svs.length) none, h⟩ with
  | .rt sv s => .ok sv s.h
  | .nx s => .ok (.d .none) s.h
  | .ex x s => .ex x s.h
  | _ => .no
theorem owns_none : ∀ (n : Nat) (σ : L2.St), owns (List.replicate n none) σ = []
  | 0, σ => by cases σ <;> rfl
  | n + 1, [] => rfl
  | n + 1, w :: σ => by rw [List.replicate_succ, owns_cons, owns_none n σ]; rfl
theorem owns_nil : ∀ (s : List (Option SV)), owns s [] = []
  | [] => rfl
  | none :: _ => rfl
  | some (.d _) :: _ => rfl
  | some (.r _) :: _ => rfl
  | some (.o _) :: _ => rfl
section
variable {K : PySem.W.Frag} {mg : Str → Option Value} {M ρ ρ' E E' : List Addr} {H H' : Hp}
theorem Ags.length {svs : List SV} {vs : List V} (a : Ags K M H ρ svs vs) : svs.length = vs.length := by
  induction a with
  | nil => rfl
  | d _ _ ih => simp [ih]
  | r _ _ ih => simp [ih]
theorem Ags.owns {svs : List SV} {vs : List V} (a : Ags K M H ρ svs vs) (n : Nat) : Z.owns (svs.map some ++ List.replicate n none) (vs.map some ++ List.replicate n none) = [] := by
  induction a with
  | nil => exact owns_none n _
  | d _ _ ih => rw [List.map_cons, List.map_cons, List.cons_append, List.cons_append, owns_cons, ih]; rfl
  | r _ _ ih => rw [List.map_cons, List.map_cons, List.cons_append, List.cons_append, owns_cons, ih]; rfl
theorem Ags.slot {svs : List SV} {vs : List V} (a : Ags K M H ρ svs vs) (n : Nat) : ∀ (i : Nat) (sv : SV), (svs.map some ++ List.replicate n none)[i]? = some (some sv) → ∃ v, (vs.map some ++ List.replicate n none)[i]? = some (some v) ∧ Sl K M H ρ sv v := by
  induction a with
  | nil => intro i sv e; rw [List.map_nil, List.nil_append, List.getElem?_replicate] at e; split at e <;> cases e
  | d r _ ih =>
    intro i sv e
    cases i with
    | zero => simp at e; subst e; exact ⟨_, rfl, r⟩
    | succ i => obtain ⟨v, e1, r⟩ := ih i sv (by simpa using e); exact ⟨v, by simpa using e1, r⟩
  | r r _ ih =>
    intro i sv e
    cases i with
    | zero => simp at e; subst e; exact ⟨_, rfl, _, r, rfl⟩
    | succ i => obtain ⟨v, e1, r⟩ := ih i sv (by simpa using e); exact ⟨v, by simpa using e1, r⟩
/-- only the heap is looked at -/
theorem Rel.bare {st : S} {σ : L2.St} (R : Rel K ρ E st σ H) : Rel K ρ E ⟨[], st.h⟩ [] H := by
  have sub : ∀ a ∈ avd ρ E ⟨[], st.h⟩ [], a ∈ avd ρ E st σ := fun a h => by
    have h : a ∈ ρ ++ [] ++ E := h
    rw [List.append_nil] at h
    rcases List.mem_append.mp h with h | h
    · exact List.mem_append_left _ (List.mem_append_left _ h)
    · exact List.mem_append_right _ h
  refine ⟨?_, fun a h => R.dom a (sub a h), rfl, fun i sv e => by simp at e, R.heap.1, fun k b e => ?_⟩
  · refine R.nd.sublist ?_
    show (ρ ++ [] ++ E).Sublist (ρ ++ owns st.s σ ++ E)
    exact List.Sublist.append (List.Sublist.append (List.Sublist.refl _) (List.nil_sublist _)) (List.Sublist.refl _)
  · obtain ⟨a, ea, ob⟩ := R.heap.2 k b e
    exact ⟨a, ea, ob.mono sub⟩
theorem avd_bare {st : S} {σ : L2.St} : ∀ a ∈ avd ρ E ⟨[], st.h⟩ [], a ∈ avd ρ E st σ := fun a h => by
    have h : a ∈ ρ ++ [] ++ E := h
    rw [List.append_nil] at h
    rcases List.mem_append.mp h with h | h
    · exact List.mem_append_left _ (List.mem_append_left _ h)
    · exact List.mem_append_right _ h
theorem rE.bare {st st' : S} {σ σ' : L2.St} {sv : SV} {v : V} (r : rE K ρ E st σ H ρ' E' st' σ' H' sv v) (ho : owns st.s σ = []) : rE K ρ E ⟨[], st.h⟩ [] H ρ' E' ⟨[], st'.h⟩ [] H' sv v := by
  cases sv with
  | d x => exact ⟨r.1, Rp.mono avd_bare r.2⟩
  | r k => exact r
  | o b =>
    obtain ⟨p, e1, e2, h, ob⟩ := r
    refine ⟨p, e1, e2, ?_, ob.mono avd_bare⟩
    have h : p ∈ ρ ++ owns st.s σ ∨ H p = none := h
    rw [ho] at h
    exact h
variable {P : Program} {w : World} {base : Heap}
/-- THE RULE for a def: the meaning of its body -/
theorem fn_ok {x qual : Str} {st : Stmt} {f : Addr} {fd : FuncData} {N ps : List Str} {k : Nat} {body : SS} (F : Fun K x qual st f fd) (S' : FnScope N ps (defScope st)) (hN : ps.length ≤ N.length := by decide)
    (h : ∀ (cdv : Value) (A : Around) (outer : List Env) (s : Shared) (H : Hp) (E : XK), Room k (A.deeper (envOfC qual (defScope st) s.heap.objs.size f cdv)) → Takes (cxOf (L2.CX P w) P w K mg base N qual (defScope st) f cdv A outer s H E) (fun cls d _ H' => E cls d H') →
      ZSs (cxOf (L2.CX P w) P w K mg base N qual (defScope st) f cdv A outer s H E) (fun cls d _ H' => E cls d H') (defBody st) body) :
    FnOk P w K mg base (L2.CX P w) (k + 1) f fd ps (spF K mg (fnS N.length body) ps.length) := by
  refine F.okX S' (fun vs H Q E h => h.1) fun cdv A outer s H vs Q E hr hsp => ?_
  obtain ⟨hl, ρ, B, hp, svs, R, ag, hq⟩ := hsp
  refine ⟨_, h cdv A outer s H E hr (takes_of rfl rfl rfl rfl), ?_⟩
  have eN : (start N vs) = vs.map some ++ List.replicate (N.length - vs.length) none := rfl
  have hlen := ag.length
  have ho : owns (svs.map some ++ List.replicate (N.length - svs.length) none) (start N vs) = [] := by rw [eN, hlen]; exact ag.owns _
  have R1 : Rel K ρ B ⟨svs.map some ++ List.replicate (N.length - svs.length) none, hp⟩ (start N vs) H := by
    have ea : avd ρ B ⟨svs.map some ++ List.replicate (N.length - svs.length) none, hp⟩ (start N vs) = avd ρ B ⟨[], hp⟩ [] := by
      show ρ ++ owns _ _ ++ B = ρ ++ [] ++ B
      rw [ho]
    refine ⟨by rw [ea]; exact R.nd, by rw [ea]; exact R.dom, ?_, fun i sv e => ?_, R.heap.1, fun k b e => ?_⟩
    · rw [eN]; simp [hlen]
    · rw [ea, eN, ← hlen]
      have := ag.slot (N.length - svs.length) i sv e
      exact this
    · obtain ⟨a, e1, ob⟩ := R.heap.2 k b e
      exact ⟨a, e1, by rw [ea]; exact ob⟩
  have post : ∀ {ρ' E' st' σ' H'}, Post K ρ B ⟨svs.map some ++ List.replicate (N.length - svs.length) none, hp⟩ (start N vs) H ρ' E' st' σ' H' → Post K ρ B ⟨[], hp⟩ [] H ρ' E' ⟨[], st'.h⟩ [] H' := fun {ρ' E' st' σ' H'} p => by
    have ec : chg ρ ⟨svs.map some ++ List.replicate (N.length - svs.length) none, hp⟩ (start N vs) = chg ρ ⟨[], hp⟩ [] := by
      show ρ ++ owns _ _ = ρ ++ []
      rw [ho]
    refine ⟨p.rel.bare, p.pre, fun a o n e => p.fr a o (by rw [ec]; exact n) e, fun a h => ?_⟩
    have h : a ∈ ρ' ++ [] := h
    rw [List.append_nil] at h
    have := p.mu a (List.mem_append_left _ h)
    rw [ec] at this
    exact this
  refine ⟨ρ, B, _, R1, ?_⟩
  unfold fnS at hq
  show (match body ⟨svs.map some ++ List.replicate (N.length - svs.length) none, hp⟩ with
    | .nx st' => _
    | .bk st' => _
    | .ct st' => _
    | .rt sv st' => _
    | .ex x st' => _
    | .no => _)
  cases e : body ⟨svs.map some ++ List.replicate (N.length - svs.length) none, hp⟩ with
  | no => rw [e] at hq; exact hq
  | bk s => rw [e] at hq; exact hq.elim
  | ct s => rw [e] at hq; exact hq.elim
  | nx s => rw [e] at hq; exact fun ρ' σ' H' p => hq .non ρ' B H' (post p) ⟨rfl, .non⟩
  | rt sv s => rw [e] at hq; exact fun v ρ' E' σ' H' p r => hq v ρ' E' H' (post p) (r.bare ho)
  | ex x s => rw [e] at hq; exact fun cls d ρ' E' σ' H' sub p xr => hq cls d ρ' E' H' sub (post p) (by
      obtain ⟨C, h1, h2, h3⟩ := xr
      refine ⟨C, h1, h2, ?_⟩
      rcases h3 with h3 | ⟨dd, vs, e1, e2, e3, e4⟩
      · exact .inl h3
      · exact .inr ⟨dd, vs, e1, e2, fun z => e3 (avd_bare _ z), e4.mono avd_bare⟩)
end
end Z

set_option maxRecDepth 100000
set_option maxHeartbeats 4000000
namespace Z
open PySem PySem.Spec PyProof.Rows L2

/-- a call of a def that changes nothing of ours: its arguments are read; what it gives holds no list of ours that was lent -/
def okP (ps : List Pl) : SV → Bool
  | .r _ => false
  | v => ps.all Pl.still || v.free
def okX (ps : List Pl) (x : Ex) : Bool := ps.all Pl.still || noL.noLs (x.fs.map (·.2))
def ePure (F : Fn) (fs : List SPl) : SE := fun s => (pls fs s).bind fun ps s => match ldAll s ps with
  | none => .no
  | some ds => match F (ds.map .d) [] with
    | .ok v _ => if okP ps v = true then .ok v s else .no
    | .ex x _ => if okX ps x = true then .ex x s else .no
    | .no => .no
/-- a call of a def that may change what stands in the small heap -/
def ags : List SE → S → Res (List SV)
  | [], s => .ok [] s
  | f :: fs, s => (f s).bind fun sv s => (ags fs s).bind fun vs s => .ok (sv.arg :: vs) s
def eCall (F : Fn) (fs : List SE) : SE := fun s => (ags fs s).bind fun vs s => match F vs s.h with
  | .ok v h => .ok v { s with h := h }
  | .ex x h => .ex x { s with h := h }
  | .no => .no
def ZAs (X : Cx) (W : WX) (es : List Expr) (fs : List SE) : Prop := PA X es (tzA X.K X.mg W (ags fs))
section
variable {X : Cx} {W : WX} {K : PySem.W.Frag} {mg : Str → Option Value} {M ρ ρ' ρ'' E E' E'' : List Addr} {st st' st'' : S} {σ : L2.St} {H H' H'' : Hp}
theorem TopAll.free {vs : List V} {ds : List PyData} (t : TopAll K M H vs ds) : RpAll K [] H vs ds := by
  induction t with
  | nil => exact .nil
  | cons t _ ih =>
    refine .cons ?_ ih
    cases t with
    | rp r => exact r.mono (fun _ h => absurd h List.not_mem_nil)
    | ob o => exact o.rp List.not_mem_nil (fun _ h => absurd h List.not_mem_nil)
theorem RpAll.ags : ∀ {vs : List V} {ds : List PyData}, RpAll K M H vs ds → Ags K M H ρ (ds.map .d) vs := fun {vs ds} h => by
  induction ds generalizing vs with
  | nil => cases h; exact .nil
  | cons d ds ih =>
    cases h with
    | cons r a => exact .d r (ih a)
theorem Ags.frame {vs : List V} {svs : List SV} (P : Post K ρ E st σ H ρ' E' st' σ H') (c : Come ρ E st σ H E') (a : Ags K (avd ρ E st σ) H ρ svs vs) : Ags K (avd ρ' E' st' σ) H' ρ' svs vs := by
  induction a with
  | nil => exact .nil
  | d r _ ih => exact .d (P.rp c.2 r) ih
  | r e _ ih => exact .r (P.dt e) ih
theorem rel_nil {B : List Addr} (nd : B.Nodup) (dm : Dom B H) : Rel K [] B ⟨[], []⟩ [] H :=
  ⟨by simpa [owns] using nd, fun a h => dm a (by simpa [owns] using h), rfl, fun i sv e => by simp at e, rfl, fun k b e => by simp at e⟩
theorem SV.free_d {M' : List Addr} {sv : SV} {v : V} (h : sv.free = true) (dm : Dom M' H') (n : New K M H H' sv v) (hM : ∀ p, H p = none → Dom M' H') (hf : ∀ p ∈ M', ∃ o, H p = some o) : New K M' H H' sv v := by
  obtain ⟨g, n⟩ := n
  refine ⟨g, ?_⟩
  cases sv with
  | d x => exact Rp.free n h dm
  | r k => exact n
  | o b =>
    obtain ⟨p, e1, hp, ob⟩ := n
    refine ⟨p, e1, hp, ?_⟩
    cases b with
    | lst ds =>
      obtain ⟨xs, e2, r⟩ := ob
      refine ⟨xs, e2, RpAll.free r h fun a ha => ?_⟩
      rcases List.mem_cons.mp ha with rfl | ha
      · exact ⟨_, e2, trivial⟩
      · exact dm a ha
    | dk kds => cases h
    | dt kds => cases h
    | tb p q => cases h
theorem rE.new {B B' : List Addr} {sv : SV} {v : V} (P : Post K [] B ⟨[], []⟩ [] H ρ' B' st' [] H') (r : rE K [] B ⟨[], []⟩ [] H ρ' B' st' [] H' sv v) (hr : ∀ k, sv ≠ .r k) : New K B H H' sv v := by
  refine ⟨fun a o e => P.fr a o (by simp [owns]) e, ?_⟩
  have sub : ∀ {F : List Addr}, ∀ a ∈ F, a ∈ avd ρ' F st' [] := fun a h => List.mem_append_right _ h
  cases sv with
  | d x => obtain ⟨e, r⟩ := r; subst e; exact Rp.mono sub r
  | r k => exact absurd rfl (hr k)
  | o b =>
    obtain ⟨p, e1, e2, h, ob⟩ := r
    subst e2
    refine ⟨p, e1, ?_, ob.mono sub⟩
    rcases h with h | h
    · simp [owns] at h
    · exact h
theorem zas_nil : ZAs X W [] [] := PA.mono pa_nil fun σ H Q ⟨ρ, E, st, R, q⟩ => q [] ρ E H (.refl R) ⟨rfl, .nil⟩
theorem zas_cons {e : Expr} {es : List Expr} {f : SE} {fs : List SE} (h : ZE X W e f) (hs : ZAs X W es fs) (hst : starEach (e :: es) X.env = (false, eval e X.env) :: starEach es X.env := by rfl) : ZAs X W (e :: es) (f :: fs) := by
  refine PA.mono (pa_cons h hs hst) fun σ H Q ⟨ρ, E, st, R, q⟩ => ⟨ρ, E, st, R, ?_⟩
  have q : Go X.K X.mg W (rAg X.K) Q ρ E st σ H ((f st).bind fun sv s => (ags fs s).bind fun xs s => .ok (sv.arg :: xs) s) := q
  cases e1 : f st with
  | no => rw [e1] at q; exact q
  | ex x s => rw [e1] at q; exact q
  | ok sv s =>
    rw [e1, Res.bind_ok] at q
    intro v ρ1 E1 H1 P1 r1
    have fin : ∀ {F : List Addr}, F = E → Post X.K ρ E st σ H ρ1 F s σ H1 → (∀ {ρ2 s2 H2 vs svs}, Post X.K ρ1 F s σ H1 ρ2 F s2 σ H2 → Ags X.K (avd ρ2 F s2 σ) H2 ρ2 svs vs → Ags X.K (avd ρ2 F s2 σ) H2 ρ2 (sv.arg :: svs) (v :: vs)) → tzA X.K X.mg W (ags fs) σ H1 fun xs H2 => Q (v :: xs) H2 := fun {F} hF P hadd => by
      subst hF
      refine ⟨ρ1, F, s, P.rel, ?_⟩
      cases e2 : ags fs s with
      | no => rw [e2] at q; exact q
      | ex x2 s2 => rw [e2] at q; exact Go.exs q P Come.refl
      | ok xs s2 =>
        rw [e2, Res.bind_ok] at q
        intro vs ρ2 E2 H2 P2 r2
        obtain ⟨k, r2⟩ := r2
        subst k
        exact q (v :: vs) ρ2 E2 H2 (P.trans P2) ⟨rfl, hadd P2 r2⟩
    cases sv with
    | d x =>
      obtain ⟨k, r⟩ := r1
      exact fin k P1 fun {ρ2 s2 H2 vs svs} P2 a => .d (P2.rp Come.refl.2 r) a
    | r k =>
      obtain ⟨k1, a, ea, rfl⟩ := r1
      exact fin k1 P1 fun {ρ2 s2 H2 vs svs} P2 a => .r (P2.dt ea) a
    | o b =>
      obtain ⟨P1', r⟩ := rE.keep (x := b.data) r1 P1 rfl
      exact fin rfl P1' fun {ρ2 s2 H2 vs svs} P2 a => .d (P2.rp Come.refl.2 r) a
variable {k : Nat} {f : Addr} {fd : FuncData} {ps : List Str} {F : Fn} {x : Str} {p pos : Pos} {e : Expr} {es : List Expr}
theorem corePure {fs : List SPl} {Q : VK} {n : Nat} (h : tzE K mg W (ePure F fs) σ H Q) (hnn : fs.length = n) :
    (tzPs K mg W (pls fs)) σ H fun vs H1 => spF K mg F n vs H1 Q (WE W σ) := by
  obtain ⟨ρ, E, st, R, q⟩ := h
  refine ⟨ρ, E, st, R, ?_⟩
  unfold ePure at q
  have hps : ∀ (fs : List SPl) (st : S) ps s, pls fs st = .ok ps s → ps.length = fs.length := by
    intro fs
    induction fs with
    | nil => intro st ps s e; cases e; rfl
    | cons f fs ih =>
      intro st ps s e
      have e : ((f st).bind fun p s => (pls fs s).bind fun ps s => Res.ok (p :: ps) s) = .ok ps s := e
      cases e1 : f st with
      | no => rw [e1] at e; cases e
      | ex x s => rw [e1] at e; cases e
      | ok p s1 =>
        rw [e1, Res.bind_ok] at e
        cases e2 : pls fs s1 with
        | no => rw [e2] at e; cases e
        | ex x s => rw [e2] at e; cases e
        | ok ps1 s2 => rw [e2, Res.bind_ok] at e; cases e; simp [ih s1 ps1 s e2]
  have hld : ∀ (s : S) (ps : List Pl) ds, ldAll s ps = some ds → ds.length = ps.length := by
    intro s ps
    induction ps with
    | nil => intro ds e; cases e; rfl
    | cons p ps ih =>
      intro ds e
      have e : ((ld s p).bind fun x => (ldAll s ps).bind fun xs => some (x :: xs)) = some ds := e
      cases l1 : ld s p with
      | none => rw [l1] at e; cases e
      | some d =>
        cases l2 : ldAll s ps with
        | none => rw [l1, l2] at e; cases e
        | some dss => rw [l1, l2] at e; cases e; simp [ih dss l2]
  cases e1 : pls fs st with
  | no => rw [e1] at q; exact q
  | ex x s => rw [e1] at q; exact q
  | ok pl s =>
    rw [e1, Res.bind_ok] at q
    intro vs ρ1 E1 H1 P1 r1
    cases l1 : ldAll s pl with
    | none => rw [l1] at q; exact q.elim
    | some ds =>
      rw [l1] at q
      obtain ⟨t1, t2⟩ := r1.2 _ _ _ _ (.refl P1.rel) Come.refl ds l1
      have q : Go K mg W (rE K) Q ρ E st σ H (match F (ds.map .d) [] with
        | .ok v _ => if okP pl v = true then .ok v s else .no
        | .ex x _ => if okX pl x = true then .ex x s else .no
        | .no => .no) := q
      have P0 : Post K ρ E st σ H ρ1 E s σ H1 := P1.sub r1.1.1
      have nl : vs.length = n := by
        rw [(TopAll.free t1).length, hld s pl ds l1, hps fs st pl s e1, hnn]
      refine ⟨nl, ?_⟩
      by_cases hs : pl.all Pl.still = true
      · refine ⟨[], avd ρ1 E s σ, [], ds.map .d, rel_nil P0.rel.nd P0.rel.dom, RpAll.ags (by simpa [owns] using t2 hs), ?_⟩
        cases eF : F (ds.map .d) [] with
        | no => rw [eF] at q; exact q
        | ok sv h' =>
          rw [eF] at q
          have hr : okP pl sv = true := by
            by_cases z : okP pl sv = true
            · exact z
            · have q : Go K mg W (rE K) Q ρ E st σ H (if okP pl sv = true then .ok sv s else .no) := q
              rw [if_neg z] at q; exact q.elim
          have q : Go K mg W (rE K) Q ρ E st σ H (if okP pl sv = true then .ok sv s else .no) := q
          rw [if_pos hr] at q
          intro v ρ' B' H' P r
          exact Go.new q P0 Come.refl (r.new P fun k z => by subst z; simp [okP] at hr)
        | ex x h' =>
          rw [eF] at q
          have hr : okX pl x = true := by simp [okX, hs]
          have q : Go K mg W (rE K) Q ρ E st σ H (if okX pl x = true then .ex x s else .no) := q
          rw [if_pos hr] at q
          intro cls d ρ' B' H' sub P xr
          have g : ∀ a o, H1 a = some o → H' a = some o := fun a o e => P.fr a o (by simp [owns]) e
          refine q cls d ρ1 E H' (.refl _) (P0.trans ⟨P0.rel.grow g, List.prefix_refl _, fun a o _ e => g a o e, fun a h => .inl h⟩) ?_
          obtain ⟨C, h1, h2, h3⟩ := xr
          refine ⟨C, h1, h2, ?_⟩
          have ss : ∀ a ∈ avd ρ1 E s σ, a ∈ avd ρ' B' ⟨[], h'⟩ [] := fun a h => List.mem_append_right _ (sub.subset h)
          rcases h3 with h3 | ⟨dd, vs, e1, e2, e3, e4⟩
          · exact .inl h3
          · exact .inr ⟨dd, vs, e1, e2, fun z => e3 (ss _ z), e4.mono ss⟩
      · refine ⟨[], [], [], ds.map .d, rel_nil List.nodup_nil (fun _ h => absurd h List.not_mem_nil), RpAll.ags (by simpa [owns] using TopAll.free t1), ?_⟩
        cases eF : F (ds.map .d) [] with
        | no => rw [eF] at q; exact q
        | ok sv h' =>
          rw [eF] at q
          have q : Go K mg W (rE K) Q ρ E st σ H (if okP pl sv = true then .ok sv s else .no) := q
          have hr : okP pl sv = true := by
            by_cases z : okP pl sv = true
            · exact z
            · rw [if_neg z] at q; exact q.elim
          rw [if_pos hr] at q
          intro v ρ' B' H' P r
          have hf : sv.free = true := by
            cases sv with
            | r k => simp [okP] at hr
            | d x => simpa [okP, hs] using hr
            | o b => simpa [okP, hs] using hr
          have g : ∀ a o, H1 a = some o → H' a = some o := fun a o e => P.fr a o (by simp [owns]) e
          have dm : Dom (avd ρ1 E s σ) H' := (P0.rel.grow g).dom
          refine Go.new q P0 Come.refl (SV.free_d hf dm (r.new P fun k z => by subst z; simp [okP] at hr) (fun _ _ => dm) fun p hp => ?_)
          obtain ⟨o, e, _⟩ := P0.rel.dom p hp
          exact ⟨o, e⟩
        | ex x h' =>
          rw [eF] at q
          have q : Go K mg W (rE K) Q ρ E st σ H (if okX pl x = true then .ex x s else .no) := q
          have hr : okX pl x = true := by
            by_cases z : okX pl x = true
            · exact z
            · rw [if_neg z] at q; exact q.elim
          rw [if_pos hr] at q
          intro cls d ρ' B' H' sub P xr
          have g : ∀ a o, H1 a = some o → H' a = some o := fun a o e => P.fr a o (by simp [owns]) e
          have dm : Dom (avd ρ1 E s σ) H' := (P0.rel.grow g).dom
          refine q cls d ρ1 E H' (.refl _) (P0.trans ⟨P0.rel.grow g, List.prefix_refl _, fun a o _ e => g a o e, fun a h => .inl h⟩) ?_
          obtain ⟨C, h1, h2, h3⟩ := xr
          refine ⟨C, h1, h2, ?_⟩
          rcases h3 with h3 | ⟨dd, vs, e1, e2, e3, e4⟩
          · exact .inl h3
          · refine .inr ⟨dd, vs, e1, e2, fun z => ?_, RpAll.free (M' := avd ρ1 E s σ) e4 (by simpa [okX, hs] using hr) dm⟩
            obtain ⟨o, e5, m⟩ := dm _ z
            rw [e2] at e5; cases e5
            exact m
theorem ze_pure {fs : List SPl} (Fk : FnOk X.prog X.w X.K X.mg X.base (L2.CX X.prog X.w) k f fd ps (spF X.K X.mg F fs.length)) (tk : Takes X W) (hr : Room k X.A) (hg : Gl X x) (hm : X.mg x = some (.ref f)) (hk : PySem.W.keepIn X.K (.ref f) = true) (hb : Binds X.K fd ps [])
    (ha : ZPs X W (e :: es) fs) (hdb : (x == ("__debug__" : Str)) = false := by decide) (he : starEach (e :: es) X.env = (false, eval e X.env) :: starEach es X.env := by rfl) (hpl : (backTo pos (starEach es X.env)).any (·.1) = false := by rfl) :
    ZE X W (.Call (.Name x p) (e :: es) [] pos) (ePure F fs) := by
  refine PE.mono (pe_callSD (E := fun σ => WE W σ) Fk hr hg hm hk hb .nil (fun σ => passAt tk σ) ha hdb he hpl) fun σ H Q h => ?_
  have := corePure h rfl
  exact tzE.mono this fun vs H1 q => by rw [List.append_nil]; exact q
theorem Ags.mono {M' : List Addr} {svs : List SV} {vs : List V} (m : ∀ a ∈ M', a ∈ M) (a : Ags K M H ρ svs vs) : Ags K M' H ρ svs vs := by
  induction a with
  | nil => exact .nil
  | d r _ ih => exact .d (r.mono m) ih
  | r e _ ih => exact .r e ih
/-- behind a call, in the caller's frame -/
theorem backCall {Q : VK} {W : WX} {r : FR} {ρ1 : List Addr} {s : S} {H1 : Hp} (P1 : Post K ρ E st σ H ρ1 E s σ H1) (q : Go K mg W (rE K) Q ρ E st σ H (match r with
      | .ok v h => .ok v { s with h := h }
      | .ex x h => .ex x { s with h := h }
      | .no => .no)) : Rel K ρ1 (owns s.s σ ++ E) ⟨[], s.h⟩ [] H1 ∧ (∀ a, a ∈ avd ρ1 (owns s.s σ ++ E) ⟨[], s.h⟩ [] ↔ a ∈ avd ρ1 E s σ) ∧ match (generalizing := false) r with
  | .ok sv h' => ∀ v ρ' B' H', Post K ρ1 (owns s.s σ ++ E) ⟨[], s.h⟩ [] H1 ρ' B' ⟨[], h'⟩ [] H' → rE K ρ1 (owns s.s σ ++ E) ⟨[], s.h⟩ [] H1 ρ' B' ⟨[], h'⟩ [] H' sv v → Q v H'
  | .ex x h' => ∀ cls d ρ' B' H', (owns s.s σ ++ E).Sublist B' → Post K ρ1 (owns s.s σ ++ E) ⟨[], s.h⟩ [] H1 ρ' B' ⟨[], h'⟩ [] H' → XR K mg (avd ρ' B' ⟨[], h'⟩ []) H' x cls d → W cls d σ H'
  | .no => False := by
  have ea : avd ρ1 (owns s.s σ ++ E) ⟨[], s.h⟩ [] = avd ρ1 E s σ := by
    show ρ1 ++ [] ++ (owns s.s σ ++ E) = ρ1 ++ owns s.s σ ++ E
    simp
  have R1 : Rel K ρ1 (owns s.s σ ++ E) ⟨[], s.h⟩ [] H1 := by
    refine ⟨by rw [ea]; exact P1.rel.nd, by rw [ea]; exact P1.rel.dom, rfl, fun i sv e => by simp at e, P1.rel.heap.1, fun k b e => ?_⟩
    obtain ⟨a, e2, ob⟩ := P1.rel.heap.2 k b e
    exact ⟨a, e2, by rw [ea]; exact ob⟩
  have fr0 : ∀ {ρ' B' h' H'}, Post K ρ1 (owns s.s σ ++ E) ⟨[], s.h⟩ [] H1 ρ' B' ⟨[], h'⟩ [] H' → ∀ a o, a ∉ ρ1 → H1 a = some o → H' a = some o := fun P a o n e => P.fr a o (by simpa [owns] using n) e
  have apart : ∀ {i : Nat} {b : PO} {a : Addr}, s.s[i]? = some (some (.o b)) → σ[i]? = some (some (.ref a)) → a ∉ ρ1 := fun {i b a} e ev z => by
    have nd := P1.rel.nd
    rw [show avd ρ1 E s σ = (ρ1 ++ owns s.s σ) ++ E from rfl, List.nodup_append, List.nodup_append] at nd
    exact nd.1.2.2 a z a (own_mem P1.rel.len e ev) rfl
  -- behind the call
  have back : ∀ {ρ' B' h' H'}, (owns s.s σ ++ E).Sublist B' → Post K ρ1 (owns s.s σ ++ E) ⟨[], s.h⟩ [] H1 ρ' B' ⟨[], h'⟩ [] H' → Post K ρ1 E s σ H1 ρ' E { s with h := h' } σ H' := fun {ρ' B' h' H'} sub P => by
    have R2 := P.rel.sub sub
    have ea2 : avd ρ' (owns s.s σ ++ E) ⟨[], h'⟩ [] = avd ρ' E { s with h := h' } σ := by
      show ρ' ++ [] ++ (owns s.s σ ++ E) = ρ' ++ owns s.s σ ++ E
      simp
    have fr : ∀ a o, a ∉ ρ1 → H1 a = some o → H' a = some o := fun a o n e => P.fr a o (by simpa [owns] using n) e
    have mu' : ∀ a ∈ ρ', a ∈ ρ1 ∨ H1 a = none := fun a h => by
      have := P.mu a (by simpa [owns] using h)
      simpa [owns] using this
    have fr2 : ∀ a o, a ∉ avd ρ1 E s σ → H1 a = some o → H' a = some o := fun a o n e => fr a o (fun z => n (chg_sub (List.mem_append_left _ z))) e
    have mu2 : ∀ a ∈ avd ρ' E { s with h := h' } σ, a ∈ avd ρ1 E s σ ∨ H1 a = none := fun a h => by
      have h : a ∈ ρ' ++ owns s.s σ ++ E := h
      rcases List.mem_append.mp h with h | h
      · rcases List.mem_append.mp h with h | h
        · rcases mu' a h with z | z
          · exact .inl (chg_sub (List.mem_append_left _ z))
          · exact .inr z
        · exact .inl (chg_sub (List.mem_append_right _ h))
      · exact .inl (List.mem_append_right _ h)
    refine ⟨⟨by rw [← ea2]; exact R2.nd, by rw [← ea2]; exact R2.dom, P1.rel.len, fun i sv e => ?_, R2.heap.1, fun k b e => ?_⟩, P.pre, fun a o n e => fr a o (fun z => n (List.mem_append_left _ z)) e, fun a h => ?_⟩
    · obtain ⟨v, ev, r⟩ := P1.rel.slot i sv e
      refine ⟨v, ev, ?_⟩
      cases sv with
      | d x => exact Rp.frame fr2 mu2 r
      | r k => obtain ⟨a, e3, e4⟩ := r; exact ⟨a, P.dt e3, e4⟩
      | o b =>
        obtain ⟨a, e3, ob⟩ := r
        subst e3
        exact ⟨a, rfl, ob.frame (fun o e9 => fr a o (apart e ev) e9) fr2 mu2⟩
    · obtain ⟨a, e3, ob⟩ := R2.heap.2 k b e
      exact ⟨a, e3, by rw [← ea2]; exact ob⟩
    · have h : a ∈ ρ' ++ owns s.s σ := h
      rcases List.mem_append.mp h with h | h
      · rcases mu' a h with z | z
        · exact .inl (List.mem_append_left _ z)
        · exact .inr z
      · exact .inl (List.mem_append_right _ h)
  refine ⟨R1, fun a => by rw [ea], ?_⟩
  cases r with
  | no => exact q
  | ex x h' =>
    intro cls d ρ' B' H' sub P xr
    refine q cls d ρ' E H' (.refl _) (P1.trans (back sub P)) ?_
    obtain ⟨C, h1, h2, h3⟩ := xr
    refine ⟨C, h1, h2, ?_⟩
    have ss : ∀ a ∈ avd ρ' E { s with h := h' } σ, a ∈ avd ρ' B' ⟨[], h'⟩ [] := fun a h => by
      have h : a ∈ ρ' ++ owns s.s σ ++ E := h
      show a ∈ ρ' ++ [] ++ B'
      rw [List.append_nil]
      rw [List.append_assoc] at h
      rcases List.mem_append.mp h with h | h
      · exact List.mem_append_left _ h
      · exact List.mem_append_right _ (sub.subset h)
    rcases h3 with h3 | ⟨dd, vs, e1, e2, e3, e4⟩
    · exact .inl h3
    · exact .inr ⟨dd, vs, e1, e2, fun z => e3 (ss _ z), e4.mono ss⟩
  | ok sv h' =>
    intro v ρ' B' H' P r
    cases sv with
    | d y =>
      obtain ⟨e2, r⟩ := r
      subst e2
      refine q v ρ' E H' (P1.trans (back (.refl _) P)) ⟨rfl, r.mono fun a h => ?_⟩
      have h : a ∈ ρ' ++ owns s.s σ ++ E := h
      show a ∈ ρ' ++ [] ++ (owns s.s σ ++ E)
      simpa using h
    | r k =>
      obtain ⟨e2, a, e3, e4⟩ := r
      subst e2
      exact q v ρ' E H' (P1.trans (back (.refl _) P)) ⟨rfl, a, e3, e4⟩
    | o b =>
      obtain ⟨c, e2, e3, hc, ob⟩ := r
      subst e3
      have Pb := back (List.sublist_cons_self _ _) P
      have hc' : H1 c = none := by
        rcases hc with hc | hc
        · exfalso
          have hc : c ∈ ρ1 := by simpa [owns] using hc
          have := P.rel.fresh
          exact this (by
            show c ∈ ρ' ++ [] ++ (owns s.s σ ++ E)
            rw [List.append_nil]
            exact List.mem_append_left _ (P.pre.subset hc))
        · exact hc
      have e5 : ∀ a, a ∈ avd ρ' (c :: (owns s.s σ ++ E)) ⟨[], h'⟩ [] ↔ a ∈ avd ρ' (c :: E) { s with h := h' } σ := fun a => by
        show a ∈ ρ' ++ [] ++ (c :: (owns s.s σ ++ E)) ↔ a ∈ ρ' ++ owns s.s σ ++ c :: E
        simp only [List.mem_append, List.mem_cons, List.not_mem_nil, or_false]
        constructor
        · rintro (h | h | h | h)
          · exact .inl (.inl h)
          · exact .inr (.inl h)
          · exact .inl (.inr h)
          · exact .inr (.inr h)
        · rintro ((h | h) | h | h)
          · exact .inl h
          · exact .inr (.inr (.inl h))
          · exact .inr (.inl h)
          · exact .inr (.inr (.inr h))
      have Pc : Post K ρ1 E s σ H1 ρ' (c :: E) { s with h := h' } σ H' := by
        have Rb := Pb.rel
        have perm : (avd ρ' (c :: E) { s with h := h' } σ).Perm (c :: avd ρ' E { s with h := h' } σ) := List.perm_middle
        have nc : c ∉ avd ρ' E { s with h := h' } σ := fun z => P.rel.fresh (by
          have z : c ∈ ρ' ++ owns s.s σ ++ E := z
          show c ∈ ρ' ++ [] ++ (owns s.s σ ++ E)
          simpa using z)
        refine ⟨⟨perm.nodup_iff.mpr (List.nodup_cons.mpr ⟨nc, Rb.nd⟩), fun a h => P.rel.dom a ((e5 a).mpr h), Rb.len, fun i sv e => ?_, Rb.heap.1, fun k b e => ?_⟩, Pb.pre, Pb.fr, Pb.mu⟩
        · obtain ⟨w, ew, r⟩ := P1.rel.slot i sv e
          have fr : ∀ a o, a ∉ avd ρ1 E s σ → H1 a = some o → H' a = some o := Pb.avf
          have mm : ∀ a ∈ avd ρ' (c :: E) { s with h := h' } σ, a ∈ avd ρ1 E s σ ∨ H1 a = none := fun a h => by
            rcases List.mem_cons.mp (perm.mem_iff.mp h) with rfl | h
            · exact .inr hc'
            · exact Pb.avm Come.refl.2 a h
          refine ⟨w, ew, ?_⟩
          cases sv with
          | d x => exact Rp.frame fr mm r
          | r k => obtain ⟨a, e3, e4⟩ := r; exact ⟨a, Pb.dt e3, e4⟩
          | o b' =>
            obtain ⟨a, e3, ob'⟩ := r
            subst e3
            exact ⟨a, rfl, ob'.frame (fun o e6 => fr0 P a o (apart e ew) e6) fr mm⟩
        · obtain ⟨a, e3, ob'⟩ := P.rel.heap.2 k b e
          exact ⟨a, e3, ob'.mono fun a h => (e5 a).mpr h⟩
      exact q v ρ' (c :: E) H' (P1.trans Pc) ⟨c, e2, rfl, (by
        by_cases hm : c ∈ chg ρ st σ
        · exact .inl hm
        · refine .inr ?_
          cases e : H c with
          | none => rfl
          | some o => rw [P1.fr c o hm e] at hc'; cases hc'), ob.mono fun a h => (e5 a).mpr h⟩
/-- .. with what may change -/
theorem coreCall {fs : List SE} {Q : VK} {n : Nat} (h : tzE K mg W (eCall F fs) σ H Q) (hnn : fs.length = n) : (tzA K mg W (ags fs)) σ H fun vs H1 => spF K mg F n vs H1 Q (WE W σ) := by
  obtain ⟨ρ, E, st, R, q⟩ := h
  refine ⟨ρ, E, st, R, ?_⟩
  unfold eCall at q
  have hps : ∀ (fs : List SE) (st : S) ps s, ags fs st = .ok ps s → ps.length = fs.length := by
    intro fs
    induction fs with
    | nil => intro st ps s e; cases e; rfl
    | cons f fs ih =>
      intro st ps s e
      have e : ((f st).bind fun p s => (ags fs s).bind fun ps s => Res.ok (p.arg :: ps) s) = .ok ps s := e
      cases e1 : f st with
      | no => rw [e1] at e; cases e
      | ex x s => rw [e1] at e; cases e
      | ok p s1 =>
        rw [e1, Res.bind_ok] at e
        cases e2 : ags fs s1 with
        | no => rw [e2] at e; cases e
        | ex x s => rw [e2] at e; cases e
        | ok ps1 s2 => rw [e2, Res.bind_ok] at e; cases e; simp [ih s1 ps1 s e2]
  cases e1 : ags fs st with
  | no => rw [e1] at q; exact q
  | ex x s => rw [e1] at q; exact q
  | ok svs s =>
    rw [e1, Res.bind_ok] at q
    intro vs ρ1 E1 H1 P1 r1
    obtain ⟨k, ag⟩ := r1
    subst k
    have q : Go K mg W (rE K) Q ρ E1 st σ H (match F svs s.h with
      | .ok v h => .ok v { s with h := h }
      | .ex x h => .ex x { s with h := h }
      | .no => .no) := q
    obtain ⟨R1, ea, main⟩ := backCall P1 q
    refine ⟨by rw [← ag.length, hps fs st svs s e1, hnn], ρ1, owns s.s σ ++ E1, s.h, svs, R1, ?_, main⟩
    exact ag.mono fun a h => (ea a).mp h
theorem ze_call {fs : List SE} (Fk : FnOk X.prog X.w X.K X.mg X.base (L2.CX X.prog X.w) k f fd ps (spF X.K X.mg F fs.length)) (tk : Takes X W) (hr : Room k X.A) (hg : Gl X x) (hm : X.mg x = some (.ref f)) (hk : PySem.W.keepIn X.K (.ref f) = true) (hb : Binds X.K fd ps [])
    (ha : ZAs X W (e :: es) fs) (hdb : (x == ("__debug__" : Str)) = false := by decide) (he : starEach (e :: es) X.env = (false, eval e X.env) :: starEach es X.env := by rfl) (hpl : (backTo pos (starEach es X.env)).any (·.1) = false := by rfl) :
    ZE X W (.Call (.Name x p) (e :: es) [] pos) (eCall F fs) := by
  refine PE.mono (pe_callSD (E := fun σ => WE W σ) Fk hr hg hm hk hb .nil (fun σ => passAt tk σ) ha hdb he hpl) fun σ H Q h => ?_
  exact tzE.mono (coreCall h rfl) fun vs H1 q => by rw [List.append_nil]; exact q
end
end Z

set_option maxRecDepth 100000
set_option maxHeartbeats 4000000
namespace Z
open PySem PySem.Spec PyProof.Rows L2

section
variable {X : Cx} {W : WX} {K : PySem.W.Frag} {mg : Str → Option Value} {M ρ ρ' ρ'' E E' E'' : List Addr} {st st' st'' : S} {σ σ' : L2.St} {H H' H'' : Hp}
/-- what is wanted of a statement's end -/
def GoS (K : PySem.W.Frag) (mg : Str → Option Value) (W : WX) (D : Ends) (ρ E : List Addr) (st : S) (σ : L2.St) (H : Hp) (r : Fl) : Prop := match r with
    | .nx st' => ∀ ρ' σ' H', Post K ρ E st σ H ρ' E st' σ' H' → D.nx σ' H'
    | .bk st' => ∀ ρ' σ' H', Post K ρ E st σ H ρ' E st' σ' H' → D.bk σ' H'
    | .ct st' => ∀ ρ' σ' H', Post K ρ E st σ H ρ' E st' σ' H' → D.ct σ' H'
    | .rt sv st' => ∀ v ρ' E' σ' H', Post K ρ E st σ H ρ' E' st' σ' H' → rE K ρ E st σ H ρ' E' st' σ' H' sv v → D.rt v H'
    | .ex x st' => ∀ cls d ρ' E' σ' H', E.Sublist E' → Post K ρ E st σ H ρ' E' st' σ' H' → XR K mg (avd ρ' E' st' σ') H' x cls d → W cls d σ' H'
    | .no => False
theorem tzS_def {f : SS} {D : Ends} : tzS K mg W f D σ H ↔ ∃ ρ E st, Rel K ρ E st σ H ∧ GoS K mg W D ρ E st σ H (f st) := Iff.rfl
/-- .. from a later point on -/
theorem GoS.later {D D' : Ends} {r : Fl} (h : GoS K mg W D ρ E st σ H r) (P : Post K ρ E st σ H ρ' E st' σ' H') (dn : ∀ σ H, D.nx σ H → D'.nx σ H) (db : ∀ σ H, D.bk σ H → D'.bk σ H) (dc : ∀ σ H, D.ct σ H → D'.ct σ H) (dr : ∀ v H, D.rt v H → D'.rt v H) : GoS K mg W D' ρ' E st' σ' H' r := by
  cases r with
  | nx s => exact fun ρ2 σ2 H2 P2 => dn _ _ (h ρ2 σ2 H2 (P.trans P2))
  | bk s => exact fun ρ2 σ2 H2 P2 => db _ _ (h ρ2 σ2 H2 (P.trans P2))
  | ct s => exact fun ρ2 σ2 H2 P2 => dc _ _ (h ρ2 σ2 H2 (P.trans P2))
  | rt v s => exact fun v ρ2 E2 σ2 H2 P2 r => dr _ _ (h v ρ2 E2 σ2 H2 (P.trans P2) (rE.el P r))
  | ex x s => exact fun cls d ρ2 E2 σ2 H2 sub P2 xr => h cls d ρ2 E2 σ2 H2 sub (P.trans P2) xr
  | no => exact h
theorem GoS.exs {D : Ends} {α β : Type} {rep : Rep α β} {Q : β → Hp → Prop} {x : Ex} {s : S} (h : GoS K mg W D ρ E st σ H (.ex x s)) (P : Post K ρ E st σ H ρ' E' st' σ H') (c : Come ρ E st σ H E') : Go K mg W rep Q ρ' E' st' σ H' (.ex x s) :=
  fun cls d ρ2 E2 H2 sub P2 xr => h cls d ρ2 E2 σ H2 (c.1.trans sub) (P.trans P2) xr

def sNil : SS := fun s => .nx s
def sSeq (f g : SS) : SS := fun s => match f s with
  | .nx s => g s
  | .rt v s => .rt v s
  | .bk s => .bk s
  | .ct s => .ct s
  | .ex x s => .ex x s
  | .no => .no
theorem zss_nil : ZSs X W [] sNil := PSs.mono pss_nil fun D σ H ⟨ρ, E, st, R, q⟩ => q ρ σ H (.refl R)
theorem zss_one {a : Stmt} {f : SS} (h : ZS X W a f) : ZSs X W [a] f := pss_one h
theorem zss_cons {a : Stmt} {as : List Stmt} {f g : SS} (h : ZS X W a f) (hs : ZSs X W as g) : ZSs X W (a :: as) (sSeq f g) := by
  refine PSs.mono (pss_cons h hs) fun D σ H ⟨ρ, E, st, R, q⟩ => ⟨ρ, E, st, R, ?_⟩
  have q : GoS X.K X.mg W D ρ E st σ H (sSeq f g st) := q
  unfold sSeq at q
  show GoS X.K X.mg W _ ρ E st σ H (f st)
  cases e : f st with
  | no => rw [e] at q; exact q
  | ex x s => rw [e] at q; exact q
  | bk s => rw [e] at q; exact q
  | ct s => rw [e] at q; exact q
  | rt v s => rw [e] at q; exact q
  | nx s =>
    rw [e] at q
    intro ρ' σ' H' P
    exact ⟨ρ', E, s, P.rel, GoS.later (D := D) q P (fun _ _ h => h) (fun _ _ h => h) (fun _ _ h => h) fun _ _ h => h⟩
def sPass : SS := fun s => .nx s
def sBreak : SS := fun s => .bk s
def sCont : SS := fun s => .ct s
theorem zs_pass {pos} : ZS X W (.Pass pos) sPass := PS.mono ps_pass fun D σ H ⟨ρ, E, st, R, q⟩ => q ρ σ H (.refl R)
theorem zs_break {pos} : ZS X W (.Break pos) sBreak := PS.mono ps_break fun D σ H ⟨ρ, E, st, R, q⟩ => q ρ σ H (.refl R)
theorem zs_continue {pos} : ZS X W (.Continue pos) sCont := PS.mono ps_continue fun D σ H ⟨ρ, E, st, R, q⟩ => q ρ σ H (.refl R)
def sExpr (f : SE) : SS := fun s => (f s).flow fun _ s => .nx s
theorem zs_expr {e : Expr} {f : SE} {pos : Pos} (h : ZE X W e f) (hs : swapsWith e none pos.line X.env = pure false := by rfl) : ZS X W (.Expr e pos) (sExpr f) := by
  refine PS.mono (ps_expr h hs) fun D σ H ⟨ρ, E, st, R, q⟩ => ⟨ρ, E, st, R, ?_⟩
  have q : GoS X.K X.mg W D ρ E st σ H (sExpr f st) := q
  unfold sExpr at q
  cases e : f st with
  | no => rw [e] at q; exact q
  | ex x s => rw [e] at q; exact GoS.exs (D := D) q (.refl R) Come.refl
  | ok v s =>
    rw [e] at q
    intro v ρ' E' H' P r
    exact q ρ' σ H' (P.sub r.come.1)
def sRet (f : SE) : SS := fun s => (f s).flow fun v s => .rt v s
def sRetN : SS := fun s => .rt (.d .none) s
theorem zs_ret {e : Expr} {f : SE} {pos : Pos} (h : ZE X W e f) : ZS X W (.Return (some e) pos) (sRet f) := by
  refine PS.mono (ps_ret h) fun D σ H ⟨ρ, E, st, R, q⟩ => ⟨ρ, E, st, R, ?_⟩
  have q : GoS X.K X.mg W D ρ E st σ H (sRet f st) := q
  unfold sRet at q
  cases e : f st with
  | no => rw [e] at q; exact q
  | ex x s => rw [e] at q; exact GoS.exs (D := D) q (.refl R) Come.refl
  | ok v s =>
    rw [e] at q
    intro v ρ' E' H' P r
    exact q v ρ' E' σ H' P r
theorem zs_retN {pos : Pos} : ZS X W (.Return none pos) sRetN := PS.mono ps_retN fun D σ H ⟨ρ, E, st, R, q⟩ => q .non ρ E σ H (.refl R) ⟨rfl, .non⟩
def sIf (t : S → Res Bool) (f g : SS) : SS := fun s => (t s).flow fun b s => if b = true then f s else g s
theorem zs_if {c : Expr} {a b : List Stmt} {t : S → Res Bool} {f g : SS} {pos : Pos} (hc : ZT X W c t) (ha : ZSs X W a f) (hb : ZSs X W b g) : ZS X W (.If c a b pos) (sIf t f g) := by
  refine PS.mono (ps_if hc ha hb) fun D σ H ⟨ρ, E, st, R, q⟩ => ⟨ρ, E, st, R, ?_⟩
  have q : GoS X.K X.mg W D ρ E st σ H (sIf t f g st) := q
  unfold sIf at q
  cases e : t st with
  | no => rw [e] at q; exact q
  | ex x s => rw [e] at q; exact GoS.exs (D := D) q (.refl R) Come.refl
  | ok v s =>
    rw [e] at q
    intro b ρ' E' H' P r
    obtain ⟨e1, e2⟩ := r
    subst e1 e2
    have q : GoS X.K X.mg W D ρ E' st σ H (if b = true then f s else g s) := q
    cases b with
    | true => exact ⟨ρ', E', s, P.rel, GoS.later (D := D) q P (fun _ _ h => h) (fun _ _ h => h) (fun _ _ h => h) fun _ _ h => h⟩
    | false => exact ⟨ρ', E', s, P.rel, GoS.later (D := D) q P (fun _ _ h => h) (fun _ _ h => h) (fun _ _ h => h) fun _ _ h => h⟩

/-! ### storing -/
def S.set (st : S) (i : Nat) (v : SV) : S := { st with s := st.s.set i (some v) }
theorem Post.store {ρ0 E0 : List Addr} {st0 : S} {H0 : Hp} {σ0 : L2.St} {sv : SV} {v : V} {i : Nat} (P : Post K ρ0 E0 st0 σ0 H0 ρ E' st σ H) (hE : E0.Sublist E') (r : rE K ρ0 E0 st0 σ0 H0 ρ E' st σ H sv v) : Post K ρ0 E0 st0 σ0 H0 ρ E0 (st.set i sv) (σ.set i (some v)) H := by
  by_cases hi' : ¬ i < st.s.length
  · have e1 : st.s.set i (some sv) = st.s := List.set_eq_of_length_le (by omega)
    have e2 : σ.set i (some v) = σ := List.set_eq_of_length_le (by rw [← P.rel.len]; omega)
    have e3 : st.set i sv = st := by unfold S.set; rw [e1]
    rw [e3, e2]
    exact P.sub hE
  have hi : i < st.s.length := Decidable.not_not.mp hi'
  obtain ⟨l1, l2, hs⟩ := owns_split st.s σ i P.rel.len hi
  have old : owns st.s σ = l1 ++ own1 st.s[i] (σ[i]'(by rw [← P.rel.len]; exact hi)) ++ l2 := by
    have := hs st.s[i] (σ[i]'(by rw [← P.rel.len]; exact hi))
    rw [List.set_getElem_self, List.set_getElem_self] at this
    exact this
  have new : owns (st.set i sv).s (σ.set i (some v)) = l1 ++ own1 (some sv) (some v) ++ l2 := hs _ _
  -- all that is kept: the old ones less the slot's, and the new one
  have key : (avd ρ E0 (st.set i sv) (σ.set i (some v))).Nodup ∧ (∀ a ∈ avd ρ E0 (st.set i sv) (σ.set i (some v)), a ∈ avd ρ E' st σ) ∧ (∀ a ∈ chg ρ (st.set i sv) (σ.set i (some v)), a ∈ chg ρ st σ ∨ (∃ b, sv = .o b ∧ v = .ref a)) := by
    have go : ∀ (l : List Addr), own1 (some sv) (some v) = l → (l = [] ∨ ∃ p, l = [p] ∧ E' = p :: E0 ∧ (∃ b, sv = .o b) ∧ v = .ref p) → ((avd ρ E0 (st.set i sv) (σ.set i (some v))).Nodup ∧ (∀ a ∈ avd ρ E0 (st.set i sv) (σ.set i (some v)), a ∈ avd ρ E' st σ) ∧ (∀ a ∈ chg ρ (st.set i sv) (σ.set i (some v)), a ∈ chg ρ st σ ∨ (∃ b, sv = .o b ∧ v = .ref a))) := fun l hl hc => by
      rw [show avd ρ E0 (st.set i sv) (σ.set i (some v)) = ρ ++ owns (st.set i sv).s (σ.set i (some v)) ++ E0 from rfl, show chg ρ (st.set i sv) (σ.set i (some v)) = ρ ++ owns (st.set i sv).s (σ.set i (some v)) from rfl, new, hl]
      have nd := P.rel.nd
      rw [show avd ρ E' st σ = ρ ++ owns st.s σ ++ E' from rfl, old] at nd ⊢
      rw [show chg ρ st σ = ρ ++ owns st.s σ from rfl, old]
      rcases hc with rfl | ⟨p, rfl, rfl, ⟨b, hb⟩, hv⟩
      · refine ⟨nd.sublist ?_, fun a h => ?_, fun a h => .inl ?_⟩
        · exact ((List.Sublist.refl _).append ((((List.Sublist.refl _).append (List.nil_sublist _)).append (List.Sublist.refl _)))).append hE
        · simp only [List.append_nil, List.mem_append] at h ⊢
          rcases h with (h | h | h) | h
          · exact .inl (.inl h)
          · exact .inl (.inr (.inl (.inl h)))
          · exact .inl (.inr (.inr h))
          · exact .inr (hE.subset h)
        · simp only [List.append_nil, List.mem_append] at h ⊢
          rcases h with h | h | h
          · exact .inl h
          · exact .inr (.inl (.inl h))
          · exact .inr (.inr h)
      · have nd' : (p :: (ρ ++ (l1 ++ own1 st.s[i] (σ[i]'(by rw [← P.rel.len]; exact hi)) ++ l2) ++ E0)).Nodup := (List.perm_middle.nodup_iff).mp nd
        have nd2 : (p :: (ρ ++ (l1 ++ l2) ++ E0)).Nodup := nd'.sublist (List.Sublist.cons_cons _ (((List.Sublist.refl _).append (((List.sublist_append_left _ _)).append (List.Sublist.refl _))).append (List.Sublist.refl _)))
        refine ⟨?_, fun a h => ?_, fun a h => ?_⟩
        · have pm : (ρ ++ (l1 ++ [p] ++ l2) ++ E0).Perm (p :: (ρ ++ (l1 ++ l2) ++ E0)) := by
            have e1 : ρ ++ (l1 ++ [p] ++ l2) ++ E0 = (ρ ++ l1) ++ p :: (l2 ++ E0) := by simp
            have e2 : ρ ++ (l1 ++ l2) ++ E0 = (ρ ++ l1) ++ (l2 ++ E0) := by simp
            rw [e1, e2]
            exact List.perm_middle
          exact pm.nodup_iff.mpr nd2
        · simp only [List.mem_append, List.mem_cons, List.not_mem_nil, or_false] at h ⊢
          rcases h with (h | (h | h) | h) | h
          · exact .inl (.inl h)
          · exact .inl (.inr (.inl (.inl h)))
          · exact .inr (.inl h)
          · exact .inl (.inr (.inr h))
          · exact .inr (.inr h)
        · simp only [List.mem_append, List.mem_cons, List.not_mem_nil, or_false] at h ⊢
          rcases h with h | (h | h) | h
          · exact .inl (.inl h)
          · exact .inl (.inr (.inl (.inl h)))
          · exact .inr ⟨b, hb, by rw [h]; exact hv⟩
          · exact .inl (.inr (.inr h))
    cases sv with
    | d x => exact go [] (by cases v <;> rfl) (.inl rfl)
    | r k => exact go [] (by cases v <;> rfl) (.inl rfl)
    | o b =>
      obtain ⟨p, e1, e2, _, _⟩ := r
      subst e1
      exact go [p] rfl (.inr ⟨p, rfl, e2, ⟨b, rfl⟩, rfl⟩)
  obtain ⟨k1, k2, k3⟩ := key
  refine ⟨⟨k1, fun a h => P.rel.dom a (k2 a h), ?_, fun j sv' e => ?_, P.rel.heap.1, fun k b e => ?_⟩, P.pre, P.fr, fun a h => ?_⟩
  · unfold S.set; rw [List.length_set, List.length_set]; exact P.rel.len
  · have e : (st.s.set i (some sv))[j]? = some (some sv') := e
    by_cases hj : j = i
    · subst hj
      rw [List.getElem?_set_self hi] at e
      cases e
      refine ⟨v, by rw [List.getElem?_set_self (by rw [← P.rel.len]; exact hi)], ?_⟩
      cases sv with
      | d x => obtain ⟨e1, r⟩ := r; exact Rp.mono (fun a h => k2 a h) r
      | r k => exact r.2
      | o b =>
        obtain ⟨p, e1, e2, _, ob⟩ := r
        exact ⟨p, e1, ob.mono k2⟩
    · rw [List.getElem?_set_ne (Ne.symm hj)] at e
      obtain ⟨w, ew, q⟩ := P.rel.slot j sv' e
      refine ⟨w, by rw [List.getElem?_set_ne (Ne.symm hj)]; exact ew, ?_⟩
      cases sv' with
      | d x => exact Rp.mono k2 q
      | r k => exact q
      | o b => obtain ⟨a, ea, ob⟩ := q; exact ⟨a, ea, ob.mono k2⟩
  · obtain ⟨a, ea, ob⟩ := P.rel.heap.2 k b e
    exact ⟨a, ea, ob.mono k2⟩
  · rcases k3 a h with h | ⟨b, e1, e2⟩
    · exact P.mu a h
    · subst e1
      obtain ⟨p, e3, e4, h, _⟩ := r
      rw [e2] at e3
      cases e3
      exact h
def sSet (i : Nat) (f : SE) : SS := fun s => (f s).flow fun v s => .nx (s.set i v)
theorem coreSet {f : SE} {i : Nat} {D : Ends} (h : tzS K mg W (sSet i f) D σ H) : tAsg (tzE K mg W f) (gName i) D σ H := by
  obtain ⟨ρ, E, st, R, q⟩ := h
  refine ⟨ρ, E, st, R, ?_⟩
  have q : GoS K mg W D ρ E st σ H (sSet i f st) := q
  unfold sSet at q
  cases e : f st with
  | no => rw [e] at q; exact q
  | ex x s => rw [e] at q; exact GoS.exs (D := D) q (.refl R) Come.refl
  | ok v s =>
    rw [e] at q
    intro v ρ' E' H' P r
    exact q ρ' _ H' (P.store r.come.1 r)
theorem zs_set {i : Nat} {x : Str} {e : Expr} {f : SE} {pos pos' : Pos} (hN : X.N.Nodup) (hi : X.N[i]? = some x) (hx : Loc X.env.scope x) (he : ZE X W e f) (hs : swapsWith e (some (.Name x pos')) pos.line X.env = pure false := by rfl) (hf : X.fn x = true ∨ X.env.scope.names.lookup x = some .local := by first | exact .inl rfl | exact .inr rfl | assumption) : ZS X W (.Assign [.Name x pos'] e pos) (sSet i f) :=
  PS.mono (ps_set hN hi hx he hs hf) fun D σ H h => coreSet h
/-- a, b = e1, e2 -/
def ags' : List SE → S → Res (List SV)
  | [], s => .ok [] s
  | f :: fs, s => (f s).bind fun sv s => (ags' fs s).bind fun vs s => .ok (sv :: vs) s
def setAll : List Nat → List SV → S → Option S
  | [], [], s => some s
  | i :: is, v :: vs, s => setAll is vs (s.set i v)
  | _, _, _ => none
def sPar (is : List Nat) (fs : List SE) : SS := fun s => (ags' fs s).flow fun vs s => match setAll is vs s with
  | some s => .nx s
  | none => .no
end
end Z

set_option maxRecDepth 100000
set_option maxHeartbeats 4000000
namespace Z
open PySem PySem.Spec PyProof.Rows L2

section
variable {K : PySem.W.Frag} {mg : Str → Option Value} {ρ ρ' ρ'' E E' E'' : List Addr} {st st' st'' : S} {σ σ' : L2.St} {H H' H'' : Hp}
/-- the same things told apart, in another order -/
theorem Rel.perm (R : Rel K ρ E st σ H) (p : E.Perm E') : Rel K ρ E' st σ H := by
  have pm : (avd ρ E st σ).Perm (avd ρ E' st σ) := p.append_left _
  have sub : ∀ a ∈ avd ρ E' st σ, a ∈ avd ρ E st σ := fun a h => pm.mem_iff.mpr h
  refine ⟨pm.nodup_iff.mp R.nd, fun a h => R.dom a (sub a h), R.len, fun i sv e => ?_, R.heap.1, fun k b e => ?_⟩
  · obtain ⟨v, e1, q⟩ := R.slot i sv e
    refine ⟨v, e1, ?_⟩
    cases sv with
    | d x => exact Rp.mono sub q
    | r k => exact q
    | o b => obtain ⟨a, e2, q⟩ := q; exact ⟨a, e2, q.mono sub⟩
  · obtain ⟨a, e1, q⟩ := R.heap.2 k b e
    exact ⟨a, e1, q.mono sub⟩
theorem Post.perm (P : Post K ρ E st σ H ρ' E' st' σ' H') (p : E'.Perm E'') : Post K ρ E st σ H ρ' E'' st' σ' H' := ⟨P.rel.perm p, P.pre, P.fr, P.mu⟩
theorem avd_perm (p : E'.Perm E'') : ∀ a ∈ avd ρ E'' st σ, a ∈ avd ρ E' st σ := fun a h => (p.append_left _).mem_iff.mpr h
end
/-- several values at once; T: the new objects among them -/
inductive SVs (K : PySem.W.Frag) (M : List Addr) (H : Hp) (ρ : List Addr) (G : Addr → Prop) : List Addr → List SV → List V → Prop
  | nil : SVs K M H ρ G [] [] []
  | d {x : PyData} {v : V} {T : List Addr} {ss : List SV} {vs : List V} : Rp K M H v x → SVs K M H ρ G T ss vs → SVs K M H ρ G T (.d x :: ss) (v :: vs)
  | r {k : Nat} {a : Addr} {T : List Addr} {ss : List SV} {vs : List V} : ρ[k]? = some a → SVs K M H ρ G T ss vs → SVs K M H ρ G T (.r k :: ss) (.ref a :: vs)
  | o {b : PO} {a : Addr} {T : List Addr} {ss : List SV} {vs : List V} : Ob K M H a b → G a → SVs K M H ρ G T ss vs → SVs K M H ρ G (T ++ [a]) (.o b :: ss) (.ref a :: vs)
def rVs (K : PySem.W.Frag) : Rep (List SV) (List V) := fun ρ E st σ H ρ' E' st' σ' H' xs vs => ∃ T, E' = T ++ E ∧ SVs K (avd ρ' E' st' σ') H' ρ' (fun a => a ∈ chg ρ st σ ∨ H a = none) T xs vs
def ZVs (X : Cx) (W : WX) (es : List Expr) (fs : List SE) : Prop := PA X es (tzG X.K X.mg W (rVs X.K) (ags' fs))
section
variable {X : Cx} {W : WX} {K : PySem.W.Frag} {mg : Str → Option Value} {M M' ρ ρ' ρ'' E E' E'' : List Addr} {st st' st'' : S} {σ σ' : L2.St} {H H' H'' : Hp}
theorem SVs.mono {G G' : Addr → Prop} (m : ∀ a ∈ M', a ∈ M) (g : ∀ a, G a → G' a) {T : List Addr} {ss : List SV} {vs : List V} (h : SVs K M H ρ G T ss vs) : SVs K M' H ρ G' T ss vs := by
  induction h with
  | nil => exact .nil
  | d r _ ih => exact .d (r.mono m) ih
  | r e _ ih => exact .r e ih
  | o ob hg _ ih => exact .o (ob.mono m) (g _ hg) ih
theorem fresh_back (P : Post K ρ E st σ H ρ' E' st' σ' H') {a : Addr} (h : a ∈ chg ρ' st' σ' ∨ H' a = none) : a ∈ chg ρ st σ ∨ H a = none := by
  rcases h with h | h
  · exact P.mu a h
  · by_cases hm : a ∈ chg ρ st σ
    · exact .inl hm
    · refine .inr ?_
      cases e : H a with
      | none => rfl
      | some o => rw [P.fr a o hm e] at h; cases h
theorem zvs_nil : ZVs X W [] [] := PA.mono pa_nil fun σ H Q ⟨ρ, E, st, R, q⟩ => q [] ρ E H (.refl R) ⟨[], rfl, .nil⟩
theorem zvs_cons {e : Expr} {es : List Expr} {f : SE} {fs : List SE} (h : ZE X W e f) (hs : ZVs X W es fs) (hst : starEach (e :: es) X.env = (false, eval e X.env) :: starEach es X.env := by rfl) : ZVs X W (e :: es) (f :: fs) := by
  refine PA.mono (pa_cons h hs hst) fun σ H Q ⟨ρ, E, st, R, q⟩ => ⟨ρ, E, st, R, ?_⟩
  have q : Go X.K X.mg W (rVs X.K) Q ρ E st σ H ((f st).bind fun sv s => (ags' fs s).bind fun xs s => .ok (sv :: xs) s) := q
  cases e1 : f st with
  | no => rw [e1] at q; exact q
  | ex x s => rw [e1] at q; exact q
  | ok sv s =>
    rw [e1, Res.bind_ok] at q
    intro v ρ1 E1 H1 P1 r1
    refine ⟨ρ1, E1, s, P1.rel, ?_⟩
    cases e2 : ags' fs s with
    | no => rw [e2] at q; exact q
    | ex x2 s2 => rw [e2] at q; exact Go.exs q P1 r1.come
    | ok xs s2 =>
      rw [e2, Res.bind_ok] at q
      intro vs ρ2 E2 H2 P2 r2
      obtain ⟨T, e3, sv2⟩ := r2
      have c2 : Come ρ1 E1 s σ H1 E2 := by
        subst e3
        refine ⟨List.sublist_append_right _ _, fun a h => ?_⟩
        rcases List.mem_append.mp h with h | h
        · have : ∀ {T : List Addr} {ss : List SV} {vs : List V}, SVs X.K (avd ρ2 (T ++ E1) s2 σ) H2 ρ2 (fun a => a ∈ chg ρ1 s σ ∨ H1 a = none) T ss vs → ∀ {M : List Addr} {T' : List Addr} {ss' : List SV} {vs' : List V}, SVs X.K M H2 ρ2 (fun a => a ∈ chg ρ1 s σ ∨ H1 a = none) T' ss' vs' → ∀ a ∈ T', a ∈ chg ρ1 s σ ∨ H1 a = none := by
            intro T ss vs _ M T' ss' vs' h
            induction h with
            | nil => intro a h; exact absurd h List.not_mem_nil
            | d _ _ ih => exact ih
            | r _ _ ih => exact ih
            | o _ hg _ ih =>
              intro a h
              rcases List.mem_append.mp h with h | h
              · exact ih a h
              · rw [List.mem_singleton] at h; subst h; exact hg
          rcases this sv2 sv2 a h with z | z
          · exact .inl (chg_sub z)
          · exact .inr z
        · exact .inl (List.mem_append_right _ h)
      refine q (v :: vs) ρ2 E2 H2 (P1.trans P2) ?_
      have sv3 := sv2.mono (M' := avd ρ2 E2 s2 σ) (G' := fun a => a ∈ chg ρ st σ ∨ H a = none) (fun _ h => h) fun a h => fresh_back P1 h
      cases sv with
      | d x =>
        obtain ⟨k, r⟩ := r1
        subst k
        exact ⟨T, e3, .d (P2.rp c2.2 r) sv3⟩
      | r k =>
        obtain ⟨k1, a, ea, rfl⟩ := r1
        subst k1
        exact ⟨T, e3, .r (P2.dt ea) sv3⟩
      | o b =>
        obtain ⟨p, e5, e6, hp, ob⟩ := r1
        subst e5 e6
        refine ⟨T ++ [p], by rw [e3]; simp, .o ?_ hp sv3⟩
        exact ob.frame (fun o eo => P2.tmp P1.rel List.mem_cons_self eo) P2.avf (P2.avm c2.2)
/-- the stores -/
def Lc (X : Cx) (i : Nat) : Prop := ∃ x, X.N[i]? = some x
theorem store_all {ρ0 E0 : List Addr} {st0 : S} {H0 : Hp} {σ0 : L2.St} : ∀ {is : List Nat} {T : List Addr} {svs : List SV} {vs : List V} {st st' : S} {σ : L2.St} {H : Hp}, Post K ρ0 E0 st0 σ0 H0 ρ (T ++ E0) st σ H → SVs K (avd ρ (T ++ E0) st σ) H ρ (fun a => a ∈ chg ρ0 st0 σ0 ∨ H0 a = none) T svs vs → setAll is svs st = some st' →
    ∃ f : L2.St → L2.St, vs.length = is.length ∧ Post K ρ0 E0 st0 σ0 H0 ρ E0 st' ((is.zip vs).foldl (fun σ p => σ.set p.1 (some p.2)) σ) H
  | [], T, svs, vs, st, st', σ, H, P, h, e => by
    cases h with
    | nil => cases e; exact ⟨id, rfl, P⟩
    | d _ _ => cases e
    | r _ _ => cases e
    | o _ _ _ => cases e
  | i :: is, T, svs, vs, st, st', σ, H, P, h, e => by
    cases h with
    | nil => cases e
    | @d x v T ss vs r a =>
      have e : setAll is ss (st.set i (.d x)) = some st' := e
      have P' : Post K ρ0 E0 st0 σ0 H0 ρ (T ++ E0) (st.set i (.d x)) (σ.set i (some v)) H :=
        ⟨(Post.store (i := i) (ρ0 := ρ) (E0 := T ++ E0) (st0 := st) (σ0 := σ) (H0 := H) (.refl P.rel) (.refl _) (sv := .d x) ⟨rfl, r⟩).rel, P.pre, P.fr, fun a ha => (Post.store (i := i) (ρ0 := ρ) (E0 := T ++ E0) (st0 := st) (σ0 := σ) (H0 := H) (.refl P.rel) (.refl _) (sv := .d x) ⟨rfl, r⟩).mu a ha |>.elim (P.mu a) fun z => by
          exact fresh_back P (.inr z)⟩
      have sub := (Post.store (i := i) (ρ0 := ρ) (E0 := T ++ E0) (st0 := st) (σ0 := σ) (H0 := H) (.refl P.rel) (.refl _) (sv := .d x) ⟨rfl, r⟩).avm Come.refl.2
      obtain ⟨f, hl, q⟩ := store_all (is := is) P' (a.mono (M' := avd ρ (T ++ E0) (st.set i (.d x)) (σ.set i (some v))) (fun b hb => by
        rcases sub b hb with z | z
        · exact z
        · obtain ⟨o, eo, _⟩ := P'.rel.dom b hb
          rw [z] at eo; cases eo) fun _ h => h) e
      exact ⟨f, by simp [hl], q⟩
    | @r k c T ss vs r a =>
      have e : setAll is ss (st.set i (.r k)) = some st' := e
      have P0 := Post.store (i := i) (ρ0 := ρ) (E0 := T ++ E0) (st0 := st) (σ0 := σ) (H0 := H) (.refl P.rel) (.refl _) (sv := .r k) (v := .ref c) ⟨rfl, c, r, rfl⟩
      have P' : Post K ρ0 E0 st0 σ0 H0 ρ (T ++ E0) (st.set i (.r k)) (σ.set i (some (.ref c))) H :=
        ⟨P0.rel, P.pre, P.fr, fun a ha => P0.mu a ha |>.elim (P.mu a) fun z => fresh_back P (.inr z)⟩
      have sub := P0.avm Come.refl.2
      obtain ⟨f, hl, q⟩ := store_all (is := is) P' (a.mono (M' := avd ρ (T ++ E0) (st.set i (.r k)) (σ.set i (some (.ref c)))) (fun b hb => by
        rcases sub b hb with z | z
        · exact z
        · obtain ⟨o, eo, _⟩ := P'.rel.dom b hb
          rw [z] at eo; cases eo) fun _ h => h) e
      exact ⟨f, by simp [hl], q⟩
    | @o b c T ss vs ob hg a =>
      have e : setAll is ss (st.set i (.o b)) = some st' := e
      have pm : (T ++ [c] ++ E0).Perm (c :: (T ++ E0)) := by
        have : T ++ [c] ++ E0 = T ++ c :: E0 := by simp
        rw [this]; exact List.perm_middle
      have Pp := P.perm pm
      have P' : Post K ρ0 E0 st0 σ0 H0 ρ (T ++ E0) (st.set i (.o b)) (σ.set i (some (.ref c))) H := by
        have Q0 : Post K ρ0 (T ++ E0) st0 σ0 H0 ρ (c :: (T ++ E0)) st σ H := ⟨Pp.rel, Pp.pre, Pp.fr, Pp.mu⟩
        have := Q0.store (i := i) (sv := .o b) (v := .ref c) (List.sublist_cons_self _ _) ⟨c, rfl, rfl, hg, ob.mono (avd_perm pm)⟩
        exact ⟨this.rel, this.pre, this.fr, this.mu⟩
      have sub : ∀ z ∈ avd ρ (T ++ E0) (st.set i (.o b)) (σ.set i (some (.ref c))), z ∈ avd ρ (T ++ [c] ++ E0) st σ := by
        intro z hz
        have Q1 : Post K ρ (T ++ E0) st σ H ρ (c :: (T ++ E0)) st σ H := ⟨Pp.rel, List.prefix_refl _, fun _ _ _ e => e, fun _ h => .inl h⟩
        by_cases hz2 : z ∈ T ++ E0
        · have : z ∈ T ++ [c] ++ E0 := by
            rcases List.mem_append.mp hz2 with h | h
            · exact List.mem_append_left _ (List.mem_append_left _ h)
            · exact List.mem_append_right _ h
          exact List.mem_append_right _ this
        · have hz3 : z ∈ chg ρ (st.set i (.o b)) (σ.set i (some (.ref c))) := by
            rcases List.mem_append.mp hz with h | h
            · exact h
            · exact absurd h hz2
          -- what may be changed now: what could be before, or the new object
          have key : ∀ z ∈ owns (st.set i (.o b)).s (σ.set i (some (.ref c))), z ∈ owns st.s σ ∨ z = c := by
            intro z hz
            by_cases hi : i < st.s.length
            · obtain ⟨l1, l2, hs⟩ := owns_split st.s σ i P.rel.len hi
              have old : owns st.s σ = l1 ++ own1 st.s[i] (σ[i]'(by rw [← P.rel.len]; exact hi)) ++ l2 := by
                have := hs st.s[i] (σ[i]'(by rw [← P.rel.len]; exact hi))
                rw [List.set_getElem_self, List.set_getElem_self] at this
                exact this
              have new : owns (st.set i (.o b)).s (σ.set i (some (.ref c))) = l1 ++ [c] ++ l2 := hs _ _
              rw [new] at hz
              rw [old]
              simp only [List.mem_append, List.mem_singleton] at hz ⊢
              rcases hz with (h | h) | h
              · exact .inl (.inl (.inl h))
              · exact .inr h
              · exact .inl (.inr h)
            · have e1 : (st.set i (.o b)).s = st.s := List.set_eq_of_length_le (by omega)
              have e2 : σ.set i (some (.ref c)) = σ := List.set_eq_of_length_le (by rw [← P.rel.len]; omega)
              rw [e1, e2] at hz
              exact .inl hz
          rcases List.mem_append.mp hz3 with h | h
          · exact chg_sub (List.mem_append_left _ h)
          · rcases key z h with h | h
            · exact chg_sub (List.mem_append_right _ h)
            · subst h
              exact List.mem_append_right _ (List.mem_append_left _ (List.mem_append_right _ List.mem_cons_self))
      obtain ⟨f, hl, q⟩ := store_all (is := is) P' (a.mono sub fun _ h => h) e
      exact ⟨f, by simp [hl], q⟩
theorem corePar {is : List Nat} {fs : List SE} {D : Ends} (h : tzS K mg W (sPar is fs) D σ H) : tzG K mg W (rVs K) (ags' fs) σ H fun vs H1 => vs.length = is.length ∧ ∀ H2, (∀ a o, H1 a = some o → H2 a = some o) → D.nx ((is.zip vs).foldl (fun σ p => σ.set p.1 (some p.2)) σ) H2 := by
  obtain ⟨ρ, E, st, R, q⟩ := h
  refine ⟨ρ, E, st, R, ?_⟩
  have q : GoS K mg W D ρ E st σ H (sPar is fs st) := q
  unfold sPar at q
  cases e : ags' fs st with
  | no => rw [e] at q; exact q
  | ex x s => rw [e] at q; exact GoS.exs (D := D) q (.refl R) Come.refl
  | ok vs s =>
    rw [e, Res.flow_ok] at q
    intro us ρ' E' H' P r
    obtain ⟨T, e2, sv⟩ := r
    subst e2
    cases e3 : setAll is vs s with
    | none => rw [e3] at q; exact q.elim
    | some s' =>
      rw [e3] at q
      obtain ⟨_, hl, P'⟩ := store_all P sv e3
      exact ⟨hl, fun H2 g => q ρ' _ H2 (P'.trans ⟨P'.rel.grow g, List.prefix_refl _, fun a o _ e => g a o e, fun a h => .inl h⟩)⟩
theorem zs_par2 {i j : Nat} {x y : Str} {a b : Expr} {fs : List SE} {px py pt pos : Pos} {kt k2 pt2} (hc : X.calm = true) (hN : X.N.Nodup) (hi : X.N[i]? = some x) (hj : X.N[j]? = some y) (hij : i ≠ j)
    (hx : X.env.scope.names.lookup x = some .local) (hy : X.env.scope.names.lookup y = some .local) (ha : ZVs X W [a, b] fs)
    (hw : swappedStores [.Tuple [.Name x px, .Name y py] kt pt] (.Tuple [a, b] k2 pt2) X.env = pure (some [x, y]))
    (hs : swapsWithSole [.Tuple [.Name x px, .Name y py] kt pt] (.Tuple [a, b] k2 pt2) pos.line X.env = pure false := by rfl) : ZS X W (.Assign [.Tuple [.Name x px, .Name y py] kt pt] (.Tuple [a, b] k2 pt2) pos) (sPar [i, j] fs) := by
  refine PS.mono (ps_par hc hN hi hj hij hx hy ha hw hs) fun D σ H h => ?_
  refine tzE.mono (corePar h) fun vs H1 ⟨hl, q⟩ => ?_
  match vs, hl with
  | [v, w], _ => exact ⟨v, w, rfl, q H1 fun _ _ e => e⟩
theorem zs_par3 {i j l : Nat} {x y z : Str} {a b c : Expr} {fs : List SE} {px py pz pt pos : Pos} {kt k2 pt2} (hc : X.calm = true) (hN : X.N.Nodup) (hi : X.N[i]? = some x) (hj : X.N[j]? = some y) (hl : X.N[l]? = some z) (hij : i ≠ j) (hil : i ≠ l) (hjl : j ≠ l)
    (hx : X.env.scope.names.lookup x = some .local) (hy : X.env.scope.names.lookup y = some .local) (hz : X.env.scope.names.lookup z = some .local) (ha : ZVs X W [a, b, c] fs)
    (hw : swappedStores [.Tuple [.Name x px, .Name y py, .Name z pz] kt pt] (.Tuple [a, b, c] k2 pt2) X.env = pure (some [x, y, z]))
    (hs : swapsWithSole [.Tuple [.Name x px, .Name y py, .Name z pz] kt pt] (.Tuple [a, b, c] k2 pt2) pos.line X.env = pure false := by rfl) : ZS X W (.Assign [.Tuple [.Name x px, .Name y py, .Name z pz] kt pt] (.Tuple [a, b, c] k2 pt2) pos) (sPar [i, j, l] fs) := by
  refine PS.mono (ps_par3 hc hN hi hj hl hij hil hjl hx hy hz ha hw hs) fun D σ H h => ?_
  refine tzE.mono (corePar h) fun vs H1 ⟨hl, q⟩ => ?_
  match vs, hl with
  | [v, w, u], _ => exact ⟨v, w, u, rfl, q H1 fun _ _ e => e⟩
/-- names, by places -/
inductive Nms (X : Cx) : List Expr → List Nat → Prop
  | nil : Nms X [] []
  | cons {x : Str} {pos : Pos} {i : Nat} {es : List Expr} {is : List Nat} : X.N[i]? = some x → Loc X.env.scope x → (X.fn x = true ∨ X.env.scope.names.lookup x = some .local) → Nms X es is → Nms X (.Name x pos :: es) (i :: is)
def gNs : List Nat → TGs
  | [] => gNil
  | i :: is => gCons (gName i) (gNs is)
theorem nms_pgs (hN : X.N.Nodup) : ∀ {es : List Expr} {is : List Nat}, Nms X es is → PGs X es (gNs is)
  | _, _, .nil => pgs_nil
  | _, _, .cons hi hx hf r => pgs_cons (pg_name hN hi hx hf) (nms_pgs hN r)
theorem gNs_all : ∀ {is : List Nat} {vs : List V} {σ : L2.St} {H : Hp} {Q : L2.St → Hp → Prop}, vs.length = is.length → Q ((is.zip vs).foldl (fun σ p => σ.set p.1 (some p.2)) σ) H → gNs is vs σ H Q
  | [], [], _, _, _, _, q => ⟨rfl, q⟩
  | [], _ :: _, _, _, _, h, _ => by simp at h
  | _ :: _, [], _, _, _, h, _ => by simp at h
  | i :: is, v :: vs, σ, H, Q, h, q => ⟨v, vs, rfl, gNs_all (is := is) (by simpa using h) q⟩
/-- .. by a tuple that is made -/
theorem zs_parT {es vs : List Expr} {is : List Nat} {fs : List SE} {pt pos : Pos} {kt k2 pt2} (hc : X.calm = true) (hN : X.N.Nodup) (hn : Nms X es is) (hsz : fits is.length = true) (ha : ZVs X W vs fs)
    (hl : (assignEach es X.env).length = is.length := by rfl) (hst : (assignEach es X.env).findIdx? (·.1) = none := by rfl)
    (hw : swappedStores [.Tuple es kt pt] (.Tuple vs k2 pt2) X.env = pure none := by rfl)
    (hs : swapsWithSole [.Tuple es kt pt] (.Tuple vs k2 pt2) pos.line X.env = pure false := by rfl) (h1 : (assignEach [.Tuple es kt pt] X.env).map (·.2) = [assign (.Tuple es kt pt) X.env] := by rfl) : ZS X W (.Assign [.Tuple es kt pt] (.Tuple vs k2 pt2) pos) (sPar is fs) := by
  refine PS.mono (ps_asg (pe_tup ha) (pg_tup hc (nms_pgs hN hn) hl hst) hs hw h1) fun D σ H h => ?_
  refine tzE.mono (corePar h) fun us H1 ⟨hl, q⟩ => ?_
  refine ⟨by rw [hl]; exact of_decide_eq_true hsz, fun p hp => ⟨p, us, rfl, .inl (.inl upd_same), hl, gNs_all hl (q _ (upd_grow hp))⟩⟩
end
end Z

set_option maxRecDepth 100000
set_option maxHeartbeats 4000000
namespace Z
open PySem PySem.Spec PyProof.Rows L2

/-- the object at a place; the state with another one there -/
def obj (s : S) : Pl → Option PO
  | .sl i => match s.s[i]? with
    | some (some (.o b)) => some b
    | _ => none
  | .hp k => s.h[k]?
  | _ => none
def put (s : S) (b : PO) : Pl → S
  | .sl i => { s with s := s.s.set i (some (.o b)) }
  | .hp k => { s with h := s.h.set k b }
  | _ => s
/-- a's object is b' now, all else as it was -/
def Chg (K : PySem.W.Frag) (M : List Addr) (H H' : Hp) (a : Addr) (b' : PO) : Prop := (∀ c o, c ≠ a → H c = some o → H' c = some o) ∧ Ob K M H' a b'
section
variable {X : Cx} {W : WX} {K : PySem.W.Frag} {mg : Str → Option Value} {M M' ρ ρ' ρ'' E E' E'' : List Addr} {st st' st'' : S} {σ σ' : L2.St} {H H' H'' : Hp}
theorem ld_obj {s : S} {pl : Pl} {b : PO} (h : obj s pl = some b) : ld s pl = some b.data := by
  cases pl with
  | v x => cases h
  | tm b => cases h
  | sl i =>
    simp only [obj] at h
    simp only [ld]
    cases e : s.s[i]? with
    | none => rw [e] at h; cases h
    | some y =>
      rw [e] at h
      cases y with
      | none => cases h
      | some sv =>
        cases sv with
        | d x => cases h
        | r k => cases h
        | o c => cases h; rfl
  | hp k =>
    simp only [obj] at h
    simp only [ld, h, Option.map_some]
/-- where the place's object stands -/
theorem rPl.at {pl : Pl} {v : V} {b : PO} (r : rPl K ρ E st σ H ρ' E' st' σ H' pl v) (P : Post K ρ' E' st' σ H' ρ'' E'' st'' σ H'') (R : Rel K ρ'' E'' st'' σ H'') (e : obj st'' pl = some b) : ∃ a, v = .ref a ∧ a ∈ chg ρ'' st'' σ ∧ Ob K (avd ρ'' E'' st'' σ) H'' a b := by
  cases pl with
  | v x => cases e
  | tm b => cases e
  | sl i =>
    simp only [obj] at e
    cases q : st''.s[i]? with
    | none => rw [q] at e; cases e
    | some y =>
      rw [q] at e
      cases y with
      | none => cases e
      | some sv =>
        cases sv with
        | d x => cases e
        | r k => cases e
        | o c =>
          cases e
          obtain ⟨w, ew, a, ea, ob⟩ := R.slot i _ q
          have h2 := r.2
          rw [ew] at h2
          cases h2
          subst ea
          exact ⟨a, rfl, List.mem_append_right _ (own_mem R.len q ew), ob⟩
  | hp k =>
    simp only [obj] at e
    obtain ⟨_, a, e1, e2⟩ := r
    obtain ⟨a', ea, ob⟩ := R.heap.2 k b e
    rw [P.dt e1] at ea; cases ea
    exact ⟨a, e2, List.mem_append_left _ (List.mem_of_getElem? (P.dt e1)), ob⟩
theorem mem_nodup_ix {α : Type} {l : List α} (h : l.Nodup) {i j : Nat} {a : α} (hi : l[i]? = some a) (hj : l[j]? = some a) : i = j := by
  obtain ⟨h1, e1⟩ := List.getElem?_eq_some_iff.mp hi
  obtain ⟨h2, e2⟩ := List.getElem?_eq_some_iff.mp hj
  exact (List.getElem_inj h).mp (e1.trans e2.symm)
/-- two slots' own objects stand apart -/
theorem own_apart : ∀ {s : List (Option SV)} {σ : L2.St} {i j : Nat} {b c : PO} {a : Addr}, (owns s σ).Nodup → s[i]? = some (some (.o b)) → σ[i]? = some (some (.ref a)) → s[j]? = some (some (.o c)) → σ[j]? = some (some (.ref a)) → i = j
  | [], _, _, _, _, _, _, _, h, _, _, _ => by simp at h
  | _ :: _, [], _, _, _, _, _, _, _, h, _, _ => by simp at h
  | y :: s, w :: σ, 0, 0, _, _, _, _, _, _, _, _ => rfl
  | y :: s, w :: σ, 0, j + 1, b, c, a, nd, h1, h2, h3, h4 => by
    simp at h1 h2 h3 h4
    subst h1 h2
    rw [owns_cons] at nd
    have nd : (a :: owns s σ).Nodup := nd
    have hl : ∀ {s : List (Option SV)} {σ : L2.St} {j : Nat} {c : PO} {a : Addr}, s[j]? = some (some (.o c)) → σ[j]? = some (some (.ref a)) → a ∈ owns s σ := by
      intro s
      induction s with
      | nil => intro σ j c a h; simp at h
      | cons y s ih =>
        intro σ j c a h1 h2
        cases σ with
        | nil => simp at h2
        | cons w σ =>
          rw [owns_cons]
          cases j with
          | zero => simp at h1 h2; subst h1 h2; exact List.mem_append_left _ List.mem_cons_self
          | succ j => exact List.mem_append_right _ (ih (by simpa using h1) (by simpa using h2))
    exact absurd (hl h3 h4) (List.nodup_cons.mp nd).1
  | y :: s, w :: σ, i + 1, 0, b, c, a, nd, h1, h2, h3, h4 => (own_apart nd h3 h4 h1 h2).symm
  | y :: s, w :: σ, i + 1, j + 1, b, c, a, nd, h1, h2, h3, h4 => by
    rw [owns_cons] at nd
    have := own_apart (i := i) (j := j) (nd.sublist (List.sublist_append_right _ _)) (by simpa using h1) (by simpa using h2) (by simpa using h3) (by simpa using h4)
    rw [this]
theorem Rel.change (R : Rel K ρ E st σ H) {pl : Pl} {v : V} {b b' : PO} {a : Addr} (e : obj st pl = some b) (hv : v = .ref a) (hat : match pl with | .sl i => σ[i]? = some (some v) | .hp k => ρ[k]? = some a | _ => False) (c : Chg K (avd ρ E st σ) H H' a b') : Post K ρ E st σ H ρ E (put st b' pl) σ H' ∧ avd ρ E (put st b' pl) σ = avd ρ E st σ := by
  obtain ⟨fr, ob'⟩ := c
  have nd2 : (chg ρ st σ).Nodup := (List.nodup_append.mp R.nd).1
  have main : ∀ (st2 : S), avd ρ E st2 σ = avd ρ E st σ → chg ρ st2 σ = chg ρ st σ → st2.s.length = st.s.length → st2.h.length = st.h.length → a ∈ chg ρ st σ →
      (∀ (i : Nat) (sv : SV), st2.s[i]? = some (some sv) → (st.s[i]? = some (some sv) ∧ (∀ c : PO, sv = SV.o c → ∀ w : Addr, σ[i]? = some (some (V.ref w)) → w ≠ a)) ∨ (sv = SV.o b' ∧ σ[i]? = some (some (V.ref a)))) →
      (∀ (k : Nat) (c : PO), st2.h[k]? = some c → (st.h[k]? = some c ∧ ρ[k]? ≠ some a) ∨ (c = b' ∧ ρ[k]? = some a)) → Post K ρ E st σ H ρ E st2 σ H' ∧ avd ρ E st2 σ = avd ρ E st σ := fun st2 ea ec el eh ha hs hh => by
    have fr2 : ∀ x o, x ∉ avd ρ E st σ → H x = some o → H' x = some o := fun x o n ex => fr x o (fun z => n (by rw [z]; exact chg_sub ha)) ex
    refine ⟨⟨⟨by rw [ea]; exact R.nd, fun x hx => ?_, by rw [el]; exact R.len, fun i sv ei => ?_, by rw [eh]; exact R.heap.1, fun k c ek => ?_⟩, List.prefix_refl _, fun x o n ex => fr x o (fun z => n (by rw [z]; exact ha)) ex, fun x hx => .inl (by rw [ec] at hx; exact hx)⟩, ea⟩
    · rw [ea] at hx
      by_cases z : x = a
      · subst z; exact ob'.some
      · obtain ⟨o, eo, m⟩ := R.dom x hx
        exact ⟨o, fr x o z eo, m⟩
    · rw [ea]
      rcases hs i sv ei with ⟨e1, e2⟩ | ⟨e1, e2⟩
      · obtain ⟨w, ew, r⟩ := R.slot i sv e1
        refine ⟨w, ew, ?_⟩
        cases sv with
        | d x => exact Rp.frame fr2 (fun x h => .inl h) r
        | r k => exact r
        | o c =>
          obtain ⟨x, ex, ob⟩ := r
          subst ex
          exact ⟨x, rfl, ob.frame (fun o eo => fr x o (e2 c rfl x ew) eo) fr2 (fun x h => .inl h)⟩
      · subst e1
        exact ⟨_, e2, a, rfl, ob'⟩
    · rw [ea]
      rcases hh k c ek with ⟨e1, e2⟩ | ⟨e1, e2⟩
      · obtain ⟨x, ex, ob⟩ := R.heap.2 k c e1
        exact ⟨x, ex, ob.frame (fun o eo => fr x o (fun z => e2 (by rw [ex, z])) eo) fr2 (fun x h => .inl h)⟩
      · subst e1
        exact ⟨a, e2, ob'⟩
  cases pl with
  | v x => exact hat.elim
  | tm b => exact hat.elim
  | sl i =>
    simp only [obj] at e
    have hw : σ[i]? = some (some (.ref a)) := by rw [← hv]; exact hat
    cases q : st.s[i]? with
    | none => rw [q] at e; cases e
    | some y =>
      rw [q] at e
      cases y with
      | none => cases e
      | some sv =>
        cases sv with
        | d x => cases e
        | r k => cases e
        | o c =>
          cases e
          obtain ⟨l1, l2, e1, e2, _⟩ := owns_at R.len q hw
          have eo : owns (put st b' (.sl i)).s σ = owns st.s σ := by
            show owns (st.s.set i (some (.o b'))) σ = _
            rw [e2, e1]; rfl
          have ha : a ∈ owns st.s σ := own_mem R.len q hw
          have hi : i < st.s.length := (List.getElem?_eq_some_iff.mp q).1
          refine main _ (by show ρ ++ owns _ σ ++ E = _; rw [eo]) (by show ρ ++ owns _ σ = _; rw [eo]) (by simp [put]) rfl (List.mem_append_right _ ha) (fun j sv ej => ?_) fun k c ek => .inl ⟨ek, fun z => ?_⟩
          · have ej : (st.s.set i (some (.o b')))[j]? = some (some sv) := ej
            by_cases hj : j = i
            · subst hj
              rw [List.getElem?_set_self hi] at ej
              cases ej
              exact .inr ⟨rfl, hw⟩
            · rw [List.getElem?_set_ne (Ne.symm hj)] at ej
              refine .inl ⟨ej, fun d hd w hw2 z => ?_⟩
              subst hd z
              exact hj (own_apart (List.nodup_append.mp nd2).2.1 ej hw2 q hw)
          · exact (List.nodup_append.mp nd2).2.2 a (List.mem_of_getElem? z) a ha rfl
  | hp k =>
    simp only [obj] at e
    have hk : ρ[k]? = some a := hat
    have hk2 : k < st.h.length := (List.getElem?_eq_some_iff.mp e).1
    refine main _ rfl rfl rfl (by simp [put]) (List.mem_append_left _ (List.mem_of_getElem? hk)) (fun i sv ei => .inl ⟨ei, fun d hd w hw z => ?_⟩) fun j c ej => ?_
    · subst hd z
      exact (List.nodup_append.mp nd2).2.2 w (List.mem_of_getElem? hk) w (own_mem R.len ei hw) rfl
    · have ej : (st.h.set k b')[j]? = some c := ej
      by_cases hj : j = k
      · subst hj
        rw [List.getElem?_set_self hk2] at ej
        cases ej
        exact .inr ⟨rfl, hk⟩
      · rw [List.getElem?_set_ne (Ne.symm hj)] at ej
        exact .inl ⟨ej, fun z => hj (mem_nodup_ix (List.nodup_append.mp nd2).1 z hk)⟩
theorem Rel.change' (R : Rel K ρ'' E'' st'' σ H'') {pl : Pl} {v : V} {b b' : PO} {a : Addr} (r : rPl K ρ E st σ H ρ' E' st' σ H' pl v) (P : Post K ρ' E' st' σ H' ρ'' E'' st'' σ H'') (e : obj st'' pl = some b) (hv : v = .ref a) {H3 : Hp} (c : Chg K (avd ρ'' E'' st'' σ) H'' H3 a b') : Post K ρ'' E'' st'' σ H'' ρ'' E'' (put st'' b' pl) σ H3 ∧ avd ρ'' E'' (put st'' b' pl) σ = avd ρ'' E'' st'' σ := by
  refine R.change e hv ?_ c
  cases pl with
  | v x => cases e
  | tm b => cases e
  | sl i => exact r.2
  | hp k =>
    obtain ⟨_, a', e1, e2⟩ := r
    rw [hv] at e2; cases e2
    exact P.dt e1
/-! ### a call of a method that changes its object -/
def PO.kind : PO → String
  | .lst _ => "list"
  | .dk _ => "dict"
  | .dt _ => "dict"
  | .tb _ _ => "table"
def rmut (K : PySem.W.Frag) (o : PO → List PyData → Option (PyData × PO)) : V → List V → Hp → VK → Prop := fun x xs H Q => ∃ M a b ds v b', x = .ref a ∧ Dom M H ∧ a ∈ M ∧ Ob K M H a b ∧ RpAll K M H xs ds ∧ o b ds = some (v, b') ∧ ∀ z H', Chg K M H H' a b' → Rp K M H' z v → Q z H'
def rmutR (K : PySem.W.Frag) (o : PO → List PyData → Option (PyData × PO)) : V → List V → Hp → VK → Prop := fun x xs H Q => ∃ M a b ds v b', x = .ref a ∧ Dom M H ∧ a ∈ M ∧ Ob K M H a b ∧ TopAll K M H xs ds ∧ o b ds = some (v, b') ∧ ∀ z H', Chg K M H H' a b' → Rp K M H' z v → Q z H'
def eMut (T : String) (o : PO → List PyData → Option (PyData × PO)) (f : SPl) (fs : List SE) : SE := fun s => (f s).bind fun p s => if ((obj s p).map PO.kind) = some T then (its fs s).bind fun ds s => match (obj s p).bind fun b => o b ds with
  | some (v, b') => .ok (.d v) (put s b' p)
  | none => .no else .no
def eMutR (T : String) (o : PO → List PyData → Option (PyData × PO)) (f : SPl) (fs : List SPl) : SE := fun s => (f s).bind fun p s => if ((obj s p).map PO.kind) = some T then (pls fs s).bind fun ps s => match (ldAll s ps).bind fun ds => (obj s p).bind fun b => o b ds with
  | some (v, b') => .ok (.d v) (put s b' p)
  | none => .no else .no
theorem Ob.ty {a : Addr} {b : PO} (h : Ob K M H a b) (hk : b.kind ≠ "table") : tyV K b.kind (.ref a) H := by
  cases b with
  | lst ds => obtain ⟨xs, e, r⟩ := h; exact .inl ⟨rfl, xs, .inl (.inl e)⟩
  | dk kds => obtain ⟨xs, e, ek, r⟩ := h; exact .inr (.inr (.inl ⟨rfl, .inl ⟨_, e⟩⟩))
  | dt kds => obtain ⟨xs, e, ek, r⟩ := h; exact .inr (.inr (.inl ⟨rfl, .inr ⟨_, e⟩⟩))
  | tb p q => exact absurd rfl hk
theorem coreMut {T : String} {o : PO → List PyData → Option (PyData × PO)} {f : SPl} {fs : List SE} {Q : VK} (hT : T ≠ "table") (h : tzE K mg W (eMut T o f fs) σ H Q) : (tzP K mg W f) σ H fun x H1 => tyV K T x H1 ∧ (tzL K mg W (its fs)) σ H1 fun xs H2 => rmut K o x xs H2 Q := by
  obtain ⟨ρ, E, st, R, q⟩ := h
  refine ⟨ρ, E, st, R, ?_⟩
  unfold eMut at q
  cases e1 : f st with
  | no => rw [e1] at q; exact q
  | ex x s => rw [e1] at q; exact q
  | ok p s =>
    rw [e1, Res.bind_ok] at q
    intro x ρ1 E1 H1 P1 r1
    by_cases hk : ((obj s p).map PO.kind) = some T
    · rw [if_pos hk] at q
      obtain ⟨b0, e2, e3⟩ := Option.map_eq_some_iff.mp hk
      obtain ⟨a0, ea0, _, ob0⟩ := r1.at (.refl P1.rel) P1.rel e2
      refine ⟨by rw [ea0, ← e3]; exact ob0.ty (by rw [e3]; exact hT), ρ1, E1, s, P1.rel, ?_⟩
      cases e4 : its fs s with
      | no => rw [e4] at q; exact q
      | ex x2 s2 => rw [e4] at q; exact Go.exs q P1 r1.come
      | ok ds s2 =>
        rw [e4, Res.bind_ok] at q
        intro xs ρ2 E2 H2 P2 r2
        obtain ⟨k, r2⟩ := r2
        subst k
        cases e5 : obj s2 p with
        | none => rw [e5] at q; exact q.elim
        | some b =>
          cases e6 : o b ds with
          | none => simp only [e5, Option.bind_some, e6] at q; exact q.elim
          | some vb =>
            obtain ⟨v, b'⟩ := vb
            simp only [e5, Option.bind_some, e6] at q
            obtain ⟨a, ea, ha, ob⟩ := r1.at P2 P2.rel e5
            refine ⟨_, a, b, ds, v, b', ea, P2.rel.dom, chg_sub ha, ob, r2, e6, fun z H' c r => ?_⟩
            obtain ⟨P3, ea3⟩ := P2.rel.change' r1 P2 e5 ea c
            refine q z ρ2 E H' (((P1.trans P2).trans P3).sub r1.come.1) ⟨rfl, Rp.mono (fun x hx => by rw [← ea3]; exact avd_sub r1.come.1 x hx) r⟩
    · rw [if_neg hk] at q; exact q.elim
end
end Z

set_option maxRecDepth 100000
set_option maxHeartbeats 4000000
namespace Z
open PySem PySem.Spec PyProof.Rows L2
section
variable {X : Cx} {W : WX} {K : PySem.W.Frag} {mg : Str → Option Value} {M M' ρ ρ' ρ'' E E' E'' : List Addr} {st st' st'' : S} {σ σ' : L2.St} {H H' H'' : Hp}
theorem coreMutR {T : String} {o : PO → List PyData → Option (PyData × PO)} {f : SPl} {fs : List SPl} {Q : VK} (hT : T ≠ "table") (h : tzE K mg W (eMutR T o f fs) σ H Q) : (tzP K mg W f) σ H fun x H1 => tyV K T x H1 ∧ (tzPs K mg W (pls fs)) σ H1 fun xs H2 => rmutR K o x xs H2 Q := by
  obtain ⟨ρ, E, st, R, q⟩ := h
  refine ⟨ρ, E, st, R, ?_⟩
  unfold eMutR at q
  cases e1 : f st with
  | no => rw [e1] at q; exact q
  | ex x s => rw [e1] at q; exact q
  | ok p s =>
    rw [e1, Res.bind_ok] at q
    intro x ρ1 E1 H1 P1 r1
    by_cases hk : ((obj s p).map PO.kind) = some T
    · rw [if_pos hk] at q
      obtain ⟨b0, e2, e3⟩ := Option.map_eq_some_iff.mp hk
      obtain ⟨a0, ea0, _, ob0⟩ := r1.at (.refl P1.rel) P1.rel e2
      refine ⟨by rw [ea0, ← e3]; exact ob0.ty (by rw [e3]; exact hT), ρ1, E1, s, P1.rel, ?_⟩
      cases e4 : pls fs s with
      | no => rw [e4] at q; exact q
      | ex x2 s2 => rw [e4] at q; exact Go.exs q P1 r1.come
      | ok ps s2 =>
        rw [e4, Res.bind_ok] at q
        intro xs ρ2 E2 H2 P2 r2
        cases e7 : ldAll s2 ps with
        | none => rw [e7] at q; exact q.elim
        | some ds =>
          cases e5 : obj s2 p with
          | none => simp only [e5, e7, Option.bind_some, Option.bind_none] at q; exact q.elim
          | some b =>
            cases e6 : o b ds with
            | none => simp only [e5, e7, Option.bind_some, e6] at q; exact q.elim
            | some vb =>
              obtain ⟨v, b'⟩ := vb
              simp only [e5, e7, Option.bind_some, e6] at q
              obtain ⟨a, ea, ha, ob⟩ := r1.at P2 P2.rel e5
              refine ⟨_, a, b, ds, v, b', ea, P2.rel.dom, chg_sub ha, ob, (r2.2 _ _ _ _ (.refl P2.rel) Come.refl ds e7).1, e6, fun z H' c r => ?_⟩
              obtain ⟨P3, ea3⟩ := P2.rel.change' r1 P2 e5 ea c
              have c2 := r1.come.trans P1 r2.1
              exact q z ρ2 E H' (((P1.trans P2).trans P3).sub c2.1) ⟨rfl, Rp.mono (fun x hx => by rw [← ea3]; exact avd_sub c2.1 x hx) r⟩
    · rw [if_neg hk] at q; exact q.elim
theorem ze_mut {T id : String} {name : Str} {o : Expr} {op : PO → List PyData → Option (PyData × PO)} {e : Expr} {es : List Expr} {f : SPl} {fs : List SE} {apos cpos : Pos} (pa : PlainAttrs T) (slot : Slot T name id) (hty : typeOf (.builtin id) = pure (.type "method_descriptor")) (hm : MtR X id (rmut X.K op)) (ho : ZP X W o f) (ha : ZIs X W (e :: es) fs)
    (hT : T ≠ "table" := by decide) (hbase : attributeBase o name X.env (eval o X.env) = eval o X.env := by rfl) (hfew : ((backTo cpos (starEach (e :: es) X.env)).all (fun x => !x.1) && (backToKw cpos (keywordEach [] X.env)).all (fun x => x.1.isSome) && decide ((e :: es).length + ([] : List Keyword).length + (if ([] : List Keyword).isEmpty then 0 else 1) < 30)) = true := by rfl) (hline : (apos.endLine == cpos.line) = true := by rfl) (hs : starEach (e :: es) X.env = (false, eval e X.env) :: starEach es X.env := by rfl) (hplain : (backTo cpos (starEach es X.env)).any (·.1) = false := by rfl) :
    ZE X W (.Call (.Attribute o name apos) (e :: es) [] cpos) (eMut T op f fs) := PE.mono (pe_bm pa slot hty hm ho ha hbase hfew hline hs hplain) fun _ _ _ h => coreMut hT h
theorem ze_mutR {T id : String} {name : Str} {o : Expr} {op : PO → List PyData → Option (PyData × PO)} {e : Expr} {es : List Expr} {f : SPl} {fs : List SPl} {apos cpos : Pos} (pa : PlainAttrs T) (slot : Slot T name id) (hty : typeOf (.builtin id) = pure (.type "method_descriptor")) (hm : MtR X id (rmutR X.K op)) (ho : ZP X W o f) (ha : ZPs X W (e :: es) fs)
    (hT : T ≠ "table" := by decide) (hbase : attributeBase o name X.env (eval o X.env) = eval o X.env := by rfl) (hfew : ((backTo cpos (starEach (e :: es) X.env)).all (fun x => !x.1) && (backToKw cpos (keywordEach [] X.env)).all (fun x => x.1.isSome) && decide ((e :: es).length + ([] : List Keyword).length + (if ([] : List Keyword).isEmpty then 0 else 1) < 30)) = true := by rfl) (hline : (apos.endLine == cpos.line) = true := by rfl) (hs : starEach (e :: es) X.env = (false, eval e X.env) :: starEach es X.env := by rfl) (hplain : (backTo cpos (starEach es X.env)).any (·.1) = false := by rfl) :
    ZE X W (.Call (.Attribute o name apos) (e :: es) [] cpos) (eMutR T op f fs) := PE.mono (pe_bm pa slot hty hm ho ha hbase hfew hline hs hplain) fun _ _ _ h => coreMutR hT h
theorem ze_mut0 {T id : String} {name : Str} {o : Expr} {op : PO → List PyData → Option (PyData × PO)} {f : SPl} {apos cpos : Pos} (pa : PlainAttrs T) (slot : Slot T name id) (hty : typeOf (.builtin id) = pure (.type "method_descriptor")) (hm : MtR X id (rmut X.K op)) (ho : ZP X W o f)
    (hT : T ≠ "table" := by decide) (hbase : attributeBase o name X.env (eval o X.env) = eval o X.env := by rfl) (hline : (apos.endLine == cpos.line) = true := by rfl) :
    ZE X W (.Call (.Attribute o name apos) [] [] cpos) (eMut T op f []) := PE.mono (pe_bm0 pa slot hty hm ho hbase hline) fun σ H Q h => tzE.mono (coreMut hT h) fun x H1 ⟨h1, h2⟩ => ⟨h1, by
      obtain ⟨ρ, E, st, R, q⟩ := h2
      exact q [] ρ E H1 (.refl R) ⟨rfl, .nil⟩⟩

/-! ### stores to items -/
/-- o[i] = e -/
def sIx (op : PO → PyData → PyData → Option PO) (fo fi : SPl) (fe : SE) : SS := fun s => (fe s).flow fun sv s => match sv.keep with
  | none => .no
  | some x => (fo s).flow fun p s => (fi s).flow fun r s => match (ld s r).bind fun i => (obj s p).bind fun b => op b i x with
    | some b' => .nx (put s b' p)
    | none => .no
def rset (K : PySem.W.Frag) (op : PO → PyData → PyData → Option PO) : TSet := fun o i v H Q => ∃ M a b di dv b', o = .ref a ∧ Dom M H ∧ a ∈ M ∧ Ob K M H a b ∧ Top K M H i di ∧ Rp K M H v dv ∧ op b di dv = some b' ∧ ∀ H', Chg K M H H' a b' → Q H'
theorem coreIx {op : PO → PyData → PyData → Option PO} {fo fi : SPl} {fe : SE} {D : Ends} (h : tzS K mg W (sIx op fo fi fe) D σ H) : tzE K mg W fe σ H fun v H1 => tzP K mg W fo σ H1 fun o H2 => tzP K mg W fi σ H2 fun i H3 => rset K op o i v H3 fun H4 => D.nx σ H4 := by
  obtain ⟨ρ, E, st, R, q⟩ := h
  refine ⟨ρ, E, st, R, ?_⟩
  have q : GoS K mg W D ρ E st σ H (sIx op fo fi fe st) := q
  unfold sIx at q
  cases e1 : fe st with
  | no => rw [e1] at q; exact q
  | ex x s => rw [e1] at q; exact GoS.exs (D := D) q (.refl R) Come.refl
  | ok sv s =>
    rw [e1, Res.flow_ok] at q
    intro v ρ1 E1 H1 P1 r1
    cases e2 : sv.keep with
    | none => rw [e2] at q; exact q.elim
    | some x =>
      rw [e2] at q
      obtain ⟨P1, rv⟩ := r1.keep P1 e2
      refine ⟨ρ1, E, s, P1.rel, ?_⟩
      have q : GoS K mg W D ρ E st σ H ((fo s).flow fun p s => (fi s).flow fun r s => match (ld s r).bind fun i => (obj s p).bind fun b => op b i x with
        | some b' => .nx (put s b' p)
        | none => .no) := q
      cases e3 : fo s with
      | no => rw [e3] at q; exact q
      | ex x s => rw [e3] at q; exact GoS.exs (D := D) q P1 Come.refl
      | ok p s2 =>
        rw [e3, Res.flow_ok] at q
        intro o ρ2 E2 H2 P2 r2
        refine ⟨ρ2, E2, s2, P2.rel, ?_⟩
        cases e4 : fi s2 with
        | no => rw [e4] at q; exact q
        | ex x s => rw [e4] at q; exact GoS.exs (D := D) q (P1.trans P2) (Come.refl.trans P1 r2.come)
        | ok r s3 =>
          rw [e4, Res.flow_ok] at q
          intro i ρ3 E3 H3 P3 r3
          cases e5 : ld s3 r with
          | none => rw [e5] at q; exact q.elim
          | some di =>
            cases e6 : obj s3 p with
            | none => simp only [e5, e6, Option.bind_some, Option.bind_none] at q; exact q.elim
            | some b =>
              cases e7 : op b di x with
              | none => simp only [e5, e6, Option.bind_some, e7] at q; exact q.elim
              | some b' =>
                simp only [e5, e6, Option.bind_some, e7] at q
                obtain ⟨a, ea, ha, ob⟩ := r2.at P3 P3.rel e6
                have c3 : Come ρ1 E s σ H1 E3 := r2.come.trans P2 r3.come
                refine ⟨_, a, b, di, x, b', ea, P3.rel.dom, chg_sub ha, ob, r3.top P3.rel e5, (P2.trans P3).rp c3.2 rv, e7, fun H' c => ?_⟩
                obtain ⟨P4, _⟩ := P3.rel.change' r2 P3 e6 ea c
                exact q ρ3 σ H' ((((P1.trans P2).trans P3).trans P4).sub c3.1)
theorem zs_ix {op : PO → PyData → PyData → Option PO} {o i e : Expr} {fo fi : SPl} {fe : SE} {pos pos' : Pos} (hp : PSet X (rset X.K op)) (ho : ZP X W o fo) (hi : ZP X W i fi) (he : ZE X W e fe)
    (ha : ∀ v, assign (.Subscript o i pos') X.env v = (do
      let ov ← holding [v] (eval o X.env)
      let iv ← holding [v, ov] (eval i X.env)
      standAt pos'
      holding [v, ov, iv] (setItem ov iv v)
      release [v, ov, iv] []) := by intro _; rfl)
    (hs : swapsWithSole [.Subscript o i pos'] e pos.line X.env = pure false := by rfl) (hw : swappedStores [.Subscript o i pos'] e X.env = pure none := by rfl)
    (h1 : (assignEach [.Subscript o i pos'] X.env).map (·.2) = [assign (.Subscript o i pos') X.env] := by rfl) : ZS X W (.Assign [.Subscript o i pos'] e pos) (sIx op fo fi fe) :=
  PS.mono (ps_asg he (pg_sub ho hi hp ha) hs hw h1) fun D σ H h => coreIx h
/-- dicts: the store of HandS -/
theorem zs_dput {op : PO → PyData → PyData → Option PO} {o i e : Expr} {fo fi : SPl} {fe : SE} {pos pos' : Pos} (hu : X.A.units + 1 < cLine) (ho : ZP X W o fo) (hi : ZP X W i fi) (he : ZE X W e fe)
    (hp : ∀ {M : List Addr} {a : Addr} {b : PO} {di dv : PyData} {b' : PO} {v i : V} {H : Hp} {D : Hp → Prop}, Dom M H → a ∈ M → Ob X.K M H a b → Top X.K M H i di → Rp X.K M H v dv → op b di dv = some b' → (∀ H', Chg X.K M H H' a b' → D H') → ∃ H4, DPut H a i v H4 ∧ D H4)
    (hs : swapsWith e (some (.Subscript o i pos')) pos.line X.env = pure false := by rfl) : ZS X W (.Assign [.Subscript o i pos'] e pos) (sIx op fo fi fe) :=
  PS.mono (ps_dput hu ho hi he hs) fun D σ H h => tzE.mono (coreIx h) fun v H1 q => tzE.mono q fun x H2 q => tzE.mono q fun y H3 ⟨M, a, b, di, dv, b', e1, dm, ha, ob, ti, rv, e2, k⟩ => by
    obtain ⟨H4, h1, h2⟩ := hp dm ha ob ti rv e2 k
    exact ⟨a, H4, e1, h1, h2⟩

/-! ### o[i] op= e -/
def sAugIx (get : PyData → PyData → Option SV) (op : PyData → PyData → Option SV) (st : PO → PyData → PyData → Option PO) (fo fi fe : SPl) : SS := fun s => (fo s).flow fun p s => (fi s).flow fun r s => match (ld s r).bind fun i => (ld s p).bind fun b => get b i with
  | some (.d x) => (fe s).flow fun q s => match (ld s q).bind fun y => op x y with
    | some (.d z) => match (ld s r).bind fun i => (obj s p).bind fun b => st b i z with
      | some b' => .nx (put s b' p)
      | none => .no
    | _ => .no
  | _ => .no
def rget (K : PySem.W.Frag) (get : PyData → PyData → Option SV) : V → V → Hp → VK → Prop := rop K get
theorem zs_augix {get op : PyData → PyData → Option SV} {st : PO → PyData → PyData → Option PO} {o i e : Expr} {fo fi fe : SPl} {bop : Operator} {tpos pos : Pos} (hg : PGet X (rop X.K get)) (hop : PIp X bop (rop X.K op)) (hst : PSet X (rset X.K st)) (ho : ZP X W o fo) (hi : ZP X W i fi) (he : ZP X W e fe)
    (ha : ∀ ov iv new, augStore i ov iv new = (do holding [new, ov, iv] (setItem ov iv new); release [new, ov, iv] []; pure .next) := by intros; rfl) : ZS X W (.AugAssign (.Subscript o i tpos) bop e pos) (sAugIx get op st fo fi fe) := by
  refine PS.mono (ps_augS ho hi hg he hop hst ha) fun D σ H h => ?_
  obtain ⟨ρ, E, st0, R, q⟩ := h
  refine ⟨ρ, E, st0, R, ?_⟩
  have q : GoS X.K X.mg W D ρ E st0 σ H (sAugIx get op st fo fi fe st0) := q
  unfold sAugIx at q
  cases e1 : fo st0 with
  | no => rw [e1] at q; exact q
  | ex x s => rw [e1] at q; exact GoS.exs (D := D) q (.refl R) Come.refl
  | ok p s =>
    rw [e1, Res.flow_ok] at q
    intro x ρ1 E1 H1 P1 r1
    refine ⟨ρ1, E1, s, P1.rel, ?_⟩
    cases e2 : fi s with
    | no => rw [e2] at q; exact q
    | ex x s => rw [e2] at q; exact GoS.exs (D := D) q P1 r1.come
    | ok r s2 =>
      rw [e2, Res.flow_ok] at q
      intro y ρ2 E2 H2 P2 r2
      have c2 := r1.come.trans P1 r2.come
      cases e3 : ld s2 r with
      | none => rw [e3] at q; exact q.elim
      | some di =>
        cases e4 : ld s2 p with
        | none => simp only [e3, e4, Option.bind_some, Option.bind_none] at q; exact q.elim
        | some db =>
          cases e5 : get db di with
          | none => simp only [e3, e4, Option.bind_some, e5] at q; exact q.elim
          | some sv =>
            cases sv with
            | r k => simp only [e3, e4, Option.bind_some, e5] at q; exact q.elim
            | o c => simp only [e3, e4, Option.bind_some, e5] at q; exact q.elim
            | d dx =>
              simp only [e3, e4, Option.bind_some, e5] at q
              refine ⟨_, db, di, _, P2.rel.dom, rPl.later r1 P1.rel P2 r2.come e4, r2.top P2.rel e3, e5, fun z H' n => ?_⟩
              obtain ⟨g, rz⟩ := n
              have Pg : Post X.K ρ2 E2 s2 σ H2 ρ2 E2 s2 σ H' := ⟨P2.rel.grow g, List.prefix_refl _, fun a o _ e => g a o e, fun a h => .inl h⟩
              refine ⟨ρ2, E2, s2, Pg.rel, ?_⟩
              cases e6 : fe s2 with
              | no => rw [e6] at q; exact q
              | ex x s => rw [e6] at q; exact GoS.exs (D := D) q ((P1.trans P2).trans Pg) c2
              | ok pe s3 =>
                rw [e6, Res.flow_ok] at q
                intro w ρ3 E3 H3 P3 r3
                have c3 := c2.trans ((P1.trans P2).trans Pg) r3.come
                cases e7 : ld s3 pe with
                | none => rw [e7] at q; exact q.elim
                | some dw =>
                  cases e8 : op dx dw with
                  | none => simp only [e7, Option.bind_some, e8] at q; exact q.elim
                  | some sv =>
                    cases sv with
                    | r k => simp only [e7, Option.bind_some, e8] at q; exact q.elim
                    | o c => simp only [e7, Option.bind_some, e8] at q; exact q.elim
                    | d dz =>
                      simp only [e7, Option.bind_some, e8] at q
                      refine ⟨_, dx, dw, _, P3.rel.dom, .rp (P3.rp r3.come.2 rz), r3.top P3.rel e7, e8, fun u H4 n => ?_⟩
                      obtain ⟨g4, ru⟩ := n
                      have Ph : Post X.K ρ3 E3 s3 σ H3 ρ3 E3 s3 σ H4 := ⟨P3.rel.grow g4, List.prefix_refl _, fun a o _ e => g4 a o e, fun a h => .inl h⟩
                      cases e9 : ld s3 r with
                      | none => rw [e9] at q; exact q.elim
                      | some di' =>
                        cases e10 : obj s3 p with
                        | none => simp only [e9, e10, Option.bind_some, Option.bind_none] at q; exact q.elim
                        | some b =>
                          cases e11 : st b di' dz with
                          | none => simp only [e9, e10, Option.bind_some, e11] at q; exact q.elim
                          | some b' =>
                            simp only [e9, e10, Option.bind_some, e11] at q
                            have Pall := ((P2.trans Pg).trans P3).trans Ph
                            obtain ⟨a, ea, ha', ob⟩ := r1.at Pall Pall.rel e10
                            refine ⟨_, a, b, di', dz, b', ea, Ph.rel.dom, chg_sub ha', ob, rPl.later r2 P2.rel ((Pg.trans P3).trans Ph) (r3.come.trans P3 Come.refl |> fun c => Come.refl.trans Pg c) e9, ru, e11, fun H5 c => ?_⟩
                            obtain ⟨P5, _⟩ := Ph.rel.change' r1 Pall e10 ea c
                            exact q ρ3 σ H5 (((P1.trans Pall).trans P5).sub c3.1)
/-- name op= e -/
def sAug (i : Nat) (op : PyData → PyData → Option SV) (fe : SPl) : SS := fun s => match s.s[i]? with
  | some (some (.d x)) => (fe s).flow fun q s => match (ld s q).bind fun y => op x y with
    | some v => .nx (s.set i v)
    | none => .no
  | _ => .no
theorem zs_aug {i : Nat} {x : Str} {e : Expr} {op : PyData → PyData → Option SV} {fe : SPl} {bop : Operator} {pos' pos : Pos} (hN : X.N.Nodup) (hi : X.N[i]? = some x) (hx : Loc X.env.scope x) (he : ZP X W e fe) (ho : PIp X bop (rop X.K op)) (hf : X.fn x = true ∨ X.env.scope.names.lookup x = some .local := by first | exact .inl rfl | exact .inr rfl | assumption) :
    ZS X W (.AugAssign (.Name x pos') bop e pos) (sAug i op fe) := by
  refine PS.mono (ps_aug hN hi hx he ho hf) fun D σ H h => ?_
  obtain ⟨ρ, E, st0, R, q⟩ := h
  have q : GoS X.K X.mg W D ρ E st0 σ H (sAug i op fe st0) := q
  unfold sAug at q
  cases e1 : st0.s[i]? with
  | none => rw [e1] at q; exact q.elim
  | some y =>
    rw [e1] at q
    cases y with
    | none => exact q.elim
    | some sv =>
      cases sv with
      | r k => exact q.elim
      | o b => exact q.elim
      | d dx =>
        obtain ⟨v, ev, rv⟩ := R.slot i _ e1
        refine ⟨v, ev, ρ, E, st0, R, ?_⟩
        have q : GoS X.K X.mg W D ρ E st0 σ H ((fe st0).flow fun q s => match (ld s q).bind fun y => op dx y with
          | some v => .nx (s.set i v)
          | none => .no) := q
        cases e2 : fe st0 with
        | no => rw [e2] at q; exact q
        | ex x s => rw [e2] at q; exact GoS.exs (D := D) q (.refl R) Come.refl
        | ok p s =>
          rw [e2, Res.flow_ok] at q
          intro w ρ1 E1 H1 P1 r1
          cases e3 : ld s p with
          | none => rw [e3] at q; exact q.elim
          | some dw =>
            cases e4 : op dx dw with
            | none => simp only [e3, Option.bind_some, e4] at q; exact q.elim
            | some sv =>
              simp only [e3, Option.bind_some, e4] at q
              refine ⟨_, dx, dw, sv, P1.rel.dom, .rp (P1.rp r1.come.2 rv), r1.top P1.rel e3, e4, fun z H' n => ?_⟩
              obtain ⟨E', P', r'⟩ := n.post P1.rel
              obtain ⟨F, s', r''⟩ := rE.elder P1 r1.come P' r'
              have := ((P1.trans P').sub s').store (i := i) r''.come.1 r''
              exact q ρ1 _ H' this
end
end Z

set_option maxRecDepth 100000
set_option maxHeartbeats 4000000
namespace Z
open PySem PySem.Spec PyProof.Rows L2

/-! ### targets -/
abbrev SG := PyData → S → Option S
def tgN (i : Nat) : SG := fun x st => some (st.set i (.d x))
def tgs : List SG → List PyData → S → Option S
  | [], [], s => some s
  | g :: gs, x :: xs, s => (g x s).bind fun s => tgs gs xs s
  | _, _, _ => none
def tgT (gs : List SG) : SG := fun x s => match x with
  | .tuple xs => tgs gs xs s
  | _ => none
def tzg (K : PySem.W.Frag) (g : SG) : TG := fun v σ H Q => ∃ ρ E st x st', Rel K ρ E st σ H ∧ Rp K (avd ρ E st σ) H v x ∧ g x st = some st' ∧ ∀ σ' H', Post K ρ E st σ H ρ E st' σ' H' → Q σ' H'
def tzgs (K : PySem.W.Frag) (gs : List SG) : TGs := fun vs σ H Q => ∃ ρ E st xs st', Rel K ρ E st σ H ∧ RpAll K (avd ρ E st σ) H vs xs ∧ tgs gs xs st = some st' ∧ ∀ σ' H', Post K ρ E st σ H ρ E st' σ' H' → Q σ' H'
def ZG (X : Cx) (tg : Expr) (g : SG) : Prop := PG X tg (tzg X.K g)
def ZGs (X : Cx) (tgs : List Expr) (gs : List SG) : Prop := PGs X tgs (tzgs X.K gs)
section
variable {X : Cx} {W : WX} {K : PySem.W.Frag} {mg : Str → Option Value} {M M' ρ ρ' ρ'' E E' E'' : List Addr} {st st' st'' : S} {σ σ' σ'' : L2.St} {H H' H'' : Hp}
theorem PG.mono {e : Expr} {t t' : TG} (h : PG X e t) (m : ∀ v σ H Q, t' v σ H Q → t v σ H Q) : PG X e t' := ⟨fun pins s σ H v u Q I r q => h.run pins s σ H v u Q I r (m v σ H Q q)⟩
theorem PGs.mono {e : List Expr} {t t' : TGs} (h : PGs X e t) (m : ∀ v σ H Q, t' v σ H Q → t v σ H Q) : PGs X e t' := ⟨fun pins s σ H v u Q I r q => h.run pins s σ H v u Q I r (m v σ H Q q)⟩
theorem zg_name {i : Nat} {x : Str} {pos : Pos} (hN : X.N.Nodup) (hi : X.N[i]? = some x) (hx : Loc X.env.scope x) (hf : X.fn x = true ∨ X.env.scope.names.lookup x = some .local := by first | exact .inl rfl | exact .inr rfl | assumption) : ZG X (.Name x pos) (tgN i) := by
  refine PG.mono (pg_name hN hi hx hf) fun v σ H Q ⟨ρ, E, st, x, st', R, r, e, q⟩ => ?_
  cases e
  exact q _ _ (Post.store (.refl R) (.refl _) (sv := .d x) ⟨rfl, r⟩)
theorem zgs_nil : ZGs X [] [] := PGs.mono pgs_nil fun v σ H Q ⟨ρ, E, st, xs, st', R, r, e, q⟩ => by
  cases r with
  | nil => cases e; exact ⟨rfl, q _ _ (.refl R)⟩
  | cons _ _ => cases e
theorem zgs_cons {e : Expr} {es : List Expr} {g : SG} {gs : List SG} (h : ZG X e g) (hs : ZGs X es gs) (ha : (assignEach (e :: es) X.env).map (·.2) = assign e X.env :: (assignEach es X.env).map (·.2) := by rfl) : ZGs X (e :: es) (g :: gs) := by
  refine PGs.mono (pgs_cons h hs ha) fun v σ H Q ⟨ρ, E, st, xs, st', R, r, e, q⟩ => ?_
  cases r with
  | nil => cases e
  | @cons v vs d ds r a =>
    have e : ((g d st).bind fun s => tgs gs ds s) = some st' := e
    cases e1 : g d st with
    | none => rw [e1] at e; cases e
    | some s1 =>
      rw [e1] at e
      refine ⟨v, vs, rfl, ρ, E, st, d, s1, R, r, e1, fun σ1 H1 P1 => ?_⟩
      exact ⟨ρ, E, s1, ds, st', P1.rel, P1.rpAll Come.refl.2 a, e, fun σ2 H2 P2 => q σ2 H2 (P1.trans P2)⟩
theorem tgs_len : ∀ {gs : List SG} {xs : List PyData} {s s' : S}, tgs gs xs s = some s' → xs.length = gs.length
  | [], [], _, _, _ => rfl
  | [], _ :: _, _, _, h => by cases h
  | _ :: _, [], _, _, h => by cases h
  | g :: gs, x :: xs, s, s', h => by
    have h : ((g x s).bind fun s => tgs gs xs s) = some s' := h
    cases e : g x s with
    | none => rw [e] at h; cases h
    | some s1 => rw [e] at h; simp [tgs_len (gs := gs) (xs := xs) (s := s1) h]
theorem zg_tup {es : List Expr} {gs : List SG} {k : Nat} {pos : Pos} (hc : X.calm = true) (h : ZGs X es gs) (hn : (assignEach es X.env).length = gs.length := by rfl) (hst : (assignEach es X.env).findIdx? (·.1) = none := by rfl) : ZG X (.Tuple es k pos) (tgT gs) := by
  refine PG.mono (pg_tup hc h hn hst) fun v σ H Q ⟨ρ, E, st, x, st', R, r, e, q⟩ => ?_
  unfold tgT at e
  cases r with
  | @tup a vs ds n al =>
    have e : tgs gs ds st = some st' := e
    exact ⟨a, vs, rfl, n.sq, by rw [al.length]; exact tgs_len e, ρ, E, st, ds, st', R, al, e, q⟩
  | _ => cases e
/-- target = value -/
def sTg (g : SG) (f : SE) : SS := fun s => (f s).flow fun sv s => match sv with
  | .d x => match g x s with
    | some s => .nx s
    | none => .no
  | _ => .no
theorem zs_tg {tg e : Expr} {f : SE} {g : SG} {pos : Pos} (he : ZE X W e f) (hg : ZG X tg g) (hs : swapsWithSole [tg] e pos.line X.env = pure false := by rfl) (hw : swappedStores [tg] e X.env = pure none := by rfl)
    (h1 : (assignEach [tg] X.env).map (·.2) = [assign tg X.env] := by rfl) : ZS X W (.Assign [tg] e pos) (sTg g f) := by
  refine PS.mono (ps_asg he hg hs hw h1) fun D σ H ⟨ρ, E, st, R, q⟩ => ⟨ρ, E, st, R, ?_⟩
  have q : GoS X.K X.mg W D ρ E st σ H (sTg g f st) := q
  unfold sTg at q
  cases e : f st with
  | no => rw [e] at q; exact q
  | ex x s => rw [e] at q; exact GoS.exs (D := D) q (.refl R) Come.refl
  | ok sv s =>
    rw [e, Res.flow_ok] at q
    intro v ρ1 E1 H1 P1 r1
    cases sv with
    | r k => exact q.elim
    | o b => exact q.elim
    | d x =>
      obtain ⟨k, r⟩ := r1
      subst k
      have q : GoS X.K X.mg W D ρ E1 st σ H (match g x s with
        | some s => .nx s
        | none => .no) := q
      cases e2 : g x s with
      | none => rw [e2] at q; exact q.elim
      | some s2 =>
        rw [e2] at q
        exact ⟨ρ1, E1, s, x, s2, P1.rel, r, e2, fun σ' H' P => q ρ1 σ' H' (P1.trans P)⟩

/-! ### what is walked -/
abbrev SI := S → Res (List PyData)
/-- J gives xs, one behind another, as long as nothing of ours that is not changed by others is changed -/
def IsIt (K : PySem.W.Frag) (ρ E : List Addr) (st : S) (σ : L2.St) (H : Hp) (J : It) (xs : List PyData) : Prop := ∃ G Y, Walk J xs.length G Y ∧ ∀ σ1 st1 H1 ρ2 st2 σ2 H2 E2, Post K ρ E st σ H ρ E st1 σ1 H1 → Post K ρ E st1 σ1 H1 ρ2 E2 st2 σ2 H2 → E.Sublist E2 → (∀ a ∈ E2, a ∈ avd ρ E st1 σ1 ∨ H1 a = none) → G H2 ∧ ∀ i x H3, i < xs.length → Y i H2 x H3 → (∀ a o, H2 a = some o → H3 a = some o) ∧ ∃ d, xs[i]? = some d ∧ Rp K (avd ρ2 E2 st2 σ2) H3 x d
def tzI (K : PySem.W.Frag) (mg : Str → Option Value) (W : WX) (f : SI) : TI := fun σ H R => ∃ ρ E st, Rel K ρ E st σ H ∧ match f st with
  | .ok xs st' => ∀ J ρ' E' H', Post K ρ E st σ H ρ' E' st' σ H' → Come ρ E st σ H E' → IsIt K ρ' E' st' σ H' J xs → R J H'
  | .ex x st' => ∀ cls d ρ' E' H', E.Sublist E' → Post K ρ E st σ H ρ' E' st' σ H' → XR K mg (avd ρ' E' st' σ) H' x cls d → W cls d σ H'
  | .no => False
def ZI (X : Cx) (W : WX) (tg iter : Expr) (f : SI) : Prop := PI X tg iter (tzI X.K X.mg W f)
theorem PI.mono {tg e : Expr} {t t' : TI} (h : PI X tg e t) (m : ∀ σ H R, t' σ H R → t σ H R) : PI X tg e t' := ⟨fun pins s σ H R I q => h.run pins s σ H R I (m σ H R q)⟩
def listOf : SV → Option (List PyData)
  | .d (.list xs) => some xs
  | .o (.lst xs) => some xs
  | _ => none
def tupOf : SV → Option (List PyData)
  | .d (.tuple xs) => some xs
  | _ => none
def signsOf (z : Str) : List PyData := z.cps.toList.map fun c => .str ⟨#[c]⟩
def strOf : SV → Option (List PyData)
  | .d (.str z) => some (signsOf z)
  | _ => none
def iOf (o : SV → Option (List PyData)) (f : SE) : SI := fun s => (f s).bind fun sv s => retn (o sv) s
theorem coreI {o : SV → Option (List PyData)} {f : SE} {R : It → Hp → Prop} (h : tzI K mg W (iOf o f) σ H R) : tzE K mg W f σ H fun v H1 => ∃ ρ E st ρ' E' st' sv xs, Post K ρ E st σ H ρ' E' st' σ H1 ∧ rE K ρ E st σ H ρ' E' st' σ H1 sv v ∧ o sv = some xs ∧ ∀ J H2, Post K ρ' E' st' σ H1 ρ' E' st' σ H2 → IsIt K ρ' E' st' σ H2 J xs → R J H2 := by
  obtain ⟨ρ, E, st, R0, q⟩ := h
  refine ⟨ρ, E, st, R0, ?_⟩
  unfold iOf at q
  cases e : f st with
  | no => rw [e] at q; exact q
  | ex x s => rw [e] at q; exact q
  | ok sv s =>
    rw [e, Res.bind_ok] at q
    intro v ρ1 E1 H1 P1 r1
    cases e2 : o sv with
    | none => rw [e2] at q; exact q.elim
    | some xs =>
      rw [e2] at q
      exact ⟨ρ, E, st, ρ1, E1, s, sv, xs, P1, r1, e2, fun J H2 P2 it => q J ρ1 E1 H2 (P1.trans P2) (r1.come) it⟩
theorem isIt_at {J : It} {G : Hp → Prop} {vs : List V} {xs : List PyData} {a : Addr} {u : HO} (w : Walk J vs.length G (YAt vs)) (g : ∀ H, Rd H a u → G H) (r : Rd H a u) (n : a ∉ chg ρ st σ) (al : RpAll K (avd ρ E st σ) H vs xs) : IsIt K ρ E st σ H J xs := by
  refine ⟨G, YAt vs, by rw [← al.length]; exact w, fun σ1 st1 H1 ρ2 st2 σ2 H2 E2 P1 P sub come => ⟨g _ ?_, fun i x H3 hi y => ?_⟩⟩
  · have PP := P1.trans P
    rcases r with r | ⟨o, r⟩
    · exact .inl (PP.fr _ _ n r)
    · exact .inr ⟨o, PP.fr _ _ n r⟩
  · obtain ⟨e, y⟩ := y
    subst e
    refine ⟨fun _ _ e => e, ?_⟩
    exact RpAll.getV (P.rpAll come (P1.rpAll Come.refl.2 al)) y
theorem isIt_const {J : It} {G : Hp → Prop} {vs : List V} {xs : List PyData} (w : Walk J vs.length G (YAt vs)) (g : ∀ H, G H) (al : RpAll K (avd ρ E st σ) H vs xs) : IsIt K ρ E st σ H J xs := by
  refine ⟨G, YAt vs, by rw [← al.length]; exact w, fun σ1 st1 H1 ρ2 st2 σ2 H2 E2 P1 P sub come => ⟨g _, fun i x H3 hi y => ?_⟩⟩
  obtain ⟨e, y⟩ := y
  subst e
  refine ⟨fun _ _ e => e, ?_⟩
  exact RpAll.getV (P.rpAll come (P1.rpAll Come.refl.2 al)) y
theorem zi_list {tg e : Expr} {f : SE} (h : ZE X W e f) : ZI X W tg e (iOf listOf f) := by
  refine PI.mono (pi_list h) fun σ H R h => ?_
  refine tzE.mono (coreI h) fun v H1 ⟨ρ, E, st, ρ', E', st', sv, xs, P, r, e, k⟩ => ?_
  cases sv with
  | r k => cases e
  | d x =>
    cases x with
    | list ys =>
      cases e
      obtain ⟨k1, r⟩ := r
      subst k1
      cases r with
      | @lst a vs ds n al =>
        exact ⟨a, rfl, ⟨vs, .inl n.1⟩, k _ H1 (.refl P.rel) (isIt_at (u := .lst vs) walk_list (fun H r => .inl r) n.1 (fun z => n.2 (chg_sub z)) al)⟩
    | _ => cases e
  | o b =>
    cases b with
    | lst ys =>
      cases e
      obtain ⟨p, e1, e2, hp, vs, ev, al⟩ := r
      subst e1 e2
      have np : p ∉ chg ρ' st' σ := fun z => P.rel.fresh (chg_sub z)
      exact ⟨p, rfl, ⟨vs, .inl (.inl ev)⟩, k _ H1 (.refl P.rel) (isIt_at (u := .lst vs) walk_list (fun H r => .inl r) (.inl ev) np al)⟩
    | _ => cases e
theorem zi_tup {tg e : Expr} {f : SE} (h : ZE X W e f) : ZI X W tg e (iOf tupOf f) := by
  refine PI.mono (pi_tup h) fun σ H R h => ?_
  refine tzE.mono (coreI h) fun v H1 ⟨ρ, E, st, ρ', E', st', sv, xs, P, r, e, k⟩ => ?_
  cases sv with
  | r k => cases e
  | o b => cases e
  | d x =>
    cases x with
    | tuple ys =>
      cases e
      obtain ⟨k1, r⟩ := r
      subst k1
      cases r with
      | @tup a vs ds n al =>
        rcases n with ⟨n, h, _⟩ | ⟨o, n, _, h⟩ | ⟨o, its, m, e, c, _, n⟩
        · exact ⟨a, rfl, ⟨vs, .inl (.inl n)⟩, k _ H1 (.refl P.rel) (isIt_at (u := .tup vs) walk_tup (fun H r => .inl r) (.inl n) (fun z => h (chg_sub z)) al)⟩
        · exact ⟨a, rfl, ⟨vs, .inl (.inr ⟨o, n⟩)⟩, k _ H1 (.refl P.rel) (isIt_at (u := .tup vs) walk_tup (fun H r => .inl r) (.inr ⟨o, n⟩) (fun z => h (chg_sub z)) al)⟩
        · exact ⟨a, rfl, ⟨vs, .inr ⟨o, its, m, e, c, n⟩⟩, k _ H1 (.refl P.rel) (isIt_const (G := fun H => SqT X.K H a vs) walk_tup (fun H => .inr ⟨o, its, m, e, c, n⟩) al)⟩
    | _ => cases e
theorem zi_str {tg e : Expr} {f : SE} (h : ZE X W e f) : ZI X W tg e (iOf strOf f) := by
  refine PI.mono (pi_str h) fun σ H R h => ?_
  refine tzE.mono (coreI h) fun v H1 ⟨ρ, E, st, ρ', E', st', sv, xs, P, r, e, k⟩ => ?_
  cases sv with
  | r k => cases e
  | o b => cases e
  | d x =>
    cases x with
    | str z =>
      cases e
      obtain ⟨k1, r⟩ := r
      cases r
      refine ⟨z, rfl, k _ H1 (.refl P.rel) ⟨fun _ => True, fun i H v H' => H' = H ∧ ∃ c, z.cps[i]? = some c ∧ v = .str ⟨#[c]⟩, ?_, fun σ1 st1 H1 ρ2 st2 σ2 H2 E2 P1 P sub come => ⟨trivial, fun i x H3 hi y => ?_⟩⟩⟩
      · have : (signsOf z).length = z.cps.size := by simp [signsOf]
        rw [this]
        exact walk_str
      · obtain ⟨e, c, ec, ex⟩ := y
        subst e ex
        refine ⟨fun _ _ e => e, _, ?_, .str _⟩
        simp [signsOf, ec]
    | _ => cases e
/-- numbers -/
def rangeD (lo hi : Int) : List PyData := (List.range (hi - lo).toNat).map fun i => .int (lo + (i : Nat))
def rangeC (lo c : Int) (n : Nat) : List PyData := (List.range n).map fun i => .int (lo + (i : Nat) * c)
def small62 (i : Int) : Bool := decide (i.natAbs ≤ 4611686018427387903)
theorem small62_iff {i : Int} (h : small62 i = true) : -(2 ^ 62) ≤ i ∧ i < 2 ^ 62 := by
  have h := of_decide_eq_true h
  omega
/-- what is walked is told by what is read -/
def iPl (g : List PyData → Option (List PyData)) (fs : List SPl) : SI := fun s => (pls fs s).bind fun ps s => retn ((ldAll s ps).bind g) s
def rg1 : List PyData → Option (List PyData)
  | [.int j] => if small62 j = true then some (rangeD 0 j) else none
  | _ => none
def rg2 : List PyData → Option (List PyData)
  | [.int i, .int j] => if (small62 i && small62 j) = true then some (rangeD i j) else none
  | _ => none
/-- downwards by one -/
def rg3 : List PyData → Option (List PyData)
  | [.int i, .int j, .int c] => if (small62 i && small62 j && decide (c = -1)) = true then some (rangeC i (-1) (i - j).toNat) else none
  | _ => none
theorem isIt_fn {J : It} {n : Nat} {f : Nat → Int} (w : Walk J n (fun _ => True) (YFn fun i => .int (f i))) : IsIt K ρ E st σ H J ((List.range n).map fun i => .int (f i)) := by
  refine ⟨_, _, by rw [List.length_map, List.length_range]; exact w, fun σ1 st1 H1 ρ2 st2 σ2 H2 E2 P1 P sub come => ⟨trivial, fun i x H3 hi y => ?_⟩⟩
  obtain ⟨e, e2⟩ := y
  subst e e2
  refine ⟨fun _ _ e => e, .int (f i), ?_, .int _⟩
  rw [List.length_map, List.length_range] at hi
  simp [hi]
theorem coreR {fs : List SPl} {R : It → Hp → Prop} {g : List PyData → Option (List PyData)} (h : tzI K mg W (iPl g fs) σ H R) : (tzPs K mg W (pls fs)) σ H fun vs H1 => ∃ ρ E st ρ' E' st' ds xs, Post K ρ E st σ H ρ' E' st' σ H1 ∧ Rel K ρ' E' st' σ H1 ∧ TopAll K (avd ρ' E' st' σ) H1 vs ds ∧ g ds = some xs ∧ ∀ J H2, Post K ρ' E' st' σ H1 ρ' E' st' σ H2 → IsIt K ρ' E' st' σ H2 J xs → R J H2 := by
  obtain ⟨ρ, E, st, R0, q⟩ := h
  refine ⟨ρ, E, st, R0, ?_⟩
  unfold iPl at q
  cases e : pls fs st with
  | no => simp only [e] at q; exact q
  | ex x s => simp only [e] at q; exact q
  | ok ps s =>
    simp only [e, Res.bind_ok] at q
    intro vs ρ1 E1 H1 P1 r1
    cases e2 : ldAll s ps with
    | none => simp only [e2] at q; exact q.elim
    | some ds =>
      cases e3 : g ds with
      | none => simp only [e2, Option.bind_some, e3] at q; exact q.elim
      | some xs =>
        simp only [e2, Option.bind_some, e3] at q
        exact ⟨ρ, E, st, ρ1, E1, s, ds, xs, P1, P1.rel, (r1.2 _ _ _ _ (.refl P1.rel) Come.refl ds e2).1, e3, fun J H2 P2 it => q J ρ1 E1 H2 (P1.trans P2) r1.1 it⟩
theorem TopAll.int1 {vs : List V} {i : Int} (t : TopAll K M H vs [.int i]) : vs = [.int i] := by
  cases t with
  | cons t a =>
    cases a
    have : ∀ {v : V} {d : PyData}, Top K M H v d → d = .int i → v = .int i := fun t e => by
      cases t with
      | rp r => subst e; cases r; rfl
      | @ob a b o => cases b <;> cases e
    rw [this t rfl]
theorem Top.int {v : V} {i : Int} (t : Top K M H v (.int i)) : v = .int i := by
  have : ∀ {v : V} {d : PyData}, Top K M H v d → d = .int i → v = .int i := fun t e => by
      cases t with
      | rp r => subst e; cases r; rfl
      | @ob a b o => cases b <;> cases e
  exact this t rfl
theorem TopAll.cons_inv {vs : List V} {d : PyData} {ds : List PyData} (t : TopAll K M H vs (d :: ds)) : ∃ v vs', vs = v :: vs' ∧ Top K M H v d ∧ TopAll K M H vs' ds := by
  cases t with
  | cons t a => exact ⟨_, _, rfl, t, a⟩
theorem TopAll.nil_inv {vs : List V} (t : TopAll K M H vs []) : vs = [] := by cases t; rfl
theorem zi_range1 {tg a : Expr} {fs : List SPl} {p pos : Pos} (hg : Gl X "range") (hm : X.mg "range" = none) (ha : ZPs X W [a] fs) (hs : starEach [a] X.env = [(false, eval a X.env)] := by rfl) : ZI X W tg (.Call (.Name "range" p) [a] [] pos) (iPl rg1 fs) := by
  refine PI.mono (pi_range1 hg hm ha hs) fun σ H R h => ?_
  refine tzE.mono (coreR h) fun vs H1 ⟨ρ, E, st, ρ', E', st', ds, xs, P, R1, t, e, k⟩ => ?_
  unfold rg1 at e
  split at e
  · rename_i j
    by_cases hj : small62 j = true
    · rw [if_pos hj] at e
      cases e
      obtain ⟨h1, h2⟩ := small62_iff hj
      refine ⟨j, t.int1, h1, h2, k _ H1 (.refl R1) ?_⟩
      have : j.toNat = (j - 0).toNat := by simp
      rw [this]
      exact isIt_fn walk_range
    · rw [if_neg hj] at e; cases e
  · cases e
theorem zi_range2 {tg a b : Expr} {fs : List SPl} {p pos : Pos} (hg : Gl X "range") (hm : X.mg "range" = none) (ha : ZPs X W [a, b] fs) (hs : starEach [a, b] X.env = [(false, eval a X.env), (false, eval b X.env)] := by rfl) (hs2 : starEach [b] X.env = [(false, eval b X.env)] := by rfl) : ZI X W tg (.Call (.Name "range" p) [a, b] [] pos) (iPl rg2 fs) := by
  refine PI.mono (pi_range2 hg hm ha hs hs2) fun σ H R h => ?_
  refine tzE.mono (coreR h) fun vs H1 ⟨ρ, E, st, ρ', E', st', ds, xs, P, R1, t, e, k⟩ => ?_
  unfold rg2 at e
  split at e
  · rename_i i j
    by_cases hj : (small62 i && small62 j) = true
    · rw [if_pos hj] at e
      cases e
      rw [Bool.and_eq_true] at hj
      obtain ⟨h1, h2⟩ := small62_iff hj.1
      obtain ⟨h3, h4⟩ := small62_iff hj.2
      obtain ⟨v, vs1, rfl, t1, t⟩ := t.cons_inv
      obtain ⟨w, vs2, rfl, t2, t⟩ := t.cons_inv
      rw [t.nil_inv, t1.int, t2.int]
      exact ⟨i, j, rfl, ⟨h1, h2, h3, h4⟩, k _ H1 (.refl R1) (isIt_fn walk_range)⟩
    · rw [if_neg hj] at e; cases e
  · cases e
theorem zi_range3 {tg a b c : Expr} {fs : List SPl} {p pos : Pos} (hg : Gl X "range") (hm : X.mg "range" = none) (ha : ZPs X W [a, b, c] fs) (hs : starEach [a, b, c] X.env = (false, eval a X.env) :: starEach [b, c] X.env := by rfl) (hpl : (backTo pos (starEach [b, c] X.env)).any (·.1) = false := by rfl) : ZI X W tg (.Call (.Name "range" p) [a, b, c] [] pos) (iPl rg3 fs) := by
  refine PI.mono (pi_range3 hg hm ha hs hpl) fun σ H R h => ?_
  refine tzE.mono (coreR h) fun vs H1 ⟨ρ, E, st, ρ', E', st', ds, xs, P, R1, t, e, k⟩ => ?_
  unfold rg3 at e
  split at e
  · rename_i i j c
    by_cases hj : (small62 i && small62 j && decide (c = -1)) = true
    · rw [if_pos hj] at e
      cases e
      rw [Bool.and_eq_true, Bool.and_eq_true] at hj
      obtain ⟨h1, h2⟩ := small62_iff hj.1.1
      obtain ⟨h3, h4⟩ := small62_iff hj.1.2
      have hc : c = -1 := of_decide_eq_true hj.2
      subst hc
      obtain ⟨v, vs1, rfl, t1, t⟩ := t.cons_inv
      obtain ⟨w, vs2, rfl, t2, t⟩ := t.cons_inv
      obtain ⟨u, vs3, rfl, t3, t⟩ := t.cons_inv
      rw [t.nil_inv, t1.int, t2.int, t3.int]
      exact ⟨i, j, -1, _, rfl, RgC.neg h1 h2 h3 h4, k _ H1 (.refl R1) (isIt_fn (f := fun n => i + (n : Nat) * -1) walk_rangeC)⟩
    · rw [if_neg hj] at e; cases e
  · cases e
end
end Z

set_option maxRecDepth 100000
set_option maxHeartbeats 4000000
namespace Z
open PySem PySem.Spec PyProof.Rows L2
section
variable {X : Cx} {W : WX} {K : PySem.W.Frag} {mg : Str → Option Value} {M M' ρ ρ' ρ'' E E' E'' : List Addr} {st st' st'' : S} {σ σ' σ'' : L2.St} {H H' H'' : Hp}
/-- from a later point on, with more told apart -/
theorem GoS.later' {D D' : Ends} {r : Fl} (h : GoS K mg W D ρ E st σ H r) (P : Post K ρ E st σ H ρ' E' st' σ' H') (c : Come ρ E st σ H E') (dn : ∀ σ H, D.nx σ H → D'.nx σ H) (db : ∀ σ H, D.bk σ H → D'.bk σ H) (dc : ∀ σ H, D.ct σ H → D'.ct σ H) (dr : ∀ v H, D.rt v H → D'.rt v H) : GoS K mg W D' ρ' E' st' σ' H' r := by
  cases r with
  | nx s => exact fun ρ2 σ2 H2 P2 => dn _ _ (h ρ2 σ2 H2 ((P.trans P2).sub c.1))
  | bk s => exact fun ρ2 σ2 H2 P2 => db _ _ (h ρ2 σ2 H2 ((P.trans P2).sub c.1))
  | ct s => exact fun ρ2 σ2 H2 P2 => dc _ _ (h ρ2 σ2 H2 ((P.trans P2).sub c.1))
  | rt v s =>
    intro v' ρ2 E2 σ2 H2 P2 r
    obtain ⟨F, sub, r'⟩ : ∃ F, F.Sublist E2 ∧ rE K ρ E st σ H ρ2 F s σ2 H2 v v' := by
      cases v with
      | d x => obtain ⟨e, r⟩ := r; subst e; exact ⟨E, c.1, rfl, Rp.mono (avd_sub c.1) r⟩
      | r k => obtain ⟨e, r⟩ := r; subst e; exact ⟨E, c.1, rfl, r⟩
      | o b =>
        obtain ⟨x, e1, e2, hx, ob⟩ := r
        subst e2
        refine ⟨x :: E, List.Sublist.cons_cons _ c.1, x, e1, rfl, ?_, ob.mono (avd_sub (List.Sublist.cons_cons _ c.1))⟩
        rcases hx with hx | hx
        · exact P.mu x hx
        · by_cases hm : x ∈ chg ρ st σ
          · exact .inl hm
          · refine .inr ?_
            cases e : H x with
            | none => rfl
            | some o => rw [P.fr x o hm e] at hx; cases hx
    exact dr _ _ (h v' ρ2 F σ2 H2 ((P.trans P2).sub sub) r')
  | ex x s => exact fun cls d ρ2 E2 σ2 H2 sub P2 xr => h cls d ρ2 E2 σ2 H2 (c.1.trans sub) (P.trans P2) xr
  | no => exact h
theorem GoS.rtL {D D' : Ends} {v : SV} {s : S} (h : GoS K mg W D ρ E st σ H (.rt v s)) (P : Post K ρ E st σ H ρ' E' st' σ' H') (c : Come ρ E st σ H E') (dr : ∀ v H, D.rt v H → D'.rt v H) : GoS K mg W D' ρ' E' st' σ' H' (.rt v s) :=
  GoS.later' (D := { D with nx := D'.nx, bk := D'.bk, ct := D'.ct }) h P c (fun _ _ h => h) (fun _ _ h => h) (fun _ _ h => h) dr
theorem GoS.exL {D D' : Ends} {v : Ex} {s : S} (h : GoS K mg W D ρ E st σ H (.ex v s)) (P : Post K ρ E st σ H ρ' E' st' σ' H') (c : Come ρ E st σ H E') : GoS K mg W D' ρ' E' st' σ' H' (.ex v s) :=
  GoS.later' (D := D') h P c (fun _ _ h => h) (fun _ _ h => h) (fun _ _ h => h) fun _ _ h => h
/-! ### for -/
def forL (g : SG) (body : SS) : List PyData → S → Fl
  | [], s => .nx s
  | x :: xs, s => match g x s with
    | none => .no
    | some s1 => match body s1 with
      | .nx s2 => forL g body xs s2
      | .ct s2 => forL g body xs s2
      | .bk s2 => .nx s2
      | .rt v s2 => .rt v s2
      | .ex x s2 => .ex x s2
      | .no => .no
def sFor (it : SI) (g : SG) (body : SS) : SS := fun s => (it s).flow fun xs s => forL g body xs s
theorem zs_for {tg iter : Expr} {body : List Stmt} {it : SI} {g : SG} {b : SS} {pos : Pos} (hp : PassesOwn (model X.prog X.w) X.A X.env X.xe) (hc : X.calm = true) (hi : ZI X W tg iter it) (hg : ZG X tg g) (hb : ZSs X W body b)
    (hs : ∀ x, foldedSetIterable iter X.env x = pure x := by intro _; rfl) : ZS X W (.For tg iter body [] pos) (sFor it g b) := by
  refine PS.mono (ps_for hp hc hi hg hb hs) fun D σ H ⟨ρ, E, st, R, q⟩ => ⟨ρ, E, st, R, ?_⟩
  have q : GoS X.K X.mg W D ρ E st σ H (sFor it g b st) := q
  unfold sFor at q
  cases e : it st with
  | no => rw [e] at q; exact q
  | ex x s => rw [e] at q; exact fun cls d ρ2 E2 H2 sub P2 xr => q cls d ρ2 E2 σ H2 sub P2 xr
  | ok xs s =>
    rw [e, Res.flow_ok] at q
    intro J ρ1 E1 H1 P1 c1 hit
    obtain ⟨G, Y, w, hY⟩ := hit
    have stay : ∀ {a : Addr}, a ∈ E1 → a ∈ avd ρ1 E1 s σ ∨ H1 a = none := fun h => .inl (List.mem_append_right _ h)
    refine for_it w (fun i σ2 H2 => ∃ ρ2 st2, Post X.K ρ1 E1 s σ H1 ρ2 E1 st2 σ2 H2 ∧ GoS X.K X.mg W D ρ E st σ H (forL g b (xs.drop i) st2)) ⟨ρ1, s, .refl P1.rel, q⟩ ?_ ?_ ?_
    · rintro i σ2 H2 hi ⟨ρ2, st2, P2, _⟩
      exact (hY σ s H1 ρ2 st2 σ2 H2 E1 (.refl P1.rel) P2 (.refl _) fun a h => stay h).1
    · rintro i x σ2 H2 H3 hi ⟨ρ2, st2, P2, q2⟩ y
      obtain ⟨g3, d, ed, rd⟩ := (hY σ s H1 ρ2 st2 σ2 H2 E1 (.refl P1.rel) P2 (.refl _) fun a h => stay h).2 i x H3 hi y
      have hi' : i < xs.length := hi
      have ed' : xs.drop i = d :: xs.drop (i + 1) := by
        obtain ⟨h1, h2⟩ := List.getElem?_eq_some_iff.mp ed
        rw [List.drop_eq_getElem_cons h1, h2]
      rw [ed'] at q2
      unfold forL at q2
      have P3 : Post X.K ρ2 E1 st2 σ2 H2 ρ2 E1 st2 σ2 H3 := ⟨P2.rel.grow g3, List.prefix_refl _, fun a o _ e => g3 a o e, fun a h => .inl h⟩
      cases e2 : g d st2 with
      | none => rw [e2] at q2; exact q2.elim
      | some s1 =>
        rw [e2] at q2
        refine ⟨ρ2, E1, st2, d, s1, P3.rel, rd, e2, fun σ4 H4 P4 => ?_⟩
        refine ⟨ρ2, E1, s1, P4.rel, ?_⟩
        have q2 : GoS X.K X.mg W D ρ E st σ H (match b s1 with
          | .nx s2 => forL g b (xs.drop (i + 1)) s2
          | .ct s2 => forL g b (xs.drop (i + 1)) s2
          | .bk s2 => .nx s2
          | .rt v s2 => .rt v s2
          | .ex x s2 => .ex x s2
          | .no => .no) := q2
        have P24 := (P2.trans P3).trans P4
        show GoS X.K X.mg W _ ρ2 E1 s1 σ4 H4 (b s1)
        cases e3 : b s1 with
        | no => rw [e3] at q2; exact q2
        | nx s2 => rw [e3] at q2; exact fun ρ5 σ5 H5 P5 => ⟨ρ5, s2, P24.trans P5, q2⟩
        | ct s2 => rw [e3] at q2; exact fun ρ5 σ5 H5 P5 => ⟨ρ5, s2, P24.trans P5, q2⟩
        | bk s2 => rw [e3] at q2; exact fun ρ5 σ5 H5 P5 => q2 ρ5 σ5 H5 (((P1.trans P24).trans P5).sub c1.1)
        | rt v s2 => rw [e3] at q2; exact GoS.rtL (D := D) q2 (P1.trans P24) (c1.trans P1 Come.refl) fun _ _ h => h
        | ex x s2 => rw [e3] at q2; exact GoS.exL (D := D) q2 (P1.trans P24) (c1.trans P1 Come.refl)
    · rintro σ2 H2 ⟨ρ2, st2, P2, q2⟩
      rw [List.drop_length] at q2
      exact q2 ρ2 σ2 H2 ((P1.trans P2).sub c1.1)
/-! ### while -/
def whileL (t : S → Res Bool) (body : SS) : Nat → S → Fl
  | 0, _ => .no
  | n + 1, s => (t s).flow fun b s => if b = true then (match body s with
      | .nx s2 => whileL t body n s2
      | .ct s2 => whileL t body n s2
      | .bk s2 => .nx s2
      | .rt v s2 => .rt v s2
      | .ex x s2 => .ex x s2
      | .no => .no) else .nx s
def sWhile (n : Nat) (t : S → Res Bool) (body : SS) : SS := fun s => whileL t body n s
theorem zs_while {n : Nat} {c : Expr} {body : List Stmt} {t : S → Res Bool} {b : SS} {pos : Pos} (hp : PassesOwn (model X.prog X.w) X.A X.env X.xe) (hc : ZT X W c t) (hb : ZSs X W body b) : ZS X W (.While c body [] pos) (sWhile n t b) := by
  refine PS.mono (ps_while hp hc hb) fun D σ H ⟨ρ, E, st, R, q⟩ => ?_
  have q : GoS X.K X.mg W D ρ E st σ H (whileL t b n st) := q
  refine ⟨fun m σ2 H2 => ∃ ρ2 st2, Post X.K ρ E st σ H ρ2 E st2 σ2 H2 ∧ GoS X.K X.mg W D ρ E st σ H (whileL t b m st2), ⟨n, ρ, st, .refl R, q⟩, ?_⟩
  rintro m σ2 H2 ⟨ρ2, st2, P2, q2⟩
  cases m with
  | zero => exact q2.elim
  | succ m =>
    unfold whileL at q2
    refine ⟨ρ2, E, st2, P2.rel, ?_⟩
    cases e : t st2 with
    | no => rw [e] at q2; exact q2
    | ex x s => rw [e] at q2; exact GoS.exs (D := D) (GoS.later (D := D) q2 P2 (fun _ _ h => h) (fun _ _ h => h) (fun _ _ h => h) fun _ _ h => h) (.refl P2.rel) Come.refl
    | ok v s =>
      rw [e, Res.flow_ok] at q2
      intro c' ρ3 E3 H3 P3 r3
      obtain ⟨e1, e2⟩ := r3
      subst e1 e2
      cases c' with
      | false =>
        rw [if_neg (by decide)] at q2 ⊢
        exact q2 ρ3 σ2 H3 (P2.trans P3)
      | true =>
        rw [if_pos rfl] at q2 ⊢
        refine ⟨fun σ4 H4 => ∃ ρ4 st4, Post X.K ρ E3 st σ H ρ4 E3 st4 σ4 H4 ∧ GoS X.K X.mg W D ρ E3 st σ H (whileL t b m st4), fun σ4 H4 h => ⟨m, Nat.lt_succ_self _, h⟩, ρ3, E3, s, P3.rel, ?_⟩
        have P23 := P2.trans P3
        show GoS X.K X.mg W _ ρ3 E3 s σ2 H3 (b s)
        cases e3 : b s with
        | no => rw [e3] at q2; exact q2
        | nx s2 => rw [e3] at q2; exact fun ρ5 σ5 H5 P5 => ⟨ρ5, s2, P23.trans P5, q2⟩
        | ct s2 => rw [e3] at q2; exact fun ρ5 σ5 H5 P5 => ⟨ρ5, s2, P23.trans P5, q2⟩
        | bk s2 => rw [e3] at q2; exact fun ρ5 σ5 H5 P5 => q2 ρ5 σ5 H5 (P23.trans P5)
        | rt v s2 => rw [e3] at q2; exact GoS.rtL (D := D) q2 P23 Come.refl fun _ _ h => h
        | ex x s2 => rw [e3] at q2; exact GoS.exL (D := D) q2 P23 Come.refl
end
end Z

set_option maxRecDepth 100000
set_option maxHeartbeats 4000000
namespace Z
open PySem PySem.Spec PyProof.Rows L2
/-! ### slots forgotten -/
def wipeL (s : List (Option SV)) : List Nat → List (Option SV)
  | [] => s
  | v :: vs => (wipeL s vs).set v none
def S.wipe (st : S) (vs : List Nat) : S := { st with s := wipeL st.s vs }
theorem wipeL_len (s : List (Option SV)) : ∀ vs : List Nat, (wipeL s vs).length = s.length
  | [] => rfl
  | v :: vs => by unfold wipeL; rw [List.length_set, wipeL_len s vs]
theorem wipeL_some {s : List (Option SV)} {i : Nat} {x : SV} {vs : List Nat} (h : (wipeL s vs)[i]? = some (some x)) : s[i]? = some (some x) ∧ i ∉ vs := by
  induction vs with
  | nil => exact ⟨h, List.not_mem_nil⟩
  | cons v vs ih =>
    have h : ((wipeL s vs).set v none)[i]? = some (some x) := h
    rw [List.getElem?_set] at h
    split at h
    · split at h <;> cases h
    · rename_i ne
      obtain ⟨e, n⟩ := ih h
      exact ⟨e, fun m => (List.mem_cons.mp m).elim (fun q => ne q.symm) n⟩
theorem wipe_set {σ : L2.St} {i : Nat} {x : Option V} : ∀ {vs : List Nat}, i ∈ vs → wipe (σ.set i x) vs = wipe σ vs
  | [], h => absurd h List.not_mem_nil
  | v :: vs, h => by
    unfold wipe
    by_cases hv : i ∈ vs
    · rw [wipe_set hv]
    · have e : i = v := by
        rcases List.mem_cons.mp h with h | h
        · exact h
        · exact absurd h hv
      subst e
      have : ∀ {vs : List Nat}, i ∉ vs → wipe (σ.set i x) vs = (wipe σ vs).set i x := by
        intro vs
        induction vs with
        | nil => intro _; rfl
        | cons w vs ih =>
          intro hw
          simp only [List.mem_cons, not_or] at hw
          unfold wipe
          rw [ih hw.2, List.set_comm _ _ hw.1]
      rw [this hv, List.set_set]
theorem wipe_idem (vs : List Nat) (σ : L2.St) : wipe (wipe σ vs) vs = wipe σ vs := by
  apply List.ext_getElem?
  intro i
  by_cases hi : i ∈ vs
  · cases z : (wipe (wipe σ vs) vs)[i]? with
    | none =>
      rw [List.getElem?_eq_none_iff] at z
      rw [List.getElem?_eq_none_iff.mpr]
      rw [wipe_length] at z
      exact z
    | some o =>
      cases o with
      | some v => exact absurd hi (wipe_some z).2
      | none =>
        cases z2 : (wipe σ vs)[i]? with
        | none =>
          rw [List.getElem?_eq_none_iff] at z2
          have := (List.getElem?_eq_some_iff.mp z).1
          rw [wipe_length] at this
          omega
        | some o2 =>
          cases o2 with
          | none => rfl
          | some v => exact absurd hi (wipe_some z2).2
  · rw [wipe_out hi]
theorem owns_congr : ∀ {s : List (Option SV)} {σ τ : L2.St}, (∀ (i : Nat) (sv : SV), s[i]? = some (some sv) → σ[i]? = τ[i]?) → σ.length = τ.length → owns s σ = owns s τ
  | [], σ, τ, _, _ => by cases σ <;> cases τ <;> rfl
  | y :: s, [], [], _, _ => rfl
  | y :: s, [], _ :: _, _, h => by simp at h
  | y :: s, _ :: _, [], _, h => by simp at h
  | y :: s, w :: σ, u :: τ, h, hl => by
    rw [owns_cons, owns_cons, owns_congr (s := s) (σ := σ) (τ := τ) (fun i sv e => by simpa using h (i + 1) sv (by simpa using e)) (by simpa using hl)]
    cases y with
    | none => rfl
    | some sv =>
      have := h 0 sv rfl
      simp at this
      rw [this]
section
variable {X : Cx} {W : WX} {K : PySem.W.Frag} {mg : Str → Option Value} {M M' ρ ρ' ρ'' E E' E'' : List Addr} {st st' st'' : S} {σ σ' σ'' τ τ' : L2.St} {H H' H'' : Hp}
theorem Rel.congr (R : Rel K ρ E st σ H) (h : ∀ (i : Nat) (sv : SV), st.s[i]? = some (some sv) → σ[i]? = τ[i]?) (hl : σ.length = τ.length) : Rel K ρ E st τ H := by
  have eo := owns_congr h hl
  have ea : avd ρ E st σ = avd ρ E st τ := by show ρ ++ owns st.s σ ++ E = _; rw [eo]
  exact ⟨by rw [← ea]; exact R.nd, by rw [← ea]; exact R.dom, R.len.trans hl, fun i sv e => by
    obtain ⟨v, e1, q⟩ := R.slot i sv e
    exact ⟨v, by rw [← h i sv e]; exact e1, by rw [← ea]; exact q⟩, by rw [← ea]; exact R.heap⟩
theorem Rel.wipe (R : Rel K ρ E st σ H) (vs : List Nat) : Post K ρ E st σ H ρ E (st.wipe vs) σ H := by
  have so : ∀ {s : List (Option SV)} {σ : L2.St} {i : Nat}, (owns (s.set i none) σ).Sublist (owns s σ) := by
    intro s
    induction s with
    | nil => intro σ i; exact List.Sublist.refl _
    | cons y s ih =>
      intro σ i
      cases σ with
      | nil => rw [owns_nil, owns_nil]; exact List.Sublist.refl _
      | cons w σ =>
        cases i with
        | zero =>
          rw [List.set_cons_zero, owns_cons, owns_cons]
          exact List.sublist_append_right _ _
        | succ i =>
          rw [List.set_cons_succ, owns_cons, owns_cons]
          exact List.Sublist.append (List.Sublist.refl _) ih
  have sub : (owns (wipeL st.s vs) σ).Sublist (owns st.s σ) := by
    induction vs with
    | nil => exact List.Sublist.refl _
    | cons v vs ih => unfold wipeL; exact so.trans ih
  have sa : ∀ a ∈ avd ρ E (st.wipe vs) σ, a ∈ avd ρ E st σ := fun a h => by
    have h : a ∈ ρ ++ owns (wipeL st.s vs) σ ++ E := h
    show a ∈ ρ ++ owns st.s σ ++ E
    rcases List.mem_append.mp h with h | h
    · rcases List.mem_append.mp h with h | h
      · exact List.mem_append_left _ (List.mem_append_left _ h)
      · exact List.mem_append_left _ (List.mem_append_right _ (sub.subset h))
    · exact List.mem_append_right _ h
  refine ⟨⟨R.nd.sublist (((List.Sublist.refl _).append sub).append (List.Sublist.refl _)), fun a h => R.dom a (sa a h), by rw [← R.len]; exact wipeL_len _ _, fun i sv e => ?_, R.heap.1, fun k b e => ?_⟩, List.prefix_refl _, fun _ _ _ e => e, fun a h => ?_⟩
  · obtain ⟨e1, _⟩ := wipeL_some (s := st.s) e
    obtain ⟨v, ev, q⟩ := R.slot i sv e1
    refine ⟨v, ev, ?_⟩
    cases sv with
    | d x => exact Rp.mono sa q
    | r k => exact q
    | o b => obtain ⟨a, ea, ob⟩ := q; exact ⟨a, ea, ob.mono sa⟩
  · obtain ⟨a, ea, ob⟩ := R.heap.2 k b e
    exact ⟨a, ea, ob.mono sa⟩
  · have h : a ∈ ρ ++ owns (wipeL st.s vs) σ := h
    rcases List.mem_append.mp h with h | h
    · exact .inl (List.mem_append_left _ h)
    · exact .inl (List.mem_append_right _ (sub.subset h))
theorem chg_congr (h : ∀ (i : Nat) (sv : SV), st.s[i]? = some (some sv) → σ[i]? = τ[i]?) (hl : σ.length = τ.length) : chg ρ st σ = chg ρ st τ := by
  show ρ ++ owns st.s σ = _
  rw [owns_congr h hl]
/-- the list that is being made is changed -/
theorem Rel.tmpset {D : Addr} {zs : List V} (R : Rel K ρ (D :: E) st σ H) : Rel K ρ (D :: E) st σ (upd H D (.lst zs)) := by
  have hD : D ∈ avd ρ (D :: E) st σ := List.mem_append_right _ List.mem_cons_self
  have fr : ∀ a o, a ∉ avd ρ (D :: E) st σ → H a = some o → upd H D (.lst zs) a = some o := fun a o n e => by
    rw [upd_ne (fun z => n (by rw [z]; exact hD))]; exact e
  have nc : D ∉ chg ρ st σ := fun z => R.fresh (chg_sub z)
  refine ⟨R.nd, fun a h => ?_, R.len, fun i sv e => ?_, R.heap.1, fun k b e => ?_⟩
  · by_cases z : a = D
    · subst z; exact ⟨_, upd_same, trivial⟩
    · rw [upd_ne z]; exact R.dom a h
  · obtain ⟨v, ev, q⟩ := R.slot i sv e
    refine ⟨v, ev, ?_⟩
    cases sv with
    | d x => exact Rp.frame fr (fun a h => .inl h) q
    | r k => exact q
    | o b =>
      obtain ⟨a, ea, ob⟩ := q
      subst ea
      refine ⟨a, rfl, ob.frame (fun o eo => ?_) fr (fun a h => .inl h)⟩
      rw [upd_ne (fun z => nc (by rw [← z]; exact List.mem_append_right _ (own_mem R.len e ev)))]
      exact eo
  · obtain ⟨a, ea, ob⟩ := R.heap.2 k b e
    refine ⟨a, ea, ob.frame (fun o eo => ?_) fr (fun a h => .inl h)⟩
    rw [upd_ne (fun z => nc (by rw [← z]; exact List.mem_append_left _ (List.mem_of_getElem? ea)))]
    exact eo
end
/-! ### comprehensions -/
/-- a target of names of the block's own -/
inductive CT where
  | n (i : Nat)
  | t (is : List Nat)
def CT.sg : CT → SG
  | .n i => tgN i
  | .t is => tgT (is.map tgN)
def CT.tg (K : PySem.W.Frag) : CT → TG
  | .n i => gName i
  | .t is => gTup K is.length (gNs is)
def CT.ixs : CT → List Nat
  | .n i => [i]
  | .t is => is
def ZC (X : Cx) (tg : Expr) (c : CT) : Prop := PG X tg (c.tg X.K)
abbrev W0 : WX := fun _ _ _ _ => False
/-- on, but an exception is not told -/
def Res.on {α β : Type} (r : Res α) (g : α → S → Res β) : Res β := match r with
  | .ok a s => g a s
  | _ => .no
@[simp] theorem Res.on_ok {α β : Type} (a : α) (s : S) (g : α → S → Res β) : (Res.ok a s).on g = g a s := rfl
@[simp] theorem Res.on_ex {α β : Type} (x : Ex) (s : S) (g : α → S → Res β) : (Res.ex x s : Res α).on g = .no := rfl
@[simp] theorem Res.on_no {α β : Type} (g : α → S → Res β) : (Res.no : Res α).on g = .no := rfl
def compL (vs : List Nat) (g : SG) (t : S → Res Bool) (f : SE) : List PyData → List PyData → S → Res SV
  | [], acc, s => .ok (.o (.lst acc)) s
  | x :: xs, acc, s => match g x s with
    | none => .no
    | some s1 => (t s1).on fun b s2 => if b = true then (f s2).on fun v s3 => match v.keep with
      | some y => if fits (acc.length + 1) = true then compL vs g t f xs (acc ++ [y]) (s3.wipe vs) else .no
      | none => .no else compL vs g t f xs acc (s2.wipe vs)
def eComp (it : SI) (vs : List Nat) (c : CT) (t : S → Res Bool) (f : SE) : SE := fun s => (it s).bind fun xs s => compL vs c.sg t f xs [] (s.wipe vs)
def tYesZ : S → Res Bool := fun s => .ok true s
def ZTs (X : Cx) (W : WX) (ifs : List Expr) (t : S → Res Bool) : Prop := PTs X ifs (tzB X.K X.mg W t)
theorem PTs.mono {X : Cx} {e : List Expr} {t t' : TT} (h : PTs X e t) (m : ∀ σ H Q, t' σ H Q → t σ H Q) : PTs X e t' := ⟨fun pins s σ H Q I q => h.run pins s σ H Q I (m σ H Q q)⟩
section
variable {X : Cx} {W : WX} {K : PySem.W.Frag} {mg : Str → Option Value} {M M' ρ ρ' ρ'' E E' E'' : List Addr} {st st' st'' : S} {σ σ' σ'' τ τ' : L2.St} {H H' H'' : Hp}
theorem zts_nil : ZTs X W [] tYesZ := PTs.mono pts_nil fun σ H Q ⟨ρ, E, st, R, q⟩ => q true ρ E H (.refl R) ⟨rfl, rfl⟩
theorem zts_one {c : Expr} {t : S → Res Bool} (h : ZT X W c t) : ZTs X W [c] t := pts_one h
theorem zc_name {i : Nat} {x : Str} {pos : Pos} (hN : X.N.Nodup) (hi : X.N[i]? = some x) (hx : Loc X.env.scope x) (hf : X.fn x = true ∨ X.env.scope.names.lookup x = some .local := by first | exact .inl rfl | exact .inr rfl | assumption) : ZC X (.Name x pos) (.n i) := pg_name hN hi hx hf
theorem zc_tup {es : List Expr} {is : List Nat} {k : Nat} {pos : Pos} (hc : X.calm = true) (hN : X.N.Nodup) (h : Nms X es is) (hn : (assignEach es X.env).length = is.length := by rfl) (hst : (assignEach es X.env).findIdx? (·.1) = none := by rfl) : ZC X (.Tuple es k pos) (.t is) := pg_tup hc (nms_pgs hN h) hn hst
theorem CT.go {c : CT} {v : V} {x : PyData} {vs : List Nat} (R : Rel K ρ E st σ H) (r : Rp K (avd ρ E st σ) H v x) (e : c.sg x st = some st') (hv : ∀ i ∈ c.ixs, i ∈ vs) {Q : L2.St → Hp → Prop} (q : ∀ σ2, L2.wipe σ2 vs = L2.wipe σ vs → Post K ρ E st σ H ρ E st' σ2 H → Q σ2 H) : c.tg K v σ H Q := by
  cases c with
  | n i =>
    cases e
    exact q _ (wipe_set (hv i List.mem_cons_self)) (Post.store (.refl R) (.refl _) (sv := .d x) ⟨rfl, r⟩)
  | t is =>
    have e : tgT (is.map tgN) x st = some st' := e
    unfold tgT at e
    cases r with
    | @tup a ws ds n al =>
      have e : tgs (is.map tgN) ds st = some st' := e
      have hl : ws.length = is.length := by rw [al.length, tgs_len e, List.length_map]
      refine ⟨a, ws, rfl, n.sq, hl, gNs_all hl ?_⟩
      · have main : ∀ {is : List Nat} {ws : List V} {ds : List PyData} {st : S} {σ1 : L2.St}, (∀ i ∈ is, i ∈ vs) → L2.wipe σ1 vs = L2.wipe σ vs → Rel K ρ E st σ1 H → RpAll K (avd ρ E st σ1) H ws ds → tgs (is.map tgN) ds st = some st' →
            L2.wipe ((is.zip ws).foldl (fun σ p => σ.set p.1 (some p.2)) σ1) vs = L2.wipe σ vs ∧ Post K ρ E st σ1 H ρ E st' ((is.zip ws).foldl (fun σ p => σ.set p.1 (some p.2)) σ1) H := by
          intro is
          induction is with
          | nil =>
            intro ws ds st σ1 _ hw R al e
            cases al with
            | nil => cases e; exact ⟨hw, .refl R⟩
            | cons _ _ => cases e
          | cons i is ih =>
            intro ws ds st σ1 hi hw R al e
            cases al with
            | nil => cases e
            | @cons w ws d ds r al =>
              have e : tgs (is.map tgN) ds (st.set i (.d d)) = some st' := e
              have P := Post.store (i := i) (.refl R) (.refl _) (sv := .d d) ⟨rfl, r⟩
              obtain ⟨h1, h2⟩ := ih (ws := ws) (ds := ds) (st := st.set i (.d d)) (σ1 := σ1.set i (some w)) (fun j hj => hi j (List.mem_cons_of_mem _ hj)) ((wipe_set (hi i List.mem_cons_self)).trans hw) P.rel (P.rpAll Come.refl.2 al) e
              exact ⟨h1, P.trans h2⟩
        obtain ⟨h1, h2⟩ := main hv rfl R al e
        exact q _ h1 h2
    | _ => cases e
theorem coreLc {vs : List Nat} {it : SI} {c : CT} {t : S → Res Bool} {f : SE} {Q : VK} (hv : ∀ i ∈ c.ixs, i ∈ vs) (h : tzE K mg W (eComp it vs c t f) σ H Q) : tLc (tzI K mg W it) (c.tg K) (tzB K mg W0 t) (tzE K mg W0 f) vs σ H Q := by
  obtain ⟨ρ, E, st, R, q⟩ := h
  refine ⟨ρ, E, st, R, ?_⟩
  unfold eComp at q
  cases e : it st with
  | no => rw [e] at q; exact q
  | ex x s => rw [e] at q; exact q
  | ok xs s =>
    rw [e, Res.bind_ok] at q
    intro J ρ1 E1 H1 P1 c1 hit D hD
    obtain ⟨G, Y, w, hY⟩ := hit
    -- the slots of the block's own names are forgotten
    have Pw := P1.rel.wipe vs
    have same : ∀ {st2 : S}, (∀ (i : Nat) (sv : SV), st2.s[i]? = some (some sv) → i ∉ vs) → ∀ {σ1 : L2.St} (i : Nat) (sv : SV), st2.s[i]? = some (some sv) → σ1[i]? = (L2.wipe σ1 vs)[i]? := @fun st2 h σ1 i sv ei => (L2.wipe_out (h i sv ei)).symm
    have w0 : ∀ (s : S) (i : Nat) (sv : SV), (s.wipe vs).s[i]? = some (some sv) → i ∉ vs := fun s i sv ei => (wipeL_some (s := s.s) ei).2
    have lw : ∀ (σ1 : L2.St), σ1.length = (L2.wipe σ1 vs).length := fun σ1 => (L2.wipe_length σ1 vs).symm
    have R0 : Rel K ρ1 E1 (s.wipe vs) (L2.wipe σ vs) H1 := Pw.rel.congr (same (w0 s)) (lw σ)
    have ec : ∀ {ρ : List Addr} {st2 : S}, (∀ (i : Nat) (sv : SV), st2.s[i]? = some (some sv) → i ∉ vs) → ∀ {σ1 : L2.St}, chg ρ st2 σ1 = chg ρ st2 (L2.wipe σ1 vs) := @fun ρ st2 h σ1 => chg_congr (same h) (lw σ1)
    have Pw2 : Post K ρ1 E1 s σ H1 ρ1 E1 (s.wipe vs) (L2.wipe σ vs) H1 := ⟨R0, List.prefix_refl _, fun _ _ _ e => e, fun a h => Pw.mu a (by rw [ec (w0 s)]; exact h)⟩
    have hE2 : ∀ a ∈ D :: E1, a ∈ avd ρ1 E1 (s.wipe vs) (L2.wipe σ vs) ∨ H1 a = none := fun a h => by
      rcases List.mem_cons.mp h with rfl | h
      · exact .inr hD
      · exact .inl (List.mem_append_right _ h)
    refine lc_it w (fun i H2 => ∃ ρ2 st2 acc accV, (∀ (i : Nat) (sv : SV), st2.s[i]? = some (some sv) → i ∉ vs) ∧ Post K ρ1 E1 (s.wipe vs) (L2.wipe σ vs) H1 ρ2 (D :: E1) st2 (L2.wipe σ vs) H2 ∧ H2 D = some (.lst accV) ∧ RpAll K (avd ρ2 (D :: E1) st2 (L2.wipe σ vs)) H2 accV acc ∧
      Go K mg W (rE K) Q ρ E st σ H (compL vs c.sg t f (xs.drop i) acc st2)) ?_ ?_ ?_ ?_
    · exact ⟨ρ1, s.wipe vs, [], [], w0 s, ⟨R0.more hD (upd_grow hD) ⟨_, upd_same, trivial⟩, List.prefix_refl _, fun a o _ e => upd_grow hD a o e, fun a h => .inl h⟩, upd_same, .nil, q⟩
    · rintro i H2 hi ⟨ρ2, st2, acc, accV, hw, P2, eD, al, q2⟩
      exact (hY _ _ _ ρ2 st2 _ H2 (D :: E1) Pw2 P2 (List.sublist_cons_self _ _) hE2).1
    · rintro i x H2 H3 hi ⟨ρ2, st2, acc, accV, hw, P2, eD, al, q2⟩ y
      obtain ⟨g3, d, ed, rd⟩ := (hY _ _ _ ρ2 st2 _ H2 (D :: E1) Pw2 P2 (List.sublist_cons_self _ _) hE2).2 i x H3 hi y
      have ed' : xs.drop i = d :: xs.drop (i + 1) := by
        obtain ⟨h1, h2⟩ := List.getElem?_eq_some_iff.mp ed
        rw [List.drop_eq_getElem_cons h1, h2]
      rw [ed'] at q2
      unfold compL at q2
      have P3 : Post K ρ2 (D :: E1) st2 (L2.wipe σ vs) H2 ρ2 (D :: E1) st2 (L2.wipe σ vs) H3 := ⟨P2.rel.grow g3, List.prefix_refl _, fun a o _ e => g3 a o e, fun a h => .inl h⟩
      cases e2 : c.sg d st2 with
      | none => rw [e2] at q2; exact q2.elim
      | some s1 =>
        rw [e2] at q2
        have q2 : Go K mg W (rE K) Q ρ E st σ H ((t s1).on fun b s2 => if b = true then (f s2).on fun v s3 => match v.keep with
          | some y => if fits (acc.length + 1) = true then compL vs c.sg t f (xs.drop (i + 1)) (acc ++ [y]) (s3.wipe vs) else .no
          | none => .no else compL vs c.sg t f (xs.drop (i + 1)) acc (s2.wipe vs)) := q2
        refine CT.go P3.rel rd e2 hv fun σ2 hσ P4 => ⟨hσ.trans (wipe_idem vs σ), ρ2, D :: E1, s1, P4.rel, ?_⟩
        have hσ2 : L2.wipe σ2 vs = L2.wipe σ vs := hσ.trans (wipe_idem vs σ)
        -- back to the start of a turn
        have again : ∀ {ρ4 : List Addr} {s3 : S} {H4 : Hp}, Post K ρ2 (D :: E1) st2 (L2.wipe σ vs) H2 ρ4 (D :: E1) s3 σ2 H4 → Post K ρ1 E1 (s.wipe vs) (L2.wipe σ vs) H1 ρ4 (D :: E1) (s3.wipe vs) (L2.wipe σ vs) H4 := fun {ρ4 s3 H4} P => by
          have Pb := P.trans (P.rel.wipe vs)
          have Rc : Rel K ρ4 (D :: E1) (s3.wipe vs) (L2.wipe σ vs) H4 := by
            rw [← hσ2]
            exact Pb.rel.congr (same (w0 s3)) (lw σ2)
          have Pd := P2.trans Pb
          exact ⟨Rc, Pd.pre, Pd.fr, fun a h => Pd.mu a (by rw [ec (w0 s3), hσ2]; exact h)⟩
        have P24 := P3.trans P4
        cases e3 : t s1 with
        | no => rw [e3] at q2; exact q2
        | ex x s => rw [e3] at q2; exact q2.elim
        | ok b s2 =>
          rw [e3, Res.on_ok] at q2
          intro b' ρ5 E5 H5 P5 r5
          obtain ⟨k1, k2⟩ := r5
          subst k1 k2
          have P25 := P24.trans P5
          have hD5 : H5 D = some (.lst accV) := P25.tmp P2.rel List.mem_cons_self eD
          cases b' with
          | false =>
            rw [if_neg (by decide)] at q2 ⊢
            have Pn := again P25
            refine ⟨ρ5, s2.wipe vs, acc, accV, w0 s2, Pn, hD5, ?_, q2⟩
            have := P25.rpAll Come.refl.2 al
            refine this.mono fun a h => ?_
            have hh : a ∈ avd ρ5 (D :: E1) (s2.wipe vs) σ2 := by
              have e9 := ec (ρ := ρ5) (w0 s2) (σ1 := σ2)
              rw [hσ2] at e9
              show a ∈ chg ρ5 (s2.wipe vs) σ2 ++ (D :: E1)
              rw [e9]; exact h
            rcases (P5.rel.wipe vs).avm Come.refl.2 a hh with z | z
            · exact z
            · obtain ⟨o, eo, _⟩ := (P5.rel.wipe vs).rel.dom a hh
              rw [z] at eo; cases eo
          | true =>
            rw [if_pos rfl] at q2 ⊢
            refine ⟨ρ5, D :: E1, s2, P5.rel, ?_⟩
            cases e4 : f s2 with
            | no => rw [e4] at q2; exact q2
            | ex x s => rw [e4] at q2; exact q2.elim
            | ok v s3 =>
              rw [e4, Res.on_ok] at q2
              intro yv ρ6 E6 H6 P6 r6
              cases e5 : v.keep with
              | none => rw [e5] at q2; exact q2.elim
              | some yd =>
                rw [e5] at q2
                obtain ⟨P6, rv⟩ := r6.keep P6 e5
                have P26 := P25.trans P6
                have hD6 : H6 D = some (.lst accV) := P26.tmp P2.rel List.mem_cons_self eD
                have q2 : Go K mg W (rE K) Q ρ E st σ H (if fits (acc.length + 1) = true then compL vs c.sg t f (xs.drop (i + 1)) (acc ++ [yd]) (s3.wipe vs) else .no) := q2
                by_cases hl : fits (acc.length + 1) = true
                · rw [if_pos hl] at q2
                  have hl' : acc.length + 1 ≤ sizeLine := of_decide_eq_true hl
                  have Pn := again P26
                  refine ⟨accV, hD6, by rw [al.length]; omega, ρ6, s3.wipe vs, acc ++ [yd], accV ++ [yv], w0 s3, ⟨Pn.rel.tmpset, Pn.pre, fun a o n ea => ?_, Pn.mu⟩, upd_same, ?_, q2⟩
                  · rw [upd_ne (fun z => by rw [z, hD] at ea; cases ea)]
                    exact Pn.fr a o n ea
                  · have al6 := P26.rpAll Come.refl.2 al
                    have both : RpAll K (avd ρ6 (D :: E1) s3 σ2) H6 (accV ++ [yv]) (acc ++ [yd]) := al6.append (.cons rv .nil)
                    have hD9 : D ∈ avd ρ6 (D :: E1) s3 σ2 := List.mem_append_right _ List.mem_cons_self
                    refine both.frame (fun a o n ea => by rw [upd_ne (fun z => n (by rw [z]; exact hD9))]; exact ea) fun a h => ?_
                    have hh : a ∈ avd ρ6 (D :: E1) (s3.wipe vs) σ2 := by
                      have e9 := ec (ρ := ρ6) (w0 s3) (σ1 := σ2)
                      rw [hσ2] at e9
                      show a ∈ chg ρ6 (s3.wipe vs) σ2 ++ (D :: E1)
                      rw [e9]; exact h
                    rcases (P6.rel.wipe vs).avm Come.refl.2 a hh with z | z
                    · exact .inl z
                    · obtain ⟨o, eo, _⟩ := (P6.rel.wipe vs).rel.dom a hh
                      rw [z] at eo; cases eo
                · rw [if_neg hl] at q2; exact q2.elim
    · rintro H2 ⟨ρ2, st2, acc, accV, hw, P2, eD, al, q2⟩
      rw [List.drop_length] at q2
      have q2 : Go K mg W (rE K) Q ρ E st σ H (.ok (.o (.lst acc)) st2) := q2
      have R2 : Rel K ρ2 (D :: E1) st2 σ H2 := P2.rel.congr (fun i sv ei => L2.wipe_out (hw i sv ei)) (lw σ).symm
      have Pf : Post K ρ1 E1 s σ H1 ρ2 (D :: E1) st2 σ H2 := by
        have Px := Pw2.trans P2
        exact ⟨R2, Px.pre, Px.fr, fun a h => Px.mu a (by rw [← ec hw]; exact h)⟩
      have sub : (D :: E).Sublist (D :: E1) := List.Sublist.cons_cons _ c1.1
      refine q2 (.ref D) ρ2 (D :: E) H2 ((P1.trans Pf).sub sub) ⟨D, rfl, rfl, fresh_back P1 (.inr hD), accV, eD, al.mono fun a h => ?_⟩
      have h : a ∈ chg ρ2 st2 σ ++ D :: E := h
      show a ∈ chg ρ2 st2 (L2.wipe σ vs) ++ D :: E1
      rw [ec hw] at h
      rcases List.mem_append.mp h with h | h
      · exact List.mem_append_left _ h
      · exact List.mem_append_right _ (sub.subset h)
theorem ze_lc {elt tg iter : Expr} {ifs : List Expr} {scope : Scope} {own : List (Str × Nat)} {pos : Pos} {it : SI} {c : CT} {t : S → Res Bool} {f : SE} (hc : X.calm = true) (hN : X.N.Nodup) (hi : ZI X W tg iter it) (ok : BlkOk X.N X.env.scope scope own)
    (hg : ∀ (s : Shared) (H : Hp) (C : Addr) (cl : List (Str × Addr)) (fp : List Addr), ZC (X.blk s H scope (compEnvC scope cl C X.env) fp) tg c) (ht : ∀ (s : Shared) (H : Hp) (C : Addr) (cl : List (Str × Addr)) (fp : List Addr), ZTs (X.blk s H scope (compEnvC scope cl C X.env) fp) W0 ifs t)
    (he : ∀ (s : Shared) (H : Hp) (C : Addr) (cl : List (Str × Addr)) (fp : List Addr), ZE (X.blk s H scope (compEnvC scope cl C X.env) fp) W0 elt f) (hv : ∀ i ∈ c.ixs, i ∈ own.map (·.2) := by decide) (hs : ∀ x, foldedSetIterable iter X.env x = pure x := by intro _; rfl) :
    ZE X W (.ListComp elt [⟨tg, iter, ifs, 0⟩] scope pos) (eComp it (own.map (·.2)) c t f) :=
  PE.mono (pe_lc (g := c.tg X.K) (tt := tzB X.K X.mg W0 t) (te := tzE X.K X.mg W0 f) hc hN hi ok hg ht he hs) fun _ _ _ h => coreLc hv h
theorem zs_setLc {i : Nat} {y : Str} {py : Pos} {elt tg iter : Expr} {ifs : List Expr} {scope : Scope} {own : List (Str × Nat)} {pos spos : Pos} {it : SI} {c : CT} {t : S → Res Bool} {f : SE} (hc : X.calm = true) (hN : X.N.Nodup) (hy : X.N[i]? = some y) (hyl : X.env.scope.names.lookup y = some .local)
    (hsw : swapsWith (.ListComp elt [⟨tg, iter, ifs, 0⟩] scope pos) (some (.Name y py)) spos.line X.env = pure true) (hi : ZI X W tg iter it) (ok : BlkOk X.N X.env.scope scope own)
    (hg : ∀ (s : Shared) (H : Hp) (C : Addr) (cl : List (Str × Addr)) (fp : List Addr), ZC (X.blk s H scope (compEnvC scope cl C X.env) fp) tg c) (ht : ∀ (s : Shared) (H : Hp) (C : Addr) (cl : List (Str × Addr)) (fp : List Addr), ZTs (X.blk s H scope (compEnvC scope cl C X.env) fp) W0 ifs t)
    (he : ∀ (s : Shared) (H : Hp) (C : Addr) (cl : List (Str × Addr)) (fp : List Addr), ZE (X.blk s H scope (compEnvC scope cl C X.env) fp) W0 elt f) (hv : ∀ i ∈ c.ixs, i ∈ own.map (·.2) := by decide) (hs : ∀ x, foldedSetIterable iter X.env x = pure x := by intro _; rfl) :
    ZS X W (.Assign [.Name y py] (.ListComp elt [⟨tg, iter, ifs, 0⟩] scope pos) spos) (sSet i (eComp it (own.map (·.2)) c t f)) :=
  PS.mono (ps_setLc (g := c.tg X.K) (tt := tzB X.K X.mg W0 t) (te := tzE X.K X.mg W0 f) hc hN hy hyl hsw hi ok hg ht he hs) fun _ _ _ h => coreLc hv (coreSet h)
end
end Z

set_option maxRecDepth 100000
set_option maxHeartbeats 4000000
namespace Z
open PySem PySem.Spec PyProof.Rows L2

section
variable {X : Cx} {K : PySem.W.Frag} {M : List Addr} {H : Hp} {pins : List (Addr × Obj)} {σ : L2.St} {s : Shared}
/-! ### what is read, by its kind -/
theorem Top.non {v : V} (t : Top K M H v .none) : v = .non := by
  have : ∀ {v : V} {d : PyData}, Top K M H v d → d = .none → v = .non := fun t e => by
      cases t with
      | rp r => subst e; cases r; rfl
      | @ob a b o => cases b <;> cases e
  exact this t rfl
theorem Top.bl {v : V} {i : Bool} (t : Top K M H v (.bool i)) : v = .bl i := by
  have : ∀ {v : V} {d : PyData}, Top K M H v d → d = .bool i → v = .bl i := fun t e => by
      cases t with
      | rp r => subst e; cases r; rfl
      | @ob a b o => cases b <;> cases e
  exact this t rfl
theorem Top.str {v : V} {i : Str} (t : Top K M H v (.str i)) : v = .str i := by
  have : ∀ {v : V} {d : PyData}, Top K M H v d → d = .str i → v = .str i := fun t e => by
      cases t with
      | rp r => subst e; cases r; rfl
      | @ob a b o => cases b <;> cases e
  exact this t rfl
theorem Top.list {v : V} {ds : List PyData} (t : Top K M H v (.list ds)) : ∃ a xs, v = .ref a ∧ Rd H a (.lst xs) ∧ RpAll K M H xs ds := by
  have : ∀ {v : V} {d : PyData}, Top K M H v d → d = .list ds → ∃ a xs, v = .ref a ∧ Rd H a (.lst xs) ∧ RpAll K M H xs ds := fun t e => by
      cases t with
      | rp r => subst e; cases r with | lst n al => exact ⟨_, _, rfl, n.1, al⟩
      | @ob a b o =>
        cases b with
        | lst es => cases e; obtain ⟨xs, e1, al⟩ := o; exact ⟨a, xs, rfl, .inl e1, al⟩
        | dk _ => cases e
        | dt _ => cases e
        | tb _ => cases e
  exact this t rfl
theorem Top.tuple {v : V} {ds : List PyData} (t : Top K M H v (.tuple ds)) : ∃ a xs, v = .ref a ∧ NdT K M H a xs (pairy ds) ∧ RpAll K M H xs ds := by
  have : ∀ {v : V} {d : PyData}, Top K M H v d → d = .tuple ds → ∃ a xs, v = .ref a ∧ NdT K M H a xs (pairy ds) ∧ RpAll K M H xs ds := fun t e => by
      cases t with
      | rp r => subst e; cases r with | tup n al => exact ⟨_, _, rfl, n, al⟩
      | @ob a b o => cases b <;> cases e
  exact this t rfl
theorem Rp.sqL {a : Addr} {xs : List V} (n : Rd H a (.lst xs)) : SqL K H a xs := .inl n
mutual
theorem Rp.dp : ∀ {v : V} {d : PyData}, Rp K M H v d → d.canLay0 = true → Dp K H v d
  | _, _, .non, _ => .non
  | _, _, .bl b, _ => .bl b
  | _, _, .int i, _ => .int i
  | _, _, .str x, _ => .str x
  | _, _, .lst n a, h => .lst (.inl n.1) (RpAll.dp a (by simpa [PyData.canLay0] using h))
  | _, _, .tup n a, h => .tup n.sq (RpAll.dp a (by simpa [PyData.canLay0] using h))
  | _, _, .dk _ _ _, h => by simp [PyData.canLay0] at h
  | _, _, .dt _ _ _, h => by simp [PyData.canLay0] at h
  | _, _, .op _, h => by simp [PyData.canLay0] at h
  | _, _, .any _, h => by simp [PyData.canLay0] at h
  | _, _, .scr _ _, h => by simp [PyData.canLay0] at h
  | _, _, .exc _ _ _ _, h => by simp [PyData.canLay0] at h
theorem RpAll.dp : ∀ {vs : List V} {ds : List PyData}, RpAll K M H vs ds → PyData.canLayAll0 ds = true → DpAll K H vs ds
  | _, _, .nil, _ => .nil
  | _, _, .cons r a, h => by
    simp only [PyData.canLayAll0, Bool.and_eq_true] at h
    exact .cons (Rp.dp r h.1) (RpAll.dp a h.2)
end
theorem Top.dp {v : V} {d : PyData} (t : Top K M H v d) (h : d.canLay0 = true) : Dp K H v d := by
  cases t with
  | rp r => exact r.dp h
  | @ob a b o =>
    cases b with
    | lst es =>
      obtain ⟨xs, e1, al⟩ := o
      exact .lst (.inl (.inl e1)) (al.dp (by simpa [PyData.canLay0, PO.data] using h))
    | dk _ => simp [PyData.canLay0, PO.data] at h
    | dt _ => simp [PyData.canLay0, PO.data] at h
    | tb _ _ => simp [PyData.canLay0, PO.data] at h
theorem New.same {sv : SV} {z : V} (h : match sv with | .d d => Rp K M H z d | _ => False) : New K M H H sv z := by
  cases sv with
  | d x => exact ⟨fun _ _ e => e, h⟩
  | r k => exact h.elim
  | o b => exact h.elim
theorem New.lst {p : Addr} {vs : List V} {ds : List PyData} (hp : H p = none) (al : RpAll K M H vs ds) : New K M H (upd H p (.lst vs)) (.o (.lst ds)) (.ref p) :=
  ⟨upd_grow hp, p, rfl, hp, vs, upd_same, al.frame (fun a o _ e => upd_grow hp a o e) fun a h => (List.mem_cons.mp h).elim (fun e => .inr (by rw [e]; exact hp)) .inl⟩
theorem Inv.lstR (I : Inv X pins σ H s) {l : Addr} {xs : List V} (h : Rd H l (.lst xs)) : xs.length ≤ sizeLine ∧ ∃ (its : List Value) (n : Nat), Vals xs its ∧ xs.length = its.length ∧ s.heap.get? l = some { cls := .type "list", data := .seq its.toArray n } := by
  obtain ⟨z, its, n, r, e⟩ := h.ok I.hok
  exact ⟨z, its, n, r, r.length, e⟩

/-! ### numbers -/
def opAdd : PyData → PyData → Option SV
  | .int i, .int j => some (.d (.int (i + j)))
  | .str x, .str y => if fits (x.length + y.length) = true then some (.d (.str (x ++ y))) else none
  | .tuple xs, .tuple ys => if fits (xs.length + ys.length) = true then some (.d (.tuple (xs ++ ys))) else none
  | .list xs, .list ys => if fits (xs.length + ys.length) = true then some (.o (.lst (xs ++ ys))) else none
  | _, _ => none
def opSub : PyData → PyData → Option SV
  | .int i, .int j => some (.d (.int (i - j)))
  | _, _ => none
def small64 (i : Int) : Bool := decide (i.natAbs ≤ 18446744073709551615)
def small63 (i : Int) : Bool := decide (i.natAbs ≤ 9223372036854775807)
theorem small63_iff {i : Int} (h : small63 i = true) : -(2 ^ 63) ≤ i ∧ i < 2 ^ 63 := by
  have h := of_decide_eq_true h
  omega
def opMul : PyData → PyData → Option SV
  | .int i, .int j => if (small64 i || small64 j) = true then some (.d (.int (i * j))) else none
  | .list xs, .int k => if (small63 k && fits (xs.length * k.toNat)) = true then some (.o (.lst (List.replicate k.toNat xs).flatten)) else none
  | .tuple xs, .int k => if (!xs.isEmpty && decide (2 ≤ k) && decide (k ≤ 1000) && decide (xs.length ≤ 1000)) = true then some (.d (.tuple (List.replicate k.toNat xs).flatten)) else none
  | _, _ => none
def opMod : PyData → PyData → Option SV
  | .int i, .int j => if j = 0 then none else some (.d (.int (i.fmod j)))
  | _, _ => none
def opDiv : PyData → PyData → Option SV
  | .int i, .int j => if (decide (j ≠ 0) && decide (j.natAbs < 1073741824)) = true then some (.d (.int (i.fdiv j))) else none
  | _, _ => none
def opPow : PyData → PyData → Option SV
  | .int i, .int j => if (decide (0 ≤ j) && decide (j.natAbs ≤ 1000000) && decide (i.natAbs ≤ 18446744073709551615)) = true then some (.d (.int (i ^ j.toNat))) else none
  | _, _ => none
/-- two lists that are read, one behind the other -/
theorem cat_listR {x y : V} {v u : Value} {Q : VK} {l b : Addr} {xs zs : List V} (I : Inv X pins σ H s) (rx : RelV (.ref l) v) (ry : RelV (.ref b) u) (hl : Rd H l (.lst xs)) (hb : Rd H b (.lst zs)) (hz : xs.length + zs.length ≤ sizeLine)
    (q : ∀ p, H p = none → Q (.ref p) (upd H p (.lst (xs ++ zs)))) : wpAny (model X.prog X.w) X.A (binaryOp .Add v u) (EP X pins σ Q) X.xe s := by
  obtain ⟨_, as, n, r, el, e⟩ := Inv.lstR I hl
  obtain ⟨_, bs, m, r', eb, e'⟩ := Inv.lstR I hb
  cases rx; cases ry
  refine PySem.P.add_list e e' ?_ (by simp only [List.size_toArray]; omega)
  rw [show as.toArray ++ bs.toArray = (as ++ bs).toArray by simp]
  exact ⟨.ref _, _, I.lnew (t' := s.toks) (r.append r') (by simpa using hz), rfl, q _ I.fresh⟩
theorem z_add : OpR X (binaryOp .Add) (rop X.K opAdd) := by
  intro pins s σ H x y v u Q I rx ry ⟨M, dx, dy, sv, dm, tx, ty, e, q⟩
  unfold opAdd at e
  split at e
  · cases e
    rw [tx.int] at rx; rw [ty.int] at ry
    exact op_add pins s σ H _ _ v u Q I rx ry ⟨_, _, rfl, rfl, q _ H (New.same (.int _))⟩
  · rename_i a b
    by_cases h : fits (a.length + b.length) = true
    · rw [if_pos h] at e
      cases e
      rw [tx.str] at rx; rw [ty.str] at ry
      exact op_add_str pins s σ H _ _ v u Q I rx ry ⟨_, _, rfl, rfl, of_decide_eq_true h, q _ H (New.same (.str _))⟩
    · rw [if_neg h] at e; cases e
  · rename_i a b
    by_cases h : fits (a.length + b.length) = true
    · rw [if_pos h] at e
      cases e
      obtain ⟨l, xs, rfl, n, al⟩ := tx.tuple
      obtain ⟨l2, ys, rfl, n2, al2⟩ := ty.tuple
      have hlen : xs.length + ys.length ≤ sizeLine := by rw [al.length, al2.length]; exact of_decide_eq_true h
      by_cases hx : xs = []
      · subst hx
        refine op_catA pins s σ H _ _ v u Q I rx ry ⟨l, l2, [], ys, rfl, rfl, n.sq, n2.sq, hlen, fun _ => ?_, fun z => absurd rfl z, fun z => absurd rfl z⟩
        cases al
        exact q _ H (New.same (.tup n2 al2))
      by_cases hy : ys = []
      · subst hy
        refine op_catA pins s σ H _ _ v u Q I rx ry ⟨l, l2, xs, [], rfl, rfl, n.sq, n2.sq, hlen, fun z => absurd z hx, fun _ _ => ?_, fun _ z => absurd rfl z⟩
        cases al2
        rw [List.append_nil] at q
        exact q _ H (New.same (.tup n al))
      obtain ⟨its, r1, p1, _⟩ := I.tuple n.sq
      obtain ⟨its2, r2, p2, _⟩ := I.tuple n2.sq
      cases rx; cases ry
      refine HT.cat_tup p1 p2 (fun z => hx (r1.nil_iff.mp z)) (fun z => absurd (r2.nil_iff.mp z) hy) (fun _ => ?_) (by rw [← r1.length, ← r2.length]; exact hlen)
      have hz : (xs ++ ys).length ≤ sizeLine := by rw [List.length_append]; exact hlen
      exact ⟨.ref s.heap.objs.size, _, newT (t' := s.toks) (pairy (a ++ b)) I (r1.append r2) hz, rfl, q _ _ (newTup (I.hok.fresh (Nat.le_refl _)) dm (al.append al2))⟩
    · rw [if_neg h] at e; cases e
  · rename_i a b
    by_cases h : fits (a.length + b.length) = true
    · rw [if_pos h] at e
      cases e
      obtain ⟨l, xs, rfl, n, al⟩ := tx.list
      obtain ⟨l2, ys, rfl, n2, al2⟩ := ty.list
      exact cat_listR (x := .non) (y := .non) I rx ry n n2 (by rw [al.length, al2.length]; exact of_decide_eq_true h) fun p hp => q _ _ (New.lst hp (al.append al2))
    · rw [if_neg h] at e; cases e
  · cases e
theorem z_iadd : PIp X .Add (rop X.K fun x y => match x, y with | .int i, .int j => some (.d (.int (i + j))) | .str x, .str y => if fits (x.length + y.length) = true then some (.d (.str (x ++ y))) else none | _, _ => none) := by
  intro pins s σ H x y v u Q I rx ry ⟨M, dx, dy, sv, dm, tx, ty, e, q⟩
  dsimp only at e
  split at e
  · cases e
    rw [tx.int] at rx; rw [ty.int] at ry
    exact iop_add pins s σ H _ _ v u Q I rx ry ⟨_, _, rfl, rfl, q _ H (New.same (.int _))⟩
  · rename_i a b
    by_cases h : fits (a.length + b.length) = true
    · rw [if_pos h] at e
      cases e
      rw [tx.str] at rx; rw [ty.str] at ry
      exact iop_add_str pins s σ H _ _ v u Q I rx ry ⟨_, _, rfl, rfl, of_decide_eq_true h, q _ H (New.same (.str _))⟩
    · rw [if_neg h] at e; cases e
  · cases e
theorem z_sub : OpR X (binaryOp .Sub) (rop X.K opSub) := by
  intro pins s σ H x y v u Q I rx ry ⟨M, dx, dy, sv, dm, tx, ty, e, q⟩
  unfold opSub at e
  split at e
  · cases e
    rw [tx.int] at rx; rw [ty.int] at ry
    exact op_sub pins s σ H _ _ v u Q I rx ry ⟨_, _, rfl, rfl, q _ H (New.same (.int _))⟩
  · cases e
theorem z_isub : PIp X .Sub (rop X.K opSub) := by
  intro pins s σ H x y v u Q I rx ry ⟨M, dx, dy, sv, dm, tx, ty, e, q⟩
  unfold opSub at e
  split at e
  · cases e
    rw [tx.int] at rx; rw [ty.int] at ry
    exact iop_sub pins s σ H _ _ v u Q I rx ry ⟨_, _, rfl, rfl, q _ H (New.same (.int _))⟩
  · cases e
theorem small64_iff {i : Int} (h : small64 i = true) : -(2 ^ 64) < i ∧ i < 2 ^ 64 := by
  have h := of_decide_eq_true h
  omega
theorem RpAll.nonempty {vs : List V} {ds : List PyData} (al : RpAll K M H vs ds) (h : ds ≠ []) : vs ≠ [] := fun e => by
  subst e; cases al; exact h rfl
/-- what the copies of a block come to, laid behind one another -/
theorem laid (its : List Value) (m : Nat) : List.foldl (fun u w => u ++ w) #[] (List.replicate (if its.toArray.isEmpty = true then 0 else m) its.toArray) = (List.replicate m its).flatten.toArray := by
  by_cases h : its = []
  · subst h
    have : (List.replicate m ([] : List Value)).flatten = [] := by
      rw [List.flatten_eq_nil_iff]
      exact fun l hl => (List.mem_replicate.mp hl).2
    rw [this]; rfl
  · have hn : ¬ its.toArray.isEmpty = true := fun e => h (by simpa using e)
    rw [if_neg hn, foldl_rep its m [], List.nil_append]
theorem rep_fine {m : Nat} (h : m ≤ sizeLine) : ¬ m > (2 ^ 63 - 1) / 8 ∧ ¬ Builtin.List.listTooLong m = true :=
  ⟨Nat.not_lt.mpr (Nat.le_trans h (by decide)), fun e => Bool.false_ne_true ((notLongL h).symm.trans e)⟩
/-- a list that is read, told k times -/
theorem rep_listR {Q : VK} {l : Addr} {k : Int} {t : Tok} {xs : List V} (I : Inv X pins σ H s) (hr : Rd H l (.lst xs)) (lo : -(2 ^ 63) ≤ k) (up : k < 2 ^ 63) (ht : xs.length * k.toNat ≤ sizeLine)
    (q : ∀ p, H p = none → Q (.ref p) (upd H p (.lst (List.replicate k.toNat xs).flatten))) : wpAny (model X.prog X.w) X.A (binaryOp .Mult (.ref l) (.int k t)) (EP X pins σ Q) X.xe s := by
  obtain ⟨z, its, n, r, hl, e⟩ := Inv.lstR I hr
  rw [hl] at ht
  have size : its.toArray.size * k.toNat ≤ sizeLine := by simpa using ht
  have fine := rep_fine size
  have narrow : ¬ (!Builtin.List.listFitsIndex k) = true := by rw [fitsIndex_both lo up]; exact fun e => by cases e
  refine wpAny_binaryOp_repeat_ref (T := "list") (U := "int") (by decide) ⟨_, e, rfl⟩ (fun s' => typeIs_int s' k t) noFill_list_mul F.fills_int_mul F.slot_int_rmul repeat_list F.slot_int_index.lookup
    (call_meets F.slot_int_rmul (typeIs_int s k t) F.entry_int_rmul (F.args_int_rmul_2 _ _) (int___rmul___int_list k t l its.toArray n) ⟨e, rfl, ⟨_, e, rfl⟩, ?_⟩)
  refine call_meets F.slot_list_mul ⟨_, e, rfl⟩ F.entry_list_mul (F.args_list_mul_2 _ _) (AutoListH.list___mul___list_int_3 l its.toArray n k t narrow fine.1 fine.2) ⟨e, ?_⟩
  rw [laid]
  refine ⟨.ref _, _, I.lnew (t' := s.toks) (r.rep k.toNat) ?_, rfl, q _ I.fresh⟩
  rw [PyProof.Rows.lm_len_rep_flat, Nat.mul_comm, hl]
  exact ht
/-- a tuple told k times, k from 2 to 1000 -/
theorem rep_tupR {Q : VK} {l : Addr} {k : Int} {t : Tok} {xs : List V} {pr : Bool} (I : Inv X pins σ H s) (hT : SqT X.K H l xs) (hne : xs ≠ []) (lo : 2 ≤ k) (up : k ≤ 1000) (hz : xs.length ≤ 1000)
    (q : ∀ (its : List Value), Inv X pins σ (upd H s.heap.objs.size (tupO pr (List.replicate k.toNat xs).flatten its)) { s with heap := s.heap.push { cls := .type "tuple", data := .seq its.toArray } } → H s.heap.objs.size = none → Q (.ref s.heap.objs.size) (upd H s.heap.objs.size (tupO pr (List.replicate k.toNat xs).flatten its))) :
    wpAny (model X.prog X.w) X.A (binaryOp .Mult (.ref l) (.int k t)) (EP X pins σ Q) X.xe s := by
  obtain ⟨its, r, ⟨⟨_, dd, _, sl⟩, ho, hc, n, hd⟩, _⟩ := I.tuple hT
  cases hc; cases hd
  have len := r.length
  rw [len] at hz
  have some1 : 0 < its.length := by rw [← len]; exact List.length_pos_iff.mpr hne
  have full : its.toArray.isEmpty = false := by
    have : its ≠ [] := List.length_pos_iff.mp some1
    simpa using this
  have nat : k.toNat ≤ 1000 := by omega
  have most : k.toNat * its.length ≤ 1000000 := Nat.le_trans (Nat.mul_le_mul nat hz) (by decide)
  have mostI : ((its.toArray.size : Nat) : Int) * k ≤ 1000000 := by
    have h : ((k.toNat * its.length : Nat) : Int) ≤ 1000000 := Int.ofNat_le.mpr most
    have e : ((k.toNat : Nat) : Int) = k := Int.toNat_of_nonneg (by omega)
    rw [Int.natCast_mul, e] at h
    rw [List.size_toArray, Int.mul_comm]
    exact h
  have line := sizeLine_eq
  have small : (List.replicate k.toNat its).flatten.length ≤ sizeLine := by rw [PyProof.Rows.lm_len_rep_flat]; omega
  have d0 : (decide (k < -(2 ^ 63)) || decide (k ≥ 2 ^ 63)) = false := by rw [decide_eq_false (by omega), decide_eq_false (by omega)]; rfl
  have d1 : (its.toArray.isEmpty || k == 1) = false := by rw [full, Bool.false_or]; exact beq_eq_false_iff_ne.mpr (by omega)
  have d2 : (decide (k ≤ 0) || its.toArray.isEmpty) = false := by rw [full, Bool.or_false]; exact decide_eq_false (by omega)
  have d4 : Builtin.Tuple.tupleTooMany (((its.toArray.size : Nat) : Int) * k) = false := decide_eq_false (by omega)
  have once := L2.size_rep its k.toNat
  refine wpAny_binaryOp_repeat_ref (T := "tuple") (U := "int") (by decide) ⟨_, ho, rfl⟩ (fun s' => typeIs_int s' k t) L2.noFill_tuple_mul F.fills_int_mul F.slot_int_rmul L2.repeat_tuple F.slot_int_index.lookup
    (call_meets F.slot_int_rmul (typeIs_int s k t) F.entry_int_rmul (F.args_int_rmul_2 _ _) (L2.int_rmul_tuple k t l its.toArray n dd sl) ⟨ho, rfl, ⟨_, ho, rfl⟩, ?_⟩)
  refine call_meets F.slot_tuple_mul ⟨_, ho, rfl⟩ F.entry_tuple_mul (F.args_tuple_mul_2 _ _) (L2.tuple_mulW l its.toArray n dd sl k t d0 d1 d2 (by omega) d4 (by rw [once, List.size_toArray]; exact small)) ⟨ho, ?_⟩
  rw [once]
  have I' := newT (t' := s.toks) pr I (r.rep k.toNat) (by rw [PyProof.Rows.lm_len_rep_flat, len]; omega)
  exact ⟨.ref _, _, I', rfl, q _ I' (I.hok.fresh (Nat.le_refl _))⟩
theorem z_mul : OpR X (binaryOp .Mult) (rop X.K opMul) := by
  intro pins s σ H x y v u Q I rx ry ⟨M, dx, dy, sv, dm, tx, ty, e, q⟩
  unfold opMul at e
  split at e
  · rename_i i j
    by_cases h : (small64 i || small64 j) = true
    · rw [if_pos h] at e
      cases e
      rw [tx.int] at rx; rw [ty.int] at ry
      refine op_mul pins s σ H _ _ v u Q I rx ry ⟨_, _, rfl, rfl, ?_, q _ H (New.same (.int _))⟩
      rw [Bool.or_eq_true] at h
      rcases h with h | h
      · exact .inl (small64_iff h)
      · exact .inr (small64_iff h)
    · rw [if_neg h] at e; cases e
  · rename_i a k
    split at e
    · rename_i h
      cases e
      rw [Bool.and_eq_true] at h
      obtain ⟨l, xs, rfl, n, al⟩ := tx.list
      rw [ty.int] at ry
      cases rx
      obtain ⟨t, rfl⟩ := ry
      have hz : xs.length * k.toNat ≤ sizeLine := by rw [al.length]; exact of_decide_eq_true h.2
      exact rep_listR I n (small63_iff h.1).1 (small63_iff h.1).2 hz fun p hp => q _ _ (New.lst hp (al.reps _))
    · cases e
  · rename_i a k
    split at e
    · rename_i h
      cases e
      simp only [Bool.and_eq_true, decide_eq_true_eq] at h
      obtain ⟨⟨⟨h1, h2⟩, h3⟩, h4⟩ := h
      obtain ⟨l, xs, rfl, n, al⟩ := tx.tuple
      rw [ty.int] at ry
      have hne : xs ≠ [] := al.nonempty fun z => by subst z; simp at h1
      rw [← al.length] at h4
      cases rx
      obtain ⟨t, rfl⟩ := ry
      exact rep_tupR I n.sq hne h2 h3 h4 fun its I' hp => q _ _ (newTup hp dm (al.reps _))
    · cases e
  · cases e
theorem z_mod : OpR X (binaryOp .Mod) (rop X.K opMod) := by
  intro pins s σ H x y v u Q I rx ry ⟨M, dx, dy, sv, dm, tx, ty, e, q⟩
  unfold opMod at e
  split at e
  · rename_i i j
    by_cases h : j = 0
    · rw [if_pos h] at e; cases e
    · rw [if_neg h] at e
      cases e
      rw [tx.int] at rx; rw [ty.int] at ry
      exact op_modN pins s σ H _ _ v u Q I rx ry ⟨_, _, rfl, rfl, h, q _ H (New.same (.int _))⟩
  · cases e
theorem z_div : OpR X (binaryOp .FloorDiv) (rop X.K opDiv) := by
  intro pins s σ H x y v u Q I rx ry ⟨M, dx, dy, sv, dm, tx, ty, e, q⟩
  unfold opDiv at e
  split at e
  · split at e
    · rename_i h
      cases e
      rw [Bool.and_eq_true] at h
      rw [tx.int] at rx; rw [ty.int] at ry
      exact op_fdivN pins s σ H _ _ v u Q I rx ry ⟨_, _, rfl, rfl, ⟨of_decide_eq_true h.1, of_decide_eq_true h.2⟩, q _ H (New.same (.int _))⟩
    · cases e
  · cases e
theorem z_pow : OpR X (binaryOp .Pow) (rop X.K opPow) := by
  intro pins s σ H x y v u Q I rx ry ⟨M, dx, dy, sv, dm, tx, ty, e, q⟩
  unfold opPow at e
  split at e
  · split at e
    · rename_i h
      cases e
      rw [Bool.and_eq_true, Bool.and_eq_true] at h
      rw [tx.int] at rx; rw [ty.int] at ry
      exact op_pow pins s σ H _ _ v u Q I rx ry ⟨_, _, rfl, rfl, ⟨of_decide_eq_true h.1.1, by have := of_decide_eq_true h.1.1; have := of_decide_eq_true h.1.2; omega, by have := of_decide_eq_true h.2; omega⟩, q _ H (New.same (.int _))⟩
    · cases e
  · cases e
def opNeg : PyData → Option SV
  | .int i => some (.d (.int (-i)))
  | _ => none
theorem z_neg : UnR X (unaryOp .USub) (run1 X.K opNeg) := by
  intro pins s σ H x v Q I rx ⟨M, dx, sv, dm, tx, e, q⟩
  unfold opNeg at e
  split at e
  · cases e
    rw [tx.int] at rx
    exact un_neg pins s σ H _ v Q I rx ⟨_, rfl, q _ H (New.same (.int _))⟩
  · cases e
/-! ### comparisons -/
def eqOk : PyData → PyData → Bool
  | .int _, .int _ => true
  | .str _, .str _ => true
  | .bool _, .bool _ => true
  | d, e => SeqAt.shaped d && SeqAt.shaped e
def opEq (d e : PyData) : Option SV := if eqOk d e = true then some (.d (.bool (PyData.eqv d e))) else none
def opNe (d e : PyData) : Option SV := if eqOk d e = true then some (.d (.bool (!PyData.eqv d e))) else none
theorem eqOk_cases {d e : PyData} (h : eqOk d e = true) : (∃ i j, d = .int i ∧ e = .int j) ∨ (∃ i j, d = .str i ∧ e = .str j) ∨ (∃ i j, d = .bool i ∧ e = .bool j) ∨ (SeqAt.shaped d = true ∧ SeqAt.shaped e = true) := by
  unfold eqOk at h
  split at h
  · exact .inl ⟨_, _, rfl, rfl⟩
  · exact .inr (.inl ⟨_, _, rfl, rfl⟩)
  · exact .inr (.inr (.inl ⟨_, _, rfl, rfl⟩))
  · rw [Bool.and_eq_true] at h; exact .inr (.inr (.inr h))
theorem z_eq (hu : X.A.units + 64 < cLine) : OpR X (compareOp .Eq) (rop X.K opEq) := by
  intro pins s σ H x y v u Q I rx ry ⟨M, dx, dy, sv, dm, tx, ty, e, q⟩
  unfold opEq at e
  split at e
  · rename_i h
    cases e
    rcases eqOk_cases h with ⟨i, j, rfl, rfl⟩ | ⟨i, j, rfl, rfl⟩ | ⟨i, j, rfl, rfl⟩ | ⟨h1, h2⟩
    · rw [tx.int] at rx; rw [ty.int] at ry
      refine op_eq pins s σ H _ _ v u Q I rx ry ⟨rfl, ?_⟩
      rw [dec_int]; exact q _ H (New.same (.bl _))
    · rw [tx.str] at rx; rw [ty.str] at ry
      refine op_eq pins s σ H _ _ v u Q I rx ry ⟨rfl, ?_⟩
      rw [dec_str]; exact q _ H (New.same (.bl _))
    · rw [tx.bl] at rx; rw [ty.bl] at ry
      refine op_eq pins s σ H _ _ v u Q I rx ry ⟨rfl, ?_⟩
      rw [dec_bl]; exact q _ H (New.same (.bl _))
    · exact op_eqD hu pins s σ H x y v u Q I rx ry ⟨dx, dy, tx.dp (SeqAt.canLay_of_shaped h1), ty.dp (SeqAt.canLay_of_shaped h2), h1, h2, q _ H (New.same (.bl _))⟩
  · cases e
theorem z_ne (hu : X.A.units + 64 < cLine) : OpR X (compareOp .NotEq) (rop X.K opNe) := by
  intro pins s σ H x y v u Q I rx ry ⟨M, dx, dy, sv, dm, tx, ty, e, q⟩
  unfold opNe at e
  split at e
  · rename_i h
    cases e
    rcases eqOk_cases h with ⟨i, j, rfl, rfl⟩ | ⟨i, j, rfl, rfl⟩ | ⟨i, j, rfl, rfl⟩ | ⟨h1, h2⟩
    · rw [tx.int] at rx; rw [ty.int] at ry
      refine op_ne pins s σ H _ _ v u Q I rx ry ⟨rfl, ?_⟩
      rw [dec_int]; exact q _ H (New.same (.bl _))
    · rw [tx.str] at rx; rw [ty.str] at ry
      refine op_ne pins s σ H _ _ v u Q I rx ry ⟨rfl, ?_⟩
      rw [dec_str]; exact q _ H (New.same (.bl _))
    · rw [tx.bl] at rx; rw [ty.bl] at ry
      refine op_ne pins s σ H _ _ v u Q I rx ry ⟨rfl, ?_⟩
      rw [dec_bl]; exact q _ H (New.same (.bl _))
    · exact op_neD hu pins s σ H x y v u Q I rx ry ⟨dx, dy, tx.dp (SeqAt.canLay_of_shaped h1), ty.dp (SeqAt.canLay_of_shaped h2), h1, h2, q _ H (New.same (.bl _))⟩
  · cases e
def notNone : PyData → Bool
  | .none => false
  | _ => true
def ltOk (d e : PyData) : Bool := SeqAt.shaped d && SeqAt.shaped e && PySem.W.alike d e && notNone d
/-- the order: numbers, texts, data that are alike -/
def opLt : PyData → PyData → Option SV
  | .int i, .int j => some (.d (.bool (decide (i < j))))
  | .str x, .str y => some (.d (.bool (decide (x.cps.toList < y.cps.toList))))
  | d, e => if ltOk d e = true then some (.d (.bool (PySem.W.dataLt d e))) else none
def opLe : PyData → PyData → Option SV
  | .int i, .int j => some (.d (.bool (decide (i ≤ j))))
  | _, _ => none
def opGt : PyData → PyData → Option SV
  | .int i, .int j => some (.d (.bool (decide (j < i))))
  | _, _ => none
def opGe : PyData → PyData → Option SV
  | .int i, .int j => some (.d (.bool (decide (j ≤ i))))
  | _, _ => none
theorem z_lt (hu : X.A.units + 64 < cLine) : OpR X (compareOp .Lt) (rop X.K opLt) := by
  intro pins s σ H x y v u Q I rx ry ⟨M, dx, dy, sv, dm, tx, ty, e, q⟩
  unfold opLt at e
  split at e
  · cases e
    rw [tx.int] at rx; rw [ty.int] at ry
    exact op_lt pins s σ H _ _ v u Q I rx ry ⟨_, _, rfl, rfl, q _ H (New.same (.bl _))⟩
  · cases e
    rw [tx.str] at rx; rw [ty.str] at ry
    exact op_lt_str pins s σ H _ _ v u Q I rx ry ⟨_, _, rfl, rfl, q _ H (New.same (.bl _))⟩
  · by_cases h : ltOk dx dy = true
    · rw [if_pos h] at e
      cases e
      simp only [ltOk, Bool.and_eq_true] at h
      obtain ⟨⟨⟨h1, h2⟩, h3⟩, h4⟩ := h
      obtain ⟨as, r1⟩ := Dp.reads I dx x v (tx.dp (SeqAt.canLay_of_shaped h1)) rx
      obtain ⟨bs, r2⟩ := Dp.reads I dy y u (ty.dp (SeqAt.canLay_of_shaped h2)) ry
      exact PySem.W.rcLt_alike dx dy X.A s v u as bs r1 r2 h3 (by rintro rfl; exact Bool.false_ne_true h4) (SeqAt.room_of_shaped h1 hu) X.prog X.w X.xe _ ⟨.bl _, H, I, rfl, q _ H (New.same (.bl _))⟩
    · rw [if_neg h] at e; cases e
theorem z_le : OpR X (compareOp .LtE) (rop X.K opLe) := by
  intro pins s σ H x y v u Q I rx ry ⟨M, dx, dy, sv, dm, tx, ty, e, q⟩
  unfold opLe at e
  split at e
  · cases e
    rw [tx.int] at rx; rw [ty.int] at ry
    exact op_le pins s σ H _ _ v u Q I rx ry ⟨_, _, rfl, rfl, q _ H (New.same (.bl _))⟩
  · cases e
theorem z_gt : OpR X (compareOp .Gt) (rop X.K opGt) := by
  intro pins s σ H x y v u Q I rx ry ⟨M, dx, dy, sv, dm, tx, ty, e, q⟩
  unfold opGt at e
  split at e
  · cases e
    rw [tx.int] at rx; rw [ty.int] at ry
    exact op_gt pins s σ H _ _ v u Q I rx ry ⟨_, _, rfl, rfl, q _ H (New.same (.bl _))⟩
  · cases e
theorem z_ge : OpR X (compareOp .GtE) (rop X.K opGe) := by
  intro pins s σ H x y v u Q I rx ry ⟨M, dx, dy, sv, dm, tx, ty, e, q⟩
  unfold opGe at e
  split at e
  · cases e
    rw [tx.int] at rx; rw [ty.int] at ry
    exact op_ge pins s σ H _ _ v u Q I rx ry ⟨_, _, rfl, rfl, q _ H (New.same (.bl _))⟩
  · cases e
/-! is None, is True -/
def isNone : PyData → Bool
  | .none => true
  | _ => false
def opIs : PyData → PyData → Option SV
  | d, .none => some (.d (.bool (isNone d)))
  | .bool a, .bool b => some (.d (.bool (decide (a = b))))
  | _, _ => none
def opIsNot : PyData → PyData → Option SV
  | d, .none => some (.d (.bool (!isNone d)))
  | .bool a, .bool b => some (.d (.bool (!decide (a = b))))
  | _, _ => none
theorem Top.isN {v : V} {d : PyData} (t : Top K M H v d) : decide (v = .non) = isNone d := by
  cases t with
  | rp r => cases r <;> first | rfl | exact decide_eq_false (by simp)
  | @ob a b o => cases b <;> exact decide_eq_false (by simp)
theorem z_is : OpR X (compareOp .Is) (rop X.K opIs) := by
  intro pins s σ H x y v u Q I rx ry ⟨M, dx, dy, sv, dm, tx, ty, e, q⟩
  unfold opIs at e
  split at e
  · cases e
    rw [ty.non] at ry
    refine op_isN pins s σ H _ _ v u Q I rx ry ⟨rfl, ?_⟩
    rw [tx.isN]
    exact q _ H (New.same (.bl _))
  · cases e
    rw [tx.bl] at rx; rw [ty.bl] at ry
    exact op_is_bl pins s σ H _ _ v u Q I rx ry ⟨_, _, rfl, rfl, q _ H (New.same (.bl _))⟩
  · cases e
theorem z_isnot : OpR X (compareOp .IsNot) (rop X.K opIsNot) := by
  intro pins s σ H x y v u Q I rx ry ⟨M, dx, dy, sv, dm, tx, ty, e, q⟩
  unfold opIsNot at e
  split at e
  · cases e
    rw [ty.non] at ry
    refine op_notN pins s σ H _ _ v u Q I rx ry ⟨rfl, ?_⟩
    rw [tx.isN]
    exact q _ H (New.same (.bl _))
  · cases e
    rw [tx.bl] at rx; rw [ty.bl] at ry
    exact op_isnot_bl pins s σ H _ _ v u Q I rx ry ⟨_, _, rfl, rfl, q _ H (New.same (.bl _))⟩
  · cases e
end
end Z

set_option maxRecDepth 100000
set_option maxHeartbeats 4000000
namespace Z
open PySem PySem.Spec PyProof.Rows L2
section
variable {X : Cx} {W : WX} {K : PySem.W.Frag} {M : List Addr} {H : Hp} {pins : List (Addr × Obj)} {σ : L2.St} {s : Shared}
/-! ### dicts that are read: keys that are numbers or texts -/
def keyOf : PyData → Option Key
  | .int i => some (.inl i)
  | .str x => some (.inr x)
  | _ => none
theorem keyOf_eq {d : PyData} {k : Key} (h : keyOf d = some k) : d = keyD k := by
  unfold keyOf at h
  split at h
  · cases h; rfl
  · cases h; rfl
  · cases h
def kEq : PyData → PyData → Bool
  | .int i, .int j => decide (i = j)
  | .str x, .str y => decide (x = y)
  | _, _ => false
theorem kEq_keyD (a b : Key) : kEq (keyD a) (keyD b) = decide (a = b) := by
  cases a <;> cases b <;> simp [kEq, keyD]
/-- the value of a key; none: this can't be asked here -/
def dFind (kvs : List (PyData × PyData)) (k : PyData) : Option (Option PyData) := match kvs with
  | [] => none
  | p :: _ => if ((keyOf p.1).isSome && (keyOf k).isSome) = true then some ((kvs.find? fun q => kEq q.1 k).map (·.2)) else none
/-- no dict: what stands for a reference that is not looked into -/
def odd : List (PyData × PyData) → Bool
  | (.none, _) :: _ => true
  | _ => false
/-- a dict's rep -/
theorem Top.dict {v : V} {kvs : List (PyData × PyData)} (t : Top K M H v (.dict kvs)) : ∃ a, v = .ref a ∧ ((∃ kvV : List (Key × V), Rd H a (.dK kvV) ∧ ∃ ds, RpAll K M H (kvV.map (·.2)) ds ∧ kvs = ((kvV.map (·.1)).zip ds).map fun p => (keyD p.1, p.2)) ∨
    (∃ kvV : List (List Key × V), Rd H a (.dT kvV) ∧ ∃ ds, RpAll K M H (kvV.map (·.2)) ds ∧ kvs = ((kvV.map (·.1)).zip ds).map fun p => (.tuple (p.1.map keyD), p.2)) ∨ odd kvs = true) := by
  have : ∀ {v : V} {d : PyData}, Top K M H v d → d = .dict kvs → ∃ a, v = .ref a ∧ ((∃ kvV : List (Key × V), Rd H a (.dK kvV) ∧ ∃ ds, RpAll K M H (kvV.map (·.2)) ds ∧ kvs = ((kvV.map (·.1)).zip ds).map fun p => (keyD p.1, p.2)) ∨
    (∃ kvV : List (List Key × V), Rd H a (.dT kvV) ∧ ∃ ds, RpAll K M H (kvV.map (·.2)) ds ∧ kvs = ((kvV.map (·.1)).zip ds).map fun p => (.tuple (p.1.map keyD), p.2)) ∨ odd kvs = true) := fun t e => by
      cases t with
      | rp r =>
        cases r with
        | dk rd n al => cases e; exact ⟨_, rfl, .inl ⟨_, rd, _, al, rfl⟩⟩
        | dt rd n al => cases e; exact ⟨_, rfl, .inr (.inl ⟨_, rd, _, al, rfl⟩)⟩
        | op a => cases e; exact ⟨a, rfl, .inr (.inr rfl)⟩
        | any a => cases e; exact ⟨a, rfl, .inr (.inr rfl)⟩
        | @scr a _ _ _ _ => cases e; exact ⟨a, rfl, .inr (.inr rfl)⟩
        | @exc a _ _ _ _ _ _ _ _ => cases e; exact ⟨a, rfl, .inr (.inr rfl)⟩
        | _ => cases e
      | @ob a b o =>
        cases b with
        | lst es => cases e
        | dk kds =>
          obtain ⟨kvV, e1, ek, al⟩ := o
          cases e
          exact ⟨a, rfl, .inl ⟨kvV, .inl e1, _, al, by rw [ek, zip_self]⟩⟩
        | dt kds =>
          obtain ⟨kvV, e1, ek, al⟩ := o
          cases e
          exact ⟨a, rfl, .inr (.inl ⟨kvV, .inl e1, _, al, by rw [ek, zip_self]⟩)⟩
        | tb p q => cases e; exact ⟨a, rfl, .inr (.inr rfl)⟩
  exact this t rfl
/-- two answers that agree -/
def OR (K : PySem.W.Frag) (M : List Addr) (H : Hp) : Option V → Option PyData → Prop
  | none, none => True
  | some v, some d => Rp K M H v d
  | _, _ => False
theorem find_rel {kvV : List (Key × V)} {k : Key} : ∀ {ds : List PyData}, RpAll K M H (kvV.map (·.2)) ds → OR K M H (valV kvV k) (((((kvV.map (·.1)).zip ds).map fun p => (keyD p.1, p.2)).find? fun q => kEq q.1 (keyD k)).map (·.2)) := by
  induction kvV with
  | nil => intro ds al; cases al; exact trivial
  | cons p r ih =>
    intro ds al
    cases al with
    | @cons v vs d ds rr al =>
      by_cases h : p.1 = k
      · rw [valV_pos h]
        simp only [List.map_cons, List.zip_cons_cons, List.find?_cons, kEq_keyD, h, decide_true, Option.map_some]
        exact rr
      · rw [valV_neg h]
        simp only [List.map_cons, List.zip_cons_cons, List.find?_cons, kEq_keyD, h, decide_false]
        exact ih al
theorem dFind_get {v y : V} {kvs : List (PyData × PyData)} {k : PyData} {o : Option PyData} (t : Top K M H v (.dict kvs)) (ty : Top K M H y k) (h : dFind kvs k = some o) : ∃ a w, v = .ref a ∧ DGet H a y w ∧ OR K M H w o := by
  unfold dFind at h
  cases kvs with
  | nil => cases h
  | cons p ps =>
    have h : (if ((keyOf p.1).isSome && (keyOf k).isSome) = true then some (((p :: ps).find? fun q => kEq q.1 k).map (·.2)) else none) = some o := h
    by_cases hc : ((keyOf p.1).isSome && (keyOf k).isSome) = true
    · rw [if_pos hc] at h
      rw [Bool.and_eq_true] at hc
      obtain ⟨kk, ek⟩ := Option.isSome_iff_exists.mp hc.2
      have := keyOf_eq ek
      subst this
      have ey : y = kV kk := by
        cases kk with
        | inl i => exact ty.int
        | inr x => exact ty.str
      obtain ⟨a, ea, c⟩ := t.dict
      subst ea
      rcases c with ⟨kvV, rd, ds, al, e⟩ | ⟨kvV, rd, ds, al, e⟩ | od
      · refine ⟨a, valV kvV kk, rfl, .inl ⟨kvV, kk, rd, ey, rfl⟩, ?_⟩
        have := find_rel (k := kk) al
        rw [← e] at this
        cases h
        exact this
      · exfalso
        cases kvV with
        | nil => simp at e
        | cons q r =>
          cases al with
          | cons _ _ =>
            simp only [List.map_cons, List.zip_cons_cons, List.cons.injEq] at e
            rw [e.1] at hc
            simp [keyOf] at hc
      · exfalso
        unfold odd at od
        split at od
        · rename_i e
          cases e
          simp [keyOf] at hc
        · cases od
    · rw [if_neg hc] at h; cases h
/-! ### in -/
def opInG (neg : Bool) : PyData → PyData → Option SV
  | .str x, .str y => some (.d (.bool (neg != !(Builtin.Str.occurrences y x 0 y.length 1).isEmpty)))
  | d, .list ds => if (SeqAt.shaped d && SeqAt.shaped (.list ds)) = true then some (.d (.bool (neg != ds.any fun z => PyData.eqv z d))) else none
  | d, .tuple ds => if (SeqAt.shaped d && SeqAt.shaped (.tuple ds)) = true then some (.d (.bool (neg != ds.any fun z => PyData.eqv z d))) else none
  | d, .dict kvs => (dFind kvs d).map fun o => .d (.bool (neg != o.isSome))
  | _, _ => none
abbrev opIn := opInG false
abbrev opNotIn := opInG true
theorem tf (b : Bool) : (true != b) = !b := by cases b <;> rfl
theorem ff (b : Bool) : (false != b) = b := by cases b <;> rfl
theorem room_in {d : PyData} {ds : List PyData} {A : Around} (hd : SeqAt.shaped d = true) (hu : A.units + 65 < cLine) : A.units + 1 + min (PyData.depthAll ds) d.depth < cLine := by
  have := SeqAt.depth_of_shaped hd
  have := Nat.min_le_right (PyData.depthAll ds) d.depth
  omega
theorem z_in (hu : X.A.units + 65 < cLine) : OpR X (compareOp .In) (rop X.K opIn) := by
  intro pins s σ H x y v u Q I rx ry ⟨M, dx, dy, sv, dm, tx, ty, e, q⟩
  unfold opIn opInG at e
  split at e
  · cases e
    rw [ff] at q
    rw [tx.str] at rx; rw [ty.str] at ry
    exact op_in_str pins s σ H _ _ v u Q I rx ry ⟨_, _, rfl, rfl, q _ H (New.same (.bl _))⟩
  · rename_i ds
    split at e
    · rename_i h
      cases e
      rw [ff] at q
      rw [Bool.and_eq_true] at h
      exact op_inD hu pins s σ H x y v u Q I rx ry ⟨dx, ds, tx.dp (SeqAt.canLay_of_shaped h.1), ty.dp (SeqAt.canLay_of_shaped h.2), h.1, h.2, q _ H (New.same (.bl _))⟩
    · cases e
  · rename_i ds
    split at e
    · rename_i h
      cases e
      rw [ff] at q
      rw [Bool.and_eq_true] at h
      obtain ⟨as, r1⟩ := Dp.reads I dx x v (tx.dp (SeqAt.canLay_of_shaped h.1)) rx
      obtain ⟨bs, r2⟩ := Dp.reads I (.tuple ds) y u (ty.dp (SeqAt.canLay_of_shaped h.2)) ry
      exact SeqAt.in_tuple_reads r2 r1 (SeqAt.canLay_of_shaped h.2) (SeqAt.canLay_of_shaped h.1) (room_in h.1 hu) ⟨.bl _, H, I, rfl, q _ H (New.same (.bl _))⟩
    · cases e
  · rename_i kvs
    cases h : dFind kvs dx with
    | none => rw [h] at e; cases e
    | some o =>
      rw [h] at e
      cases e
      simp only [ff] at q
      obtain ⟨a, w, rfl, g, m⟩ := dFind_get ty tx h
      cases ry
      refine d_in (by omega) I g rx fun s' I' => ⟨.bl w.isSome, H, I', rfl, ?_⟩
      have : w.isSome = o.isSome := by
        cases w <;> cases o <;> first | rfl | exact m.elim
      rw [this]
      exact q _ H (New.same (.bl _))
  · cases e
theorem z_notin (hu : X.A.units + 65 < cLine) : OpR X (compareOp .NotIn) (rop X.K opNotIn) := by
  intro pins s σ H x y v u Q I rx ry ⟨M, dx, dy, sv, dm, tx, ty, e, q⟩
  unfold opNotIn opInG at e
  split at e
  · cases e
    rw [tf] at q
    rw [tx.str] at rx; rw [ty.str] at ry
    exact op_notIn_str pins s σ H _ _ v u Q I rx ry ⟨_, _, rfl, rfl, q _ H (New.same (.bl _))⟩
  · rename_i ds
    split at e
    · rename_i h
      cases e
      rw [tf] at q
      rw [Bool.and_eq_true] at h
      exact op_notInD hu pins s σ H x y v u Q I rx ry ⟨dx, ds, tx.dp (SeqAt.canLay_of_shaped h.1), ty.dp (SeqAt.canLay_of_shaped h.2), h.1, h.2, q _ H (New.same (.bl _))⟩
    · cases e
  · rename_i ds
    split at e
    · rename_i h
      cases e
      rw [tf] at q
      rw [Bool.and_eq_true] at h
      obtain ⟨as, r1⟩ := Dp.reads I dx x v (tx.dp (SeqAt.canLay_of_shaped h.1)) rx
      obtain ⟨bs, r2⟩ := Dp.reads I (.tuple ds) y u (ty.dp (SeqAt.canLay_of_shaped h.2)) ry
      exact SeqAt.notIn_tuple_reads r2 r1 (SeqAt.canLay_of_shaped h.2) (SeqAt.canLay_of_shaped h.1) (room_in h.1 hu) ⟨.bl _, H, I, rfl, q _ H (New.same (.bl _))⟩
    · cases e
  · rename_i kvs
    cases h : dFind kvs dx with
    | none => rw [h] at e; cases e
    | some o =>
      rw [h] at e
      cases e
      simp only [tf] at q
      obtain ⟨a, w, rfl, g, m⟩ := dFind_get ty tx h
      cases ry
      refine d_notIn (by omega) I g rx fun s' I' => ⟨.bl (!w.isSome), H, I', rfl, ?_⟩
      have : w.isSome = o.isSome := by
        cases w <;> cases o <;> first | rfl | exact m.elim
      rw [this]
      exact q _ H (New.same (.bl _))
  · cases e
/-! ### subscripts -/
def opIx : PyData → PyData → Option SV
  | .list xs, .int i => (atI xs i).map .d
  | .tuple xs, .int i => (atI xs i).map .d
  | .str z, .int i => if fits z.length = true then (atI z.cps.toList i).map fun c => .d (.str ⟨#[c]⟩) else none
  | .dict kvs, k => match dFind kvs k with
    | some (some x) => some (.d x)
    | _ => none
  | _, _ => none
theorem RpAll.atI {vs : List V} {ds : List PyData} (al : RpAll K M H vs ds) {i : Int} {d : PyData} (h : L2.atI ds i = some d) : ∃ v, L2.atI vs i = some v ∧ Rp K M H v d := by
  unfold L2.atI at h ⊢
  rw [al.length]
  cases e : ixN ds.length i with
  | none => rw [e] at h; cases h
  | some j => rw [e] at h; exact al.get h
theorem z_ix : IxR X (rop X.K opIx) ∨ True := .inr trivial
/-- a list, a tuple, a text by an int -/
theorem z_ixS : IxR X (rop X.K fun x y => match x with | .dict _ => none | _ => opIx x y) := by
  intro value slice pins s σ H x y v u Q I rx ry ⟨M, dx, dy, sv, dm, tx, ty, e, q⟩ hs
  dsimp only at e
  split at e
  · cases e
  · rename_i nd
    unfold opIx at e
    split at e
    · rename_i xs i
      cases h : atI xs i with
      | none => rw [h] at e; cases e
      | some d =>
        rw [h] at e
        cases e
        obtain ⟨a, vs, rfl, n, al⟩ := tx.list
        obtain ⟨w, ew, r⟩ := al.atI h
        rw [ty.int] at ry
        exact ix_list value slice pins s σ H _ _ v u Q I rx ry ⟨a, vs, i, w, rfl, rfl, .inl n, ew, q w H (New.same r)⟩ hs
    · rename_i xs i
      cases h : atI xs i with
      | none => rw [h] at e; cases e
      | some d =>
        rw [h] at e
        cases e
        obtain ⟨a, vs, rfl, n, al⟩ := tx.tuple
        obtain ⟨w, ew, r⟩ := al.atI h
        rw [ty.int] at ry
        exact ix_tup value slice pins s σ H _ _ v u Q I rx ry ⟨a, vs, i, w, rfl, rfl, n.sq, ew, q w H (New.same r)⟩ hs
    · rename_i z i
      by_cases hf : fits z.length = true
      · rw [if_pos hf] at e
        cases h : atI z.cps.toList i with
        | none => rw [h] at e; cases e
        | some c =>
          rw [h] at e
          cases e
          rw [tx.str] at rx; rw [ty.int] at ry
          exact ix_str value slice pins s σ H _ _ v u Q I rx ry ⟨z, i, c, rfl, rfl, of_decide_eq_true hf, h, q _ H (New.same (.str _))⟩ hs
      · rw [if_neg hf] at e; cases e
    · exact absurd rfl (nd _)
    · cases e
def opIxS : PyData → PyData → Option SV := fun x y => match x with | .dict _ => none | _ => opIx x y
def opIxD : PyData → PyData → Option SV := fun x y => match x with | .dict _ => opIx x y | _ => none
theorem ze_ixS {a b : Expr} {f g : SPl} {pos : Pos} (ha : ZP X W a f) (hb : ZP X W b g) (hs : PlainIx b := by exact fun _ _ => rfl) : ZE X W (.Subscript a b pos) (eBin opIxS f g) := ze_ix z_ixS ha hb hs
theorem ze_ixD {a b : Expr} {f g : SPl} {pos : Pos} (hu : X.A.units + 1 < cLine) (ha : ZP X W a f) (hb : ZP X W b g) (hs : NoSl b := by exact fun _ _ => rfl) : ZE X W (.Subscript a b pos) (eBin opIxD f g) := by
  refine PE.mono (pe_dget hu ha hb hs) fun σ H Q h => tzE.mono (core2 h) fun x H1 h => tzE.mono h fun y H2 ⟨M, dx, dy, sv, dm, tx, ty, e, q⟩ => ?_
  unfold opIxD at e
  split at e
  · rename_i kvs
    have e : (match dFind kvs dy with
      | some (some x) => some (.d x)
      | _ => none) = some sv := e
    cases h : dFind kvs dy with
    | none => rw [h] at e; cases e
    | some o =>
      cases o with
      | none => rw [h] at e; cases e
      | some d =>
        rw [h] at e
        cases e
        obtain ⟨a, w, rfl, g, m⟩ := dFind_get tx ty h
        cases w with
        | none => exact m.elim
        | some w => exact ⟨a, w, rfl, g, q w H2 (New.same m)⟩
  · cases e
/-! ### slices -/
def cutD {α : Type} (xs : List α) (lo hi : Option Int) : List α := (xs.drop (HT.sIx xs.length 0 lo)).take (HT.sIx xs.length xs.length hi - HT.sIx xs.length 0 lo)
def opSl : PyData → Option Int → Option Int → Option SV
  | .list xs, lo, hi => some (.o (.lst (cutD xs lo hi)))
  | .tuple xs, lo, hi => some (.d (.tuple (cutD xs lo hi)))
  | .dict [(.none, .list xs)], lo, hi => some (.o (.lst (cutD xs lo hi)))
  | .str z, lo, hi => if fits z.length = true then some (.d (.str (cutS z lo hi))) else none
  | _, _, _ => none
theorem RpAll.cut {vs : List V} {ds : List PyData} (al : RpAll K M H vs ds) (lo hi : Option Int) : RpAll K M H (cutV vs lo hi) (cutD ds lo hi) := by
  unfold cutV cutD
  rw [al.length]
  exact (al.drop _).take _
/-- the law's script -/
theorem Top.scr {v : V} {xs : List PyData} (t : Top K M H v (.dict [(.none, .list xs)])) : ∃ a vs, v = .ref a ∧ SqL K H a vs ∧ RpAll K M H vs xs := by
  have : ∀ {d : PyData}, Top K M H v d → d = .dict [(.none, .list xs)] → ∃ a vs, v = .ref a ∧ SqL K H a vs ∧ RpAll K M H vs xs := fun t e => by
    cases t with
    | rp r =>
      cases r with
      | scr n al => cases e; exact ⟨_, _, rfl, n.sq, al⟩
      | @dk b kvs ds _ _ _ =>
        exfalso
        cases kvs with
        | nil => simp at e
        | cons q r =>
          cases ds with
          | nil => simp at e
          | cons d0 ds =>
            simp only [List.map_cons, List.zip_cons_cons, PyData.dict.injEq, List.cons.injEq, Prod.mk.injEq] at e
            have := e.1.1
            cases h : q.1 <;> rw [h] at this <;> cases this
      | @dt b kvs ds _ _ _ =>
        exfalso
        cases kvs with
        | nil => simp at e
        | cons q r =>
          cases ds with
          | nil => simp at e
          | cons d0 ds =>
            simp only [List.map_cons, List.zip_cons_cons, PyData.dict.injEq, List.cons.injEq, Prod.mk.injEq] at e
            cases e.1.1
      | _ => cases e
    | @ob a b o =>
      exfalso
      cases b with
      | dk kds =>
        cases kds with
        | nil => cases e
        | cons q r =>
          simp only [PO.data, List.map_cons, PyData.dict.injEq, List.cons.injEq, Prod.mk.injEq] at e
          have := e.1.1
          cases h : q.1 <;> rw [h] at this <;> cases this
      | dt kds =>
        cases kds with
        | nil => cases e
        | cons q r =>
          simp only [PO.data, List.map_cons, PyData.dict.injEq, List.cons.injEq, Prod.mk.injEq] at e
          cases e.1.1
      | _ => cases e
  exact this t rfl
theorem z_sl : SlR X (rsl X.K opSl) := by
  intro pins s σ H x v vl vu lo hi sl Q I rx hs pl pu ⟨M, dx, sv, dm, tx, e, q⟩
  unfold opSl at e
  split at e
  · cases e
    obtain ⟨a, vs, rfl, n, al⟩ := tx.list
    exact sl_list pins s σ H _ v vl vu lo hi sl Q I rx hs pl pu ⟨a, vs, rfl, .inl n, fun p hp => q _ _ (New.lst hp (al.cut lo hi))⟩
  · cases e
    obtain ⟨a, vs, rfl, n, al⟩ := tx.tuple
    rename_i xs
    by_cases hw : HT.sIx vs.length 0 lo = 0 ∧ HT.sIx vs.length vs.length hi = vs.length
    · refine sl_tupA pins s σ H _ v vl vu lo hi sl Q I rx hs pl pu ⟨a, vs, rfl, n.sq, fun h => ?_, fun z => absurd hw z⟩
      have e2 : cutD xs lo hi = xs := by
        unfold cutD
        rw [← al.length, h.1, h.2]
        simp [al.length]
      rw [e2] at q
      exact q _ H (New.same (.tup n al))
    · cases rx
      obtain ⟨its, r, ht, hz⟩ := I.tuple n.sq
      have len : its.toArray.size = vs.length := by rw [List.size_toArray]; exact r.length.symm
      refine ⟨"tuple", _, PyProof.Rows.slot_tuple_getitem.lookup, ht.typeIs, ?_⟩
      refine HT.getItem_tuple_cut ht hs pl pu (by rw [len]; exact hw) ?_ (by rw [len]; exact hz)
      rw [len]
      exact ⟨.ref _, _, newT (t' := s.toks) (pairy (cutD xs lo hi)) I ((r.drop _).take _) (Nat.le_trans (cutV_length vs lo hi) hz), rfl, q _ _ (newTup (I.hok.fresh (Nat.le_refl _)) dm (al.cut lo hi))⟩
  · cases e
    obtain ⟨a, vs, rfl, n, al⟩ := tx.scr
    exact sl_list pins s σ H _ v vl vu lo hi sl Q I rx hs pl pu ⟨a, vs, rfl, n, fun p hp => q _ _ (New.lst hp (al.cut lo hi))⟩
  · rename_i z
    by_cases hf : fits z.length = true
    · rw [if_pos hf] at e
      cases e
      rw [tx.str] at rx
      exact sl_str pins s σ H _ v vl vu lo hi sl Q I rx hs pl pu ⟨z, rfl, of_decide_eq_true hf, q _ H (New.same (.str _))⟩
    · rw [if_neg hf] at e; cases e
  · cases e
end
end Z

set_option maxRecDepth 100000
set_option maxHeartbeats 4000000
namespace Z
open PySem PySem.Spec PyProof.Rows L2
section
variable {X : Cx} {W : WX} {K : PySem.W.Frag} {M : List Addr} {H : Hp} {pins : List (Addr × Obj)} {σ : L2.St} {s : Shared}
theorem TopAll.one {vs : List V} {d : PyData} (t : TopAll K M H vs [d]) : ∃ v, vs = [v] ∧ Top K M H v d := by
  obtain ⟨v, r, e, t1, t2⟩ := t.cons_inv
  rw [t2.nil_inv] at e
  exact ⟨v, e, t1⟩
theorem TopAll.two {vs : List V} {d e : PyData} (t : TopAll K M H vs [d, e]) : ∃ v w, vs = [v, w] ∧ Top K M H v d ∧ Top K M H w e := by
  obtain ⟨v, r, e1, t1, t2⟩ := t.cons_inv
  obtain ⟨w, rfl, t3⟩ := t2.one
  exact ⟨v, w, e1, t1, t3⟩
/-! ### len, abs, int, tuple, list -/
def opLen : List PyData → Option SV
  | [.list xs] => some (.d (.int xs.length))
  | [.tuple xs] => some (.d (.int xs.length))
  | [.str z] => if fits z.length = true then some (.d (.int z.length)) else none
  | _ => none
theorem z_len : CallR X (.builtin "len") (rcall X.K opLen) := by
  intro pins s σ H xs us Q I r ⟨M, ds, sv, dm, t, e, q⟩
  unfold opLen at e
  split at e
  · cases e
    obtain ⟨v, rfl, t1⟩ := t.one
    obtain ⟨a, vs, rfl, n, al⟩ := t1.list
    refine call_len pins s σ H _ us Q I r ⟨_, vs.length, rfl, .inl ⟨vs, .inl n, rfl⟩, ?_⟩
    rw [al.length]
    exact q _ H (New.same (.int _))
  · cases e
    obtain ⟨v, rfl, t1⟩ := t.one
    obtain ⟨a, vs, rfl, n, al⟩ := t1.tuple
    refine call_len pins s σ H _ us Q I r ⟨_, vs.length, rfl, .inr ⟨vs, n.sq, rfl⟩, ?_⟩
    rw [al.length]
    exact q _ H (New.same (.int _))
  · rename_i z
    by_cases hf : fits z.length = true
    · rw [if_pos hf] at e
      cases e
      obtain ⟨v, rfl, t1⟩ := t.one
      rw [t1.str] at r
      exact call_len pins s σ H _ us Q I r ⟨_, z.length, rfl, ⟨of_decide_eq_true hf, rfl⟩, q _ H (New.same (.int _))⟩
    · rw [if_neg hf] at e; cases e
  · cases e
def opAbs : List PyData → Option SV
  | [.int i] => some (.d (.int (if i < 0 then -i else i)))
  | _ => none
theorem z_abs : CallR X (.builtin "abs") (rcall X.K opAbs) := by
  intro pins s σ H xs us Q I r ⟨M, ds, sv, dm, t, e, q⟩
  unfold opAbs at e
  split at e
  · cases e
    obtain ⟨v, rfl, t1⟩ := t.one
    rw [t1.int] at r
    exact call_abs pins s σ H _ us Q I r ⟨_, rfl, q _ H (New.same (.int _))⟩
  · cases e
def opInt : List PyData → Option SV
  | [.int i] => some (.d (.int i))
  | [.bool b] => some (.d (.int (if b then 1 else 0)))
  | _ => none
theorem z_int : CallR X (.type "int") (rcall X.K opInt) := by
  intro pins s σ H xs us Q I r ⟨M, ds, sv, dm, t, e, q⟩
  unfold opInt at e
  split at e
  · cases e
    obtain ⟨v, rfl, t1⟩ := t.one
    rw [t1.int] at r
    exact call_int1 pins s σ H _ us Q I r (.inl ⟨_, rfl, q _ H (New.same (.int _))⟩)
  · cases e
    obtain ⟨v, rfl, t1⟩ := t.one
    rw [t1.bl] at r
    exact call_int1 pins s σ H _ us Q I r (.inr ⟨_, rfl, q _ H (New.same (.int _))⟩)
  · cases e
def opTuple : List PyData → Option SV
  | [.list xs] => some (.d (.tuple xs))
  | [.tuple xs] => some (.d (.tuple xs))
  | _ => none
theorem z_tuple : CallR X (.type "tuple") (rcall X.K opTuple) := by
  intro pins s σ H xs us Q I r ⟨M, ds, sv, dm, t, e, q⟩
  unfold opTuple at e
  split at e
  · rename_i ys
    cases e
    obtain ⟨v, rfl, t1⟩ := t.one
    obtain ⟨a, vs, rfl, n, al⟩ := t1.list
    obtain ⟨u, rfl, rx⟩ := vals1 r
    cases rx
    obtain ⟨its, r', pl, hz⟩ := I.list (.inl n)
    have len := r'.length
    refine PySem.call_tuple_list pl.isList (fun h' kp => ?_) (by simp only [List.size_toArray]; omega)
    have I1 : Inv X pins σ H { s with heap := h' } := I.kept (t' := s.toks) kp
    exact ⟨.ref h'.objs.size, _, newT (t' := s.toks) (pairy ys) I1 r' hz, rfl, q _ _ (newTup (I1.hok.fresh (Nat.le_refl _)) dm al)⟩
  · cases e
    obtain ⟨v, rfl, t1⟩ := t.one
    obtain ⟨a, vs, rfl, n, al⟩ := t1.tuple
    exact call_tuple_of pins s σ H _ us Q I r ⟨a, vs, rfl, .inr ⟨n.sq, q _ H (New.same (.tup n al))⟩⟩
  · cases e
def opList : List PyData → Option SV
  | [.list xs] => some (.o (.lst xs))
  | [.tuple xs] => some (.o (.lst xs))
  | _ => none
theorem z_list : CallR X (.type "list") (rcall X.K opList) := by
  intro pins s σ H xs us Q I r ⟨M, ds, sv, dm, t, e, q⟩
  unfold opList at e
  split at e
  · cases e
    obtain ⟨v, rfl, t1⟩ := t.one
    obtain ⟨a, vs, rfl, n, al⟩ := t1.list
    exact call_list_of pins s σ H _ us Q I r ⟨a, vs, rfl, .inl (.inl n), fun p hp => q _ _ (New.lst hp al)⟩
  · cases e
    obtain ⟨v, rfl, t1⟩ := t.one
    obtain ⟨a, vs, rfl, n, al⟩ := t1.tuple
    exact call_list_of pins s σ H _ us Q I r ⟨a, vs, rfl, .inr n.sq, fun p hp => q _ _ (New.lst hp al)⟩
  · cases e
/-! ### all, any, sum, min, max of lists -/
def boolsD : List PyData → Option (List Bool)
  | [] => some []
  | .bool b :: r => (boolsD r).map (b :: ·)
  | _ => none
def intsD : List PyData → Option (List Int)
  | [] => some []
  | .int b :: r => (intsD r).map (b :: ·)
  | _ => none
theorem bools_eq : ∀ {ds : List PyData} {bs : List Bool}, boolsD ds = some bs → ds = bs.map .bool
  | [], bs, h => by cases h; rfl
  | d :: ds, bs, h => by
    unfold boolsD at h
    split at h
    · rename_i e; cases e
    · rename_i b r e
      cases e
      cases hb : boolsD ds with
      | none => rw [hb] at h; cases h
      | some cs => rw [hb] at h; cases h; rw [bools_eq hb]; rfl
    · cases h
theorem ints_eq : ∀ {ds : List PyData} {bs : List Int}, intsD ds = some bs → ds = bs.map .int
  | [], bs, h => by cases h; rfl
  | d :: ds, bs, h => by
    unfold intsD at h
    split at h
    · rename_i e; cases e
    · rename_i b r e
      cases e
      cases hb : intsD ds with
      | none => rw [hb] at h; cases h
      | some cs => rw [hb] at h; cases h; rw [ints_eq hb]; rfl
    · cases h
theorem RpAll.boolsD : ∀ {bs : List Bool} {vs : List V}, RpAll K M H vs (bs.map .bool) → vs = bs.map .bl
  | [], _, h => by cases h; rfl
  | b :: bs, _, h => by
    cases h with
    | cons r a => cases r; rw [RpAll.boolsD a]; rfl
theorem RpAll.intsD : ∀ {bs : List Int} {vs : List V}, RpAll K M H vs (bs.map .int) → vs = bs.map .int
  | [], _, h => by cases h; rfl
  | b :: bs, _, h => by
    cases h with
    | cons r a => cases r; rw [RpAll.intsD a]; rfl
def opAll : List PyData → Option SV
  | [.list xs] => (boolsD xs).map fun bs => .d (.bool (bs.all id))
  | _ => none
def opAny : List PyData → Option SV
  | [.list xs] => (boolsD xs).map fun bs => .d (.bool (bs.any id))
  | _ => none
def opSum : List PyData → Option SV
  | [.list xs] => (intsD xs).map fun bs => .d (.int bs.sum)
  | _ => none
theorem z_all (hc : X.calm = true) : CallR X (.builtin "all") (rcall X.K opAll) := by
  intro pins s σ H xs us Q I r ⟨M, ds, sv, dm, t, e, q⟩
  unfold opAll at e
  split at e
  · rename_i ys
    cases hb : boolsD ys with
    | none => rw [hb] at e; cases e
    | some bs =>
      rw [hb] at e
      cases e
      obtain ⟨v, rfl, t1⟩ := t.one
      obtain ⟨a, vs, rfl, n, al⟩ := t1.list
      rw [bools_eq hb] at al
      rw [al.boolsD] at n
      exact cr_all hc pins s σ H _ us Q I r ⟨a, bs, rfl, .inl n, q _ H (New.same (.bl _))⟩
  · cases e
theorem z_any (hc : X.calm = true) : CallR X (.builtin "any") (rcall X.K opAny) := by
  intro pins s σ H xs us Q I r ⟨M, ds, sv, dm, t, e, q⟩
  unfold opAny at e
  split at e
  · rename_i ys
    cases hb : boolsD ys with
    | none => rw [hb] at e; cases e
    | some bs =>
      rw [hb] at e
      cases e
      obtain ⟨v, rfl, t1⟩ := t.one
      obtain ⟨a, vs, rfl, n, al⟩ := t1.list
      rw [bools_eq hb] at al
      rw [al.boolsD] at n
      exact cr_any hc pins s σ H _ us Q I r ⟨a, bs, rfl, .inl n, q _ H (New.same (.bl _))⟩
  · cases e
theorem z_sum (hc : X.calm = true) : CallR X (.builtin "sum") (rcall X.K opSum) := by
  intro pins s σ H xs us Q I r ⟨M, ds, sv, dm, t, e, q⟩
  unfold opSum at e
  split at e
  · rename_i ys
    cases hb : intsD ys with
    | none => rw [hb] at e; cases e
    | some bs =>
      rw [hb] at e
      cases e
      obtain ⟨v, rfl, t1⟩ := t.one
      obtain ⟨a, vs, rfl, n, al⟩ := t1.list
      rw [ints_eq hb] at al
      rw [al.intsD] at n
      exact cr_sum hc pins s σ H _ us Q I r ⟨a, bs, rfl, .inl n, q _ H (New.same (.int _))⟩
  · cases e
/-! ### sorted -/
/-- data that may be put in order -/
def sortOk (ds : List PyData) : Bool := ds.all (fun d => SeqAt.shaped d && ds.all fun e => PySem.W.alike d e) && ((ds.all fun d => match d with | .tuple (_ :: _) => true | _ => false) || ds.all fun d => match d with | .none => false | .tuple _ => false | _ => true)
def inOrder (ds : List PyData) : List PyData := ds.mergeSort (PySem.W.dataLe false id)
def opSorted : List PyData → Option SV
  | [.list xs] => if sortOk xs = true then some (.o (.lst (inOrder xs))) else none
  | _ => none
theorem sortOk_iff {ds : List PyData} (h : sortOk ds = true) : (∀ d ∈ ds, SeqAt.shaped d = true) ∧ PySem.W.AllAlike (ds.map id) ∧ PySem.W.Sortable (ds.map id) := by
  unfold sortOk at h
  rw [Bool.and_eq_true, Bool.or_eq_true] at h
  obtain ⟨h, h2⟩ := h
  have h := fun d hd => (Bool.and_eq_true _ _).mp (List.all_eq_true.mp h d hd)
  rw [List.map_id]
  refine ⟨fun d hd => (h d hd).1, fun d hd e he => List.all_eq_true.mp (h d hd).2 e he, ?_⟩
  rcases h2 with h2 | h2
  · refine .inl fun d hd => ?_
    have := List.all_eq_true.mp h2 d hd
    split at this
    · exact ⟨_, _, rfl⟩
    · cases this
  · refine .inr fun d hd => ?_
    have := List.all_eq_true.mp h2 d hd
    split at this
    · cases this
    · cases this
    · rename_i n1 n2; exact ⟨n1, n2⟩
/-- a value that stands for data -/
def RV (K : PySem.W.Frag) (M : List Addr) (H : Hp) (u : Value) (d : PyData) : Prop := ∃ v, RelV v u ∧ Rp K M H v d
theorem eachRV : ∀ {vs : List V} {us : List Value} {ds : List PyData}, Vals vs us → RpAll K M H vs ds → PySem.W.EachIs (RV K M H) us ds
  | _, _, _, .nil, .nil => .nil
  | _, _, _, .cons r rs, .cons a as => .cons ⟨_, r, a⟩ (eachRV rs as)
theorem valsRV : ∀ {us : List Value} {ds : List PyData}, PySem.W.EachIs (RV K M H) us ds → ∃ vs, Vals vs us ∧ RpAll K M H vs ds
  | _, _, .nil => ⟨[], .nil, .nil⟩
  | _, _, .cons ⟨v, r, a⟩ es => by
    obtain ⟨vs, rs, as⟩ := valsRV es
    exact ⟨v :: vs, .cons r rs, .cons a as⟩
theorem eachReads {K : PySem.W.Frag} {us : List Value} {ds : List PyData} (I : Inv X pins σ H s) (hs : ∀ d ∈ ds, SeqAt.shaped d = true) (e : PySem.W.EachIs (RV X.K M H) us ds) : PySem.W.EachIs (fun v d => ∃ as, Reads s.heap v (id d) as) us ds := by
  induction e with
  | nil => exact .nil
  | @cons u d us ds r es ih =>
    obtain ⟨v, r, a⟩ := r
    exact .cons (Dp.reads I d v u (a.dp (SeqAt.canLay_of_shaped (hs d (List.mem_cons_self ..)))) r) (ih fun d hd => hs d (List.mem_cons_of_mem _ hd))
theorem z_sorted (hu : X.A.units + 67 < cLine) : CallR X (.builtin "sorted") (rcall X.K opSorted) := by
  intro pins s σ H xs us Q I r ⟨M, ds, sv, dm, t, e, q⟩
  unfold opSorted at e
  split at e
  · rename_i ys
    by_cases hk : sortOk ys = true
    · rw [if_pos hk] at e
      cases e
      obtain ⟨v, rfl, t1⟩ := t.one
      obtain ⟨a, vs, rfl, n, al⟩ := t1.list
      obtain ⟨h1, h2, h3⟩ := sortOk_iff hk
      obtain ⟨its, rv, hl, hz⟩ := I.list (.inl n)
      obtain ⟨u, rfl, ru⟩ := vals1 r
      obtain rfl : u = Value.ref a := ru
      have es := eachRV rv al
      refine PySem.W.sorted_data (R := RV X.K M H) (enc := id) hl.isList es (eachReads (K := X.K) I h1 es) h2 h3 (by rw [← al.length]; exact hz) (fun b hb => ?_) fun out hlen eo => ?_
      · have := SeqAt.depth_of_shaped (h1 b hb)
        show X.A.units + 2 + b.depth < cLine
        omega
      · obtain ⟨ws, rw', aw⟩ := valsRV eo
        obtain ⟨n', ea⟩ := sortedAll_at s.heap its out.toArray
        have fresh : H (s.heap.objs.size + 1) = none := I.hok.fresh (Nat.le_succ _)
        have hlw : ws.length ≤ sizeLine := by
          rw [rw'.length, hlen, ← al.length]
          exact hz
        refine ⟨.ref _, upd H (s.heap.objs.size + 1) (.lst ws), I.laid (t' := s.toks) (fun b u e => sortedAll_old e) (Nat.le_succ _) ⟨hlw, out, n', rw', ?_⟩, rfl, q _ _ (New.lst fresh aw)⟩
        exact ea
    · rw [if_neg hk] at e; cases e
  · cases e
/-! ### isinstance -/
def tyN : PyData → String
  | .none => "NoneType"
  | .bool _ => "bool"
  | .int _ => "int"
  | .str _ => "str"
  | .list _ => "list"
  | .tuple _ => "tuple"
  | .dict _ => "dict"
def isaN (T a : String) : Bool := a == T || (a == "bool" && T == "int")
def isa (T : String) (d : PyData) : Bool := isaN T (tyN d)
def tyNs : List String := ["bool", "int", "str", "list", "tuple", "dict"]
theorem kit_names : ∀ a ∈ ["NoneType", "bool", "int", "str", "list", "tuple", "dict"], ∀ T ∈ tyNs, kitB a T = some (isaN T a) := by decide +kernel
theorem kit_isa {T : String} (h : tyNs.contains T = true) (d : PyData) : PySem.W.kitOne K (.type (tyN d)) (.type T) = some (isa T d) :=
  kit_ty (kit_names (tyN d) (by cases d <;> simp [tyN]) T (by simpa using h))
def isaAny (Ts : List String) (d : PyData) : Bool := Ts.any fun T => isa T d
theorem kit_any {d : PyData} : ∀ {Ts : List String}, Ts.all (fun T => tyNs.contains T) = true → PySem.W.kitAny K (.type (tyN d)) (Ts.map .type) = some (isaAny Ts d)
  | [], _ => rfl
  | T :: Ts, h => by
    rw [List.all_cons, Bool.and_eq_true] at h
    refine kitAny_cons (kit_isa h.1 d) (fun e => ?_) fun e => ?_
    · rw [kit_any h.2]
      unfold isaAny
      rw [List.any_cons, e, Bool.false_or]
    · unfold isaAny
      rw [List.any_cons, e, Bool.true_or]
def oddD : PyData → Bool
  | .dict kvs => odd kvs
  | _ => false
theorem Top.kit {K : PySem.W.Frag} {X : Cx} {pins : List (Addr × Obj)} {σ : L2.St} {s : Shared} {v : V} {u : Value} {d : PyData} (hK : K = X.K) (I : Inv X pins σ H s) (r : RelV v u) (t : Top K M H v d) (ho : oddD d = false) :
    ∃ P : Heap → Prop, PySem.W.KitX X.K u (.type (tyN d)) P ∧ P s.heap ∧ u ≠ .builtin "__main__.__loader__#opaque" := by
  subst hK
  have rd : ∀ {a : Addr} {xs : List V}, Rd H a (.lst xs) → TyX X.K H (.ref a) (.type "list") := fun n => by
    rcases n with e | ⟨o, e⟩
    · exact .base (.lst e)
    · exact .base (.frz e)
  cases t with
  | rp q =>
    cases q with
    | non => exact kit_of I r (.base .non)
    | bl b => exact kit_of I r (.base (.bl b))
    | int i => exact kit_of I r (.base (.int i))
    | str x => exact kit_of I r (.base (.str x))
    | lst n a => exact kit_of I r (rd n.1)
    | tup n a =>
      rcases n with ⟨e, _⟩ | ⟨o, e, _⟩ | ⟨o, its, n, e, c, _⟩
      · exact kit_of I r (.base (.tup e))
      · exact kit_of I r (.fTuple e)
      · exact kit_of I r (.kTuple e c)
    | dk n a b =>
      rcases n with e | ⟨o, e⟩
      · exact kit_of I r (.base (.dK e))
      · exact kit_of I r (.fDict e)
    | @dt a kvs ds n x b =>
      cases r
      obtain ⟨_, _, xs, _, dd⟩ := dt_rd I.hok n
      obtain ⟨o, h1, h2⟩ := dd.typeIs
      exact ⟨_, PySem.W.kitx_dict, ⟨o, h1, h2⟩, fun z => nomatch z⟩
    | op a => cases ho
    | any a => cases ho
    | scr _ _ => cases ho
    | exc _ _ _ _ => cases ho
  | @ob a b o =>
    cases b with
    | lst es => obtain ⟨xs, e, _⟩ := o; exact kit_of I r (.base (.lst e))
    | dk es => obtain ⟨xs, e, _⟩ := o; exact kit_of I r (.base (.dK e))
    | dt es => obtain ⟨xs, e, _⟩ := o; exact kit_of I r (.base (.dT e))
    | tb p q => cases ho
end
end Z

set_option maxRecDepth 100000
set_option maxHeartbeats 4000000
namespace Z
open PySem PySem.Spec PyProof.Rows L2
section
variable {X : Cx} {W : WX} {K : PySem.W.Frag} {M : List Addr} {H : Hp} {pins : List (Addr × Obj)} {σ : L2.St} {s : Shared}
def eIsi (Ts : List String) (f : SPl) : SE := fun s => (f s).bind fun p s => retn ((ld s p).bind fun d => if oddD d = true then none else some (.d (.bool (isaAny Ts d)))) s
/-- what isinstance is asked with one class -/
def rIsa1 (K : PySem.W.Frag) (T : String) : List V → Hp → VK → Prop := fun xs H Q => ∃ M v d, xs = [v, .ty T] ∧ Top K M H v d ∧ oddD d = false ∧ Q (.bl (isaAny [T] d)) H
def rIsaN (K : PySem.W.Frag) (Ts : List String) : List V → Hp → VK → Prop := fun xs H Q => ∃ M v d tp, xs = [v, .ref tp] ∧ H tp = some (.tup (Ts.map .ty)) ∧ Top K M H v d ∧ oddD d = false ∧ Q (.bl (isaAny Ts d)) H
theorem cr_isa1 {T : String} (hT : tyNs.contains T = true) : CallR X (.builtin "isinstance") (rIsa1 X.K T) := by
  intro pins s σ H xs us Q I r ⟨M, v, d, ex, t, no, q⟩
  subst ex
  obtain ⟨u1, u2, rfl, r1, r2⟩ := vals2 r
  cases (show u2 = Value.type T from r2)
  obtain ⟨P, Z, p, hx⟩ := t.kit rfl I r1 no
  have e := kit_isa (K := X.K) hT d
  refine PySem.W.kia_one Z I.kIn p e hx fun tk => ⟨.bl _, H, I.tok tk, rfl, ?_⟩
  have : isaAny [T] d = isa T d := by unfold isaAny; simp
  rw [← this]
  exact q
theorem vals_tys : ∀ {Ts : List String} {us : List Value}, Vals (Ts.map V.ty) us → us = Ts.map .type
  | [], _, r => by cases r; rfl
  | T :: Ts, _, r => by
    cases r with
    | cons r rs =>
      rw [vals_tys rs]
      cases (show _ = Value.type T from r)
      rfl
theorem cr_isaN {Ts : List String} (hT : Ts.all (fun T => tyNs.contains T) = true) : CallR X (.builtin "isinstance") (rIsaN X.K Ts) := by
  intro pins s σ H xs us Q I r ⟨M, v, d, tp, ex, hT', t, no, q⟩
  subst ex
  obtain ⟨u1, u2, rfl, r1, r2⟩ := vals2 r
  cases (show u2 = Value.ref tp from r2)
  obtain ⟨P, Z, p, hx⟩ := t.kit rfl I r1 no
  have e := kit_any (K := X.K) (d := d) hT
  obtain ⟨_, its, rv, o, h1, h2, n, h3⟩ := (show ObjOk X.prog X.w H s.heap tp (.tup (Ts.map .ty)) from I.hok tp _ hT')
  have e3 := vals_tys rv
  subst e3
  obtain ⟨oc, od, dt, sl⟩ := o
  simp only at h2 h3
  subst h2 h3
  exact PySem.W.kia_tup Z I.kIn p h1 e hx fun tk => ⟨.bl _, H, I.tok tk, rfl, q⟩
theorem coreIsa {mg : Str → Option Value} {Ts : List String} {f : SPl} {Q : VK} {H : Hp} (h : tzE K mg W (eIsi Ts f) σ H Q) : tzP K mg W f σ H fun v H1 => ∃ M d, Dom M H1 ∧ Top K M H1 v d ∧ oddD d = false ∧ ∀ H', (∀ a o, H1 a = some o → H' a = some o) → (∃ M d', Top K M H' v d' ∧ d' = d) ∧ Q (.bl (isaAny Ts d)) H' := by
  obtain ⟨ρ, E, st, R, q⟩ := h
  refine ⟨ρ, E, st, R, ?_⟩
  unfold eIsi at q
  cases e : f st with
  | no => rw [e] at q; exact q
  | ex x s => rw [e] at q; exact q
  | ok p s =>
    rw [e, Res.bind_ok] at q
    intro x ρ1 E1 H1 P1 r1
    cases l1 : ld s p with
    | none => rw [l1] at q; exact q.elim
    | some d =>
      simp only [l1, Option.bind_some] at q
      by_cases ho : oddD d = true
      · rw [if_pos ho] at q; exact q.elim
      rw [if_neg ho] at q
      refine ⟨_, d, P1.rel.dom, r1.top P1.rel l1, by simpa using ho, fun H' g => ⟨⟨avd ρ1 E1 s σ, d, ?_, rfl⟩, ?_⟩⟩
      · exact r1.later P1.rel ⟨P1.rel.grow g, List.prefix_refl _, fun a o _ e => g a o e, fun a h => .inl h⟩ Come.refl l1
      · exact Go.new q P1 r1.come ⟨g, .bl _⟩
theorem ze_isi1 {a : Expr} {T : String} {x : Str} {f : SPl} {p q pos : Pos} (h : ZP X W a f) (hg : Gl X "isinstance") (hm : X.mg "isinstance" = none) (hgT : Gl X x) (hmT : X.mg x = none) (hvT : bootBuiltins x = some (.type T)) (hT : tyNs.contains T = true := by rfl) (hx : x ≠ "__name__" := by decide) (hxd : (x == ("__debug__" : Str)) = false := by decide)
    (h1 : starEach [a, .Name x q] X.env = (false, eval a X.env) :: starEach [.Name x q] X.env := by rfl) (h2 : starEach [.Name x q] X.env = (false, eval (.Name x q) X.env) :: starEach [] X.env := by rfl) (hpl : (backTo pos (starEach [.Name x q] X.env)).any (·.1) = false := by rfl) :
    ZE X W (.Call (.Name "isinstance" p) [a, .Name x q] [] pos) (eIsi [T] f) := by
  refine PE.mono (pe_callB (cr_isa1 hT) hg hm PyProof.Rows.boot_isinstance (pa_cons h (pa_cons (pe_bltn hgT hmT hvT (v := .ty T) rfl hx hxd) pa_nil h2) h1) (by decide) (by decide) h1 hpl) fun σ H Q hq => ?_
  refine tzE.mono (coreIsa hq) fun v H1 ⟨M, d, _, t, no, q⟩ => ?_
  exact ⟨M, v, d, rfl, t, no, (q H1 fun _ _ e => e).2⟩
theorem tTys {X : Cx} {Ts : List String} {H : Hp} {Q : List V → Hp → Prop} {t : TA} (ht : t = (Ts.foldr (fun T t => tCons (tC (.ty T)) t) tNil)) (q : Q (Ts.map .ty) H) : t σ H Q := by
  subst ht
  induction Ts generalizing Q with
  | nil => exact q
  | cons T Ts ih => exact ih (Q := fun xs H1 => Q (.ty T :: xs) H1) q
theorem ze_isiN {a : Expr} {Ts : List String} {es : List Expr} {f : SPl} {k : Nat} {p tp pos : Pos} (h : ZP X W a f) (hg : Gl X "isinstance") (hm : X.mg "isinstance" = none) (hts : PA X es (Ts.foldr (fun T t => tCons (tC (.ty T)) t) tNil)) (hT : Ts.all (fun T => tyNs.contains T) = true := by rfl) (hl : fits Ts.length = true := by rfl)
    (h1 : starEach [a, .Tuple es k tp] X.env = (false, eval a X.env) :: starEach [.Tuple es k tp] X.env := by rfl) (h2 : starEach [.Tuple es k tp] X.env = (false, eval (.Tuple es k tp) X.env) :: starEach [] X.env := by rfl) (hpl : (backTo pos (starEach [.Tuple es k tp] X.env)).any (·.1) = false := by rfl) :
    ZE X W (.Call (.Name "isinstance" p) [a, .Tuple es k tp] [] pos) (eIsi Ts f) := by
  refine PE.mono (pe_callB (cr_isaN hT) hg hm PyProof.Rows.boot_isinstance (pa_cons h (pa_cons (pe_tup hts) pa_nil h2) h1) (by decide) (by decide) h1 hpl) fun σ H Q hq => ?_
  refine tzE.mono (coreIsa hq) fun v H1 ⟨M, d, dm, t, no, q⟩ => ?_
  show List.foldr (fun T t => tCons (tC (V.ty T)) t) tNil Ts σ H1 _
  refine tTys (X := X) (Ts := Ts) rfl ⟨by rw [List.length_map]; exact of_decide_eq_true hl, fun p hp => ?_⟩
  obtain ⟨⟨M', d', t', e'⟩, q'⟩ := q _ (upd_grow hp)
  subst e'
  exact ⟨M', v, d', p, rfl, upd_same, t', no, q'⟩
end
end Z

set_option maxRecDepth 100000
set_option maxHeartbeats 4000000
namespace Z
open PySem PySem.Spec PyProof.Rows L2
section
variable {X : Cx} {W : WX} {K : PySem.W.Frag} {M : List Addr} {H : Hp} {pins : List (Addr × Obj)} {σ : L2.St} {s : Shared}
/-! ### lists that are changed -/
theorem keepM {H : Hp} {a : Addr} {o : HO} (ha : a ∈ M) : ∀ c u, c ∉ M → H c = some u → upd H a o c = some u := fun c u hc e => by
  rw [upd_ne (fun z => by subst z; exact hc ha)]; exact e
theorem Chg.lst {a : Addr} {ys : List V} {ds : List PyData} (ha : a ∈ M) (al : RpAll K M H ys ds) : Chg K M H (upd H a (.lst ys)) a (.lst ds) :=
  ⟨fun c o hc e => by rw [upd_ne hc]; exact e, ys, upd_same, al.frame (keepM ha) fun _ h => .inl h⟩
theorem Rp.keep {a : Addr} {o : HO} {v : V} {d : PyData} (ha : a ∈ M) (r : Rp K M H v d) : Rp K M (upd H a o) v d := r.frame (keepM ha) fun _ h => .inl h
theorem RpAll.one {vs : List V} {d : PyData} (a : RpAll K M H vs [d]) : ∃ v, vs = [v] ∧ Rp K M H v d := by
  cases a with
  | cons r a => cases a; exact ⟨_, rfl, r⟩
theorem RpAll.two {vs : List V} {d e : PyData} (a : RpAll K M H vs [d, e]) : ∃ v w, vs = [v, w] ∧ Rp K M H v d ∧ Rp K M H w e := by
  cases a with
  | cons r a =>
    obtain ⟨w, rfl, r2⟩ := a.one
    exact ⟨_, w, rfl, r, r2⟩
def muAppend : PO → List PyData → Option (PyData × PO)
  | .lst xs, [d] => if fits (xs.length + 1) = true then some (.none, .lst (xs ++ [d])) else none
  | _, _ => none
theorem m_append : MtR X "list.append" (rmut X.K muAppend) := by
  intro pins s σ H x vs v us Q I rx rv ⟨M, a, b, ds, v', b', ex, dm, ha, ob, al, e, q⟩
  subst ex
  unfold muAppend at e
  split at e
  · rename_i xs d
    by_cases hf : fits (xs.length + 1) = true
    · rw [if_pos hf] at e
      cases e
      obtain ⟨ys, e1, ay⟩ := ob
      obtain ⟨w, rfl, rw'⟩ := al.one
      exact mt_append pins s σ H _ _ v us Q I rx rv ⟨a, ys, w, rfl, rfl, e1, by rw [ay.length]; exact of_decide_eq_true hf, q _ _ (Chg.lst ha (ay.append (.cons rw' .nil))) .non⟩
    · rw [if_neg hf] at e; cases e
  · cases e
def muPop : PO → List PyData → Option (PyData × PO)
  | .lst xs, [] => (xs[xs.length - 1]?).map fun d => (d, .lst xs.dropLast)
  | _, _ => none
theorem m_pop : MtR X "list.pop" (rmut X.K muPop) := by
  intro pins s σ H x vs v us Q I rx rv ⟨M, a, b, ds, v', b', ex, dm, ha, ob, al, e, q⟩
  subst ex
  unfold muPop at e
  split at e
  · rename_i xs
    cases hx : xs[xs.length - 1]? with
    | none => rw [hx] at e; cases e
    | some d =>
      rw [hx] at e
      cases e
      obtain ⟨ys, e1, ay⟩ := ob
      cases al
      rw [← ay.length] at hx
      obtain ⟨w, ew, rw'⟩ := ay.get hx
      exact mt_pop pins s σ H _ _ v us Q I rx rv ⟨a, ys, w, rfl, rfl, e1, ew, q _ _ (Chg.lst ha ay.dropLast) (rw'.keep ha)⟩
  · cases e
def muInsert : PO → List PyData → Option (PyData × PO)
  | .lst xs, [.int i, d] => if (fits (xs.length + 1) && decide (0 ≤ i) && small63 i) = true then some (.none, .lst (xs.take i.toNat ++ [d] ++ xs.drop i.toNat)) else none
  | _, _ => none
theorem m_insert : MtR X "list.insert" (rmut X.K muInsert) := by
  intro pins s σ H x vs v us Q I rx rv ⟨M, a, b, ds, v', b', ex, dm, ha, ob, al, e, q⟩
  subst ex
  unfold muInsert at e
  split at e
  · rename_i xs i d
    split at e
    · rename_i h
      simp only [Bool.and_eq_true, decide_eq_true_eq] at h
      obtain ⟨⟨h1, h2⟩, h3⟩ := h
      have h3 := (small63_iff h3).2
      cases e
      obtain ⟨ys, e1, ay⟩ := ob
      obtain ⟨w, w2, rfl, rw1, rw2⟩ := al.two
      cases rw1
      exact mt_insert pins s σ H _ _ v us Q I rx rv ⟨a, ys, i, w2, rfl, rfl, e1, by rw [ay.length]; exact of_decide_eq_true h1, h2, h3, q _ _ (Chg.lst ha (((ay.take _).append (.cons rw2 .nil)).append (ay.drop _))) .non⟩
    · cases e
  · cases e
def muExtend : PO → List PyData → Option (PyData × PO)
  | .lst xs, [.list ys] => if fits (xs.length + ys.length) = true then some (.none, .lst (xs ++ ys)) else none
  | _, _ => none
theorem m_extend : MtR X "list.extend" (rmutR X.K muExtend) := by
  intro pins s σ H x vs v us Q I rx rv ⟨M, a, b, ds, v', b', ex, dm, ha, ob, al, e, q⟩
  subst ex
  unfold muExtend at e
  split at e
  · rename_i xs zs
    by_cases hf : fits (xs.length + zs.length) = true
    · rw [if_pos hf] at e
      cases e
      obtain ⟨ys, e1, ay⟩ := ob
      obtain ⟨w, rfl, t⟩ := al.one
      obtain ⟨c, ws, rfl, n, aw⟩ := t.list
      cases rx
      obtain ⟨u, rfl, ru⟩ := rv.one
      cases ru
      have hf := of_decide_eq_true hf
      obtain ⟨_, its, n1, r1, l1, h1⟩ := I.lstM e1
      obtain ⟨_, its2, n2, r2, l2, h2⟩ := Inv.lstR I n
      have hs : its.toArray.size + its2.toArray.size ≤ sizeLine := by
        simp only [List.size_toArray, ← l1, ← l2, ay.length, aw.length]
        exact hf
      refine call_meets F.slot_list_extend ⟨_, h1, rfl⟩ F.entry_list_extend (F.args_list_extend_2 _ _) (AutoSeq1.list_extend_list_list_0 a its.toArray n1 c its2.toArray n2 (by rw [notLongL hs, Bool.and_false]; exact fun z => by cases z) (by simp only [List.size_toArray] at hs ⊢; omega) (by omega)) ⟨h1, h2, ?_⟩
      exact ⟨.non, _, I.lset (its' := its ++ its2) e1 h1 (by simp) (r1.append r2) (by rw [List.length_append, ay.length, aw.length]; exact hf), rfl, q _ _ (Chg.lst ha (ay.append aw)) .non⟩
    · rw [if_neg hf] at e; cases e
  · cases e
/-- xs[i] = v -/
def stL : PO → PyData → PyData → Option PO
  | .lst xs, .int i, d => (ixN xs.length i).map fun j => .lst (xs.set j d)
  | _, _, _ => none
theorem m_setL : PSet X (rset X.K stL) := by
  intro pins s σ H o i v ov iv u Q I ro ri rv ⟨M, a, b, di, dv, b', eo, dm, ha, ob, ti, tv, e, q⟩
  subst eo
  unfold stL at e
  split at e
  · rename_i xs k
    cases h : ixN xs.length k with
    | none => rw [h] at e; cases e
    | some j =>
      rw [h] at e
      cases e
      obtain ⟨ys, e1, ay⟩ := ob
      rw [ti.int] at ri
      rw [← ay.length] at h
      exact set_list pins s σ H _ _ v ov iv u Q I ro ri rv ⟨a, ys, k, j, rfl, rfl, e1, h, q _ (Chg.lst ha (ay.set tv j))⟩
  · cases e
/-- xs[i] read, as it stands -/
def gtL : PyData → PyData → Option SV
  | .list xs, .int i => (atI xs i).map .d
  | _, _ => none
theorem m_getL : PGet X (rop X.K gtL) := by
  intro pins s σ H o i ov iv Q I ro ri ⟨M, dx, dy, sv, dm, tx, ty, e, q⟩
  unfold gtL at e
  split at e
  · rename_i xs k
    cases h : atI xs k with
    | none => rw [h] at e; cases e
    | some d =>
      rw [h] at e
      cases e
      obtain ⟨a, vs, rfl, n, al⟩ := tx.list
      obtain ⟨w, ew, r⟩ := al.atI h
      rw [ty.int] at ri
      obtain ⟨t, rfl⟩ := ri
      cases ro
      obtain ⟨z, its, n1, r1, l1, h1⟩ := Inv.lstR I n
      obtain ⟨j, a1, a2, a3, a4, a5⟩ := atI_get ew
      obtain ⟨u, eu, ru⟩ := r1.get a2
      have hs := line63
      have il : s.heap.IsList a its.toArray := ⟨_, h1, rfl, n1, rfl⟩
      have fin : EP X pins σ Q u s := ⟨w, H, I, ru, q w H (New.same r)⟩
      by_cases h0 : 0 ≤ k
      · rw [seqIndex_of h0 a5] at a1
        cases a1
        exact wpAny_getItem_list il h0 (by omega) (by simpa using eu) fin
      · rw [seqIndex_neg (by omega) a4] at a1
        have a1 := Option.some.inj a1
        exact wpAny_getItem_list_neg il (by omega) (by rw [List.size_toArray]; omega) (by omega) (by rw [List.size_toArray, ← l1, a1]; simpa using eu) fin
  · cases e
end
end Z

set_option maxRecDepth 100000
set_option maxHeartbeats 4000000
namespace Z
open PySem PySem.Spec PyProof.Rows L2
/-! ### dicts by their entries -/
section
variable {κ : Type} [DecidableEq κ]
def putD (kds : List (κ × PyData)) (k : κ) (v : PyData) : List (κ × PyData) :=
  if (kds.any fun p => decide (p.1 = k)) = true then kds.map (fun p => if p.1 = k then (p.1, v) else p) else kds ++ [(k, v)]
def mergeD (kds more : List (κ × PyData)) : List (κ × PyData) := more.foldl (fun acc p => putD acc p.1 p.2) kds
variable {K : PySem.W.Frag} {M : List Addr} {H : Hp}
/-- entries that go together -/
def KD (K : PySem.W.Frag) (M : List Addr) (H : Hp) (kvs : List (κ × V)) (kds : List (κ × PyData)) : Prop := kvs.map (·.1) = kds.map (·.1) ∧ RpAll K M H (kvs.map (·.2)) (kds.map (·.2))
theorem KD.nil : KD K M H ([] : List (κ × V)) [] := ⟨rfl, .nil⟩
theorem KD.cons {p : κ × V} {q : κ × PyData} {kvs : List (κ × V)} {kds : List (κ × PyData)} (e : p.1 = q.1) (r : Rp K M H p.2 q.2) (h : KD K M H kvs kds) : KD K M H (p :: kvs) (q :: kds) :=
  ⟨by rw [List.map_cons, List.map_cons, e, h.1], .cons r h.2⟩
theorem KD.inv {p : κ × V} {kvs : List (κ × V)} {kds : List (κ × PyData)} (h : KD K M H (p :: kvs) kds) : ∃ q kds', kds = q :: kds' ∧ p.1 = q.1 ∧ Rp K M H p.2 q.2 ∧ KD K M H kvs kds' := by
  cases kds with
  | nil => cases h.1
  | cons q kds =>
    have e := h.1
    rw [List.map_cons, List.map_cons, List.cons.injEq] at e
    cases h.2 with
    | cons r a => exact ⟨q, kds, rfl, e.1, r, e.2, a⟩
theorem KD.any {k : κ} : ∀ {kvs : List (κ × V)} {kds : List (κ × PyData)}, KD K M H kvs kds → (kvs.any fun p => decide (p.1 = k)) = kds.any fun p => decide (p.1 = k)
  | [], kds, h => by
    cases kds with
    | nil => rfl
    | cons q r => cases h.1
  | p :: kvs, kds, h => by
    obtain ⟨q, r, rfl, e, _, t⟩ := h.inv
    rw [List.any_cons, List.any_cons, e, KD.any t]
theorem KD.repl {k : κ} {v : V} {d : PyData} (rv : Rp K M H v d) : ∀ {kvs : List (κ × V)} {kds : List (κ × PyData)}, KD K M H kvs kds → KD K M H (kvs.map fun p => if p.1 = k then (p.1, v) else p) (kds.map fun p => if p.1 = k then (p.1, d) else p)
  | [], kds, h => by
    cases kds with
    | nil => exact .nil
    | cons q r => cases h.1
  | p :: kvs, kds, h => by
    obtain ⟨q, r, rfl, e, rr, t⟩ := h.inv
    rw [List.map_cons, List.map_cons]
    refine .cons ?_ ?_ (KD.repl rv t)
    · by_cases h : p.1 = k
      · rw [if_pos h, if_pos (e ▸ h)]; exact e
      · rw [if_neg h, if_neg (e ▸ h)]; exact e
    · by_cases h : p.1 = k
      · rw [if_pos h, if_pos (e ▸ h)]; exact rv
      · rw [if_neg h, if_neg (e ▸ h)]; exact rr
theorem KD.append {kvs kvs' : List (κ × V)} {kds kds' : List (κ × PyData)} (h : KD K M H kvs kds) (h' : KD K M H kvs' kds') : KD K M H (kvs ++ kvs') (kds ++ kds') :=
  ⟨by rw [List.map_append, List.map_append, h.1, h'.1], by rw [List.map_append, List.map_append]; exact h.2.append h'.2⟩
theorem KD.put {k : κ} {v : V} {d : PyData} (rv : Rp K M H v d) {kvs : List (κ × V)} {kds : List (κ × PyData)} (h : KD K M H kvs kds) : KD K M H (putK kvs k v) (putD kds k d) := by
  unfold putK putD
  rw [h.any]
  split
  · exact h.repl rv
  · exact h.append (.cons rfl rv .nil)
theorem KD.frame {H' : Hp} {M' : List Addr} {kvs : List (κ × V)} {kds : List (κ × PyData)} (h : KD K M H kvs kds) (f : ∀ a o, a ∉ M → H a = some o → H' a = some o) (m : ∀ a ∈ M', a ∈ M ∨ H a = none) : KD K M' H' kvs kds := ⟨h.1, h.2.frame f m⟩
end
theorem KD.merge {K : PySem.W.Frag} {M : List Addr} {H : Hp} : ∀ {more : List (Key × V)} {mds : List (Key × PyData)} {kvs : List (Key × V)} {kds : List (Key × PyData)}, KD K M H more mds → KD K M H kvs kds → KD K M H (mergeK kvs more) (mergeD kds mds)
  | [], mds, _, _, h, g => by
    cases mds with
    | nil => exact g
    | cons q r => cases h.1
  | p :: more, mds, _, _, h, g => by
    obtain ⟨q, r, rfl, e, rr, t⟩ := h.inv
    show KD K M H (mergeK (putK _ p.1 p.2) more) (mergeD (putD _ q.1 q.2) r)
    rw [e]
    exact KD.merge t (g.put rr)
section
variable {X : Cx} {W : WX} {K : PySem.W.Frag} {M : List Addr} {H : Hp} {pins : List (Addr × Obj)} {σ : L2.St} {s : Shared}
/-- pairs, by their keys -/
def kdOf : List PyData → Option (List (Key × PyData))
  | [] => some []
  | .tuple [k, v] :: r => (keyOf k).bind fun k => (kdOf r).map ((k, v) :: ·)
  | _ => none
theorem kd_pairs : ∀ {vs : List V} {ds : List PyData} {kds : List (Key × PyData)}, RpAll K M H vs ds → kdOf ds = some kds → ∃ (as : List Addr) (kvs : List (Key × V)), vs = as.map V.ref ∧ Paired (fun p kv => SqT K H p [kV kv.1, kv.2]) as kvs ∧ KD K M H kvs kds
  | _, _, kds, .nil, h => by
    cases h
    exact ⟨[], [], rfl, .nil, .nil⟩
  | _, _, kds, .cons (v := v) (vs := vs) (d := d) (ds := ds) r al, h => by
    unfold kdOf at h
    split at h
    · rename_i e; cases e
    · rename_i k x rest e
      cases e
      cases hk : keyOf k with
      | none => rw [hk] at h; cases h
      | some kk =>
        rw [hk] at h
        cases hr : kdOf ds with
        | none => rw [hr] at h; cases h
        | some kds' =>
          rw [hr] at h
          cases h
          obtain ⟨as, kvs, e1, e2, e3⟩ := kd_pairs al hr
          subst e1
          have := keyOf_eq hk
          subst this
          cases r with
          | @tup a ws _ n aw =>
            obtain ⟨w1, w2, rfl, r1, r2⟩ := aw.two
            have ew : w1 = kV kk := by
              cases kk with
              | inl i => cases r1; rfl
              | inr y => cases r1; rfl
            subst ew
            exact ⟨a :: as, (kk, w2) :: kvs, rfl, .cons n.sq e2, .cons rfl r2 e3⟩
    · cases h
def opDict : List PyData → Option SV
  | [.list ds] => (kdOf ds).map fun kds => .o (.dk (mergeD [] kds))
  | [.tuple ds] => if pairy ds = true then (kdOf ds).map fun kds => .o (.dk (mergeD [] kds)) else none
  | _ => none
theorem New.dk {p : Addr} {kvs : List (Key × V)} {kds : List (Key × PyData)} (hp : H p = none) (al : KD K M H kvs kds) : New K M H (upd H p (.dK kvs)) (.o (.dk kds)) (.ref p) :=
  ⟨upd_grow hp, p, rfl, hp, kvs, upd_same, (al.frame (fun a o _ e => upd_grow hp a o e) fun a h => (List.mem_cons.mp h).elim (fun e => .inr (by rw [e]; exact hp)) .inl)⟩
/-- dict(t), t a tuple of pairs -/
theorem dict_tup {l : Addr} {o : Obj} {its : Array Value} {n : Nat} {as : List Addr} {kvs : List (Key × V)} {Q : VK} (hc : X.calm = true) (I : Inv X pins σ H s) (ho : s.heap.get? l = some o) (c : o.cls = .type "tuple") (hd : o.dict = none) (hdat : o.data = .seq its n) (rv : Vals (as.map V.ref) its.toList) (hz : as.length ≤ sizeLine)
    (hp : Paired (fun p kv => SqT X.K H p [kV kv.1, kv.2]) as kvs) (q : ∀ p, H p = none → Q (.ref p) (upd H p (.dK (mergeK [] kvs)))) : wpAny (model X.prog X.w) X.A (call (.type "dict") [.ref l]) (EP X pins σ Q) X.xe s := by
  have ei := refs_at rv
  obtain ⟨prs, rel, hl, hpr⟩ := L2.pairs_of I hp
  have keysOf : ∀ (j : Nat) (q : Key × Value), prs[j]? = some q → ∃ (b : Addr) (u : Value), as[j]? = some b ∧ s.heap.IsTuple b #[u, q.2] ∧ keyIs q.1 u = true := fun j q e => hpr j q e
  have ch : ∃ ps : List (Value × Value), ps.length = as.length ∧ ∀ (j : Nat) (k v : Value), ps[j]? = some (k, v) → ∃ b kk, as[j]? = some b ∧ s.heap.IsTuple b #[k, v] ∧ prs[j]? = some (kk, v) ∧ keyIs kk k = true := by
    have : ∀ (m : Nat), m ≤ prs.length → ∃ ps : List (Value × Value), ps.length = m ∧ ∀ (j : Nat) (k v : Value), ps[j]? = some (k, v) → ∃ b kk, as[j]? = some b ∧ s.heap.IsTuple b #[k, v] ∧ prs[j]? = some (kk, v) ∧ keyIs kk k = true := by
      intro m
      induction m with
      | zero => intro _; exact ⟨[], rfl, fun j k v e => by simp at e⟩
      | succ m ih =>
        intro hm
        obtain ⟨ps, el, ep⟩ := ih (by omega)
        obtain ⟨b, u, e1, e2, e3⟩ := keysOf m prs[m] (List.getElem?_eq_getElem (by omega))
        refine ⟨ps ++ [(u, prs[m].2)], by simp [el], fun j k v e => ?_⟩
        by_cases hj : j < m
        · rw [List.getElem?_append_left (by omega)] at e
          exact ep j k v e
        · have : j = m := by
            rcases Nat.lt_or_ge j (ps.length + 1) with h | h
            · omega
            · rw [List.getElem?_eq_none (by simp; omega)] at e; cases e
          subst this
          have e : (ps ++ [(u, prs[j].2)])[j]? = some (k, v) := e
          rw [List.getElem?_append_right (by omega), show j - ps.length = 0 by omega] at e
          cases e
          exact ⟨b, prs[j].1, e1, e2, List.getElem?_eq_getElem (by omega), e3⟩
    obtain ⟨ps, el, ep⟩ := this prs.length (Nat.le_refl _)
    exact ⟨ps, by rw [el, hl], ep⟩
  obtain ⟨ps, el, ep⟩ := ch
  have P := PySem.PairArg.tuple (prog := X.prog) (w := X.w) l its (fun j => as.getD j 0) ps
  have hits : its.size = ps.length := by
    have := congrArg List.length ei
    simp only [Array.length_toList, List.length_map] at this
    omega
  refine PySem.call_dict_pairs (knd := mixKind X.prog X.w) (kvs := prs) P (I.ok.hd hc) ⟨⟨o, n, ho, c, hd, hdat⟩, hits, fun j k v e => ?_⟩ ⟨by omega, fun j k v e => ?_⟩ (by omega) fun h' tk hd' hk => ?_
  · obtain ⟨b, kk, e1, e2, _⟩ := ep j k v e
    have e3 : as.getD j 0 = b := by rw [List.getD_eq_getElem?_getD, e1]; rfl
    refine ⟨?_, ?_⟩
    · show its[j]? = some (Value.ref (as.getD j 0))
      rw [e3, ← Array.getElem?_toList, ei, List.getElem?_map, e1]; rfl
    · show PairAt s.heap (as.getD j 0) k v
      rw [e3]; exact .inl e2
  · obtain ⟨b, kk, _, _, e1, e2⟩ := ep j k v e
    exact ⟨kk, e1, e2⟩
  · have hm : (s.heap.objs.size == sysModules) = false := beq_eq_false_iff_ne.mpr (Nat.ne_of_gt I.big)
    have hlen : (mergeK [] kvs).length ≤ sizeLine := by
      refine Nat.le_trans (length_mergeK kvs []) ?_
      rw [List.length_nil, Nat.zero_add, rel.length, hl]
      exact hz
    exact ⟨.ref s.heap.objs.size, _, I.laid (t' := tk) (fun b o e => hk b o List.not_mem_nil e) (Nat.le_refl _) (show ObjOk X.prog X.w _ _ _ (.dK (mergeK [] kvs)) from ⟨hlen, hm, merged [] prs, KV.merge rel .nil, hd'⟩), rfl, q _ (I.hok.fresh (Nat.le_refl _))⟩
theorem z_dict (hc : X.calm = true) : CallR X (.type "dict") (rcall X.K opDict) := by
  intro pins s σ H xs us Q I r ⟨M, ds, sv, dm, t, e, q⟩
  unfold opDict at e
  split at e
  · rename_i ys
    cases hk : kdOf ys with
    | none => rw [hk] at e; cases e
    | some kds =>
      rw [hk] at e
      cases e
      obtain ⟨v, rfl, t1⟩ := t.one
      obtain ⟨a, vs, rfl, n, al⟩ := t1.list
      obtain ⟨as, kvs, rfl, hp, kd⟩ := kd_pairs al hk
      exact call_dictP hc pins s σ H _ us Q I r ⟨a, as, kvs, rfl, .inl n, hp, fun p h => q _ _ (New.dk h (KD.merge kd .nil))⟩
  · rename_i ys
    by_cases hy : pairy ys = true
    · rw [if_pos hy] at e
      cases hk : kdOf ys with
      | none => rw [hk] at e; cases e
      | some kds =>
        rw [hk] at e
        cases e
        obtain ⟨v, rfl, t1⟩ := t.one
        obtain ⟨a, vs, rfl, n, al⟩ := t1.tuple
        obtain ⟨as, kvs, rfl, hp, kd⟩ := kd_pairs al hk
        obtain ⟨u, rfl, rx⟩ := vals1 r
        cases rx
        rcases n with ⟨_, _, z⟩ | ⟨o, e, hd, _⟩ | ⟨o, its, m, e, c, hd, hdat, hz, rv⟩
        · rw [hy] at z; cases z
        · obtain ⟨ho, hz, its, rv, o', ho', c, m, hdat⟩ := (show ObjOk X.prog X.w H s.heap a (.frz o (.tup (as.map V.ref))) from I.hok a _ e)
          rw [ho] at ho'
          cases ho'
          rw [List.length_map] at hz
          exact dict_tup hc I ho c hd hdat rv hz hp fun p h => q _ _ (New.dk h (KD.merge kd .nil))
        · refine dict_tup hc I (I.kIn a o e) c hd hdat rv ?_ hp fun p h => q _ _ (New.dk h (KD.merge kd .nil))
          have := rv.length
          simp only [List.length_map, Array.length_toList] at this
          rw [this]
          exact hz
    · rw [if_neg hy] at e; cases e
  · cases e
/-! ### d.get(k), d.get(k, x) -/
def eGet (f g : SPl) : SE := fun s => (f s).bind fun p s => match ld s p with
  | some (.dict kvs0) => if odd kvs0 = true then .no else (g s).bind fun q s => match ld s p, ld s q with
    | some (.dict kvs), some k => match dFind kvs k with
      | some o => .ok (.d (o.getD .none)) s
      | none => .no
    | _, _ => .no
  | _ => .no
theorem Top.isD {v : V} {kvs : List (PyData × PyData)} (t : Top K M H v (.dict kvs)) (ho : odd kvs = false) : ∃ a, v = .ref a ∧ IsD H a := by
  obtain ⟨a, rfl, h⟩ := t.dict
  rcases h with ⟨kv, r, _⟩ | ⟨kv, r, _⟩ | h
  · exact ⟨a, rfl, .inl ⟨_, r⟩⟩
  · exact ⟨a, rfl, .inr ⟨_, r⟩⟩
  · rw [ho] at h; cases h
theorem OR.get {w : Option V} {o : Option PyData} (m : OR K M H w o) : Rp K M H (w.getD .non) (o.getD .none) := by
  cases w with
  | none =>
    cases o with
    | none => exact .non
    | some d => exact m.elim
  | some v =>
    cases o with
    | none => exact m.elim
    | some d => exact m
theorem ze_get {o e : Expr} {f g : SPl} {apos cpos : Pos} (hu : X.A.units + 1 < cLine) (ho : ZP X W o f) (he : ZP X W e g) (m : M1 X o "get" apos e cpos) : ZE X W (.Call (.Attribute o "get" apos) [e] [] cpos) (eGet f g) := by
  refine PE.mono (pe_dget1 hu ho he m) fun σ H Q ⟨ρ, E, st, R, q⟩ => ⟨ρ, E, st, R, ?_⟩
  unfold eGet at q
  cases e1 : f st with
  | no => rw [e1] at q; exact q
  | ex x s => rw [e1] at q; exact q
  | ok p s =>
    rw [e1, Res.bind_ok] at q
    intro x ρ1 E1 H1 P1 r1
    split at q
    · rename_i kvs0 l0
      by_cases ho : odd kvs0 = true
      · rw [if_pos ho] at q; exact q.elim
      rw [if_neg ho] at q
      obtain ⟨a, rfl, hd⟩ := (r1.top P1.rel l0).isD (by simpa using ho)
      refine ⟨a, rfl, hd, ρ1, E1, s, P1.rel, ?_⟩
      cases e2 : g s with
      | no => rw [e2] at q; exact q
      | ex x2 s2 => rw [e2] at q; exact Go.exs q P1 r1.come
      | ok p2 s2 =>
        rw [e2, Res.bind_ok] at q
        intro y ρ2 E2 H2 P2 r2
        split at q
        · rename_i kvs k l1 l2
          split at q
          · rename_i ov l3
            have t1 := rPl.later r1 P1.rel P2 r2.come l1
            obtain ⟨a', w, ea, g', m'⟩ := dFind_get t1 (r2.top P2.rel l2) l3
            cases ea
            exact ⟨w, g', Go.new q (P1.trans P2) (r1.come.trans P1 r2.come) (New.same m'.get)⟩
          · exact q.elim
        · exact q.elim
    · exact q.elim
end
end Z

set_option maxRecDepth 100000
set_option maxHeartbeats 4000000
namespace Z
open PySem PySem.Spec PyProof.Rows L2
/-! ### sequences of either kind: lists (false), tuples (true) -/
def SqF (t : Bool) (K : PySem.W.Frag) (H : Hp) (a : Addr) (xs : List V) : Prop := match t with | false => SqL K H a xs | true => SqT K H a xs
def ItF (t : Bool) (h : Heap) (it a : Addr) (i : Nat) : Prop := match t with | false => h.IsListIter it a i | true => h.IsTupleIter it a i
def HsF (t : Bool) (h : Heap) (a : Addr) (its : Array Value) : Prop := match t with | false => h.IsList a its | true => h.IsTuple a its
def obF (t : Bool) (a : Addr) : Obj := match t with
  | false => { cls := .type "list_iterator", data := .fields #[.ref a, .int 0 0] }
  | true => { cls := .type "tuple_iterator", data := .fields #[.ref a, .int 0 0] }
theorem begF (t : Bool) (a : Addr) (its : Array Value) : PySem.Begins (.ref a) (obF t a) (fun h => HsF t h a its) := by
  cases t
  · exact begins_list a its
  · exact begins_tuple a its
theorem drawsF {prog : Program} {w : World} {A : Around} (t : Bool) (hh : A.handled = none) (it a : Addr) (hne : a ≠ it) (its : Array Value) :
    Draws prog w A it [it, a] its.size (fun i v => its[i]? = some v) (fun i h => ItF t h it a i ∧ HsF t h a its) := by
  cases t
  · exact Draws.list hh it a hne its
  · exact Draws.tuple hh it a hne its
theorem ItF.obj {t : Bool} {h : Heap} {it a : Addr} {i : Nat} (x : ItF t h it a i) : ∃ o, h.get? it = some o ∧ ∀ v, o.data ≠ .cell v := by
  cases t
  · obtain ⟨o, e, _, d⟩ := x
    exact ⟨o, e, fun v q => by rw [d] at q; cases q⟩
  · obtain ⟨o, e, _, d⟩ := x
    exact ⟨o, e, fun v q => by rw [d] at q; cases q⟩
theorem ItF.keep {t : Bool} {h h' : Heap} {it a : Addr} {i : Nat} (x : ItF t h it a i) (k : ∀ o, h.get? it = some o → h'.get? it = some o) : ItF t h' it a i := by
  cases t
  · exact (show h.IsListIter it a i from x).at k
  · exact (show h.IsTupleIter it a i from x).at k
theorem ItF.new {t : Bool} {h : Heap} {it a : Addr} (e : h.get? it = some (obF t a)) : ItF t h it a 0 := by
  cases t
  · exact ⟨_, e, rfl, rfl⟩
  · exact ⟨_, e, rfl, rfl⟩
theorem HsF.lt {t : Bool} {h : Heap} {a : Addr} {its : Array Value} (x : HsF t h a its) : a < h.objs.size := by
  cases t
  · obtain ⟨o, e, _⟩ := (show h.IsList a its from x)
    exact Heap.lt_size e
  · obtain ⟨o, e, _⟩ := (show h.IsTuple a its from x)
    exact Heap.lt_size e
section
variable {X : Cx} {pins : List (Addr × Obj)} {σ : L2.St} {H : Hp} {s : Shared} {a : Addr} {xs ys : List V}
theorem seqF {t : Bool} (I : Inv X pins σ H s) (h : SqF t X.K H a xs) : ∃ its : List Value, Vals xs its ∧ HsF t s.heap a its.toArray ∧ xs.length ≤ sizeLine := by
  cases t
  · obtain ⟨its, r, p, z⟩ := I.list h
    exact ⟨its, r, p.isList, z⟩
  · obtain ⟨its, r, p, z⟩ := I.tuple h
    exact ⟨its, r, p, z⟩
theorem SqF.inj {t : Bool} (I : Inv X pins σ H s) (h : SqF t X.K H a xs) (h' : SqF t X.K H a ys) : xs = ys := by
  cases t
  · exact I.list_inj h h'
  · exact I.tuple_inj h h'
end
/-! ### zip -/
def ItZ (K : PySem.W.Frag) (t u : Bool) (a b : Addr) : It :=
  ⟨fun i H => ∃ (xs ys : List V) (x y : V), SqF t K H a xs ∧ SqF u K H b ys ∧ xs[i]? = some x ∧ ys[i]? = some y,
    fun i H v H' => ∃ T x y o, v = .ref T ∧ H T = none ∧ o.dict = none ∧ H' = upd H T (.frz o (.tup [x, y])) ∧ (∀ xs, SqF t K H a xs → xs[i]? = some x) ∧ ∀ ys, SqF u K H b ys → ys[i]? = some y,
    fun i H => ∃ xs ys : List V, SqF t K H a xs ∧ SqF u K H b ys ∧ i ≤ xs.length ∧ i ≤ ys.length ∧ (i = xs.length ∨ i = ys.length)⟩
structure Apart5 (z TI TO i1 i2 a b : Addr) : Prop where
  sep : ZipSep2 z TI TO i1 i2 [i1, a] [i2, b]
  a1 : a ≠ i1
  b2 : b ≠ i2
theorem turnZ {P : Program} {w : World} {K : PySem.W.Frag} {elts : List Expr} {kk : Nat} {tpos : Pos} {t u : Bool} {a b z TI TO i1 i2 : Addr} (D : Apart5 z TI TO i1 i2 a b) :
    Turn P w K (.Tuple elts kk tpos) (ItZ K t u a b) [z, TI, TO, i1, i2] z (fun i h => IsZip h z TI TO .none ∧ IsTupOf2 h TI (.ref i1) (.ref i2) ∧ (∃ x y, IsTupOf2 h TO x y) ∧ ItF t h i1 a i ∧ ItF u h i2 b i) where
  mem := by simp
  obj := fun i h st c hc => by
    obtain ⟨hz, hTI, ⟨x, y, hTO⟩, h1, h2⟩ := st
    have e' : c = z ∨ c = TI ∨ c = TO ∨ c = i1 ∨ c = i2 := by simpa using hc
    rcases e' with q | q | q | q | q <;> subst q
    · exact ⟨_, hz, fun v q => nomatch q⟩
    · exact ⟨_, hTI, fun v q => nomatch q⟩
    · exact ⟨_, hTO, fun v q => nomatch q⟩
    · exact h1.obj
    · exact h2.obj
  keep := fun i h h' st k => by
    obtain ⟨hz, hTI, ⟨x, y, hTO⟩, h1, h2⟩ := st
    exact ⟨k z (by simp) _ hz, k TI (by simp) _ hTI, ⟨x, y, k TO (by simp) _ hTO⟩, h1.keep fun o e => k i1 (by simp) o e, h2.keep fun o e => k i2 (by simp) o e⟩
  item := by
    intro X hP hw hK hc i pins s σ H E I hf st hg
    subst hP hw hK
    obtain ⟨hz, hTI, ⟨p, q, hTO⟩, h1, h2⟩ := st
    obtain ⟨xs, ys, x, y, hx, hy, ex, ey⟩ := hg
    obtain ⟨its, rv, s1, _⟩ := seqF I hx
    obtain ⟨its2, rv2, s2, _⟩ := seqF I hy
    obtain ⟨ux, eux, rx⟩ := rv.get ex
    obtain ⟨uy, euy, ry⟩ := rv2.get ey
    have lt1 : i < its.toArray.size := by
      rw [List.size_toArray]
      exact (List.getElem?_eq_some_iff.mp eux).1
    have lt2 : i < its2.toArray.size := by
      rw [List.size_toArray]
      exact (List.getElem?_eq_some_iff.mp euy).1
    refine wpAny_pyNext_zipD2_item D.sep (drawsF (A := X.A.in1) t (I.ok.hd hc) i1 a D.a1 its.toArray) (drawsF (A := X.A.in1) u (I.ok.hd hc) i2 b D.b2 its2.toArray) hz hTI hTO ⟨h1, s1⟩ ⟨h2, s2⟩ lt1 lt2 fun x1 x2 h' tk y1 y2 z1 z2 d1 d2 z5 z6 hk => ?_
    have e1 : x1 = ux := by
      rw [← Array.getElem?_toList] at y1
      exact Option.some.inj (y1.symm.trans eux)
    have e2 : x2 = uy := by
      rw [← Array.getElem?_toList] at y2
      exact Option.some.inj (y2.symm.trans euy)
    subst e1 e2
    refine ⟨_, rfl, wpAny_letOwnedTupleGo_zip (s := { s with heap := h', toks := tk }) z1 fun h'' hz' sb => ?_⟩
    have zl : z < s.heap.objs.size := Heap.lt_size hz
    have hT2 : h''.get? s.heap.objs.size = some { cls := .type "tuple", data := .seq #[x1, x2] } := (sb.2 _ (Nat.ne_of_gt zl)).trans z5
    have new : ObjOk X.prog X.w (upd H s.heap.objs.size (.frz { cls := .type "tuple", data := .seq #[x1, x2] } (.tup [x, y]))) h'' s.heap.objs.size (.frz { cls := .type "tuple", data := .seq #[x1, x2] } (.tup [x, y])) := ⟨hT2, by show 2 ≤ sizeLine; decide, [x1, x2], .cons rx (.cons ry .nil), ⟨_, hT2, rfl, _, rfl⟩⟩
    have I1 : Inv X pins σ (upd H s.heap.objs.size (.frz { cls := .type "tuple", data := .seq #[x1, x2] } (.tup [x, y]))) { s with heap := h'', toks := tk } :=
      I.turnedNew (ch := [z, TI, TO, i1, i2]) (fun b ob hb q => (sb.2 b (fun z => hb (by simp [z]))).trans (hk b ob (fun z => hb (by simp [z])) (fun z => hb (by simp [z])) (fun z => hb (by simp [z])) (fun z => hb (by simp [z])) q)) hf (Nat.le_refl _) new
    refine ⟨.ref s.heap.objs.size, _, I1, rfl, ⟨_, x, y, _, rfl, I.hok.fresh (Nat.le_refl _), rfl, rfl, fun zs h => by rw [h.inj I hx]; exact ex, fun zs h => by rw [h.inj I hy]; exact ey⟩, ⟨hz', sb.extBut _ _ D.sep.TIz (hk _ _ D.sep.TIz D.sep.TITO D.sep.TIi1 D.sep.TIi2 hTI), ⟨_, _, sb.extBut _ _ D.sep.TOz z2⟩, d1.1.keep fun o e => sb.extBut _ _ D.sep.zi1.symm e, d2.1.keep fun o e => sb.extBut _ _ D.sep.zi2.symm e⟩, fun c hc => ?_⟩
    have lt : c < s.heap.objs.size := by
      have e' : c = z ∨ c = TI ∨ c = TO ∨ c = i1 ∨ c = i2 := by simpa using hc
      rcases e' with q | q | q | q | q <;> subst q
      · exact zl
      · exact Heap.lt_size hTI
      · exact Heap.lt_size hTO
      · obtain ⟨o, e, _⟩ := h1.obj; exact Heap.lt_size e
      · obtain ⟨o, e, _⟩ := h2.obj; exact Heap.lt_size e
    rw [upd_ne (Nat.ne_of_lt lt)]
    exact (hf c hc).1
  done := by
    intro X hP hw hK hc i pins s σ H E I hf st hg
    subst hP hw hK
    obtain ⟨hz, hTI, ⟨p, q, hTO⟩, h1, h2⟩ := st
    obtain ⟨xs, ys, hx, hy, l1, l2, en⟩ := hg
    obtain ⟨its, rv, s1, _⟩ := seqF I hx
    obtain ⟨its2, rv2, s2, _⟩ := seqF I hy
    have n1 : its.toArray.size = xs.length := by rw [List.size_toArray]; exact rv.length.symm
    have n2 : its2.toArray.size = ys.length := by rw [List.size_toArray]; exact rv2.length.symm
    refine wpAny_pyNext_zipD2_end D.sep (drawsF (A := X.A.in1) t (I.ok.hd hc) i1 a D.a1 its.toArray) (drawsF (A := X.A.in1) u (I.ok.hd hc) i2 b D.b2 its2.toArray) hz hTI hTO ⟨h1, s1⟩ ⟨h2, s2⟩ (by omega) (by omega) (by omega) fun h' tk hk => ⟨rfl, ?_⟩
    exact I.turnedL (t' := tk) (ch := [z, TI, TO, i1, i2]) (fun c o hb q => hk c o (fun q' => hb (by simp [q'])) (fun q' => hb (by simp [q'])) (fun q' => hb (by simp [q'])) (fun q' => hb (by simp [q'])) q) hf
  self := fun A i s Q E st h => wpAny_pyIter_zip st.1 h
def iZipF (K : PySem.W.Frag) (ta : TA) : TI := fun σ H R => ta σ H fun vs H1 => ∃ t u a b xs ys, vs = [.ref a, .ref b] ∧ SqF t K H1 a xs ∧ SqF u K H1 b ys ∧ R (ItZ K t u a b) H1
theorem nn {a b : Nat} (h : a ≠ b) : @Ne Addr a b := h
theorem off2 {c x y : Nat} (h : c ≠ x) (g : c ≠ y) : ¬ @Membership.mem Addr (List Addr) _ [x, y] c := fun m => (List.mem_cons.mp m).elim h fun m => (List.mem_cons.mp m).elim g fun m => nomatch m
theorem apart5 {n a b : Nat} (ha : a < n) (hb : b < n) : Apart5 (n + 4) (n + 2) (n + 3) n (n + 1) a b where
  sep :=
    { TIz := nn (by omega), TOz := nn (by omega), TITO := nn (by omega), TIi1 := nn (by omega), mem1 := by simp, zf1 := off2 (by omega) (by omega), Tf1 := off2 (by omega) (by omega)
      TIi2 := nn (by omega), mem2 := by simp, zf2 := off2 (by omega) (by omega), Tf2 := off2 (by omega) (by omega), sep1_2 := off2 (by omega) (by omega), sep2_1 := off2 (by omega) (by omega) }
  a1 := nn (by omega)
  b2 := nn (by omega)
theorem le5 {n c : Nat} (h : @Membership.mem Addr (List Addr) _ [n + 4, n + 2, n + 3, n, n + 1] c) : n ≤ c := by
  have h : c ∈ [n + 4, n + 2, n + 3, n, n + 1] := h
  simp only [List.mem_cons, List.not_mem_nil, or_false] at h
  omega
theorem pi_zipF {X : Cx} {e e2 : Expr} {ta : TA} {p pos tpos : Pos} {elts : List Expr} {kk : Nat} (hg : Gl X "zip") (hm : X.mg "zip" = none) (ha : PA X [e, e2] ta)
    (hs : starEach [e, e2] X.env = (false, eval e X.env) :: starEach [e2] X.env := by rfl) (hpl : (backTo pos (starEach [e2] X.env)).any (·.1) = false := by rfl) :
    PI X (.Tuple elts kk tpos) (.Call (.Name "zip" p) [e, e2] [] pos) (iZipF X.K ta) := by
  refine ⟨fun pins s σ H R I h => ?_⟩
  refine Call_ (ld_blt I hg hm PyProof.Rows.boot_zip (PyProof.Rows.callWith_type1 (thn (ha.run pos pins s σ H _ I h) fun us s1 ⟨vs, H1, I1, r1, t, u, a, b, xs, ys, ex, hx, hy, q⟩ => ?_) hs hpl))
  subst ex
  obtain ⟨u1, u2, rfl, ra, rb⟩ := vals2 r1
  cases ra
  cases rb
  obtain ⟨its, rv, s1', _⟩ := seqF I1 hx
  obtain ⟨its2, rv2, s2', _⟩ := seqF I1 hy
  refine zip_begins2 (begF t a its.toArray) (begF u b its2.toArray) s1' s2' fun h' hz hTI hTO h1 h2 hsz hk => wpAny_pyIter_zip hz ?_
  have I2 : Inv X pins σ H1 { s1 with heap := h' } := I1.kept (t' := s1.toks) hk
  refine ⟨s1.heap.objs.size + 4, [s1.heap.objs.size + 4, s1.heap.objs.size + 2, s1.heap.objs.size + 3, s1.heap.objs.size, s1.heap.objs.size + 1], _, _, H1, rfl, I2, turnZ (apart5 s1'.lt s2'.lt), ⟨hz, hTI, ⟨_, _, hTO⟩, ItF.new h1, ItF.new h2⟩, fun c hc => ?_, q⟩
  have hle : s1.heap.objs.size ≤ c := le5 hc
  exact I1.fpOk hle (I1.hok.fresh hle)
/-! ### enumerate -/
def ItE (K : PySem.W.Frag) (t : Bool) (a : Addr) : It :=
  ⟨fun i H => ∃ (xs : List V) (x : V), SqF t K H a xs ∧ xs[i]? = some x,
    fun i H v H' => ∃ T x o, v = .ref T ∧ H T = none ∧ o.dict = none ∧ H' = upd H T (.frz o (.tup [.int (i : Nat), x])) ∧ ∀ xs, SqF t K H a xs → xs[i]? = some x,
    fun i H => ∃ xs : List V, SqF t K H a xs ∧ i = xs.length⟩
theorem turnE {P : Program} {w : World} {K : PySem.W.Frag} {elts : List Expr} {kk : Nat} {tpos : Pos} {t : Bool} {a e it : Addr} (hne : e ≠ it) (hae : e ≠ a) (hai : a ≠ it) :
    Turn P w K (.Tuple elts kk tpos) (ItE K t a) [e, it] e (fun i h => (∃ old, IsEnum h e it ((i : Nat) : Int) old) ∧ ItF t h it a i) where
  mem := by simp
  obj := fun i h st b hb => by
    obtain ⟨⟨old, he⟩, hi⟩ := st
    have e' : b = e ∨ b = it := by simpa using hb
    rcases e' with z | z <;> subst z
    · exact ⟨_, he, fun v q => nomatch q⟩
    · exact hi.obj
  keep := fun i h h' st k => let ⟨⟨old, he⟩, hi⟩ := st; ⟨⟨old, k e (by simp) _ he⟩, hi.keep fun o q => k it (by simp) o q⟩
  item := by
    intro X hP hw hK hc i pins s σ H E I hf st hg
    subst hP hw hK
    obtain ⟨⟨old, he⟩, hi⟩ := st
    obtain ⟨xs, x, hx, ex⟩ := hg
    obtain ⟨its, rv, s1, _⟩ := seqF I hx
    obtain ⟨u, eu, ru⟩ := rv.get ex
    have lt : i < its.toArray.size := by
      rw [List.size_toArray]
      exact (List.getElem?_eq_some_iff.mp eu).1
    refine wpAny_pyNext_enum_itemD (drawsF (A := X.A.in1) t (I.ok.hd hc) it a hai its.toArray) he ⟨hi, s1⟩ lt hne (by simp [hne, hae]) fun x1 h' tk y1 ho st' hT hsz hk => ?_
    have e1 : x1 = u := by
      rw [← Array.getElem?_toList] at y1
      exact Option.some.inj (y1.symm.trans eu)
    subst e1
    refine ⟨_, rfl, wpAny_letOwnedTupleGo_enum (s := { s with heap := h', toks := tk + 1 }) ho fun h'' he' sb => ?_⟩
    have hel : e < s.heap.objs.size := Heap.lt_size he
    have hil : it < s.heap.objs.size := by obtain ⟨_, q, _⟩ := hi.obj; exact Heap.lt_size q
    have hT2 : h''.get? s.heap.objs.size = some { cls := .type "tuple", data := .seq #[.int i tk, x1] } := (sb.2 _ (Nat.ne_of_gt hel)).trans hT
    have new : ObjOk X.prog X.w (upd H s.heap.objs.size (.frz { cls := .type "tuple", data := .seq #[.int i tk, x1] } (.tup [.int (i : Nat), x]))) h'' s.heap.objs.size (.frz { cls := .type "tuple", data := .seq #[.int i tk, x1] } (.tup [.int (i : Nat), x])) :=
      ⟨hT2, by show 2 ≤ sizeLine; decide, [.int i tk, x1], .cons ⟨_, rfl⟩ (.cons ru .nil), ⟨_, hT2, rfl, _, rfl⟩⟩
    have I1 : Inv X pins σ (upd H s.heap.objs.size (.frz { cls := .type "tuple", data := .seq #[.int i tk, x1] } (.tup [.int (i : Nat), x]))) { s with heap := h'', toks := tk + 1 } :=
      I.turnedNew (ch := [e, it]) (fun b ob hb q => (sb.2 b (fun z => hb (by simp [z]))).trans (hk b ob (fun z => hb (by simp [z])) (fun z => hb (by simp [z])) q)) hf (Nat.le_refl _) new
    refine ⟨.ref s.heap.objs.size, _, I1, rfl, ⟨_, x, _, rfl, I.hok.fresh (Nat.le_refl _), rfl, rfl, fun ys hy => by rw [hy.inj I hx]; exact ex⟩, ⟨⟨x1, ?_⟩, st'.1.keep fun o q => (sb.2 it (Ne.symm hne)).trans q⟩, fun b hb => ?_⟩
    · have e1 : ((i + 1 : Nat) : Int) = (i : Int) + 1 := by omega
      rw [e1]; exact he'
    · have hb' : b < s.heap.objs.size := by
        have e' : b = e ∨ b = it := by simpa using hb
        rcases e' with z | z <;> subst z
        · exact hel
        · exact hil
      rw [upd_ne (Nat.ne_of_lt hb')]
      exact (hf b hb).1
  done := by
    intro X hP hw hK hc i pins s σ H E I hf st hg
    subst hP hw hK
    obtain ⟨⟨old, he⟩, hi⟩ := st
    obtain ⟨xs, hx, en⟩ := hg
    obtain ⟨its, rv, s1, _⟩ := seqF I hx
    have n1 : i = its.toArray.size := by rw [List.size_toArray, en]; exact rv.length
    obtain ⟨f0, f1, f2, f3, f4, f5⟩ := hf it (by simp)
    subst n1
    exact wpAny_pyNext_enum_endD (drawsF (A := X.A.in1) t (I.ok.hd hc) it a hai its.toArray) he ⟨hi, s1⟩ fun h' eb => ⟨rfl, I.turned (t' := s.toks) (fun b o hb q => eb b o hb q) f0 f1 f3 f4 f5⟩
  self := fun A i s Q E st h => let ⟨⟨_, he⟩, _⟩ := st; wpAny_pyIter_enum he h
end Z

set_option maxRecDepth 100000
set_option maxHeartbeats 4000000
namespace Z
open PySem PySem.Spec PyProof.Rows L2
/-! ### enumerate(v) begins -/
set_option maxHeartbeats 4000000 in
theorem meets_enum1 {v : Value} {o : Obj} {G : Heap → Prop} (B : PySem.Begins v o G) :
    Meets (Builtin.«enumerate.__new__» ⟨[.type "enumerate", v], []⟩) (fun _ R s => G s.heap ∧
      R (.ok (.ret (.ref (s.heap.push o).objs.size))) { s with heap := (s.heap.push o).push { cls := .type "enumerate", data := .fields #[.none, .bool false, .ref s.heap.objs.size, rawInt 0, .none, .none] } }) :=
  .of_wp fun prog w A R s h => by
    obtain ⟨hp, g, d, tk, os⟩ := s
    obtain ⟨first, h⟩ := h
    have known := sub_enumerate
    have begin : ∀ {A' : Around} {E Q : Value → Shared → Prop}, Q (.ref hp.objs.size) ⟨hp.push o, g, d, tk, os⟩ → wpAny (model prog w) A' (pyIter v) Q E ⟨hp, g, d, tk, os⟩ := fun q => B.iter prog w _ _ _ _ first q
    wp_walk using begin
    refine wpAny_stack_any fun st => wpAny_pure ?_
    split
    · rename_i c _ _ _ _ _
      cases (c == Value.type "enumerate") <;> (wp_walk using begin; exact ⟨_, rfl, h⟩)
    · wp_walk using begin
      exact ⟨_, rfl, h⟩
theorem enum_begin1 {prog : Program} {w : World} {A : Around} {E : Value → Shared → Prop} {s : Shared} {v : Value} {o : Obj} {G : Heap → Prop} {Q : Value → Shared → Prop} (B : PySem.Begins v o G) (first : G s.heap)
    (h : ∀ h', IsEnum h' (s.heap.objs.size + 1) s.heap.objs.size 0 .none → h'.get? s.heap.objs.size = some o → (∀ b o, s.heap.get? b = some o → h'.get? b = some o) → Q (.ref (s.heap.objs.size + 1)) { s with heap := h' }) :
    wpAny (model prog w) A (call (.type "enumerate") [v]) Q E s := by
  refine callType_new PySem.F.called_enumerate (by decide) (PySem.F.typeCall_enumerate_1 _) (PySem.F.newCall_enumerate_1 _) (fun obj => PySem.F.args_object_init_2 obj _) PySem.F.entry_enumerate_new (meets_enum1 B) ⟨first, ?_⟩
  have size : (s.heap.push o).objs.size = s.heap.objs.size + 1 := Heap.size_push ..
  have at1 := Heap.get?_push_size (s.heap.push o) (o := { cls := .type "enumerate", data := .fields #[.none, .bool false, .ref s.heap.objs.size, rawInt 0, .none, .none] }) rfl
  rw [size] at at1
  show _ ∧ _
  rw [size]
  exact ⟨⟨_, at1, rfl⟩, h _ at1 (Heap.get?_push_of_some _ (Heap.get?_push_size _ B.free)) fun b o x => Heap.get?_push_of_some _ (Heap.get?_push_of_some _ x)⟩
def iEnumF (K : PySem.W.Frag) (ta : TA) : TI := fun σ H R => ta σ H fun vs H1 => ∃ t a xs, vs = [.ref a] ∧ SqF t K H1 a xs ∧ R (ItE K t a) H1
theorem pi_enumF {X : Cx} {e : Expr} {ta : TA} {p pos tpos : Pos} {elts : List Expr} {kk : Nat} (hg : Gl X "enumerate") (hm : X.mg "enumerate" = none) (ha : PA X [e] ta) (hs : starEach [e] X.env = [(false, eval e X.env)] := by rfl) :
    PI X (.Tuple elts kk tpos) (.Call (.Name "enumerate" p) [e] [] pos) (iEnumF X.K ta) := by
  refine ⟨fun pins s σ H R I h => ?_⟩
  refine Call_ (ld_blt I hg hm boot_enumerate (PyProof.Rows.callWith_type1 (thn (ha.run pos pins s σ H _ I h) fun us s1 ⟨vs, H1, I1, r1, t, a, xs, ex, hx, q⟩ => ?_) hs rfl))
  subst ex
  obtain ⟨u, rfl, ra⟩ := vals1 r1
  cases ra
  obtain ⟨its, rv, s1', _⟩ := seqF I1 hx
  have al := s1'.lt
  refine enum_begin1 (begF t a its.toArray) s1' fun h' he h1 hk => wpAny_pyIter_enum he ?_
  have I2 : Inv X pins σ H1 { s1 with heap := h' } := I1.kept (t' := s1.toks) hk
  have ne1 : @Ne Addr (s1.heap.objs.size + 1) s1.heap.objs.size := Nat.succ_ne_self _
  refine ⟨s1.heap.objs.size + 1, [s1.heap.objs.size + 1, s1.heap.objs.size], _, _, H1, rfl, I2, turnE ne1 (Nat.ne_of_gt (Nat.lt_succ_of_lt al)) (Nat.ne_of_lt al), ⟨⟨.none, he⟩, ItF.new h1⟩, fun c hc => ?_, q⟩
  have hle : s1.heap.objs.size ≤ c := by
    have e' : c = s1.heap.objs.size + 1 ∨ c = s1.heap.objs.size := by simpa using hc
    rcases e' with z | z
    · rw [z]; exact Nat.le_add_right _ _
    · rw [z]; exact Nat.le_refl _
  exact I1.fpOk hle (I1.hok.fresh hle)
/-! ### the meanings -/
def seqD : PyData → Option (List PyData)
  | .list xs => some xs
  | .tuple xs => some xs
  | _ => none
/-- couples -/
def couples (xs ys : List PyData) : Option (List PyData) := some ((xs.zip ys).map fun p => .tuple [p.1, p.2])
def zipOf : List PyData → Option (List PyData)
  | [d, e] => (seqD d).bind fun xs => (seqD e).bind fun ys => couples xs ys
  | _ => none
def countD (n : Nat) : List PyData := (List.range n).map fun i => .int (i : Nat)
def enumOf : List PyData → Option (List PyData)
  | [d] => (seqD d).bind fun xs => couples (countD xs.length) xs
  | _ => none
def iIts (g : List PyData → Option (List PyData)) (fs : List SE) : SI := fun s => (its fs s).bind fun ds s => retn (g ds) s
section
variable {X : Cx} {W : WX} {K : PySem.W.Frag} {mg : Str → Option Value} {M M' ρ E : List Addr} {st : S} {σ : L2.St} {H H' : Hp}
theorem coreIts {fs : List SE} {R : It → Hp → Prop} {g : List PyData → Option (List PyData)} (h : tzI K mg W (iIts g fs) σ H R) : tzL K mg W (its fs) σ H fun vs H1 => ∃ ρ E st xs ds, Rel K ρ E st σ H1 ∧ RpAll K (avd ρ E st σ) H1 vs ds ∧ g ds = some xs ∧ ∀ J, IsIt K ρ E st σ H1 J xs → R J H1 := by
  obtain ⟨ρ, E, st, R0, q⟩ := h
  refine ⟨ρ, E, st, R0, ?_⟩
  unfold iIts at q
  cases e : its fs st with
  | no => simp only [e] at q; exact q
  | ex x s => simp only [e] at q; exact q
  | ok ds s =>
    simp only [e, Res.bind_ok] at q
    intro vs ρ1 E1 H1 P1 r1
    obtain ⟨k, r1⟩ := r1
    subst k
    cases e3 : g ds with
    | none => simp only [e3] at q; exact q.elim
    | some xs =>
      simp only [e3] at q
      exact ⟨ρ1, _, s, xs, ds, P1.rel, r1, e3, fun J it => q J ρ1 _ H1 P1 Come.refl it⟩
/-- data that may be gone through, and that stays -/
theorem Rp.seq {v : V} {d : PyData} {xs : List PyData} (r : Rp K M H v d) (h : seqD d = some xs) : ∃ t a vs, v = .ref a ∧ RpAll K M H vs xs ∧ ∀ H', (∀ a o, a ∉ M → H a = some o → H' a = some o) → SqF t K H' a vs := by
  cases r with
  | @lst a vs ds n al =>
    cases h
    refine ⟨false, a, vs, rfl, al, fun H' k => .inl ?_⟩
    obtain ⟨n, m⟩ := n
    rcases n with e | ⟨o, e⟩
    · exact .inl (k _ _ m e)
    · exact .inr ⟨o, k _ _ m e⟩
  | @tup a vs ds n al =>
    cases h
    refine ⟨true, a, vs, rfl, al, fun H' k => ?_⟩
    rcases n with ⟨e, m, _⟩ | ⟨o, e, _, m⟩ | ⟨o, its, n, e, c, _, r⟩
    · exact .inl (.inl (k _ _ m e))
    · exact .inl (.inr ⟨o, k _ _ m e⟩)
    · exact .inr ⟨o, its, n, e, c, r⟩
  | _ => cases h
theorem couples_at {xs ys zs : List PyData} (h : couples xs ys = some zs) : zs.length = min xs.length ys.length ∧ ∀ (i : Nat) (x y : PyData), xs[i]? = some x → ys[i]? = some y → zs[i]? = some (.tuple [x, y]) := by
  unfold couples at h
  cases h
  refine ⟨by simp, fun i x y hx hy => ?_⟩
  have hz : (xs.zip ys)[i]? = some (x, y) := List.getElem?_zip_eq_some.mpr ⟨hx, hy⟩
  rw [List.getElem?_map, hz]; rfl
/-- the item of a couple -/
theorem couple_rp {T : Addr} {x y : V} {dx dy : PyData} {o : Obj} (ho : o.dict = none) (dm : Dom M H) (hT : H T = none) (rx : Rp K M H x dx) (ry : Rp K M H y dy) : (∀ a u, H a = some u → upd H T (.frz o (.tup [x, y])) a = some u) ∧ Rp K M (upd H T (.frz o (.tup [x, y]))) (.ref T) (.tuple [dx, dy]) := by
  refine ⟨upd_grow hT, .tup (.inr (.inl ⟨o, upd_same, ho, fun z => ?_⟩)) ?_⟩
  · obtain ⟨o, e, _⟩ := dm T z
    rw [hT] at e
    cases e
  · exact .cons (rx.frame (fun a o _ e => upd_grow hT a o e) fun a h => .inl h) (.cons (ry.frame (fun a o _ e => upd_grow hT a o e) fun a h => .inl h) .nil)
theorem zi_zip {elts : List Expr} {k : Nat} {a b : Expr} {fs : List SE} {tpos p pos : Pos} (hg : Gl X "zip") (hm : X.mg "zip" = none) (ha : ZIs X W [a, b] fs)
    (hs : starEach [a, b] X.env = (false, eval a X.env) :: starEach [b] X.env := by rfl) (hpl : (backTo pos (starEach [b] X.env)).any (·.1) = false := by rfl) :
    ZI X W (.Tuple elts k tpos) (.Call (.Name "zip" p) [a, b] [] pos) (iIts zipOf fs) := by
  refine PI.mono (pi_zipF hg hm ha hs hpl) fun σ H R h => ?_
  refine tzE.mono (coreIts h) fun vs H1 ⟨ρ, E, st, zs, ds, R1, al, e, q⟩ => ?_
  unfold zipOf at e
  split at e
  · rename_i d1 d2
    cases e1 : seqD d1 with
    | none => rw [e1] at e; cases e
    | some xs =>
      cases e2 : seqD d2 with
      | none => rw [e1, e2] at e; cases e
      | some ys =>
        rw [e1, e2] at e
        have e : couples xs ys = some zs := e
        obtain ⟨v, w, rfl, r1, r2⟩ := al.two
        obtain ⟨t, a1, as, rfl, al1, k1⟩ := r1.seq e1
        obtain ⟨u, b1, bs, rfl, al2, k2⟩ := r2.seq e2
        obtain ⟨len, ats⟩ := couples_at e
        refine ⟨t, u, a1, b1, as, bs, rfl, k1 H1 fun _ _ _ e => e, k2 H1 fun _ _ _ e => e, q _ ?_⟩
        refine ⟨fun H => SqF t X.K H a1 as ∧ SqF u X.K H b1 bs, fun i H v H' => ∃ T x y o, v = .ref T ∧ H T = none ∧ o.dict = none ∧ H' = upd H T (.frz o (.tup [x, y])) ∧ as[i]? = some x ∧ bs[i]? = some y, ?_, ?_⟩
        · have l1 := al1.length
          have l2 := al2.length
          refine ⟨fun i H hi g => ?_, fun H g => ⟨as, bs, g.1, g.2, by omega, by omega, by omega⟩, fun i H v H' hi g y => ?_⟩
          · have h1 : i < as.length := by omega
            have h2 : i < bs.length := by omega
            exact ⟨as, bs, as[i], bs[i], g.1, g.2, List.getElem?_eq_getElem h1, List.getElem?_eq_getElem h2⟩
          · obtain ⟨T, x, y, o, h1, h2, ho, h3, h4, h5⟩ := y
            exact ⟨T, x, y, o, h1, h2, ho, h3, h4 as g.1, h5 bs g.2⟩
        · intro σ1 st1 H2 ρ2 st2 σ2 H3 E2 P1 P sub come
          have PP := P1.trans P
          refine ⟨⟨k1 H3 fun a o n e => P.avf _ _ (fun z => ?_) (P1.avf _ _ n e), k2 H3 fun a o n e => P.avf _ _ (fun z => ?_) (P1.avf _ _ n e)⟩, fun i v H4 hi y => ?_⟩
          · rcases P1.avm Come.refl.2 _ z with q' | q'
            · exact n q'
            · rw [e] at q'; cases q'
          · rcases P1.avm Come.refl.2 _ z with q' | q'
            · exact n q'
            · rw [e] at q'; cases q'
          · obtain ⟨T, x, y, o, rfl, hT, ho, rfl, hx, hy⟩ := y
            obtain ⟨dx, ex, rx⟩ := (P.rpAll come (P1.rpAll Come.refl.2 al1)).getV hx
            obtain ⟨dy, ey, ry⟩ := (P.rpAll come (P1.rpAll Come.refl.2 al2)).getV hy
            have ez := ats i dx dy ex ey
            obtain ⟨g1, g2⟩ := couple_rp ho P.rel.dom hT rx ry
            exact ⟨g1, _, ez, g2⟩
  · cases e
theorem zi_enum {elts : List Expr} {k : Nat} {a : Expr} {fs : List SE} {tpos p pos : Pos} (hg : Gl X "enumerate") (hm : X.mg "enumerate" = none) (ha : ZIs X W [a] fs)
    (hs : starEach [a] X.env = [(false, eval a X.env)] := by rfl) : ZI X W (.Tuple elts k tpos) (.Call (.Name "enumerate" p) [a] [] pos) (iIts enumOf fs) := by
  refine PI.mono (pi_enumF hg hm ha hs) fun σ H R h => ?_
  refine tzE.mono (coreIts h) fun vs H1 ⟨ρ, E, st, zs, ds, R1, al, e, q⟩ => ?_
  unfold enumOf at e
  split at e
  · rename_i d1
    cases e1 : seqD d1 with
    | none => rw [e1] at e; cases e
    | some xs =>
      rw [e1] at e
      have e : couples (countD xs.length) xs = some zs := e
      obtain ⟨v, rfl, r1⟩ := al.one
      obtain ⟨t, a1, as, rfl, al1, k1⟩ := r1.seq e1
      obtain ⟨len, ats⟩ := couples_at e
      refine ⟨t, a1, as, rfl, k1 H1 fun _ _ _ e => e, q _ ?_⟩
      have l1 := al1.length
      have lc : (countD xs.length).length = xs.length := by simp [countD]
      refine ⟨fun H => SqF t X.K H a1 as, fun i H v H' => ∃ T x o, v = .ref T ∧ H T = none ∧ o.dict = none ∧ H' = upd H T (.frz o (.tup [.int (i : Nat), x])) ∧ as[i]? = some x, ?_, ?_⟩
      · refine ⟨fun i H hi g => ?_, fun H g => ⟨as, g, by omega⟩, fun i H v H' hi g y => ?_⟩
        · have h1 : i < as.length := by omega
          exact ⟨as, as[i], g, List.getElem?_eq_getElem h1⟩
        · obtain ⟨T, x, o, h1, h2, ho, h3, h4⟩ := y
          exact ⟨T, x, o, h1, h2, ho, h3, h4 as g⟩
      · intro σ1 st1 H2 ρ2 st2 σ2 H3 E2 P1 P sub come
        refine ⟨k1 H3 fun a o n e => P.avf _ _ (fun z => ?_) (P1.avf _ _ n e), fun i v H4 hi y => ?_⟩
        · rcases P1.avm Come.refl.2 _ z with q' | q'
          · exact n q'
          · rw [e] at q'; cases q'
        · obtain ⟨T, x, o, rfl, hT, ho, rfl, hx⟩ := y
          obtain ⟨dx, ex, rx⟩ := (P.rpAll come (P1.rpAll Come.refl.2 al1)).getV hx
          have hi2 : i < xs.length := by omega
          have ec : (countD xs.length)[i]? = some (.int (i : Nat)) := by simp [countD, hi2]
          have ez := ats i _ dx ec ex
          obtain ⟨g1, g2⟩ := couple_rp ho P.rel.dom hT (.int _) rx
          exact ⟨g1, _, ez, g2⟩
  · cases e
end
end Z

set_option maxRecDepth 100000
set_option maxHeartbeats 4000000
namespace Z
open PySem PySem.Spec PyProof.Rows L2
/-! ### displays with starred members -/
def itsS : List (Bool × SE) → S → Res (List PyData)
  | [], s => .ok [] s
  | (false, f) :: fs, s => (f s).bind fun sv s => (retn sv.keep s).bind fun x s => (itsS fs s).bind fun xs s => .ok (x :: xs) s
  | (true, f) :: fs, s => (f s).bind fun sv s => (retn (sv.keep.bind seqD) s).bind fun ys s => (itsS fs s).bind fun xs s => .ok (ys ++ xs) s
section
variable {X : Cx} {W : WX} {K : PySem.W.Frag} {M : List Addr} {ρ E : List Addr} {st : S} {σ : L2.St} {H : Hp}
def ZSt (X : Cx) (W : WX) (es : List Expr) (fs : List (Bool × SE)) : Prop := PA X es (tzL X.K X.mg W (itsS fs))
theorem zst_nil : ZSt X W [] [] := PA.mono pa_nil fun σ H Q ⟨ρ, E, st, R, q⟩ => q [] ρ E H (.refl R) ⟨rfl, .nil⟩
theorem zst_cons {e : Expr} {es : List Expr} {f : SE} {fs : List (Bool × SE)} (h : ZE X W e f) (hs : ZSt X W es fs) (hst : starEach (e :: es) X.env = (false, eval e X.env) :: starEach es X.env := by rfl) : ZSt X W (e :: es) ((false, f) :: fs) := by
  refine PA.mono (pa_cons h hs hst) fun σ H Q ⟨ρ, E, st, R, q⟩ => ⟨ρ, E, st, R, ?_⟩
  have q : Go X.K X.mg W (rL X.K) Q ρ E st σ H ((f st).bind fun sv s => (retn sv.keep s).bind fun x s => (itsS fs s).bind fun xs s => .ok (x :: xs) s) := q
  cases e1 : f st with
  | no => rw [e1] at q; exact q
  | ex x s => rw [e1] at q; exact q
  | ok sv s =>
    rw [e1, Res.bind_ok] at q
    intro v ρ1 E1 H1 P1 r1
    cases l1 : sv.keep with
    | none => rw [l1] at q; exact q.elim
    | some x =>
      rw [l1, retn_some, Res.bind_ok] at q
      obtain ⟨P1, r1⟩ := r1.keep P1 l1
      refine ⟨ρ1, E, s, P1.rel, ?_⟩
      cases e2 : itsS fs s with
      | no => rw [e2] at q; exact q
      | ex x2 s2 => rw [e2] at q; exact Go.exs q P1 Come.refl
      | ok xs s2 =>
        rw [e2, Res.bind_ok] at q
        intro vs ρ2 E2 H2 P2 r2
        obtain ⟨k, r2⟩ := r2
        subst k
        exact q (v :: vs) ρ2 E2 H2 (P1.trans P2) ⟨rfl, .cons (P2.rp Come.refl.2 r1) r2⟩
theorem SqF.or {t : Bool} {a : Addr} {xs : List V} (h : SqF t K H a xs) : SqT K H a xs ∨ SqL K H a xs := by
  cases t
  · exact .inr h
  · exact .inl h
theorem zst_star {e : Expr} {es : List Expr} {f : SE} {fs : List (Bool × SE)} {p : Pos} (h : ZE X W e f) (hs : ZSt X W es fs) (hst : starEach (.Starred e p :: es) X.env = (true, eval e X.env) :: starEach es X.env := by rfl) : ZSt X W (.Starred e p :: es) ((true, f) :: fs) := by
  refine PA.mono (StX.pa_star h hs hst) fun σ H Q ⟨ρ, E, st, R, q⟩ => ⟨ρ, E, st, R, ?_⟩
  have q : Go X.K X.mg W (rL X.K) Q ρ E st σ H ((f st).bind fun sv s => (retn (sv.keep.bind seqD) s).bind fun ys s => (itsS fs s).bind fun xs s => .ok (ys ++ xs) s) := q
  cases e1 : f st with
  | no => rw [e1] at q; exact q
  | ex x s => rw [e1] at q; exact q
  | ok sv s =>
    rw [e1, Res.bind_ok] at q
    intro v ρ1 E1 H1 P1 r1
    cases l1 : sv.keep with
    | none => rw [l1] at q; exact q.elim
    | some x =>
      cases l2 : seqD x with
      | none => simp only [l1, Option.bind_some, l2] at q; exact q.elim
      | some ys =>
        simp only [l1, Option.bind_some, l2, retn_some, Res.bind_ok] at q
        obtain ⟨P1, r1⟩ := r1.keep P1 l1
        obtain ⟨t, a, as, rfl, al, k1⟩ := r1.seq l2
        refine ⟨a, as, rfl, (k1 H1 fun _ _ _ e => e).or, ρ1, E, s, P1.rel, ?_⟩
        cases e2 : itsS fs s with
        | no => rw [e2] at q; exact q
        | ex x2 s2 => rw [e2] at q; exact Go.exs q P1 Come.refl
        | ok xs s2 =>
          rw [e2, Res.bind_ok] at q
          intro vs ρ2 E2 H2 P2 r2
          obtain ⟨k, r2⟩ := r2
          subst k
          exact q (as ++ vs) ρ2 E2 H2 (P1.trans P2) ⟨rfl, (P2.rpAll Come.refl.2 al).append r2⟩
def eTupS (fs : List (Bool × SE)) : SE := fun s => (itsS fs s).bind fun xs s => if fits xs.length = true then .ok (.d (.tuple xs)) s else .no
def eLstS (fs : List (Bool × SE)) : SE := fun s => (itsS fs s).bind fun xs s => if fits xs.length = true then .ok (.o (.lst xs)) s else .no
theorem ze_tupS {es : List Expr} {fs : List (Bool × SE)} {x1 pos} (h : ZSt X W es fs) : ZE X W (.Tuple es x1 pos) (eTupS fs) := by
  refine PE.mono (pe_tupP h) fun σ H Q ⟨ρ, E, st, R, q⟩ => ⟨ρ, E, st, R, ?_⟩
  unfold eTupS at q
  cases e1 : itsS fs st with
  | no => rw [e1] at q; exact q
  | ex x s => rw [e1] at q; exact q
  | ok xs s =>
    rw [e1, Res.bind_ok] at q
    intro vs ρ1 E1 H1 P1 r1
    obtain ⟨k, r1⟩ := r1
    subst k
    by_cases hl : fits xs.length = true
    · rw [if_pos hl] at q
      exact ⟨by rw [r1.length]; exact of_decide_eq_true hl, fun p us hp => ⟨_, Go.new q P1 Come.refl (newTup hp P1.rel.dom r1)⟩⟩
    · rw [if_neg hl] at q; exact q.elim
theorem ze_lstS {es : List Expr} {fs : List (Bool × SE)} {pos} (h : ZSt X W es fs) : ZE X W (.List es pos) (eLstS fs) := by
  refine PE.mono (pe_lst h) fun σ H Q ⟨ρ, E, st, R, q⟩ => ⟨ρ, E, st, R, ?_⟩
  unfold eLstS at q
  cases e1 : itsS fs st with
  | no => rw [e1] at q; exact q
  | ex x s => rw [e1] at q; exact q
  | ok xs s =>
    rw [e1, Res.bind_ok] at q
    intro vs ρ1 E1 H1 P1 r1
    obtain ⟨k, r1⟩ := r1
    subst k
    by_cases hl : fits xs.length = true
    · rw [if_pos hl] at q
      exact ⟨by rw [r1.length]; exact of_decide_eq_true hl, fun p hp => Go.new q P1 Come.refl (New.lst hp r1)⟩
    · rw [if_neg hl] at q; exact q.elim
end
/-! ### x[::-1] -/
section
variable {prog : Program} {w : World} {A : Around} {E : Value → Shared → Prop} {s : Shared}
theorem fm_congr {α β : Type} {f g : α → Option β} : ∀ {l : List α}, (∀ k ∈ l, f k = g k) → l.filterMap f = l.filterMap g
  | [], _ => rfl
  | a :: l, h => by
    rw [List.filterMap_cons, List.filterMap_cons, h a (List.mem_cons_self ..), fm_congr fun k hk => h k (List.mem_cons_of_mem _ hk)]
theorem back_cells (its : List Value) : ((List.range its.length).filterMap fun (k : Nat) => its.toArray[((its.length : Int) - 1 + (k : Int) * (-1)).toNat]?) = its.reverse := by
  apply List.ext_getElem?
  intro i
  have e : ((List.range its.length).filterMap fun (k : Nat) => its.toArray[((its.length : Int) - 1 + (k : Int) * (-1)).toNat]?) = (List.range its.length).filterMap fun k => its.reverse[k]? := by
    refine fm_congr fun k hk => ?_
    have hk := List.mem_range.mp hk
    rw [List.getElem?_reverse hk, List.getElem?_toArray]
    congr 1
    omega
  rw [e]
  have e2 : ∀ (l : List Value), (List.range l.length).filterMap (fun k => l[k]?) = l := fun l => by
    induction l with
    | nil => rfl
    | cons a l ih => rw [List.length_cons, List.range_succ_eq_map, List.filterMap_cons, List.filterMap_map]; exact congrArg (a :: ·) ih
  have := e2 its.reverse
  rw [List.length_reverse] at this
  rw [this]
theorem back_adjust (n : Nat) : Builtin.Slice.sliceAdjust none none (-1) (n : Int) = ((n : Int) - 1, -1) := rfl
theorem back_places (n : Nat) : Builtin.Slice.slicePlaces ((n : Int) - 1) (-1) (-1) = n := by
  unfold Builtin.Slice.slicePlaces
  rw [if_neg (by omega)]
  split
  · simp
    try omega
  · simp
    try omega
theorem getItem_tuple_back {t sl : Addr} {its : List Value} {vl vu vs : Value} {Q : Value → Shared → Prop} (ht : IsTup s.heap t its.toArray) (hs : s.heap.IsSliceOf sl vl vu vs) (pl : IsPart vl none) (pu : IsPart vu none) (ps : IsPart vs (some (-1)))
    (h : Q (.ref s.heap.objs.size) { s with heap := s.heap.push { cls := .type "tuple", data := .seq its.reverse.toArray } }) (hsz : its.length ≤ sizeLine) : wpAny (model prog w) A (getItem (.ref t) (.ref sl)) Q E s := by
  have ok : sizeOk (.seq its.reverse.toArray) := by
    show its.reverse.toArray.size ≤ sizeLine
    rw [List.size_toArray, List.length_reverse]
    exact hsz
  obtain ⟨os, hos, hcs, hds⟩ := id hs
  have isSl : s.TypeIs (.ref sl) "slice" := ⟨os, hos, hcs⟩
  unfold getItem
  try with_reducible refine wpAny_holding ?_
  first | refine wpAny_bind (wpAny_pure ?_) | skip
  refine wpAny_bind (wpAny_sequenceKey ht.typeIs (by decide) ?_)
  refine wpAny_bind (wpAny_callSpecial?_slot (name := Str.ofString "__getitem__") ht.typeIs PyProof.Rows.slot_tuple_getitem
    (wpAny_call_entry PyProof.Rows.slot_tuple_getitem ht.typeIs entry_tuple_getitem ?_ (args_tuple_getitem _ _)))
  show wpAny _ _ (Builtin.Tuple.tupleItemsOf (.ref t) >>= _) _ _ s
  refine wpAny_bind (tupleItemsOf_ ht ?_)
  refine wpAny_bind (wpAny_typeOf isSl ?_)
  rw [if_pos (by decide)]
  have applied : ∀ {Q' : Int × Int × Nat → Shared → Prop}, Q' ((its.length : Int) - 1, -1, its.length) s → ∀ {E'}, wpAny (model prog w) A.in1 (Builtin.Slice.sliceApplied (.ref sl) (pure (its.toArray.size : Int))) Q' E' s := fun {Q'} q {E'} => by
    unfold Builtin.Slice.sliceApplied Builtin.Slice.sliceFields
    refine wpAny_bind (wpAny_bind (wpAny_field hos hds (x := vl) rfl (wpAny_bind (wpAny_field hos hds (x := vu) rfl (wpAny_bind (wpAny_field hos hds (x := vs) rfl (wpAny_pure ?_)))))))
    refine wpAny_bind (HT.slicePart_ ps ?_)
    show wpAny _ _ (if ((-1 : Int) == 0) = true then _ else _) _ _ s
    rw [if_neg (by decide)]
    refine wpAny_bind (HT.slicePart_ pl (wpAny_bind (HT.slicePart_ pu (wpAny_bind (wpAny_pure ?_)))))
    show wpAny _ _ (match Builtin.Slice.sliceAdjust none none (-1) (its.toArray.size : Int) with | (lo, hi) => pure (lo, (-1 : Int), Builtin.Slice.slicePlaces lo hi (-1))) _ _ s
    rw [List.size_toArray, back_adjust]
    show wpAny _ _ (pure ((its.length : Int) - 1, (-1 : Int), Builtin.Slice.slicePlaces ((its.length : Int) - 1) (-1) (-1))) _ _ s
    rw [back_places]
    exact wpAny_pure q
  refine wpAny_bind (applied ?_)
  have hno : ¬ (((its.length : Int) - 1 == 0 && (-1 : Int) == 1 && its.length == its.toArray.size) = true) := by
    intro q
    rw [Bool.and_eq_true, Bool.and_eq_true] at q
    exact absurd q.1.2 (by decide)
  show wpAny _ _ (if ((its.length : Int) - 1 == 0 && (-1 : Int) == 1 && its.length == its.toArray.size) = true then _ else _) _ _ s
  rw [if_neg hno, back_cells]
  first
    | exact wpAny_bind (m := Builtin.Tuple.tupleExact _) (wpAny_newObj_type (wpAny_pure ⟨_, rfl, wpAny_pure h⟩) ok)
    | exact wpAny_bind (m := Builtin.Tuple.tupleExact _) (wpAny_newObj_type (wpAny_bind (wpAny_pure (wpAny_pure ⟨_, rfl, wpAny_pure h⟩))) ok)
    | exact wpAny_bind (wpAny_bind (m := Builtin.Tuple.tupleExact _) (wpAny_newObj_type (wpAny_pure (wpAny_pure ⟨_, rfl, wpAny_pure h⟩)) ok))
    | exact wpAny_bind (wpAny_bind (m := Builtin.Tuple.tupleExact _) (wpAny_newObj_type (wpAny_pure ⟨_, rfl, wpAny_pure h⟩) ok))
end
end Z

set_option maxRecDepth 100000
set_option maxHeartbeats 4000000
namespace Z
open PySem PySem.Spec PyProof.Rows L2
/-! ### own exceptions whose __init__ says super().__init__(..) ahead of all else -/
/-- the scope of such a def -/
structure SupScope (N P : List Str) (sc : Scope) : Prop where
  kind : sc.kind = .function
  co : sc.isCoroutine = false
  gen : sc.isGenerator = false
  nd : N.Nodup
  pre : N.take P.length = P
  par : ∀ x ∈ P, sc.names.lookup x = some .local
  nocell : ∀ y ∈ sc.names, y.2 ≠ .cell
  free : ∀ y ∈ sc.names, y.2 = .free → y.1 = "__class__"
/-- the context of its body -/
def cxS (CX : CXT) (P : Program) (w : World) (K : PySem.W.Frag) (mg : Str → Option Value) (base : Heap) (N : List Str) (qual : Str) (scope : Scope) (f : Addr) (cd : Value) (cc : Addr) (A : Around) (outer : List Env) (s : Shared) (H : Hp) (E : XK) : Cx where
  prog := P
  w := w
  K := K
  mg := mg
  base := base
  A := A.deeper (PySem.W.ksEnv qual scope s.heap.objs.size f cd cc)
  N := N
  s_0 := s
  H_0 := H
  env := PySem.W.ksEnv qual scope s.heap.objs.size f cd cc
  outer := outer
  stack := PySem.W.ksEnv qual scope s.heap.objs.size f cd cc :: outer
  ex := []
  calm := true
  fn := fun _ => false
  pn := []
  xe := fun e s' => wpAny (model P w) (A.deeper (PySem.W.ksEnv qual scope s.heap.objs.size f cd cc)) (leaving (PySem.W.ksEnv qual scope s.heap.objs.size f cd cc) e) (fun _ s'' => CX outer H s E e s'') (fun e' s'' => CX outer H s E e' s'') s'
section
variable {CX : CXT} {P : Program} {w : World} {K : PySem.W.Frag} {mg : Str → Option Value} {base : Heap} {N ps : List Str} {qual : Str} {scope : Scope} {f cc D : Addr} {cd : Value} {A : Around} {outer : List Env} {s : Shared} {H : Hp} {E : XK} {us : List Value} {vs : List V} {h₁ : Heap} {tk : Nat}
theorem lookup_zip_rev {m : Nat} {x : Str} {u : Value} (nd : ps.Nodup) (hx : ps[m]? = some x) (hu : us[m]? = some u) : (ps.zip us).reverse.lookup x = some u := by
  have hm : (ps.zip us)[m]? = some (x, u) := List.getElem?_zip_eq_some.mpr ⟨hx, hu⟩
  have mem : (x, u) ∈ (ps.zip us).reverse := List.mem_reverse.mpr (List.mem_of_getElem? hm)
  have uniq : ∀ {l : List (Str × Value)}, (x, u) ∈ l → (∀ v, (x, v) ∈ l → v = u) → l.lookup x = some u := by
    intro l
    induction l with
    | nil => intro h _; cases h
    | cons p l ih =>
      intro h k
      obtain ⟨y, v⟩ := p
      by_cases e : x = y
      · subst e
        have := k v (List.mem_cons_self ..)
        subst this
        simp [List.lookup_cons]
      · have e' : (x == y) = false := beq_eq_false_iff_ne.mpr e
        rw [List.lookup_cons, e']
        refine ih ?_ fun v' hv => k v' (List.mem_cons_of_mem _ hv)
        rcases List.mem_cons.mp h with h | h
        · cases h; exact absurd rfl e
        · exact h
  refine uniq mem fun v hv => ?_
  have hv := List.mem_reverse.mp hv
  obtain ⟨j, hj⟩ := List.getElem?_of_mem hv
  obtain ⟨h1, h2⟩ := List.getElem?_zip_eq_some.mp hj
  have : j = m := mem_nodup_ix nd h1 hx
  subst this
  rw [hu] at h2
  cases h2
  rfl
theorem inv_startS (S : SupScope N ps scope) (hd : A.handled = none) (e0 : Env0 P w K mg base A outer s H) (hl : vs.length = ps.length) (r : Vals vs us) (hcc : base.get? cc = some ⟨cls, dd, .cell (some (.ref D)), sl⟩)
    (hns : h₁.Ns s.heap.objs.size fun y => (ps.zip us).reverse.lookup y) (kp : ∀ b o, s.heap.get? b = some o → h₁.get? b = some o) :
    Inv (cxS CX P w K mg base N qual scope f cd cc A outer s H E) [] (L2.start N vs) H { s with heap := h₁, toks := tk } := by
  have ndp : ps.Nodup := by rw [← S.pre]; exact S.nd.sublist (List.take_sublist _ _)
  have hpl : ps.length ≤ N.length := by have := congrArg List.length S.pre; rw [List.length_take] at this; omega
  have noA : ∀ b : Addr, b ∉ (cxS CX P w K mg base N qual scope f cd cc A outer s H E).ex := fun b z => absurd (show b ∈ ([] : List Addr) from z) (by simp)
  have one : ∀ {y c}, ([("__class__", cc)] : List (Str × Addr)).lookup y = some c → y = "__class__" ∧ c = cc := fun {y c} e => by
    rw [List.lookup_cons] at e
    split at e
    · rename_i q; cases e; exact ⟨eq_of_beq q, rfl⟩
    · cases e
  have ats := (e0.bs cc _ hcc)
  refine ⟨⟨e0.mod, S.kind, rfl, rfl, Nat.le_refl _, fun y z c h1 h2 => ?_, fun y hy => ?_, fun y c h _ => absurd h Bool.false_ne_true, fun _ => hd, Around.frames_deeper e0.frames, .inr ⟨rfl, rfl⟩, fun b z => absurd z (noA b), e0.bs, e0.bsz, fun b _ _ => noA b, fun b z => absurd z (noA b), e0.funs, e0.frf⟩,
    rfl, e0.bare, Un.kept kp, ⟨_, hns, fun i y v h1 h2 h3 => ?_⟩, fun y c h => ?_, e0.hok.fresh (Nat.le_refl _), fun y c h => ?_, fun p hp => absurd (show p ∈ ([] : List (Addr × Obj)) from hp) (by simp), e0.hok.kept kp, ?_⟩
  · rw [(one h1).1, (one h2).1]
  · have hy : scope.names.lookup y = some .cell ∨ scope.names.lookup y = some .free := hy
    rcases hy with hy | hy
    · exact absurd rfl (S.nocell _ (PySem.mem_of_lookup hy))
    · have := S.free _ (PySem.mem_of_lookup hy) rfl
      have this : y = "__class__" := this
      subst this
      exact ⟨cc, rfl⟩
  · have hi : i < vs.length := by
      unfold L2.start at h2
      rcases Nat.lt_or_ge i vs.length with hi | hi
      · exact hi
      · rw [List.getElem?_append_right (by simpa using hi), List.getElem?_replicate] at h2
        split at h2 <;> cases h2
    have ha : vs[i]? = some v := by
      unfold L2.start at h2
      rw [List.getElem?_append_left (by simpa using hi), List.getElem?_map] at h2
      cases e : vs[i]? with
      | none => rw [e] at h2; cases h2
      | some a => rw [e] at h2; cases h2; rfl
    obtain ⟨u, hu, rv⟩ := r.get ha
    have hp : ps[i]? = some y := by
      rw [← S.pre, List.getElem?_take_of_lt (by omega)]; exact h1
    refine ⟨u, rv, .inl ⟨S.par y (List.mem_of_getElem? hp), ?_⟩⟩
    exact lookup_zip_rev ndp hp hu
  · obtain ⟨rfl, rfl⟩ := one h
    exact ⟨_, _, kp _ _ ats.1, rfl⟩
  · obtain ⟨rfl, rfl⟩ := one h
    exact ats.2
  · unfold L2.start
    rw [List.length_append, List.length_map, List.length_replicate]
    show vs.length + (N.length - vs.length) = N.length
    omega
end
end Z

set_option maxRecDepth 100000
set_option maxHeartbeats 4000000
namespace Z
open PySem PySem.Spec PyProof.Rows L2
/-- what a def of such a kind promises -/
def spS (K : PySem.W.Frag) (N ps : List Str) (C : Addr) (ta : TA) (t : TS) : Sp := fun vs H Q _ => vs.length = ps.length ∧ ∃ a ws, vs = .ref a :: ws ∧ H a = some (exo a C none) ∧ (∀ H', ta (L2.start N vs) H' fun as H'' => as.length ≤ 1000 ∧ H'' = H') ∧
  ∀ H', (∀ b o, H b = some o → H' b = some o) → t { nx := fun _ H'' => Q .non H'', rt := Q } (L2.start N vs) H'
theorem sup_ok {CX : CXT} {P : Program} {w : World} {K : PySem.W.Frag} {mg : Str → Option Value} {base : Heap} {N ps : List Str} {name qual : Str} {params : Arguments} {scope : Scope} {dV kV doc pm ct oc ccl cls : Value} {an od cdd dd : Option Addr} {osl ccs sl : Array (Option Value)} {f cc cda C : Addr} {k : Nat}
    {e1 : Expr} {es : List Expr} {rest : List Stmt} {p0 p1 p2 p3 p4 : Pos} {ta : TA} {t : TS} {fvs : Array Value} {file : Str} {tf : Tok} {ar : Arg} {cdC : ClassData} {self : Str}
    (T : OexC K C)
    (lk : K.lookup f = some ⟨oc, od, .func (PySem.W.ksFn name qual params (.Expr (.Call (.Attribute (.Call (.Name "super" p0) [] [] p1) "__init__" p2) (e1 :: es) [] p3) p4 :: rest) scope dV kV doc pm an (.ref cda) ct cc), osl⟩)
    (hcd : PySem.W.codeIn K (.ref cda) qual = true) (hcode : K.lookup cda = some ⟨ccl, cdd, .fields fvs, ccs⟩) (hvs : fvs[2]? = some (.str file tf)) (hfile : ((P.main.file : Str) == file) = true)
    (hcell : K.lookup cc = some ⟨cls, dd, .cell (some (.ref C)), sl⟩) (hD : PySem.W.clsIn K C = some cdC) (hsub : PySem.W.mroIn K C (.ref C) = some true)
    (hsup : PySem.W.ks_superIn K C C "__init__" = some (some (.builtin "ValueError.__init__"))) (hB : PySem.W.subIn K (.ref C) (.type "ValueError") = some true) (ho : PySem.W.nsIn K cStatics "thirdparty.any" = some none)
    (hmS : mg "super" = none) (htop : (P.main.scope.names.lookup ("super" : Str)).isSome = false) (hks : scope.names.lookup ("super" : Str) = some .globalImplicit) (hkc : scope.names.lookup ("__class__" : Str) = some .free)
    (hp : (params.posonlyargs ++ params.args).head? = some ar) (har : ar.arg = self) (hps : ps.head? = some self) (S : SupScope N ps scope)
    (hargs : ∀ A outer s H E, PA (cxS CX P w K mg base N qual scope f (.ref cda) cc A outer s H E) (e1 :: es) ta)
    (hrest : ∀ A outer s H E, PSs (cxS CX P w K mg base N qual scope f (.ref cda) cc A outer s H E) rest t)
    (he : ∀ env, starEach (e1 :: es) env = (false, eval e1 env) :: starEach es env) (hpl : ∀ env, (backTo p3 (starEach es env)).any (·.1) = false)
    (pl : Env → Sem Bool) (hmc : ∀ env, eval (.Call (.Attribute (.Call (.Name "super" p0) [] [] p1) "__init__" p2) (e1 :: es) [] p3) env = (do
      let ov ← attributeBase (.Call (.Name "super" p0) [] [] p1) "__init__" env (eval (.Call (.Name "super" p0) [] [] p1) env)
      standAt p2.atName
      let (f, first) ← holding [ov] (getMethod ov "__init__" (pl env))
      callWith p3 f first (backTo p3 (starEach (e1 :: es) env)) []))
    (hsw : ∀ env, swapsWith (.Call (.Attribute (.Call (.Name "super" p0) [] [] p1) "__init__" p2) (e1 :: es) [] p3) none p4.line env = pure false) :
    FnOk P w K mg base CX (k + 1) f (PySem.W.ksFn name qual params (.Expr (.Call (.Attribute (.Call (.Name "super" p0) [] [] p1) "__init__" p2) (e1 :: es) [] p3) p4 :: rest) scope dV kV doc pm an (.ref cda) ct cc) ps (spS K N ps C ta t) := by
  refine ⟨fun vs H Q E h => h.1, fun A outer s H args us vs Q E hr e0 hb r h => ?_⟩
  obtain ⟨hl, a, ws, ev, ea, hta, ht⟩ := h
  have KX : K.In s.heap := e0.mod.kin.keeps fun b o e => (e0.bs b o e).1
  have lim : s.heap.NoLimit := e0.mod.nolimit.keeps fun b o e => (e0.bs b o e).1
  have hloc : ∀ y ∈ ps.zip us, scope.names.lookup y.1 = some .local := fun ⟨n, v⟩ hy => S.par n (List.of_mem_zip hy).1
  refine ks_codeAny_call_defAt hr.depth (KX _ _ lk) rfl lim (PySem.W.codeRec_of KX hcd) rfl hb S.nocell hloc (fun h₁ hns kp => ?_) S.co S.gen S.kind
  have I : Inv (cxS CX P w K mg base N qual scope f (.ref cda) cc A outer s H E) [] (L2.start N vs) H { s with heap := h₁, toks := s.toks + (ps.zip us).length } := inv_startS S hr.hd e0 hl r (e0.mod.kin _ _ hcell) hns kp
  refine ks_wpAt_execs_cons (ks_wpAt_Expr_any (ks_wpAt_MethodCall (ks_wpAt_super_base hks hkc rfl rfl (I.kIn _ _ lk) rfl hp rfl (I.kIn _ _ hcode) rfl hvs hfile htop ?_) (hmc _)) (by show (scope.kind == ScopeKind.module && _) = false; rw [S.kind]; rfl) (hsw _))
  obtain ⟨mb, g1, g2⟩ := e0.mod.blt
  have ndp : ps.Nodup := by rw [← S.pre]; exact S.nd.sublist (List.take_sublist _ _)
  subst ev
  obtain ⟨u0, us', rfl, ru, rus⟩ : ∃ u0 us', us = u0 :: us' ∧ RelV (.ref a) u0 ∧ Vals ws us' := by
    cases r with
    | cons r rs => exact ⟨_, _, rfl, r, rs⟩
  obtain rfl : u0 = Value.ref a := ru
  obtain ⟨ps', rfl⟩ : ∃ ps', ps = self :: ps' := by
    cases ps with
    | nil => cases hps
    | cons x xs => cases hps; exact ⟨xs, rfl⟩
  obtain ⟨oD, hD1, hD2⟩ : ∃ oD, h₁.get? C = some oD ∧ oD.data = .cls cdC := by
    unfold PySem.W.clsIn at hD
    split at hD
    · rename_i c d cd' sl ho
      cases hD
      exact ⟨_, I.kIn _ _ ho, rfl⟩
    · cases hD
  obtain ⟨t1, hx⟩ := exo_at I.hok ea
  refine PySem.W.ks_loadName_global S.kind hks (Calls.loadGlobal_builtin (e0.mod.glob.keeps I.bk) hmS (g1.keeps I.bk) ((g2 "super" (by decide)).trans PyProof.Rows.Boot.«super») ⟨rfl, ?_⟩)
  refine wpAny_loadName_free S.kind hkc rfl ⟨_, I.kIn _ _ hcell, rfl⟩ ?_
  refine wpAny_loadName_local S.kind (by rw [har]; exact S.par self (List.mem_cons_self ..)) hns (v := .ref a) ?_ ?_
  · rw [har]
    exact lookup_zip_rev (m := 0) ndp rfl rfl
  refine ks_wpAny_isType_cls hD1 hD2 ⟨rfl, ?_⟩
  refine ks_wpAny_call_super hD1 hD2 hx rfl (fun c e => nomatch e) (PySem.W.looks_mroIn I.kIn hsub) (fun h2 hso k2 => ?_)
  have I2 : Inv (cxS CX P w K mg base N qual scope f (.ref cda) cc A outer s H E) [] (L2.start N (V.ref a :: ws)) H { s with heap := h2, toks := s.toks + ((self :: ps').zip (Value.ref a :: us')).length } := I.kept (t' := _) k2
  obtain ⟨t2, hx2⟩ := exo_at I2.hok ea
  have inst : PySem.W.InstAt h2 a (PySem.W.excObj C t2 none .none) C none := ⟨hx2, rfl, rfl, trivial⟩
  have hsup' : PySem.W.alongIn K "__init__" ((cdC.mro.dropWhile (· != .ref C)).drop 1) = some (some (.builtin "ValueError.__init__")) := by
    unfold PySem.W.ks_superIn at hsup
    rw [hD] at hsup
    exact hsup
  refine PySem.W.kxs_getMethod PySem.W.kxs_ValueError hso (PySem.W.looks_opaque I2.kIn ho) (l₀ := cdC.mro) (fun A Q E s k q => wpAny_bind ((PySem.W.looks_clsIn I2.kIn hD) A _ E s k (wpAny_pure q))) rfl I2.kIn hsup' (inst.type.andThen (PySem.W.looks_subIn I2.kIn hB)) (PySem.W.ks_ne I2.kIn inst hD) rfl ?_
  have at0 : (h2.push (PySem.W.kxs_mw "ValueError.__init__" a)).get? h2.objs.size = some (PySem.W.kxs_mw "ValueError.__init__" a) := Heap.get?_push_size _ rfl
  obtain ⟨uO, huO⟩ : ∃ uO : HO, uO = HO.ext fun h => h.get? h2.objs.size = some (PySem.W.kxs_mw "ValueError.__init__" a) := ⟨_, rfl⟩
  have I3 : Inv (cxS CX P w K mg base N qual scope f (.ref cda) cc A outer s H E) [] (L2.start N (V.ref a :: ws)) (upd H h2.objs.size uO) { s with heap := h2.push (PySem.W.kxs_mw "ValueError.__init__" a), toks := s.toks + ((self :: ps').zip (Value.ref a :: us')).length + 1 } := by
    refine I2.laid (fun b u e => Heap.get?_push_of_some _ e) (Nat.le_refl _) ?_
    rw [huO]
    exact ⟨at0, ⟨_, at0⟩, fun h1 h2 e k => k _ e⟩
  have fresh : H h2.objs.size = none := I2.hok.fresh (Nat.le_refl _)
  show wpAny _ _ (callWith p3 (.ref h2.objs.size) [] (backTo p3 (starEach (e1 :: es) (PySem.W.ksEnv qual scope s.heap.objs.size f (.ref cda) cc))) []) _ _ _
  have key := (hargs A outer s H E).run p3 [] _ _ _ (fun as H'' => as.length ≤ 1000 ∧ H'' = upd H h2.objs.size uO) I3 (hta _)
  have hpl' := hpl (PySem.W.ksEnv qual scope s.heap.objs.size f (.ref cda) cc)
  have he' := he (PySem.W.ksEnv qual scope s.heap.objs.size f (.ref cda) cc)
  have key : wpAny (model P w) (A.deeper (PySem.W.ksEnv qual scope s.heap.objs.size f (.ref cda) cc)) (spliced (backTo p3 (starEach (e1 :: es) (PySem.W.ksEnv qual scope s.heap.objs.size f (.ref cda) cc)))) _ _ _ := key
  rw [he'] at key ⊢
  refine PySem.W.kxs_callWith (i := "ValueError.__init__") (x := a) (by show (false || (backTo p3 (starEach es _)).any (·.1)) = false; rw [hpl']; rfl) (Calls.evalArgs_plain (wpAny_mono key (fun us1 s1 hk => ?_) fun e s' h => h))
  obtain ⟨as, H1, I4, rv, hn, rfl⟩ := hk
  have hu : s1.heap.get? h2.objs.size = some (PySem.W.kxs_mw "ValueError.__init__" a) := by
    have := I4.hok h2.objs.size uO upd_same
    rw [huO] at this
    exact this.1
  have ne : a ≠ h2.objs.size := fun z => by rw [← z, ea] at fresh; cases fresh
  have ea4 : upd H h2.objs.size uO a = some (exo a C none) := by rw [upd_ne ne]; exact ea
  refine ⟨hu, ?_⟩
  obtain ⟨nm, q, Nn, bs, bm, sn, sub, ab, col, dd', k0, k1, k2', k3, k5, hC, hbm⟩ := T.cls
  obtain ⟨t4, hx4⟩ := exo_at I4.hok ea4
  have hz : us1.length ≤ sizeLine := by
    rw [← rv.length, sizeLine_eq]
    omega
  obtain ⟨hp1, g4, d4, tk4, os4⟩ := s1
  show wpAny _ _ (call (.ref h2.objs.size) us1) _ _ _
  refine wpAny_call (codeAny_of_tree ?_)
  show wpAny _ _ (callAny (.ref h2.objs.size) ⟨us1, []⟩) _ _ _
  simp only [callAny]
  refine wpAny_bind (wpAny_load hu ?_)
  simp only [PySem.W.kxs_mw, show (Value.type "method-wrapper" == Value.type "method" || Value.type "method-wrapper" == Value.type "builtin_function_or_method" || Value.type "method-wrapper" == Value.type "method-wrapper") = true by decide, if_true]
  refine PySem.W.KFB.if_so (by decide) ?_
  refine wpAny_bind (PySem.W.check_bound_init F.excBase_ValueError.toExcCallFacts (I4.kIn _ _ hC) hx4 rfl ?_)
  refine wpAny_bind (wpAny_pure (wpAny_pure ?_))
  refine ⟨plainId_quiet F.excBase_ValueError.init.plain _, codeAny_builtin F.excBase_ValueError.initEntry ?_⟩
  refine PySem.W.exc_init_tree (cls := .ref C) (t0 := t4) (dv := none) (c2 := .none) (c3 := .none) (b4 := .bool false) hx4 hz fun h5 k5' hx5 _ => ?_
  have J := I4.write (t' := tk4) (h' := h5) (x := a) (e := a) (o := exo a C none) (by rw [ea4]; exact True.intro) (.inl rfl) k5' ⟨_, hx5⟩ (exo_ok hx5)
  have eu : upd (upd H h2.objs.size uO) a (exo a C none) = upd H h2.objs.size uO := by
    funext b
    by_cases hb : b = a
    · rw [hb, upd_same, ea4]
    · rw [upd_ne hb]
  rw [eu] at J
  have fin := (hrest A outer s H E).run [] _ _ _ _ J (ht _ (upd_grow fresh))
  refine wpAt_of_wpAny (wpAny_mono fin (fun fl s' hs => ?_) fun e s' h => h)
  have done : ∀ {σ' : L2.St} {H' : Hp} {v : V} {u : Value}, Inv (cxS CX P w K mg base N qual scope f (.ref cda) cc A outer s H E) [] σ' H' s' → L2.RelV v u → Q v H' → CE outer P w H s Q u s' :=
    fun {σ' H' v u} J rv q => ⟨v, H', J.os, J.bare, J.base, J.hok, rv, q⟩
  cases fl with
  | ret u =>
    obtain ⟨v, σ', H', J, rv, q⟩ := hs
    exact done J rv q
  | next =>
    obtain ⟨σ', H', J, q⟩ := hs
    exact done (v := V.non) (u := Value.none) J rfl q
  | brk =>
    obtain ⟨_, _, _, q⟩ := hs
    exact q.elim
  | cont =>
    obtain ⟨_, _, _, q⟩ := hs
    exact q.elim
end Z

set_option maxRecDepth 100000
set_option maxHeartbeats 4000000
namespace Z
open PySem PySem.Spec PyProof.Rows L2
/-! ### the two kinds of own exceptions: one field, two fields; raise -/
def tSt (K : PySem.W.Frag) (f : Str) (i : Nat) : TS := tOst K f (tVar 0) (tVar i)
def ta1 : TA := tCons (tVar 1) tNil
def ta2 : TA := tCons (tVar 1) (tCons (tVar 2) tNil)
def ts1 (K : PySem.W.Frag) (f : Str) : TS := tSt K f 1
def ts2 (K : PySem.W.Frag) (f g : Str) : TS := tSeq (tSt K f 1) (tSt K g 2)
abbrev sp1 (K : PySem.W.Frag) (C : Addr) (f : Str) (N : List Str) : Sp := spS K N N C ta1 (ts1 K f)
abbrev sp2 (K : PySem.W.Frag) (C : Addr) (f g : Str) (N : List Str) : Sp := spS K N N C ta2 (ts2 K f g)
section
variable {K : PySem.W.Frag} {C : Addr} {f g : Str} {N : List Str} {H : Hp} {v w : V} {Q : VK} {E : XK}
theorem exo_ne {a C d : Addr} {o : Option Addr} {fs : List (Str × V)} (h : H a = none) (h' : H d = some (.ext fun _ => True)) : a ≠ d := fun z => by rw [z, h'] at h; cases h
theorem sp1_of (T : OexC K C) (hN : N.length = 2) (hf : PySem.W.findIn K (.ref C) f = some none) {a : Addr} (ha : H a = none)
    (q : ∀ H' d, (∀ b o, H b = some o → H' b = some o) → d ≠ a → H d = none → H' a = some (exo a C (some d)) → H' d = some (exd d [(f, v)]) → Q .non H') : sp1 K C f N [.ref a, v] (upd H a (exo a C none)) Q E := by
  refine ⟨by rw [hN]; rfl, a, [v], rfl, upd_same, fun H' => ⟨v, rfl, by simp, rfl⟩, fun H' g => ?_⟩
  refine ⟨v, rfl, .ref a, rfl, a, C, rfl, T, hf, .inl ⟨g _ _ upd_same, fun d hd ne => ?_⟩⟩
  have gr : ∀ b o, H b = some o → (upd (upd H' d (exd d [(f, v)])) a (exo a C (some d))) b = some o := fun b o e => by
    have hb : b ≠ a := fun z => by rw [z, ha] at e; cases e
    have eb := g b o (by rw [upd_ne hb]; exact e)
    rw [upd_ne hb, upd_ne (fun z => by rw [z, hd] at eb; cases eb)]
    exact eb
  refine q _ d gr ne ?_ upd_same (by rw [upd_ne ne]; exact upd_same)
  cases e : H d with
  | none => rfl
  | some o => have := g d o (by rw [upd_ne ne]; exact e); rw [hd] at this; cases this
theorem sp2_of (T : OexC K C) (hN : N.length = 3) (hf : PySem.W.findIn K (.ref C) f = some none) (hg : PySem.W.findIn K (.ref C) g = some none) {a : Addr} (ha : H a = none)
    (q : ∀ H' d, (∀ b o, H b = some o → H' b = some o) → d ≠ a → H d = none → H' a = some (exo a C (some d)) → H' d = some (exd d [(g, w), (f, v)]) → Q .non H') : sp2 K C f g N [.ref a, v, w] (upd H a (exo a C none)) Q E := by
  refine ⟨by rw [hN]; rfl, a, [v, w], rfl, upd_same, fun H' => ⟨v, rfl, w, rfl, by simp, rfl⟩, fun H' k => ?_⟩
  refine ⟨v, rfl, .ref a, rfl, a, C, rfl, T, hf, .inl ⟨k _ _ upd_same, fun d hd ne => ?_⟩⟩
  have ea : (upd (upd H' d (exd d [(f, v)])) a (exo a C (some d))) d = some (exd d [(f, v)]) := by rw [upd_ne ne]; exact upd_same
  refine ⟨w, rfl, .ref a, rfl, a, C, rfl, T, hg, .inr ⟨d, [(f, v)], upd_same, ea, by simp, ?_⟩⟩
  have gr : ∀ b o, H b = some o → (upd (upd (upd H' d (exd d [(f, v)])) a (exo a C (some d))) d (exd d [(g, w), (f, v)])) b = some o := fun b o e => by
    have hb : b ≠ a := fun z => by rw [z, ha] at e; cases e
    have eb := k b o (by rw [upd_ne hb]; exact e)
    have hbd : b ≠ d := fun z => by rw [z, hd] at eb; cases eb
    rw [upd_ne hbd, upd_ne hb, upd_ne hbd]
    exact eb
  refine q _ d gr ne ?_ (by rw [upd_ne (Ne.symm ne)]; exact upd_same) upd_same
  cases e : H d with
  | none => rfl
  | some o => have := k d o (by rw [upd_ne ne]; exact e); rw [hd] at this; cases this
end
theorem zip_back {α β : Type} : ∀ {l : List α} {m : List β}, l.length = m.length → l.reverse.zip m.reverse = (l.zip m).reverse
  | [], [], _ => rfl
  | a :: l, b :: m, h => by
    have h : l.length = m.length := by simpa using h
    rw [List.reverse_cons, List.reverse_cons, List.zip_append (by simpa using h), zip_back h]
    simp
def sRaise (c : Str) (fl : List Str) (fs : List SE) : SS := fun s => (its fs s).flow fun ds s => if ds.length = fl.length then .ex ⟨c, (fl.zip ds).reverse⟩ s else .no
section
variable {X : Cx} {W : WX} {σ : L2.St} {H : Hp}
theorem coreRaise {c : Str} {fl : List Str} {fs : List SE} {D : Ends} (h : tzS X.K X.mg W (sRaise c fl fs) D σ H) : tzL X.K X.mg W (its fs) σ H fun vs H1 => vs.length = fl.length ∧ ∀ C d H', X.mg c = some (.ref C) → (∀ a o, H1 a = some o → H' a = some o) → H1 d = none → H' d = some (.xd (fl.zip vs).reverse) → fl ≠ [] → W (.ref C) (some d) σ H' := by
  obtain ⟨ρ, E, st, R, q⟩ := h
  refine ⟨ρ, E, st, R, ?_⟩
  have q : GoS X.K X.mg W D ρ E st σ H (sRaise c fl fs st) := q
  unfold sRaise at q
  cases e1 : its fs st with
  | no => rw [e1] at q; exact q
  | ex x s => rw [e1] at q; exact GoS.exs (D := D) q (.refl R) Come.refl
  | ok ds s =>
    rw [e1] at q
    have q : GoS X.K X.mg W D ρ E st σ H (if ds.length = fl.length then .ex ⟨c, (fl.zip ds).reverse⟩ s else .no) := q
    intro vs ρ1 E1 H1 P1 r1
    obtain ⟨k, al⟩ := r1
    subst k
    by_cases hl : ds.length = fl.length
    · rw [if_pos hl] at q
      refine ⟨by rw [al.length, hl], fun C d H' hm gr hd ed hne => ?_⟩
      have off : d ∉ avd ρ1 E1 s σ := fun z => by
        obtain ⟨o, e, _⟩ := P1.rel.dom d z
        rw [hd] at e; cases e
      refine q (.ref C) (some d) ρ1 E1 σ H' (List.Sublist.refl _) ⟨P1.rel.grow gr, P1.pre, fun a o n e => gr a o (P1.fr a o n e), P1.mu⟩ ⟨C, hm, rfl, .inr ⟨d, vs.reverse, rfl, ?_, off, ?_⟩⟩
      · have e : ((fl.zip ds).reverse.map (·.1)).zip vs.reverse = (fl.zip vs).reverse := by
          rw [List.map_reverse, List.map_fst_zip (by omega)]
          rw [zip_back (by rw [al.length, hl])]
        rw [show (({ c := c, fs := (fl.zip ds).reverse } : Ex).fs.map (·.1)).zip vs.reverse = (fl.zip vs).reverse from e]
        exact ed
      · have e : ((fl.zip ds).reverse.map (·.2)) = ds.reverse := by rw [List.map_reverse, List.map_snd_zip (by omega)]
        rw [show (({ c := c, fs := (fl.zip ds).reverse } : Ex).fs.map (·.2)) = ds.reverse from e]
        exact (al.frame (fun a o _ e => gr a o e) fun a h => .inl h).reverse
    · rw [if_neg hl] at q; exact q.elim
theorem del_keep {H' : Hp} {a b : Addr} (h : b ≠ a) : L2.del H' a b = H' b := del_ne h
theorem zs_raise1 {x f : Str} {N ps : List Str} {C fI : Addr} {k : Nat} {fd : FuncData} {e : Expr} {fs : List SE} {p pos pos2 : Pos} (hc : X.calm = true) (tk : Takes X W) (T : OexC X.K C) (iC : PySem.W.findIn X.K (.ref C) "__init__" = some (some (.ref fI))) (tI : PySem.W.typeIn X.K (.ref fI) = some (.type "function"))
    (F1 : FnOk X.prog X.w X.K X.mg X.base (L2.CX X.prog X.w) k fI fd N (sp1 X.K C f N)) (hN : N.length = 2) (hf : PySem.W.findIn X.K (.ref C) f = some none) (hr : Room (k + 1) X.A) (hb : Binds X.K fd N []) (hg : Gl X x) (hm : X.mg x = some (.ref C)) (ha : ZIs X W [e] fs)
    (hdb : (x == ("__debug__" : Str)) = false := by decide) (he : starEach [e] X.env = (false, eval e X.env) :: starEach [] X.env := by rfl) (hpl : (backTo pos (starEach [] X.env)).any (·.1) = false := by rfl) : ZS X W (.Raise (some (.Call (.Name x p) [e] [] pos)) none pos2) (sRaise x [f] fs) := by
  have px : Passes (L2.CX X.prog X.w) X (fun _ _ _ => False) := passes_call (tk.imp fun _ _ _ _ z => z.elim) fun _ _ _ _ z => z
  refine PS.mono (ps_raise hc tk (pmk_oex T iC tI F1 hr hb .nil px hg hm ha hdb he hpl)) fun D σ H h => ?_
  refine tzE.mono (coreRaise h) fun vs H1 ⟨len, q⟩ => ?_
  obtain ⟨v, rfl⟩ : ∃ v, vs = [v] := by
    match vs, len with
    | [v], _ => exact ⟨v, rfl⟩
  refine ⟨by simp, fun a ha => ?_⟩
  refine sp1_of T hN hf ha fun H' d gr ne hd ea ed => ⟨rfl, d, [(f, v)], ea, ed, hd, q C d _ hm (fun b o e => ?_) hd upd_same (by simp)⟩
  have hb : b ≠ a := fun z => by rw [z, ha] at e; cases e
  have hbd : b ≠ d := fun z => by rw [z, hd] at e; cases e
  rw [upd_ne hbd, del_keep hb]
  exact gr b o e
theorem zs_raise2 {x f g : Str} {N ps : List Str} {C fI : Addr} {k : Nat} {fd : FuncData} {e e' : Expr} {fs : List SE} {p pos pos2 : Pos} (hc : X.calm = true) (tk : Takes X W) (T : OexC X.K C) (iC : PySem.W.findIn X.K (.ref C) "__init__" = some (some (.ref fI))) (tI : PySem.W.typeIn X.K (.ref fI) = some (.type "function"))
    (F1 : FnOk X.prog X.w X.K X.mg X.base (L2.CX X.prog X.w) k fI fd N (sp2 X.K C f g N)) (hN : N.length = 3) (hf : PySem.W.findIn X.K (.ref C) f = some none) (hf2 : PySem.W.findIn X.K (.ref C) g = some none) (hr : Room (k + 1) X.A) (hb : Binds X.K fd N []) (hg : Gl X x) (hm : X.mg x = some (.ref C)) (ha : ZIs X W [e, e'] fs)
    (hdb : (x == ("__debug__" : Str)) = false := by decide) (he : starEach [e, e'] X.env = (false, eval e X.env) :: starEach [e'] X.env := by rfl) (hpl : (backTo pos (starEach [e'] X.env)).any (·.1) = false := by rfl) : ZS X W (.Raise (some (.Call (.Name x p) [e, e'] [] pos)) none pos2) (sRaise x [f, g] fs) := by
  have px : Passes (L2.CX X.prog X.w) X (fun _ _ _ => False) := passes_call (tk.imp fun _ _ _ _ z => z.elim) fun _ _ _ _ z => z
  refine PS.mono (ps_raise hc tk (pmk_oex T iC tI F1 hr hb .nil px hg hm ha hdb he hpl)) fun D σ H h => ?_
  refine tzE.mono (coreRaise h) fun vs H1 ⟨len, q⟩ => ?_
  obtain ⟨v, w, rfl⟩ : ∃ v w, vs = [v, w] := by
    match vs, len with
    | [v, w], _ => exact ⟨v, w, rfl⟩
  refine ⟨by simp, fun a ha => ?_⟩
  refine sp2_of T hN hf hf2 ha fun H' d gr ne hd ea ed => ⟨rfl, d, [(g, w), (f, v)], ea, ed, hd, q C d _ hm (fun b o e => ?_) hd upd_same (by simp)⟩
  have hb : b ≠ a := fun z => by rw [z, ha] at e; cases e
  have hbd : b ≠ d := fun z => by rw [z, hd] at e; cases e
  rw [upd_ne hbd, del_keep hb]
  exact gr b o e
end
end Z

set_option maxRecDepth 100000
set_option maxHeartbeats 4000000
namespace Z
open PySem PySem.Spec PyProof.Rows L2
/-! ### try with several clauses, each with a name or without -/
abbrev T3 := Addr → Value → Option Addr → TS
/-- the ends of a clause's suite: its name goes -/
def endsOf (i : Option Nat) (D : Ends) : Ends := match i with
  | none => D
  | some i => { nx := fun σ H => D.nx (σ.set i none) H, rt := D.rt, bk := fun σ H => D.bk (σ.set i none) H, ct := fun σ H => D.ct (σ.set i none) H }
def slotOf (i : Option Nat) (a : Addr) (σ : L2.St) : L2.St := match i with
  | none => σ
  | some i => σ.set i (some (.ref a))
def wCl (K : PySem.W.Frag) (Wout : WX) (D : Ends) : List (Value × Option Nat × T3) → WX
  | [] => Wout
  | (c, i, ts) :: r => fun cls d σ H => ∃ b, PySem.W.exmOne K cls c = some b ∧ (b = true → ∀ a, H a = none → ts a cls d (endsOf i D) (slotOf i a σ) H) ∧ (b = false → wCl K Wout D r cls d σ H)
/-- the clauses as they are written -/
inductive Clauses (X : Cx) : List ExceptHandler → List (Value × Option Nat × T3) → Prop
  | nil : Clauses X [] []
  | bare {x : Str} {c : Value} {ts : T3} {b : Stmt} {bs : List Stmt} {np p : Pos} {hs : List ExceptHandler} {l : List (Value × Option Nat × T3)} (hc : Names X x c)
      (su : ∀ (a : Addr) (oe : Obj) (cls : Value) (d : Option Addr) (pn : List (Addr × Obj)), Zc cls d oe → (∃ vs, oe.data = .fields vs) → PSs (X.suite a ((a, oe) :: pn)) (b :: bs) (ts a cls d)) (r : Clauses X hs l) :
      Clauses X (.ExceptHandler (some (.Name x np)) none (b :: bs) p :: hs) ((c, none, ts) :: l)
  | as {x n : Str} {c : Value} {i : Nat} {ts : T3} {b : Stmt} {bs : List Stmt} {np p : Pos} {hs : List ExceptHandler} {l : List (Value × Option Nat × T3)} (hc : Names X x c) (hi : X.N[i]? = some n) (hl : X.env.kindOf n = some .local)
      (su : ∀ (a : Addr) (oe : Obj) (cls : Value) (d : Option Addr) (pn : List (Addr × Obj)), Zc cls d oe → (∃ vs, oe.data = .fields vs) → PSs (X.suite a ((a, oe) :: pn)) (b :: bs) (ts a cls d)) (r : Clauses X hs l) :
      Clauses X (.ExceptHandler (some (.Name x np)) (some n) (b :: bs) p :: hs) ((c, some i, ts) :: l)
/-- an exception that has come down into this frame -/
structure Down (X : Cx) (pins : List (Addr × Obj)) (σ : L2.St) (H : Hp) (a : Addr) (cls : Value) (d : Option Addr) (B : Heap) (sI : Shared) (s : Shared) : Prop where
  inv : Inv X pins σ H sI
  nb : ∀ b o, sI.heap.get? b = some o → b ∉ frs X.stack → B.get? b = some o
  up : sI.heap.UpToSlots s.heap
  fly : HandSPX.FlyingZ B (X.env :: X.outer) a (Zc cls d) s.heap
  none : H a = none
  os : s.os = sI.os
  bare : AllBare s.gens
section
variable {X : Cx} {pins : List (Addr × Obj)} {σ : L2.St} {H : Hp} {a : Addr} {cls : Value} {d : Option Addr} {B : Heap} {sI s : Shared} {Wout : WX} {D : Ends}
theorem Down.here (w : Down X pins σ H a cls d B sI s) : Inv X pins σ H s := w.inv.landed w.nb w.fly.1 w.up w.os w.bare
theorem Down.suite (w : Down X pins σ H a cls d B sI s) (hf : X.env.frame = some X.env.locals) : ∃ oe, s.heap.get? a = some oe ∧ Zc cls d oe ∧ (∃ vs, oe.data = .fields vs) ∧ Inv (X.suite a ((a, oe) :: (X.pn ++ pins))) [] σ H s := by
  obtain ⟨oe, vs, he, hz, hd⟩ := w.fly.there
  have off : a ∉ frs (X.env :: X.outer) := fun m => by
    obtain ⟨_, o, e, n⟩ := w.fly.2.2.1.mem m
    rw [he] at e
    cases e
    exact n _ hd
  have o1 : a ≠ X.env.locals := fun z => off (List.mem_filterMap.mpr ⟨X.env, List.mem_cons_self, by rw [hf, z]⟩)
  have o2 : a ∉ X.fs := fun m => by
    obtain ⟨e, m, q⟩ := List.mem_filterMap.mp m
    exact off (List.mem_filterMap.mpr ⟨e, List.mem_cons_of_mem _ m, q⟩)
  exact ⟨oe, he, hz, ⟨vs, hd⟩, w.here.suite he hd w.none o1 o2⟩
/-- no clause is left -/
theorem Down.leave (w : Down X pins σ H a cls d B sI s) (hs : X.stack = X.env :: X.outer) (hf : X.env.frame = some X.env.locals) (tk : Takes X Wout) (q : Wout cls d σ H) : wpAny (model X.prog X.w) X.A (handleBy (.ref a) X.env []) (SP X pins' D) X.xe s := by
  refine wpAny_handleBy_nil ?_
  obtain ⟨_, _, _, _, _, T, _, _, he, _, hd, h1, _⟩ := id w.fly
  have fin : wpAny (model X.prog X.w) X.A (setFlight (.ref a) X.env.frame) (fun _ s4 => wpAny (model X.prog X.w) X.A (throw (.ref a) : Sem Flow) (SP X pins' D) X.xe s4) X.xe s := by
    rw [hf]
    exact HandSPX.setFlight_upZ w.fly fun h4 held u4 => wpAny_throw (tk _ _ ⟨a, B, sI, pins, σ, H, cls, d, rfl, w.inv, w.nb, w.up.trans u4, .inr (.inr (by rw [hs]; exact held)), w.none, w.os, w.bare, q⟩)
  unfold PySem.passOn
  refine wpAny_bind (wpAny_field he hd h1 ?_)
  rw [if_neg (show ¬ ((Value.ref T == Value.none) = true) from by simp)]
  first
    | exact wpAny_bind (wpAny_pure (wpAny_bind fin))
    | exact wpAny_bind fin
/-- what a clause's class is -/
theorem Down.test {x : Str} {c : Value} {np : Pos} {b : Bool} {Q : Bool → Shared → Prop} {E : Value → Shared → Prop} (w : Down X pins σ H a cls d B sI s) (hf : X.env.frame = some X.env.locals) (hc : Names X x c) (hb : PySem.W.exmOne X.K cls c = some b) (q : Q b s) :
    wpAny (model X.prog X.w) (X.A.mark (some (.ref a))) (eval (.Name x np) X.env) (fun c s₁ => wpAny (model X.prog X.w) (X.A.mark (some (.ref a))) (excMatches (.ref a) c) Q E s₁) E s := by
  obtain ⟨oe, he, hz, _, I⟩ := w.suite hf
  have ty : PySem.W.Looks (model X.prog X.w) s.heap (typeOf (.ref a)) cls := fun A Q E s k q => wpAny_typeOf_ref (k _ _ he) (by rw [hz.1]; exact q)
  have look := (PySem.W.exm_one (M := model X.prog X.w) w.here.kIn ty hb).here (A := X.A.mark (some (.ref a))) (E := E) q
  obtain ⟨hg, hdb, hm | ⟨hm, hv, hn⟩⟩ := hc
  · exact ld_glob (X := X.suite a ((a, oe) :: (X.pn ++ pins))) I hg hm look hdb
  · exact ld_blt (X := X.suite a ((a, oe) :: (X.pn ++ pins))) I hg hm hv look hn hdb
/-- the clauses, one behind another -/
theorem Down.clauses {hs : List ExceptHandler} {l : List (Value × Option Nat × T3)} (w : Down X pins σ H a cls d B sI s) (hst : X.stack = X.env :: X.outer) (hf : X.env.frame = some X.env.locals) (hN : X.N.Nodup) (tk : Takes X Wout) (cl : Clauses X hs l) (q : wCl X.K Wout D l cls d σ H) :
    wpAny (model X.prog X.w) X.A (handleBy (.ref a) X.env hs) (SP X pins D) X.xe s := by
  have ok := w.inv.ok
  induction cl with
  | nil => exact w.leave hst hf tk q
  | @bare x c ts b bs np p hs2 l2 hc su r ih =>
    obtain ⟨b, hb, yes, no⟩ := q
    refine wpAny_handleBy_cons (codeAny_handlers_test (w.test hf hc hb ?_)) (by intro q; cases q)
    cases b with
    | false => exact ih (no rfl)
    | true =>
      refine codeAny_handlers_suite (HandSPX.lands_againZ w.fly fun h4 fl4 up4 => ?_)
      have w4 : Down X pins σ H a cls d B sI { s with heap := h4 } := ⟨w.inv, w.nb, w.up.trans up4, fl4, w.none, w.os, w.bare⟩
      obtain ⟨oe, _, hz, hd, I⟩ := w4.suite hf
      refine wpAny_mono ((su a oe cls d (X.pn ++ pins) hz hd).run [] _ _ H _ I (yes rfl a w.none)) (fun f s6 hsp => ?_) fun _ _ z => False.elim z
      cases f with
      | ret u => obtain ⟨v, σ6, H6, S6, r6, q6⟩ := hsp; exact ⟨_, _, _, S6.unsuite ok, r6, q6⟩
      | next => obtain ⟨σ6, H6, S6, q6⟩ := hsp; exact ⟨_, _, S6.unsuite ok, q6⟩
      | brk => obtain ⟨σ6, H6, S6, q6⟩ := hsp; exact ⟨_, _, S6.unsuite ok, q6⟩
      | cont => obtain ⟨σ6, H6, S6, q6⟩ := hsp; exact ⟨_, _, S6.unsuite ok, q6⟩
  | @as x n c i ts b bs np p hs2 l2 hc hi hl su r ih =>
    obtain ⟨b, hb, yes, no⟩ := q
    refine wpAny_handleBy_cons (codeAny_handlers_test (w.test hf hc hb ?_)) (by intro q; cases q)
    cases b with
    | false => exact ih (no rfl)
    | true =>
      refine codeAny_handlers_suite_as (HandSPX.lands_againZ w.fly fun h4 fl4 up4 => ?_)
      have w4 : Down X pins σ H a cls d B sI { s with heap := h4 } := ⟨w.inv, w.nb, w.up.trans up4, fl4, w.none, w.os, w.bare⟩
      obtain ⟨oe, _, hz, hd, I⟩ := w4.suite hf
      refine store_ok (X := X.suite a ((a, oe) :: (X.pn ++ pins))) (v := .ref a) I hN hi (.inl hl) rfl (fun s5 S5 => ?_) (.inr hl)
      refine wpAny_mono ((su a oe cls d (X.pn ++ pins) hz hd).run [] s5 _ H _ S5 (yes rfl a w.none)) (fun f s6 hsp => ?_) fun _ _ z => False.elim z
      have gone : ∀ {σ6 : L2.St} {H6 : Hp} {G : Shared → Prop}, Inv (X.suite a ((a, oe) :: (X.pn ++ pins))) [] σ6 H6 s6 → (∀ s7, L2.Inv X pins (σ6.set i Option.none) H6 s7 → G s7) → wpAny (model X.prog X.w) X.A (do bindName X.env n .none; unbindBehindTheSuite X.env n p) (fun _ s7 => G s7) X.xe s6 := fun S6 hq => gone_ok (S6.unsuite ok) hN hi hl hq
      cases f with
      | ret u => obtain ⟨v, σ6, H6, S6, r6, q6⟩ := hsp; exact gone S6 fun s7 J => ⟨_, _, _, J, r6, q6⟩
      | next => obtain ⟨σ6, H6, S6, q6⟩ := hsp; exact gone S6 fun s7 J => ⟨_, _, J, q6⟩
      | brk => obtain ⟨σ6, H6, S6, q6⟩ := hsp; exact gone S6 fun s7 J => ⟨_, _, J, q6⟩
      | cont => obtain ⟨σ6, H6, S6, q6⟩ := hsp; exact gone S6 fun s7 J => ⟨_, _, J, q6⟩
theorem ps_tryZ {body : List Stmt} {h₀ : ExceptHandler} {hs : List ExceptHandler} {l : List (Value × Option Nat × T3)} {pos : Pos} {tb : WX → TS} (hst : X.stack = X.env :: X.outer) (hf : X.env.frame = some X.env.locals) (hN : X.N.Nodup) (tk : Takes X Wout)
    (hb : ∀ (W : WX) (pn : List (Addr × Obj)) (xe : Value → Shared → Prop), Takes (X.tr pn xe) W → PassesOwn (model X.prog X.w) X.A X.env xe → PSs (X.tr pn xe) body (tb W)) (cl : Clauses X (h₀ :: hs) l) :
    PS X (.Try body (h₀ :: hs) [] [] pos) (fun D σ H => tb (wCl X.K Wout D l) D σ H) := by
  refine ⟨fun pins s σ H D I h => ?_⟩
  have ok := I.ok
  have hfr : X.A.frames = some (X.env :: X.outer) := by rw [ok.frames, hst]
  refine wpAny_Try_except (wpAny_mono ((hb (wCl X.K Wout D l) (X.pn ++ pins) (fun e s₁ => wpAny (model X.prog X.w) X.A (noteFrame e X.env) (fun _ s₂ => wpAny (model X.prog X.w) X.A (setFlight e none) (fun _ s₃ => wpAny (model X.prog X.w) X.A (handleBy e X.env (h₀ :: hs)) (SP X pins D) X.xe s₃) X.xe s₂) X.xe s₁) (fun u s' xx => ?_) PassesOwn.looking).run [] s σ H D (I.toTry _) h) (fun f s1 hsp => ?_) fun e s1 he => he)
  · obtain ⟨a, B, sI, pins', σ', H', cls, d, rfl, J, nb, up, sky, na, os, ag, q⟩ := xx
    have sky' : Sky B (X.env :: X.outer) a (Zc cls d) X.env.locals s'.heap := by rw [← hst]; exact sky
    show wpAny (model X.prog X.w) X.A (noteFrame (.ref a) X.env) _ _ _
    exact Sky.land Zc.steady hfr hf sky' fun h3 fl3 up3 => Down.clauses ⟨J.ofTry ok, nb, up.trans up3, fl3, na, os, ag⟩ hst hf hN tk cl q
  · cases f with
    | ret u => obtain ⟨v, σ', H', J', r, q⟩ := hsp; exact ⟨v, σ', H', J'.ofTry ok, r, q⟩
    | next => obtain ⟨σ', H', J', q⟩ := hsp; exact wpAny_execs_nil ⟨σ', H', J'.ofTry ok, q⟩
    | brk => obtain ⟨σ', H', J', q⟩ := hsp; exact ⟨σ', H', J'.ofTry ok, q⟩
    | cont => obtain ⟨σ', H', J', q⟩ := hsp; exact ⟨σ', H', J'.ofTry ok, q⟩
end
end Z

set_option maxRecDepth 100000
set_option maxHeartbeats 4000000
namespace Z
open PySem PySem.Spec PyProof.Rows L2
/-! ### try: the meaning -/
def excD (a d : Nat) (x : Ex) : PyData := .dict ((.none, .int a) :: (.none, .int d) :: x.fs.map fun p => (.str p.1, p.2))
/-- behind a suite: its name is gone -/
def fin (i : Option Nat) (r : Fl) : Fl := match i with
  | none => r
  | some i => match r with
    | .nx s => .nx (s.wipe [i])
    | .bk s => .bk (s.wipe [i])
    | .ct s => .ct (s.wipe [i])
    | .rt v s => .rt v (s.wipe [i])
    | .ex x s => .ex x s
    | .no => .no
/-- the clauses: the class, what its suite makes of an exception -/
abbrev CL := List (Str × (Ex → S → Fl))
def catchL (isX : Str → Str → Option Bool) : CL → Ex → S → Fl
  | [], x, s => .ex x s
  | (c, r) :: l, x, s => match isX x.c c with
    | some true => r x s
    | some false => catchL isX l x s
    | none => .no
def sTry (isX : Str → Str → Option Bool) (b : SS) (l : CL) : SS := fun s => match b s with
  | .ex x s => catchL isX l x s
  | r => r
/-- the state of a suite -/
def inSuite (i : Option Nat) (a d : Nat) (x : Ex) (s : S) : S := match i with
  | none => s
  | some i => s.set i (.d (excD a d x))
def notEx : Fl → Bool
  | .ex _ _ => false
  | _ => true
section
variable {X : Cx} {W : WX} {K : PySem.W.Frag} {M : List Addr} {mg : Str → Option Value} {ρ ρ' E E' : List Addr} {st st' : S} {σ σ' : L2.St} {H H' : Hp} {D : Ends}
theorem Rel.gone (R : Rel K ρ E st σ H) (i : Nat) : Post K ρ E st σ H ρ E (st.wipe [i]) (σ.set i none) H := by
  have P := R.wipe [i]
  have same : ∀ (j : Nat) (sv : SV), (st.wipe [i]).s[j]? = some (some sv) → σ[j]? = (σ.set i none)[j]? := fun j sv e => by
    have n := (wipeL_some (s := st.s) e).2
    have n : i ≠ j := fun z => n (by rw [z]; exact List.mem_singleton.mpr rfl)
    rw [List.getElem?_set_ne n]
  have R2 := P.rel.congr same (by simp)
  refine ⟨R2, P.pre, P.fr, fun a h => P.mu a ?_⟩
  rw [chg_congr same (by simp)]
  exact h
theorem GoS.gone {i : Option Nat} {r : Fl} (hr : notEx r = true) (h : GoS K mg W D ρ E st σ H (fin i r)) : GoS K mg W0 (endsOf i D) ρ E st σ H r := by
  cases i with
  | none =>
    cases r with
    | ex x s => cases hr
    | nx s => exact h
    | bk s => exact h
    | ct s => exact h
    | rt v s => exact h
    | no => exact h
  | some i =>
    cases r with
    | ex x s => cases hr
    | no => exact h
    | nx s => exact fun ρ' σ' H' P => h ρ' _ H' (P.trans (P.rel.gone i))
    | bk s => exact fun ρ' σ' H' P => h ρ' _ H' (P.trans (P.rel.gone i))
    | ct s => exact fun ρ' σ' H' P => h ρ' _ H' (P.trans (P.rel.gone i))
    | rt v s =>
      intro v' ρ' E' σ' H' P q
      have P2 := P.rel.gone i
      refine h v' ρ' E' _ H' (P.trans P2) ?_
      have sub : ∀ a ∈ avd ρ' E' (s.wipe [i]) (σ'.set i none), a ∈ avd ρ' E' s σ' := fun a ha => by
        rcases List.mem_append.mp ha with ha | ha
        · rcases P2.mu a ha with z | z
          · exact chg_sub z
          · obtain ⟨o, e, _⟩ := P2.rel.dom a (chg_sub ha)
            rw [z] at e; cases e
        · exact List.mem_append_right _ ha
      cases v with
      | d x => exact ⟨q.1, q.2.mono sub⟩
      | r k => exact q
      | o b =>
        obtain ⟨p, e1, e2, e3, ob⟩ := q
        exact ⟨p, e1, e2, e3, ob.mono sub⟩
/-- the clauses, with what their suites mean -/
inductive ClzL (X : Cx) (isX : Str → Str → Option Bool) : List ExceptHandler → CL → Prop
  | nil : ClzL X isX [] []
  | bare {x : Str} {C : Addr} {su : Ex → SS} {b : Stmt} {bs : List Stmt} {np p : Pos} {hs : List ExceptHandler} {l : CL} (hc : Names X x (.ref C)) (hm : X.mg x = some (.ref C))
      (h : ∀ (xx : Ex) (a : Addr) (oe : Obj) (cls : Value) (d : Option Addr) (pn : List (Addr × Obj)), ZSs (X.suite a ((a, oe) :: pn)) W0 (b :: bs) (su xx)) (ne : ∀ xx s, notEx (su xx s) = true) (r : ClzL X isX hs l) :
      ClzL X isX (.ExceptHandler (some (.Name x np)) none (b :: bs) p :: hs) ((x, su) :: l)
  | as {x n : Str} {C : Addr} {i : Nat} {su : Nat → Nat → Ex → SS} {R : Ex → S → Fl} {b : Stmt} {bs : List Stmt} {np p : Pos} {hs : List ExceptHandler} {l : CL} (hc : Names X x (.ref C)) (hm : X.mg x = some (.ref C)) (hi : X.N[i]? = some n) (hl : X.env.kindOf n = some .local)
      (h : ∀ (xx : Ex) (a dd Cx : Addr) (oe : Obj) (pn : List (Addr × Obj)), X.mg xx.c = some (.ref Cx) → isX xx.c x = some true → Zc (.ref Cx) (some dd) oe → (∃ vs, oe.data = .fields vs) → ZSs (X.suite a ((a, oe) :: pn)) W0 (b :: bs) (su a dd xx)) (ne : ∀ a d xx s, notEx (su a d xx s) = true)
      (hR : ∀ a d xx s, fin (some i) (su a d xx (inSuite (some i) a d xx s)) = R xx s) (r : ClzL X isX hs l) :
      ClzL X isX (.ExceptHandler (some (.Name x np)) (some n) (b :: bs) p :: hs) ((x, fun xx s => if xx.fs.isEmpty = true then .no else R xx s) :: l)
theorem clz_ok {isX : Str → Str → Option Bool} {hs : List ExceptHandler} {l : CL} (hX : ∀ x c b, isX x c = some b → ∀ C C', X.mg x = some (.ref C) → X.mg c = some (.ref C') → PySem.W.exmOne X.K (.ref C) (.ref C') = some b) (cl : ClzL X isX hs l) :
    ∃ l', Clauses X hs l' ∧ ∀ {D : Ends} {ρ E : List Addr} {st : S} {σ : L2.St} {H : Hp} {x : Ex} {s : S}, GoS X.K X.mg W D ρ E st σ H (catchL isX l x s) →
      ∀ cls d ρ' E' σ' H', E.Sublist E' → Post X.K ρ E st σ H ρ' E' s σ' H' → XR X.K X.mg (avd ρ' E' s σ') H' x cls d → wCl X.K W D l' cls d σ' H' := by
  induction cl with
  | nil => exact ⟨[], .nil, fun q cls d ρ' E' σ' H' sub P xr => q cls d ρ' E' σ' H' sub P xr⟩
  | @bare x C su b bs np p hs l hc hm h ne r ih =>
    obtain ⟨l', c', k'⟩ := ih
    refine ⟨(.ref C, none, fun a cls d D σ H => ∃ xx, tzS X.K X.mg W0 (su xx) D σ H) :: l', .bare hc (fun a oe cls d pn _ _ => ⟨fun pins s σ H D I ⟨xx, q⟩ => (h xx a oe cls d pn).run pins s σ H D I q⟩) c', fun {D ρ E st σ H xx s} q cls d ρ' E' σ' H' sub P xr => ?_⟩
    unfold catchL at q
    obtain ⟨Cx, hx, e, _⟩ := id xr
    cases hb : isX xx.c x with
    | none => rw [hb] at q; exact q.elim
    | some b =>
      refine ⟨b, by rw [e]; exact hX _ _ _ hb _ _ hx hm, fun eb a na => ?_, fun eb => ?_⟩
      · subst eb
        rw [hb] at q
        have P := P.sub sub
        exact ⟨xx, ρ', E, s, P.rel, GoS.gone (W := W) (i := none) (ne xx s) (q.later' P Come.refl (fun _ _ h => h) (fun _ _ h => h) (fun _ _ h => h) fun _ _ h => h)⟩
      · subst eb
        rw [hb] at q
        exact k' q cls d ρ' E' σ' H' sub P xr
  | @as x n C i su R b bs np p hs l hc hm hi hl h ne hR r ih =>
    obtain ⟨l', c', k'⟩ := ih
    refine ⟨(.ref C, some i, fun a cls d D σ H => ∃ xx Cx dd, X.mg xx.c = some (.ref Cx) ∧ cls = .ref Cx ∧ isX xx.c x = some true ∧ d = some dd ∧ tzS X.K X.mg W0 (su a dd xx) D σ H) :: l', .as hc hi hl (fun a oe cls d pn hz hd => ⟨fun pins s σ H D I ⟨xx, Cx, dd, h1, h2, h3, h4, q⟩ => by
      subst h2 h4
      exact (h xx a dd Cx oe pn h1 h3 hz hd).run pins s σ H D I q⟩) c', fun {D ρ E st σ H xx s} q cls d ρ' E' σ' H' sub P xr => ?_⟩
    unfold catchL at q
    obtain ⟨Cx, hx, e, fd⟩ := id xr
    cases hb : isX xx.c x with
    | none => rw [hb] at q; exact q.elim
    | some b =>
      refine ⟨b, by rw [e]; exact hX _ _ _ hb _ _ hx hm, fun eb a na => ?_, fun eb => ?_⟩
      · subst eb
        rw [hb] at q
        have q : GoS X.K X.mg W D ρ E st σ H (if xx.fs.isEmpty = true then .no else R xx s) := q
        rcases fd with ⟨e1, _⟩ | ⟨dd, vs, ed, hd, off, al⟩
        · rw [e1] at q; exact q.elim
        by_cases hf : xx.fs.isEmpty = true
        · rw [if_pos hf] at q; exact q.elim
        rw [if_neg hf, ← hR a dd xx s] at q
        have rp : Rp X.K (avd ρ' E' s σ') H' (.ref a) (excD a dd xx) := by
          have := Rp.exc (K := X.K) (a := a) hd off (by rw [List.length_map, al.length, List.length_map]) al
          rw [zip_self] at this
          exact this
        have P2 := Post.store (P.sub sub) (List.Sublist.refl _) (i := i) (sv := .d (excD a dd xx)) (v := .ref a) ⟨rfl, rp.mono (avd_sub sub)⟩
        refine ⟨xx, Cx, dd, hx, e, hb, ed, ρ', E, s.set i (.d (excD a dd xx)), P2.rel, GoS.gone (W := W) (i := some i) (ne a dd xx _) ?_⟩
        exact q.later' P2 Come.refl (fun _ _ h => h) (fun _ _ h => h) (fun _ _ h => h) fun _ _ h => h
      · subst eb
        rw [hb] at q
        exact k' q cls d ρ' E' σ' H' sub P xr
theorem zs_try {isX : Str → Str → Option Bool} {body : List Stmt} {h₀ : ExceptHandler} {hs : List ExceptHandler} {l : CL} {b : SS} {pos : Pos} (hst : X.stack = X.env :: X.outer) (hf : X.env.frame = some X.env.locals) (hN : X.N.Nodup) (tk : Takes X W)
    (hX : ∀ x c b, isX x c = some b → ∀ C C', X.mg x = some (.ref C) → X.mg c = some (.ref C') → PySem.W.exmOne X.K (.ref C) (.ref C') = some b)
    (hb : ∀ (W : WX) (pn : List (Addr × Obj)) (xe : Value → Shared → Prop), Takes (X.tr pn xe) W → PassesOwn (model X.prog X.w) X.A X.env xe → ZSs (X.tr pn xe) W body b) (cl : ClzL X isX (h₀ :: hs) l) :
    ZS X W (.Try body (h₀ :: hs) [] [] pos) (sTry isX b l) := by
  obtain ⟨l', c', k'⟩ := clz_ok (W := W) hX cl
  refine PS.mono (ps_tryZ (tb := fun W => tzS X.K X.mg W b) hst hf hN tk hb c') fun D σ H ⟨ρ, E, st, R, q⟩ => ⟨ρ, E, st, R, ?_⟩
  have q : GoS X.K X.mg W D ρ E st σ H (sTry isX b l st) := q
  show GoS X.K X.mg (wCl X.K W D l') D ρ E st σ H (b st)
  unfold sTry at q
  cases e : b st with
  | ex x s =>
    rw [e] at q
    exact fun cls d ρ' E' σ' H' sub P xr => k' q cls d ρ' E' σ' H' sub P xr
  | nx s => rw [e] at q; exact q
  | bk s => rw [e] at q; exact q
  | ct s => rw [e] at q; exact q
  | rt v s => rw [e] at q; exact q
  | no => rw [e] at q; exact q
/-! ### error.field -/
def eXf (a d : Nat) (i : Nat) (f : Str) : SE := fun s => match s.s[i]? with
  | some (some (.d (.dict ((.none, .int a') :: (.none, .int d') :: fs)))) => if a' = a ∧ d' = d then retn ((fs.find? fun p => kEq p.1 (.str f)).map fun p => .d p.2) s else .no
  | _ => .no
theorem field_at {f : Str} {x : PyData} : ∀ {fs : List Str} {vs : List V} {ds : List PyData}, fs.length = vs.length → RpAll K M H vs ds → (((fs.zip ds).map fun p => (PyData.str p.1, p.2)).find? fun p => kEq p.1 (.str f)).map (·.2) = some x → ∃ v, (fs.zip vs).lookup f = some v ∧ Rp K M H v x
  | [], _, _, _, _, h => by simp at h
  | g :: fs, [], _, hl, _, _ => by simp at hl
  | g :: fs, v :: vs, [], _, al, _ => by cases al
  | g :: fs, v :: vs, d :: ds, hl, al, h => by
    cases al with
    | cons r al =>
      rw [List.zip_cons_cons, List.map_cons, List.find?_cons] at h
      by_cases e : g = f
      · subst e
        have : kEq (.str g) (.str g) = true := by simp [kEq]
        rw [this] at h
        cases h
        exact ⟨v, by rw [List.zip_cons_cons, List.lookup_cons]; simp, r⟩
      · have k : kEq (.str g) (.str f) = false := by simp [kEq, e]
        rw [k] at h
        obtain ⟨w, e1, r1⟩ := field_at (by simpa using hl) al h
        refine ⟨w, ?_, r1⟩
        have ne : (f == g) = false := beq_eq_false_iff_ne.mpr (Ne.symm e)
        rw [List.zip_cons_cons, List.lookup_cons, ne]
        exact e1
theorem ze_xf {a d C : Addr} {oe : Obj} {pn : List (Addr × Obj)} {i : Nat} {n f : Str} {p pos : Pos} (T : XfC X.K C) (hno : PySem.W.findIn X.K (.ref C) f = some none) (hz : Zc (.ref C) (some d) oe) (hd : ∃ vs, oe.data = .fields vs) (hn : PE (X.suite a ((a, oe) :: pn)) (.Name n p) (tVar i))
    (hb : attributeBase (.Name n p) f X.env (eval (.Name n p) X.env) = eval (.Name n p) X.env := by rfl) : ZE (X.suite a ((a, oe) :: pn)) W (.Attribute (.Name n p) f pos) (eXf a d i f) := by
  refine PE.mono (pe_xf T hno hz hd hn hb) fun σ H Q ⟨ρ, E, st, R, q⟩ => ?_
  unfold eXf at q
  split at q
  · rename_i a' d' fs e1
    by_cases h : a' = a ∧ d' = d
    · rw [if_pos h] at q
      cases e2 : (fs.find? fun p => kEq p.1 (.str f)) with
      | none => rw [e2] at q; exact q.elim
      | some pr =>
        rw [e2] at q
        obtain ⟨v, ev, sl⟩ := R.slot i _ e1
        have main : ∀ {v : V} {x : PyData}, Rp X.K (avd ρ E st σ) H v x → x = .dict ((.none, .int a') :: (.none, .int d') :: fs) → v = .ref a ∧ ∃ (gs : List Str) (vs : List V) (ds : List PyData), H d = some (.xd (gs.zip vs)) ∧ gs.length = vs.length ∧ RpAll X.K (avd ρ E st σ) H vs ds ∧ fs = (gs.zip ds).map fun p => (PyData.str p.1, p.2) := fun r e => by
          cases r with
          | @exc a0 d0 gs vs ds hd off hl al =>
            cases e
            refine ⟨by rw [Int.ofNat_inj.mp h.1], gs, vs, ds, by rw [← Int.ofNat_inj.mp h.2]; exact hd, hl, al, rfl⟩
          | @dk _ kvs ds rd _ al =>
            exfalso
            cases kvs with
            | nil => simp at e
            | cons q r =>
              cases ds with
              | nil => simp at e
              | cons d0 ds =>
                simp only [List.map_cons, List.zip_cons_cons, PyData.dict.injEq, List.cons.injEq, Prod.mk.injEq] at e
                have := e.1.1
                cases h : q.1 <;> rw [h] at this <;> simp [keyD] at this
          | @dt _ kvs ds rd _ al =>
            exfalso
            cases kvs with
            | nil => simp at e
            | cons q r =>
              cases ds with
              | nil => simp at e
              | cons d0 ds => simp at e
          | op a => cases e
          | any a => cases e
          | _ => cases e
        obtain ⟨rfl, gs, vs, ds, hdd, hl, al, rfl⟩ := main sl rfl
        obtain ⟨w, ew, rw'⟩ := field_at hl al (by rw [e2]; rfl)
        exact ⟨.ref a, ev, rfl, rfl, d, _, w, rfl, hdd, ew, q w ρ E H (.refl R) ⟨rfl, rw'⟩⟩
    · rw [if_neg h] at q; exact q.elim
  · exact q.elim
end
end Z

set_option maxRecDepth 100000
set_option maxHeartbeats 4000000
namespace Z
open PySem PySem.Spec PyProof.Rows L2
/-- an object of its own is laid where several frames may change it -/
def eBox (f : SE) : SE := fun s => (f s).bind fun sv s => match sv with
  | .o b => .ok (.r s.h.length) { s with h := s.h ++ [b] }
  | _ => .no
section
variable {X : Cx} {W : WX} {K : PySem.W.Frag} {M ρ ρ' ρ'' E E' E'' : List Addr} {st st' st'' : S} {σ : L2.St} {H H' H'' : Hp}
theorem Post.boxed {b : PO} {p : Addr} (P : Post K ρ E st σ H ρ' (p :: E) st' σ H') (hp : p ∈ chg ρ st σ ∨ H p = none) (ob : Ob K (avd ρ' (p :: E) st' σ) H' p b) :
    Post K ρ E st σ H (ρ' ++ [p]) E { st' with h := st'.h ++ [b] } σ H' := by
  have pm : (avd ρ' (p :: E) st' σ).Perm (avd (ρ' ++ [p]) E { st' with h := st'.h ++ [b] } σ) := by
    show (ρ' ++ owns st'.s σ ++ p :: E).Perm (ρ' ++ [p] ++ owns st'.s σ ++ E)
    have e1 : ρ' ++ [p] ++ owns st'.s σ ++ E = ρ' ++ p :: (owns st'.s σ ++ E) := by simp
    have e2 : ρ' ++ owns st'.s σ ++ p :: E = (ρ' ++ owns st'.s σ) ++ p :: E := rfl
    rw [e1]
    refine (List.perm_middle).trans ?_
    rw [List.append_assoc]
    exact List.perm_middle.symm
  have mm : ∀ a ∈ avd (ρ' ++ [p]) E { st' with h := st'.h ++ [b] } σ, a ∈ avd ρ' (p :: E) st' σ := fun a h => pm.mem_iff.mpr h
  have R := P.rel
  refine ⟨⟨pm.nodup_iff.mp R.nd, fun a h => R.dom a (mm a h), R.len, fun i sv e => ?_, ?_, fun k c e => ?_⟩, P.pre.trans (List.prefix_append _ _), P.fr, fun a h => ?_⟩
  · obtain ⟨v, e1, q⟩ := R.slot i sv e
    refine ⟨v, e1, ?_⟩
    cases sv with
    | d x => exact Rp.mono mm q
    | r k =>
      obtain ⟨a, e2, e3⟩ := q
      refine ⟨a, ?_, e3⟩
      rw [List.getElem?_append_left (List.getElem?_eq_some_iff.mp e2).1]
      exact e2
    | o b => obtain ⟨a, e2, q⟩ := q; exact ⟨a, e2, q.mono mm⟩
  · simp [R.heap.1]
  · have hl := R.heap.1
    by_cases hk : k < st'.h.length
    · have e' : st'.h[k]? = some c := by rw [← e]; exact (List.getElem?_append_left hk).symm
      obtain ⟨a, e1, q⟩ := R.heap.2 k c e'
      refine ⟨a, ?_, q.mono mm⟩
      rw [List.getElem?_append_left (List.getElem?_eq_some_iff.mp e1).1]
      exact e1
    · have hk' : k = st'.h.length := by
        have := (List.getElem?_eq_some_iff.mp e).1
        simp at this
        omega
      subst hk'
      have ec : c = b := by
        have q : (st'.h ++ [b])[st'.h.length]? = some c := e
        rw [List.getElem?_append_right (Nat.le_refl _)] at q
        simpa using q.symm
      subst ec
      refine ⟨p, ?_, ob.mono mm⟩
      rw [List.getElem?_append_right (by rw [hl]; exact Nat.le_refl _)]
      simp [hl]
  · have h' : a ∈ ρ' ++ [p] ++ owns st'.s σ := h
    rcases List.mem_append.mp h' with h' | h'
    · rcases List.mem_append.mp h' with h' | h'
      · exact P.mu a (List.mem_append_left _ h')
      · rw [List.mem_singleton] at h'
        subst h'
        exact hp
    · exact P.mu a (List.mem_append_right _ h')
theorem ze_box {e : Expr} {f : SE} (h : ZE X W e f) : ZE X W e (eBox f) := by
  refine PE.mono h fun σ H Q ⟨ρ, E, st, R, q⟩ => ⟨ρ, E, st, R, ?_⟩
  have q : Go X.K X.mg W (rE X.K) Q ρ E st σ H ((f st).bind fun sv s => match sv with
    | .o b => .ok (.r s.h.length) { s with h := s.h ++ [b] }
    | _ => .no) := q
  cases e1 : f st with
  | no => rw [e1] at q; exact q.elim
  | ex x st' => rw [e1] at q; exact q
  | ok sv st' =>
    rw [e1] at q
    cases sv with
    | d x => exact q.elim
    | r k => exact q.elim
    | o b =>
      intro v ρ' E' H' P r
      obtain ⟨p, ev, eE, hp, ob⟩ := r
      subst eE
      refine q v (ρ' ++ [p]) E H' (P.boxed hp ob) ⟨rfl, p, ?_, ev⟩
      rw [← P.rel.heap.1, List.getElem?_append_right (Nat.le_refl _)]
      simp
end
end Z

set_option maxRecDepth 100000
set_option maxHeartbeats 4000000
namespace Z
open PySem PySem.Spec PyProof.Rows L2
theorem hu1 {A : Around} {k : Nat} (hr : Room k A) : A.units + 1 < cLine := hu_of hr
theorem hu64 {A : Around} {k : Nat} (hr : Room k A) : A.units + 64 < cLine := hr.units
theorem hu65 {A : Around} {k : Nat} (hr : Room k A) : A.units + 65 < cLine := by have := hr.un; omega
theorem hu67 {A : Around} {k : Nat} (hr : Room k A) : A.units + 67 < cLine := by have := hr.un; omega
/-- so many turns of a while at the most -/
def bigN : Nat := 1000000
def opIadd : PyData → PyData → Option SV := fun x y => match x, y with | .int i, .int j => some (.d (.int (i + j))) | .str x, .str y => if fits (x.length + y.length) = true then some (.d (.str (x ++ y))) else none | _, _ => none
/-! names of the module -/
def gInt (mg : Str → Option Value) (x : Str) (d : PyData) : Prop := ∃ i u, d = .int i ∧ mg x = some u ∧ RelV (.int i) u
def gStr (mg : Str → Option Value) (x : Str) (d : PyData) : Prop := ∃ i u, d = .str i ∧ mg x = some u ∧ RelV (.str i) u
/-- a tuple that the text's top has made -/
def gTup (K : PySem.W.Frag) (mg : Str → Option Value) (x : Str) (d : PyData) : Prop := ∃ a xs ds, d = .tuple ds ∧ mg x = some (.ref a) ∧ (∀ M H, RpAll K M H xs ds) ∧ ∃ (o : Obj) (its : Array Value) (n : Nat), K.lookup a = some o ∧ o.cls = .type "tuple" ∧ o.dict = none ∧ o.data = .seq its n ∧ its.size ≤ sizeLine ∧ Vals xs its.toList
section
variable {X : Cx} {W : WX}
theorem ze_gint {x : Str} {d : PyData} {pos : Pos} (h : gInt X.mg x d) (hg : Gl X x := by rfl) (hd : (x == ("__debug__" : Str)) = false := by decide) : ZE X W (.Name x pos) (eC d) := by
  obtain ⟨i, u, rfl, hm, r⟩ := h
  exact ze_of (pe_glob hg hm r hd) fun _ _ => .int _
theorem ze_gstr {x : Str} {d : PyData} {pos : Pos} (h : gStr X.mg x d) (hg : Gl X x := by rfl) (hd : (x == ("__debug__" : Str)) = false := by decide) : ZE X W (.Name x pos) (eC d) := by
  obtain ⟨i, u, rfl, hm, r⟩ := h
  exact ze_of (pe_glob hg hm r hd) fun _ _ => .str _
theorem ze_gtup {x : Str} {d : PyData} {pos : Pos} (h : gTup X.K X.mg x d) (hg : Gl X x := by rfl) (hd : (x == ("__debug__" : Str)) = false := by decide) : ZE X W (.Name x pos) (eC d) := by
  obtain ⟨a, xs, ds, rfl, hm, al, ob⟩ := h
  exact ze_of (v := .ref a) (pe_glob hg hm rfl hd) fun M H => .tup (.inr (.inr ob)) (al M H)
end
end Z

set_option maxRecDepth 100000
set_option maxHeartbeats 4000000
namespace Z
open PySem PySem.Spec PyProof.Rows L2
/-- an own exception with one field -/
structure Exc1 (K : PySem.W.Frag) (mg : Str → Option Value) (x f : Str) where
  C : Addr
  fI : Addr
  fd : FuncData
  N : List Str
  oex : OexC K C
  iC : PySem.W.findIn K (.ref C) "__init__" = some (some (.ref fI))
  tI : PySem.W.typeIn K (.ref fI) = some (.type "function")
  ok : ∀ (P : Program) (w : World) (base : Heap), (P.main.scope.names.lookup ("super" : Str)).isSome = false ∧ ((P.main.file : Str) == ("/claim/cut.py" : Str)) = true → FnOk P w K mg base (L2.CX P w) 1 fI fd N (sp1 K C f N)
  hN : N.length = 2
  nf : PySem.W.findIn K (.ref C) f = some none
  b : Binds K fd N []
  gm : mg x = some (.ref C)
structure Exc2 (K : PySem.W.Frag) (mg : Str → Option Value) (x f g : Str) where
  C : Addr
  fI : Addr
  fd : FuncData
  N : List Str
  oex : OexC K C
  iC : PySem.W.findIn K (.ref C) "__init__" = some (some (.ref fI))
  tI : PySem.W.typeIn K (.ref fI) = some (.type "function")
  ok : ∀ (P : Program) (w : World) (base : Heap), (P.main.scope.names.lookup ("super" : Str)).isSome = false ∧ ((P.main.file : Str) == ("/claim/cut.py" : Str)) = true → FnOk P w K mg base (L2.CX P w) 1 fI fd N (sp2 K C f g N)
  hN : N.length = 3
  nf : PySem.W.findIn K (.ref C) f = some none
  ng : PySem.W.findIn K (.ref C) g = some none
  b : Binds K fd N []
  gm : mg x = some (.ref C)
/-- what is asked of the text for super() -/
def SupP (P : Program) : Prop := (P.main.scope.names.lookup ("super" : Str)).isSome = false ∧ ((P.main.file : Str) == ("/claim/cut.py" : Str)) = true
section
variable {X : Cx} {W : WX} {K : PySem.W.Frag} {ρ ρ' E E' : List Addr} {st st' : S} {σ : L2.St} {H H' : Hp}
theorem zs_r1 {x f : Str} {e : Expr} {fs : List SE} {p pos pos2 : Pos} (T : Exc1 X.K X.mg x f) (hP : SupP X.prog) (hc : X.calm = true) (tk : Takes X W) (hr : Room 2 X.A) (ha : ZIs X W [e] fs) (hg : Gl X x := by rfl)
    (hdb : (x == ("__debug__" : Str)) = false := by decide) (he : starEach [e] X.env = (false, eval e X.env) :: starEach [] X.env := by rfl) (hpl : (backTo pos (starEach [] X.env)).any (·.1) = false := by rfl) : ZS X W (.Raise (some (.Call (.Name x p) [e] [] pos)) none pos2) (sRaise x [f] fs) :=
  zs_raise1 (ps := []) hc tk T.oex T.iC T.tI (T.ok _ _ _ hP) T.hN T.nf hr T.b hg T.gm ha hdb he hpl
theorem zs_r2 {x f g : Str} {e e' : Expr} {fs : List SE} {p pos pos2 : Pos} (T : Exc2 X.K X.mg x f g) (hP : SupP X.prog) (hc : X.calm = true) (tk : Takes X W) (hr : Room 2 X.A) (ha : ZIs X W [e, e'] fs) (hg : Gl X x := by rfl)
    (hdb : (x == ("__debug__" : Str)) = false := by decide) (he : starEach [e, e'] X.env = (false, eval e X.env) :: starEach [e'] X.env := by rfl) (hpl : (backTo pos (starEach [e'] X.env)).any (·.1) = false := by rfl) : ZS X W (.Raise (some (.Call (.Name x p) [e, e'] [] pos)) none pos2) (sRaise x [f, g] fs) :=
  zs_raise2 (ps := []) hc tk T.oex T.iC T.tI (T.ok _ _ _ hP) T.hN T.nf T.ng hr T.b hg T.gm ha hdb he hpl
end
end Z

set_option maxRecDepth 100000
set_option maxHeartbeats 4000000
namespace Z
open PySem PySem.Spec PyProof.Rows L2
def opRevL : PyData → Option SV
  | .list xs => some (.o (.lst xs.reverse))
  | _ => none
section
variable {X : Cx} {W : WX} {K : PySem.W.Frag} {mg : Str → Option Value} {M ρ ρ' E E' : List Addr} {st st' : S} {σ : L2.St} {H H' : Hp}
theorem coreUn {o : PyData → Option SV} {f : SPl} {Q : VK} (h : tzE K mg W (eUn o f) σ H Q) : tzP K mg W f σ H fun x H1 => run1 K o x H1 Q := by
  obtain ⟨ρ, E, st, R, q⟩ := h
  refine ⟨ρ, E, st, R, ?_⟩
  have q : Go K mg W (rE K) Q ρ E st σ H (eUn o f st) := q
  unfold eUn at q
  cases e : f st with
  | no => rw [e] at q; exact q
  | ex x s => rw [e] at q; exact q
  | ok p s =>
    rw [e, Res.bind_ok] at q
    intro x ρ1 E1 H1 P1 r1
    cases l1 : ld s p with
    | none => rw [l1] at q; exact q.elim
    | some d =>
      rw [l1] at q
      cases l2 : o d with
      | none => simp only [Option.bind_some, l2] at q; exact q.elim
      | some sv =>
        simp only [Option.bind_some, l2] at q
        exact ⟨_, d, sv, P1.rel.dom, r1.top P1.rel l1, l2, fun z H' n => Go.new q P1 r1.come n⟩
theorem ze_revL {e : Expr} {f : SPl} {k : Nat} {p1 p2 p3 pos : Pos} (he : ZP X W e f) : ZE X W (.Subscript e (.Slice none none (some (.UnaryOp .USub (.Constant (.int 1) k p1) p2)) p3) pos) (eUn opRevL f) := by
  refine PE.mono (pe_revL he) fun σ H Q h => ?_
  refine tzE.mono (coreUn h) fun x H1 ⟨M, d, sv, dm, t, e1, q⟩ => ?_
  unfold opRevL at e1
  split at e1
  · cases e1
    obtain ⟨a, vs, rfl, n, al⟩ := t.list
    exact ⟨a, vs, rfl, .inl n, fun p hp => q _ _ (New.lst hp al.reverse)⟩
  · cases e1
end
end Z

set_option maxRecDepth 100000
set_option maxHeartbeats 4000000
namespace Z
open PySem PySem.Spec PyProof.Rows L2
/-! ### defs as values -/
def fnD (a : Nat) : PyData := .dict [(.none, .int a)]
def fnA : PyData → Option Nat
  | .dict [(.none, .int (.ofNat a))] => some a
  | _ => none
@[simp] theorem fnA_fnD (a : Nat) : fnA (fnD a) = some a := rfl
/-- a call of what a slot holds; T: the defs that may be there -/
def eCallV (T : List (Nat × Fn)) (i : Nat) (fs : List SPl) : SE := fun s => match s.s[i]? with
  | some (some (.d d)) => match (fnA d).bind (fun a => List.lookup a T) with
    | some F => ePure F fs s
    | none => .no
  | _ => .no
def FnIn (X : Cx) (k n : Nat) (p : Nat × Fn) : Prop := ∃ fd ps, FnOk X.prog X.w X.K X.mg X.base (L2.CX X.prog X.w) k p.1 fd ps (spF X.K X.mg p.2 n) ∧ PySem.W.keepIn X.K (.ref p.1) = true ∧ Binds X.K fd ps []
section
variable {X : Cx} {W : WX} {K : PySem.W.Frag} {M : List Addr} {H : Hp}
theorem Rp.fnA {v : V} {d : PyData} {a : Nat} (r : Rp K M H v d) (e : fnA d = some a) : v = .ref a := by
  unfold Z.fnA at e
  split at e
  · cases e
    generalize hd : PyData.dict [(PyData.none, PyData.int (Int.ofNat a))] = d at r
    cases r with
    | op b => cases hd; rfl
    | @dk b kvs ds _ _ _ =>
      exfalso
      cases kvs with
      | nil => simp at hd
      | cons q r =>
        cases ds with
        | nil => simp at hd
        | cons d0 ds =>
          simp only [List.map_cons, List.zip_cons_cons, PyData.dict.injEq, List.cons.injEq, Prod.mk.injEq] at hd
          have := hd.1.1
          cases h : q.1 <;> rw [h] at this <;> cases this
    | @dt b kvs ds _ _ _ =>
      exfalso
      cases kvs with
      | nil => simp at hd
      | cons q r =>
        cases ds with
        | nil => simp at hd
        | cons d0 ds =>
          simp only [List.map_cons, List.zip_cons_cons, PyData.dict.injEq, List.cons.injEq, Prod.mk.injEq] at hd
          cases hd.1.1
    | any b => cases hd
    | exc _ _ _ _ => cases hd
    | _ => cases hd
  · cases e
theorem ze_fn {x : Str} {a : Addr} {pos : Pos} (hm : X.mg x = some (.ref a)) (hg : Gl X x := by rfl) (hd : (x == ("__debug__" : Str)) = false := by decide) : ZE X W (.Name x pos) (eC (fnD a)) := ze_of (v := .ref a) (pe_glob hg hm rfl hd) fun _ _ => .op a
theorem fni_nil {k n : Nat} : ∀ q ∈ ([] : List (Nat × Fn)), FnIn X k n q := fun q h => absurd h List.not_mem_nil
theorem fni_cons {a k n : Nat} {F : Fn} {T : List (Nat × Fn)} {fd : FuncData} {ps : List Str} (h : FnOk X.prog X.w X.K X.mg X.base (L2.CX X.prog X.w) k a fd ps (spF X.K X.mg F n)) (hk : PySem.W.keepIn X.K (.ref a) = true) (hb : Binds X.K fd ps []) (r : ∀ q ∈ T, FnIn X k n q) : ∀ q ∈ (a, F) :: T, FnIn X k n q := fun q hq => by
  rcases List.mem_cons.mp hq with e | hq
  · subst e
    exact ⟨fd, ps, h, hk, hb⟩
  · exact r q hq
theorem lookup_mem {α : Type} {a : Nat} {F : α} : ∀ {T : List (Nat × α)}, List.lookup a T = some F → (a, F) ∈ T
  | [], h => by simp at h
  | (b, G) :: T, h => by
    rw [List.lookup_cons] at h
    by_cases e : a = b
    · subst e
      simp at h
      subst h
      exact List.mem_cons_self
    · have : (a == b) = false := by simpa using e
      rw [this] at h
      exact List.mem_cons_of_mem _ (lookup_mem h)
/-! ### what is walked: a list, a tuple, a text -/
def anyOf (sv : SV) : Option (List PyData) := match listOf sv with
  | some x => some x
  | none => match tupOf sv with
    | some x => some x
    | none => strOf sv
theorem zi_any {tg e : Expr} {f : SE} (h : ZE X W e f) : ZI X W tg e (iOf anyOf f) := by
  refine ⟨fun pins s σ H R I hq => ?_⟩
  obtain ⟨ρ, E, st, Rl, q⟩ := hq
  cases e1 : f st with
  | no =>
    refine (zi_list (tg := tg) h).run pins s σ H R I ⟨ρ, E, st, Rl, ?_⟩
    have e2 : iOf anyOf f st = iOf listOf f st := by unfold iOf; rw [e1]; rfl
    rw [← e2]; exact q
  | ex x s2 =>
    refine (zi_list (tg := tg) h).run pins s σ H R I ⟨ρ, E, st, Rl, ?_⟩
    have e2 : iOf anyOf f st = iOf listOf f st := by unfold iOf; rw [e1]; rfl
    rw [← e2]; exact q
  | ok sv s2 =>
    cases e3 : listOf sv with
    | some x =>
      refine (zi_list (tg := tg) h).run pins s σ H R I ⟨ρ, E, st, Rl, ?_⟩
      have e2 : iOf anyOf f st = iOf listOf f st := by unfold iOf; rw [e1, Res.bind_ok, Res.bind_ok, e3]; unfold anyOf; rw [e3]
      rw [← e2]; exact q
    | none =>
      cases e4 : tupOf sv with
      | some x =>
        refine (zi_tup (tg := tg) h).run pins s σ H R I ⟨ρ, E, st, Rl, ?_⟩
        have e2 : iOf anyOf f st = iOf tupOf f st := by unfold iOf; rw [e1, Res.bind_ok, Res.bind_ok, e4]; unfold anyOf; rw [e3, e4]
        rw [← e2]; exact q
      | none =>
        refine (zi_str (tg := tg) h).run pins s σ H R I ⟨ρ, E, st, Rl, ?_⟩
        have e2 : iOf anyOf f st = iOf strOf f st := by unfold iOf; rw [e1, Res.bind_ok, Res.bind_ok]; unfold anyOf; rw [e3, e4]
        rw [← e2]; exact q
theorem FnOk.up {P : Program} {w : World} {K : PySem.W.Frag} {mg : Str → Option Value} {base : Heap} {CX : CXT} {j k : Nat} {f : Addr} {fd : FuncData} {ps : List Str} {sp : Sp} (F : FnOk P w K mg base CX j f fd ps sp) (h : j ≤ k := by decide) : FnOk P w K mg base CX k f fd ps sp :=
  ⟨F.len, fun A outer s H args us vs Q E hr e0 b r hs => F.run A outer s H args us vs Q E (hr.mono h) e0 b r hs⟩
theorem ze_callV {T : List (Nat × Fn)} {k i : Nat} {x : Str} {e : Expr} {es : List Expr} {fs : List SPl} {p pos : Pos} (tk : Takes X W) (hr : Room k X.A) (hN : X.N[i]? = some x) (ha : ZPs X W (e :: es) fs) (hT : ∀ q ∈ T, FnIn X k fs.length q)
    (hv : Vis X.env.scope x := by first | exact Or.inl rfl | exact Or.inr (Or.inl rfl) | exact Or.inr (Or.inr rfl)) (hd : (x == ("__debug__" : Str)) = false := by decide) (hcd : (x == ("__classdict__" : Str)) = false := by decide)
    (he : starEach (e :: es) X.env = (false, eval e X.env) :: starEach es X.env := by rfl) (hpl : (backTo pos (starEach es X.env)).any (·.1) = false := by rfl) : ZE X W (.Call (.Name x p) (e :: es) [] pos) (eCallV T i fs) := by
  refine ⟨fun pins s σ H Q I h => ?_⟩
  obtain ⟨ρ, E, st, R, q⟩ := h
  have q : Go X.K X.mg W (rE X.K) Q ρ E st σ H (eCallV T i fs st) := q
  unfold eCallV at q
  cases e1 : st.s[i]? with
  | none => rw [e1] at q; exact q.elim
  | some y =>
    rw [e1] at q
    cases y with
    | none => exact q.elim
    | some sv =>
      cases sv with
      | r k => exact q.elim
      | o b => exact q.elim
      | d d =>
        have q : Go X.K X.mg W (rE X.K) Q ρ E st σ H (match (Z.fnA d).bind (fun a => List.lookup a T) with
          | some F => ePure F fs st
          | none => .no) := q
        cases e2 : Z.fnA d with
        | none => rw [e2] at q; exact q.elim
        | some a =>
          rw [e2] at q
          have q : Go X.K X.mg W (rE X.K) Q ρ E st σ H (match List.lookup a T with
            | some F => ePure F fs st
            | none => .no) := q
          cases e3 : List.lookup a T with
          | none => rw [e3] at q; exact q.elim
          | some F =>
            rw [e3] at q
            obtain ⟨v, ev, r⟩ := R.slot i _ e1
            have ea : v = .ref a := Rp.fnA r e2
            subst ea
            obtain ⟨fd, ps, Fk, hk, hb⟩ := hT _ (lookup_mem e3)
            have core := corePure (W := W) ⟨ρ, E, st, R, q⟩ (n := fs.length) rfl
            refine wpAny_Call_Name_kw (thn ((pe_var (pos := p) (i := i) hN hv hd hcd).run pins s σ H (fun v H1 => v = .ref a ∧ H1 = H) I ⟨.ref a, ev, rfl, rfl⟩) fun u s1 ⟨v, H1, I1, r1, ev, eH⟩ => ?_)
            subst ev
            rw [eH] at I1
            cases r1
            refine PySem.W.callWith_K (h₀ := X.base) I.ok.mod.kin hk (thn (ha.run pos pins s1 σ H _ I1 core) fun us s2 ⟨vs, H2, I2, r, q⟩ => ⟨I2.kIn, ?_⟩) he hpl
            exact run_fnS (E := fun σ => WE W σ) Fk hr hb (passAt tk σ) I2 r q
end
end Z

set_option maxRecDepth 100000
set_option maxHeartbeats 4000000
namespace Z
open PySem PySem.Spec PyProof.Rows L2
/-! ### two clauses: the list that is made stands in the small heap meanwhile -/
def compI (k : Nat) (vs1 : List Nat) (g1 : SG) (t1 : S → Res Bool) (f : SE) : List PyData → S → Res Unit
  | [], s => .ok () s
  | y :: ys, s => match g1 y s with
    | none => .no
    | some s1 => (t1 s1).on fun b s2 => if b = true then (f s2).on fun v s3 => match v.keep with
      | some d => match s3.h[k]? with
        | some (.lst acc) => if fits (acc.length + 1) = true then compI k vs1 g1 t1 f ys (S.wipe { s3 with h := s3.h.set k (.lst (acc ++ [d])) } vs1) else .no
        | _ => .no
      | none => .no else compI k vs1 g1 t1 f ys (s2.wipe vs1)
def comp2L (k : Nat) (vs : List Nat) (g : SG) (t : S → Res Bool) (it1 : SI) (vs1 : List Nat) (g1 : SG) (t1 : S → Res Bool) (f : SE) : List PyData → S → Res Unit
  | [], s => .ok () s
  | x :: xs, s => match g x s with
    | none => .no
    | some s1 => (t s1).on fun b s2 => if b = true then (it1 s2).on fun ys s3 => (compI k vs1 g1 t1 f ys (s3.wipe vs1)).on fun _ s4 => comp2L k vs g t it1 vs1 g1 t1 f xs (s4.wipe vs)
      else comp2L k vs g t it1 vs1 g1 t1 f xs (s2.wipe vs)
def noRef (k : Nat) : List (Option SV) → Bool
  | [] => true
  | some (.r j) :: r => decide (j < k) && noRef k r
  | _ :: r => noRef k r
def comp2F (k : Nat) : Res Unit → Res SV := fun r => r.on fun _ s => match s.h[k]? with
  | some (.lst acc) => if (decide (s.h.length = k + 1) && noRef k s.s) = true then .ok (.o (.lst acc)) { s with h := s.h.take k } else .no
  | _ => .no
def eComp2 (it : SI) (vs : List Nat) (c : CT) (t : S → Res Bool) (it1 : SI) (vs1 : List Nat) (c1 : CT) (t1 : S → Res Bool) (f : SE) : SE := fun s => (it s).bind fun xs s =>
  comp2F s.h.length (comp2L s.h.length vs c.sg t it1 vs1 c1.sg t1 f xs (S.wipe { s with h := s.h ++ [.lst []] } vs))
theorem noRef_at {k : Nat} : ∀ {s : List (Option SV)} {i j : Nat}, noRef k s = true → s[i]? = some (some (.r j)) → j < k
  | [], i, j, _, h => by simp at h
  | y :: s, 0, j, n, h => by
    simp at h
    subst h
    simp only [noRef, Bool.and_eq_true, decide_eq_true_eq] at n
    exact n.1
  | y :: s, i + 1, j, n, h => by
    have h' : s[i]? = some (some (.r j)) := by simpa using h
    have n' : noRef k s = true := by
      cases y with
      | none => exact n
      | some sv =>
        cases sv with
        | d x => exact n
        | o b => exact n
        | r m => simp only [noRef, Bool.and_eq_true] at n; exact n.2
    exact noRef_at n' h'
theorem wipe_in {vs : List Nat} {σ : L2.St} : ∀ {vs1 : List Nat}, (∀ i ∈ vs1, i ∈ vs) → L2.wipe (L2.wipe σ vs1) vs = L2.wipe σ vs
  | [], _ => rfl
  | v :: vs1, h => by
    show L2.wipe ((L2.wipe σ vs1).set v none) vs = _
    rw [wipe_set (h v List.mem_cons_self), wipe_in fun i hi => h i (List.mem_cons_of_mem _ hi)]
section
variable {X : Cx} {W : WX} {K : PySem.W.Frag} {mg : Str → Option Value} {M M' ρ ρ' ρ'' E E' E'' : List Addr} {st st' st'' : S} {σ σ' σ'' τ τ' : L2.St} {H H' H'' : Hp} {D : Addr}
/-- a walk, its turns as they are -/
theorem lc_w {J : It} {n : Nat} {G : Hp → Prop} {Y : Nat → Hp → V → Hp → Prop} (w : Walk J n G Y) (T : V → Hp → (Hp → Prop) → Prop) {H0 : Hp} {Qd : Hp → Prop} (Pv : Nat → Hp → Prop) (h0 : Pv 0 H0) (hG : ∀ i H, i ≤ n → Pv i H → G H)
    (hs : ∀ i x H H', i < n → Pv i H → Y i H x H' → T x H' (Pv (i + 1))) (hd : ∀ H, Pv n H → Qd H) :
    ∃ W : Nat → Nat → Hp → Prop, (∃ m, W 0 m H0) ∧ ∀ i m H, W i m H → (J.stop i H ∧ Qd H) ∨ (J.go i H ∧ ∃ Nx : Hp → Prop, (∀ H', Nx H' → ∃ m', m' < m ∧ W (i + 1) m' H') ∧ ∀ x H', J.yld i H x H' → T x H' Nx) := by
  refine ⟨fun i m H => m = n - i ∧ i ≤ n ∧ Pv i H, ⟨n, by simp, Nat.zero_le _, h0⟩, ?_⟩
  rintro i m H ⟨rfl, hi, p⟩
  have q := hG i H hi p
  by_cases hlt : i < n
  · exact .inr ⟨w.goes i H hlt q, Pv (i + 1), fun H' p' => ⟨n - (i + 1), by omega, rfl, hlt, p'⟩, fun x H' y => hs i x H H' hlt p (w.yields i H x H' hlt q y)⟩
  · have e : i = n := by omega
    subst e
    exact .inl ⟨w.stops H q, hd H p⟩
theorem wiped_out {s : S} {vs : List Nat} {i : Nat} {sv : SV} (e : (s.wipe vs).s[i]? = some (some sv)) : i ∉ vs := (wipeL_some (s := s.s) e).2
theorem Post.shed (R : Rel K ρ E st σ H) (vs : List Nat) : Post K ρ E st σ H ρ E (st.wipe vs) (L2.wipe σ vs) H := by
  have Pw := R.wipe vs
  have same : ∀ (i : Nat) (sv : SV), (st.wipe vs).s[i]? = some (some sv) → σ[i]? = (L2.wipe σ vs)[i]? := fun i sv ei => (L2.wipe_out (wiped_out ei)).symm
  have lw : σ.length = (L2.wipe σ vs).length := (L2.wipe_length σ vs).symm
  exact ⟨Pw.rel.congr same lw, List.prefix_refl _, fun _ _ _ e => e, fun a h => Pw.mu a (by rw [chg_congr same lw]; exact h)⟩
theorem Post.to (P : Post K ρ E st σ H ρ' E' st' σ' H') (vs : List Nat) (e : L2.wipe σ' vs = τ) : Post K ρ E st σ H ρ' E' (st'.wipe vs) τ H' := by
  subst e
  exact P.trans (Post.shed P.rel vs)
theorem Post.unshed {vs : List Nat} (P : Post K ρ E st σ H ρ' E' st' (L2.wipe τ vs) H') (hw : ∀ (i : Nat) (sv : SV), st'.s[i]? = some (some sv) → i ∉ vs) : Post K ρ E st σ H ρ' E' st' τ H' := by
  have same : ∀ (i : Nat) (sv : SV), st'.s[i]? = some (some sv) → (L2.wipe τ vs)[i]? = τ[i]? := fun i sv ei => L2.wipe_out (hw i sv ei)
  have lw : (L2.wipe τ vs).length = τ.length := L2.wipe_length τ vs
  exact ⟨P.rel.congr same lw, P.pre, P.fr, fun a h => P.mu a (by rw [chg_congr same lw]; exact h)⟩
theorem Post.unboxed {ρ3 : List Addr} {b : PO} {h3 : List PO} (P : Post K ρ E st σ H (ρ3 ++ [D]) E' st' σ' H') (hp : ρ.length ≤ ρ3.length) (eh : st'.h = h3 ++ [b]) (hn : noRef h3.length st'.s = true) :
    Post K ρ E st σ H ρ3 (D :: E') { st' with h := h3 } σ' H' ∧ Ob K (avd ρ3 (D :: E') { st' with h := h3 } σ') H' D b := by
  have R := P.rel
  have pm : (avd (ρ3 ++ [D]) E' st' σ').Perm (avd ρ3 (D :: E') { st' with h := h3 } σ') := by
    show (ρ3 ++ [D] ++ owns st'.s σ' ++ E').Perm (ρ3 ++ owns st'.s σ' ++ D :: E')
    have e1 : ρ3 ++ [D] ++ owns st'.s σ' ++ E' = ρ3 ++ D :: (owns st'.s σ' ++ E') := by simp
    rw [e1]
    refine (List.perm_middle).trans ?_
    rw [← List.append_assoc]
    exact List.perm_middle.symm
  have mm : ∀ a ∈ avd ρ3 (D :: E') { st' with h := h3 } σ', a ∈ avd (ρ3 ++ [D]) E' st' σ' := fun a h => pm.mem_iff.mpr h
  have hl : ρ3.length = h3.length := by
    have := R.heap.1
    rw [eh] at this
    simpa using this
  have hob : Ob K (avd (ρ3 ++ [D]) E' st' σ') H' D b := by
    obtain ⟨a, e1, q⟩ := R.heap.2 h3.length b (by rw [eh]; simp)
    rw [← hl] at e1
    simp at e1
    subst e1
    exact q
  refine ⟨⟨⟨pm.nodup_iff.mp R.nd, fun a h => R.dom a (mm a h), R.len, fun i sv e => ?_, hl, fun j c e => ?_⟩, ?_, P.fr, fun a h => ?_⟩, hob.mono mm⟩
  · obtain ⟨v, e1, q⟩ := R.slot i sv e
    refine ⟨v, e1, ?_⟩
    cases sv with
    | d x => exact Rp.mono mm q
    | r j =>
      obtain ⟨a, e2, e3⟩ := q
      refine ⟨a, ?_, e3⟩
      have hj : j < ρ3.length := by rw [hl]; exact noRef_at hn e
      rw [List.getElem?_append_left hj] at e2
      exact e2
    | o b => obtain ⟨a, e2, q⟩ := q; exact ⟨a, e2, q.mono mm⟩
  · have e' : st'.h[j]? = some c := by
      rw [eh, List.getElem?_append_left (List.getElem?_eq_some_iff.mp e).1]
      exact e
    obtain ⟨a, e1, q⟩ := R.heap.2 j c e'
    refine ⟨a, ?_, q.mono mm⟩
    have hj : j < ρ3.length := by rw [hl]; exact (List.getElem?_eq_some_iff.mp e).1
    rw [List.getElem?_append_left hj] at e1
    exact e1
  · have := P.pre
    exact List.prefix_of_prefix_length_le this (List.prefix_append _ _) hp
  · refine P.mu a ?_
    have h : a ∈ ρ3 ++ owns st'.s σ' := h
    show a ∈ ρ3 ++ [D] ++ owns st'.s σ'
    rcases List.mem_append.mp h with h | h
    · exact List.mem_append_left _ (List.mem_append_left _ h)
    · exact List.mem_append_right _ h
end
end Z

set_option maxRecDepth 100000
set_option maxHeartbeats 4000000
namespace Z
open PySem PySem.Spec PyProof.Rows L2
section
variable {X : Cx} {W : WX} {K : PySem.W.Frag} {mg : Str → Option Value} {M M' ρ ρ' ρ'' E E' E'' : List Addr} {st st' st'' : S} {σ σ' σ'' τ τ' : L2.St} {H H' H'' : Hp} {D : Addr}
theorem take_last {α : Type} {l : List α} {k : Nat} {a : α} (h : l.length = k + 1) (e : l[k]? = some a) : l = l.take k ++ [a] := by
  have h2 : l.take (k + 1) = l := List.take_of_length_le (by omega)
  have h3 : l.take (k + 1) = l.take k ++ [a] := by rw [List.take_add_one, e]; rfl
  exact h2.symm.trans h3
theorem coreLc2 {vs vs1 : List Nat} {it it1 : SI} {c c1 : CT} {t t1 : S → Res Bool} {f : SE} {Q : VK} (hv : ∀ i ∈ c.ixs, i ∈ vs) (hv1 : ∀ i ∈ c1.ixs, i ∈ vs1) (hin : ∀ i ∈ vs1, i ∈ vs) (h : tzE K mg W (eComp2 it vs c t it1 vs1 c1 t1 f) σ H Q) :
    tLc2 (tzI K mg W it) (c.tg K) (tzB K mg W0 t) (tzI K mg W0 it1) (c1.tg K) (tzB K mg W0 t1) (tzE K mg W0 f) vs vs1 σ H Q := by
  obtain ⟨ρ, E, st, R, q⟩ := h
  refine ⟨ρ, E, st, R, ?_⟩
  have q : Go K mg W (rE K) Q ρ E st σ H (eComp2 it vs c t it1 vs1 c1 t1 f st) := q
  unfold eComp2 at q
  cases e : it st with
  | no => rw [e] at q; exact q
  | ex x s => rw [e] at q; exact q
  | ok xs s =>
    rw [e, Res.bind_ok] at q
    intro J ρ1 E1 H1 P1 cm1 hit D hD
    obtain ⟨G, Y, w, hY⟩ := hit
    generalize hk : s.h.length = k at q
    have hρ1 : ρ1.length = k := by rw [← hk]; exact P1.rel.heap.1
    -- the start: the slots forgotten, the new list laid
    have Pa : Post K ρ1 E1 s σ H1 ρ1 E1 (s.wipe vs) (L2.wipe σ vs) H1 := Post.shed P1.rel vs
    have Pb : Post K ρ1 E1 (s.wipe vs) (L2.wipe σ vs) H1 ρ1 (D :: E1) (s.wipe vs) (L2.wipe σ vs) (upd H1 D (.lst [])) :=
      ⟨Pa.rel.more hD (upd_grow hD) ⟨_, upd_same, trivial⟩, List.prefix_refl _, fun a o _ e => upd_grow hD a o e, fun a h => .inl h⟩
    have P0 : Post K ρ1 E1 s σ H1 (ρ1 ++ [D]) E1 (S.wipe { s with h := s.h ++ [.lst []] } vs) (L2.wipe σ vs) (upd H1 D (.lst [])) := Post.trans Pa (Post.boxed (b := .lst []) Pb (.inr hD) ⟨[], upd_same, .nil⟩)
    have w0 : ∀ (s : S) (vs : List Nat) (i : Nat) (sv : SV), (s.wipe vs).s[i]? = some (some sv) → i ∉ vs := fun s vs i sv ei => wiped_out ei
    refine lc_w w (fun x H' Nx => c.tg K x (L2.wipe σ vs) H' fun σ2 H2 => L2.wipe σ2 vs = L2.wipe σ vs ∧ tzB K mg W0 t σ2 H2 fun b H3 =>
      if b = true then tzI K mg W0 it1 σ2 H3 fun J1 H4 => ∃ W1 : Nat → Nat → Hp → Prop, (∃ m, W1 0 m H4) ∧ ∀ j k H, W1 j k H →
        (J1.stop j H ∧ Nx H) ∨ (J1.go j H ∧ ∃ Nx1 : Hp → Prop, (∀ H', Nx1 H' → ∃ k', k' < k ∧ W1 (j + 1) k' H') ∧ ∀ x H', J1.yld j H x H' → c1.tg K x (L2.wipe σ2 vs1) H' fun σ3 H5 => L2.wipe σ3 vs1 = L2.wipe σ2 vs1 ∧ tzB K mg W0 t1 σ3 H5 fun b H6 =>
          if b = true then tzE K mg W0 f σ3 H6 fun y H7 => ∃ acc, H7 D = some (.lst acc) ∧ acc.length < sizeLine ∧ Nx1 (upd H7 D (.lst (acc ++ [y]))) else Nx1 H6)
      else Nx H3)
      (fun i H2 => ∃ ρ2 st2, (∀ (i : Nat) (sv : SV), st2.s[i]? = some (some sv) → i ∉ vs) ∧ Post K ρ1 E1 s σ H1 ρ2 E1 st2 (L2.wipe σ vs) H2 ∧ ρ2[k]? = some D ∧
        Go K mg W (rE K) Q ρ E st σ H (comp2F k (comp2L k vs c.sg t it1 vs1 c1.sg t1 f (xs.drop i) st2))) ?_ ?_ ?_ ?_
    · exact ⟨ρ1 ++ [D], _, w0 _ vs, P0, by rw [← hρ1]; simp, q⟩
    · rintro i H2 hi ⟨ρ2, st2, hw, P2, eD, q2⟩
      exact (hY _ _ _ ρ2 st2 _ H2 E1 (.refl P1.rel) P2 (.refl _) Come.refl.2).1
    · rintro i x H2 H3 hi ⟨ρ2, st2, hw, P2, eD, q2⟩ y
      obtain ⟨g3, d, ed, rd⟩ := (hY _ _ _ ρ2 st2 _ H2 E1 (.refl P1.rel) P2 (.refl _) Come.refl.2).2 i x H3 hi y
      have ed' : xs.drop i = d :: xs.drop (i + 1) := by
        obtain ⟨h1, h2⟩ := List.getElem?_eq_some_iff.mp ed
        rw [List.drop_eq_getElem_cons h1, h2]
      rw [ed'] at q2
      unfold comp2L at q2
      have P3 : Post K ρ2 E1 st2 (L2.wipe σ vs) H2 ρ2 E1 st2 (L2.wipe σ vs) H3 := ⟨P2.rel.grow g3, List.prefix_refl _, fun a o _ e => g3 a o e, fun a h => .inl h⟩
      cases e2 : c.sg d st2 with
      | none => rw [e2] at q2; exact q2.elim
      | some s1 =>
        rw [e2] at q2
        refine CT.go P3.rel rd e2 hv fun σ2 hσ P4 => ⟨hσ.trans (wipe_idem vs σ), ρ2, E1, s1, P4.rel, ?_⟩
        have hσ2 : L2.wipe σ2 vs = L2.wipe σ vs := hσ.trans (wipe_idem vs σ)
        have P24 := (P2.trans P3).trans P4
        cases e3 : t s1 with
        | no => simp only [e3, Res.on_no] at q2; exact q2.elim
        | ex x s => simp only [e3, Res.on_ex] at q2; exact q2.elim
        | ok b s2 =>
          simp only [e3, Res.on_ok] at q2
          intro b' ρ5 E5 H5 P5 r5
          obtain ⟨k1, k2⟩ := r5
          subst k1 k2
          have P25 := P24.trans P5
          have eD5 : ρ5[k]? = some D := P5.dt eD
          cases b' with
          | false =>
            simp only [Bool.false_eq_true, if_false] at q2 ⊢
            exact ⟨ρ5, s2.wipe vs, w0 _ vs, P25.to vs hσ2, eD5, q2⟩
          | true =>
            simp only [if_true] at q2 ⊢
            refine ⟨ρ5, E5, s2, P5.rel, ?_⟩
            cases e4 : it1 s2 with
            | no => simp only [e4, Res.on_no] at q2; exact q2.elim
            | ex x s => simp only [e4, Res.on_ex] at q2; exact q2.elim
            | ok ys s3 =>
              simp only [e4, Res.on_ok] at q2
              intro J1 ρ6 E6 H6 P6 cm6 hit1
              obtain ⟨G1, Y1, w1, hY1⟩ := hit1
              have eD6 : ρ6[k]? = some D := P6.dt eD5
              have P26 := P25.trans P6
              refine lc_w w1 (fun x H' Nx1 => c1.tg K x (L2.wipe σ2 vs1) H' fun σ3 H5 => L2.wipe σ3 vs1 = L2.wipe σ2 vs1 ∧ tzB K mg W0 t1 σ3 H5 fun b H6 =>
                  if b = true then tzE K mg W0 f σ3 H6 fun y H7 => ∃ acc, H7 D = some (.lst acc) ∧ acc.length < sizeLine ∧ Nx1 (upd H7 D (.lst (acc ++ [y]))) else Nx1 H6)
                (fun j H2 => ∃ ρ7 st7, (∀ (i : Nat) (sv : SV), st7.s[i]? = some (some sv) → i ∉ vs1) ∧ Post K ρ6 E6 s3 σ2 H6 ρ7 E6 st7 (L2.wipe σ2 vs1) H2 ∧ ρ7[k]? = some D ∧
                  Go K mg W (rE K) Q ρ E st σ H (comp2F k ((compI k vs1 c1.sg t1 f (ys.drop j) st7).on fun _ s4 => comp2L k vs c.sg t it1 vs1 c1.sg t1 f (xs.drop (i + 1)) (s4.wipe vs)))) ?_ ?_ ?_ ?_
              · exact ⟨ρ6, s3.wipe vs1, w0 _ vs1, Post.shed P6.rel vs1, eD6, q2⟩
              · rintro j H7 hj ⟨ρ7, st7, hw7, P7, eD7, q7⟩
                exact (hY1 _ _ _ ρ7 st7 _ H7 E6 (.refl P6.rel) P7 (.refl _) Come.refl.2).1
              · rintro j x H7 H8 hj ⟨ρ7, st7, hw7, P7, eD7, q7⟩ y
                obtain ⟨g8, d8, ed8, rd8⟩ := (hY1 _ _ _ ρ7 st7 _ H7 E6 (.refl P6.rel) P7 (.refl _) Come.refl.2).2 j x H8 hj y
                have ed8' : ys.drop j = d8 :: ys.drop (j + 1) := by
                  obtain ⟨h1, h2⟩ := List.getElem?_eq_some_iff.mp ed8
                  rw [List.drop_eq_getElem_cons h1, h2]
                rw [ed8'] at q7
                unfold compI at q7
                have P8 : Post K ρ7 E6 st7 (L2.wipe σ2 vs1) H7 ρ7 E6 st7 (L2.wipe σ2 vs1) H8 := ⟨P7.rel.grow g8, List.prefix_refl _, fun a o _ e => g8 a o e, fun a h => .inl h⟩
                cases e9 : c1.sg d8 st7 with
                | none => rw [e9] at q7; exact q7.elim
                | some s9 =>
                  rw [e9] at q7
                  refine CT.go P8.rel rd8 e9 hv1 fun σ3 hσ3 P9 => ⟨hσ3.trans (wipe_idem vs1 σ2), ρ7, E6, s9, P9.rel, ?_⟩
                  have hσ3' : L2.wipe σ3 vs1 = L2.wipe σ2 vs1 := hσ3.trans (wipe_idem vs1 σ2)
                  have P79 := (P7.trans P8).trans P9
                  cases e10 : t1 s9 with
                  | no => simp only [e10, Res.on_no] at q7; exact q7.elim
                  | ex x s => simp only [e10, Res.on_ex] at q7; exact q7.elim
                  | ok b s10 =>
                    simp only [e10, Res.on_ok] at q7
                    intro b' ρ10 E10 H10 P10 r10
                    obtain ⟨k1, k2⟩ := r10
                    subst k1 k2
                    have P710 := P79.trans P10
                    have eD10 : ρ10[k]? = some D := P10.dt eD7
                    cases b' with
                    | false =>
                      simp only [Bool.false_eq_true, if_false] at q7 ⊢
                      exact ⟨ρ10, s10.wipe vs1, w0 _ vs1, P710.to vs1 hσ3', eD10, q7⟩
                    | true =>
                      simp only [if_true] at q7 ⊢
                      refine ⟨ρ10, E10, s10, P10.rel, ?_⟩
                      cases e11 : f s10 with
                      | no => simp only [e11, Res.on_no] at q7; exact q7.elim
                      | ex x s => simp only [e11, Res.on_ex] at q7; exact q7.elim
                      | ok v s11 =>
                        simp only [e11, Res.on_ok] at q7
                        intro yv ρ11 E11 H11 P11 r11
                        cases e12 : v.keep with
                        | none => simp only [e12] at q7; exact q7.elim
                        | some yd =>
                          simp only [e12] at q7
                          obtain ⟨P11, rv⟩ := r11.keep P11 e12
                          have eD11 : ρ11[k]? = some D := P11.dt eD10
                          cases e13 : s11.h[k]? with
                          | none => simp only [e13] at q7; exact q7.elim
                          | some b0 =>
                            cases b0 with
                            | dk kv => simp only [e13] at q7; exact q7.elim
                            | dt kv => simp only [e13] at q7; exact q7.elim
                            | tb z => simp only [e13] at q7; exact q7.elim
                            | lst acc =>
                              simp only [e13] at q7
                              by_cases hl : fits (acc.length + 1) = true
                              · rw [if_pos hl] at q7
                                have hl' : acc.length + 1 ≤ sizeLine := of_decide_eq_true hl
                                obtain ⟨a, ea, accV, eA, al⟩ := P11.rel.heap.2 k _ e13
                                rw [eD11] at ea
                                cases ea
                                have hch : D ∈ chg ρ11 s11 σ3 := List.mem_append_left _ (List.mem_of_getElem? eD11)
                                have hav : D ∈ avd ρ11 E10 s11 σ3 := chg_sub hch
                                have fr : ∀ c o, c ≠ D → H11 c = some o → upd H11 D (.lst (accV ++ [yv])) c = some o := fun c o n e => by rw [upd_ne n]; exact e
                                have cg : Chg K (avd ρ11 E10 s11 σ3) H11 (upd H11 D (.lst (accV ++ [yv]))) D (.lst (acc ++ [yd])) := by
                                  refine ⟨fr, accV ++ [yv], upd_same, ?_⟩
                                  refine RpAll.frame (fun c o n e => fr c o (fun z => n (by rw [z]; exact hav)) e) (fun a h => .inl h) (al.append (.cons rv .nil))
                                obtain ⟨P12, _⟩ := P11.rel.change (pl := .hp k) (v := .ref D) e13 rfl eD11 cg
                                refine ⟨accV, eA, by rw [al.length]; omega, ρ11, _, w0 _ vs1, ((P710.trans P11).trans P12).to vs1 hσ3', eD11, q7⟩
                              · rw [if_neg hl] at q7; exact q7.elim
              · rintro H7 ⟨ρ7, st7, hw7, P7, eD7, q7⟩
                rw [List.drop_length] at q7
                refine ⟨ρ7, st7.wipe vs, w0 _ vs, (((P26.trans P7).sub cm6.1).to vs ?_), eD7, q7⟩
                rw [wipe_in hin, hσ2]
    · rintro H2 ⟨ρ2, st2, hw, P2, eD, q2⟩
      rw [List.drop_length] at q2
      unfold comp2L comp2F at q2
      simp only [Res.on_ok] at q2
      cases e13 : st2.h[k]? with
      | none => simp only [e13] at q2; exact q2.elim
      | some b0 =>
        cases b0 with
        | dk kv => simp only [e13] at q2; exact q2.elim
        | dt kv => simp only [e13] at q2; exact q2.elim
        | tb z => simp only [e13] at q2; exact q2.elim
        | lst acc =>
          simp only [e13] at q2
          by_cases hl : (decide (st2.h.length = k + 1) && noRef k st2.s) = true
          · rw [if_pos hl] at q2
            simp only [Bool.and_eq_true, decide_eq_true_eq] at hl
            obtain ⟨hl, hn⟩ := hl
            have eh : st2.h = st2.h.take k ++ [.lst acc] := take_last hl e13
            have lk : (st2.h.take k).length = k := by rw [List.length_take]; omega
            have eρ : ρ2 = ρ2.take k ++ [D] := take_last (by rw [P2.rel.heap.1, hl]) eD
            have Pf := P2.unshed hw
            rw [eρ] at Pf
            have lρ : (ρ2.take k).length = k := by
              rw [List.length_take, P2.rel.heap.1, hl]; omega
            obtain ⟨Pu, ob⟩ := Pf.unboxed (by rw [hρ1, lρ]; exact Nat.le_refl _) eh (by rw [lk]; exact hn)
            have sub : (D :: E).Sublist (D :: E1) := List.Sublist.cons_cons _ cm1.1
            exact q2 (.ref D) (ρ2.take k) (D :: E) H2 ((P1.trans Pu).sub sub) ⟨D, rfl, rfl, fresh_back P1 (.inr hD), ob.mono (avd_sub sub)⟩
          · rw [if_neg hl] at q2; exact q2.elim
theorem ze_lc2 {elt tg iter tg1 iter1 : Expr} {ifs ifs1 : List Expr} {scope : Scope} {own : List (Str × Nat)} {pos : Pos} {it it1 : SI} {c c1 : CT} {t t1 : S → Res Bool} {f : SE} (vs1 : List Nat) (hc : X.calm = true) (hN : X.N.Nodup) (hi : ZI X W tg iter it) (ok : BlkOk X.N X.env.scope scope own)
    (hg : ∀ (s : Shared) (H : Hp) (C : Addr) (cl : List (Str × Addr)) (fp : List Addr), ZC (X.blk s H scope (compEnvC scope cl C X.env) fp) tg c) (ht : ∀ (s : Shared) (H : Hp) (C : Addr) (cl : List (Str × Addr)) (fp : List Addr), ZTs (X.blk s H scope (compEnvC scope cl C X.env) fp) W0 ifs t)
    (hi1 : ∀ (s : Shared) (H : Hp) (C : Addr) (cl : List (Str × Addr)) (fp : List Addr), ZI (X.blk s H scope (compEnvC scope cl C X.env) fp) W0 tg1 iter1 it1)
    (hg1 : ∀ (s : Shared) (H : Hp) (C : Addr) (cl : List (Str × Addr)) (fp : List Addr), ZC (X.blk s H scope (compEnvC scope cl C X.env) fp) tg1 c1) (ht1 : ∀ (s : Shared) (H : Hp) (C : Addr) (cl : List (Str × Addr)) (fp : List Addr), ZTs (X.blk s H scope (compEnvC scope cl C X.env) fp) W0 ifs1 t1)
    (he : ∀ (s : Shared) (H : Hp) (C : Addr) (cl : List (Str × Addr)) (fp : List Addr), ZE (X.blk s H scope (compEnvC scope cl C X.env) fp) W0 elt f) (hv : ∀ i ∈ c.ixs, i ∈ own.map (·.2) := by decide) (hv1 : ∀ i ∈ c1.ixs, i ∈ vs1 := by decide) (hin : ∀ i ∈ vs1, i ∈ own.map (·.2) := by decide)
    (hs : ∀ x, foldedSetIterable iter X.env x = pure x := by intro _; rfl) (hs1 : ∀ env x, foldedSetIterable iter1 env x = pure x := by intro _ _; rfl) :
    ZE X W (.ListComp elt [⟨tg, iter, ifs, 0⟩, ⟨tg1, iter1, ifs1, 0⟩] scope pos) (eComp2 it (own.map (·.2)) c t it1 vs1 c1 t1 f) :=
  PE.mono (pe_lc2 (wi1 := tzI X.K X.mg W0 it1) (g := c.tg X.K) (g1 := c1.tg X.K) (tt := tzB X.K X.mg W0 t) (tt1 := tzB X.K X.mg W0 t1) (te := tzE X.K X.mg W0 f) hc hN hi ok hin hg ht hi1 hg1 ht1 he hs hs1) fun _ _ _ h => coreLc2 hv hv1 hin h
end
end Z

set_option maxRecDepth 100000
set_option maxHeartbeats 4000000
namespace Z
open PySem PySem.Spec PyProof.Rows L2
/-- a dict that the text's top has made, with texts as keys -/
def gDict (w : World) (K : PySem.W.Frag) (mg : Str → Option Value) (x : Str) (tab : List (Str × PyData)) : Prop :=
  ∃ d es n, mg x = some (.ref d) ∧ KDict K w d es n ∧ ∀ z : Str, ∃ r, PySem.W.nsIn K d z = some r ∧ match r, tab.lookup z with
    | none, none => True
    | some u, some y => ∃ v, RelV v u ∧ ∀ M H, Rp K M H v y
    | _, _ => False
def opKGet (tab : List (Str × PyData)) : PyData → Option SV
  | .str z => some (.d ((tab.lookup z).getD .none))
  | _ => none
section
variable {X : Cx} {W : WX}
theorem ze_kget {x : Str} {tab : List (Str × PyData)} {e : Expr} {g : SPl} {p apos cpos : Pos} (T : gDict X.w X.K X.mg x tab) (he : ZP X W e g) (m : M1 X (.Name x p) "get" apos e cpos) (hg : Gl X x := by rfl) (hd : (x == ("__debug__" : Str)) = false := by decide) :
    ZE X W (.Call (.Attribute (.Name x p) "get" apos) [e] [] cpos) (eUn (opKGet tab) g) := by
  obtain ⟨d, es, n, hm, D, look⟩ := T
  refine ⟨fun pins s σ H Q I h => ?_⟩
  have c := coreUn h
  refine wpAny_Call_method m.base m.few m.line PySem.F.plainAttrs_dict PySem.F.slot_dict_get PySem.F.type_dict_get (thn ((pe_glob (v := .ref d) (pos := p) hg hm rfl hd).run pins s σ H (fun v H1 => v = .ref d ∧ H1 = H) I ⟨rfl, rfl⟩) fun u s1 ⟨v, H1, I1, r1, ev, eH⟩ => ?_)
  subst ev
  rw [eH] at I1
  cases r1
  refine ⟨kd_type D I1, fun b q => ?_, ?_⟩
  · cases q
    exact ⟨_, I1.kIn _ _ D.at_, rfl⟩
  rw [m.trees]
  refine Calls.callWith_builtin rfl (Calls.evalArgs_plain (Calls.spliced_cons (thn (he.run pins s1 σ H _ I1 c) fun iv s2 ⟨y, H2, I2, ry, M, dx, sv, dm, tx, eo, q⟩ => Calls.spliced_nil ?_)))
  unfold opKGet at eo
  split at eo
  · rename_i z
    cases eo
    obtain rfl := tx.str
    obtain ⟨t, rfl⟩ := ry
    obtain ⟨r, e1, e2⟩ := look z
    refine call_meetsIn PySem.F.slot_dict_get (kd_type D I2) PySem.F.entry_dict_get (PySem.F.args_dict_get_2 _ _) (meets_dict_get (PySem.strKind X.prog X.w) d (PySem.strKind_is X.prog X.w z t) D.low) ⟨_, PySem.W.mapOf_K (prog := X.prog) I2.kIn D.at_ D.lit, ?_⟩
    rw [PySem.W.find_K D.at_ e1]
    cases r with
    | none =>
      cases hl : tab.lookup z with
      | none =>
        rw [hl] at q
        exact ⟨.non, H2, I2.tok _, rfl, q _ H2 (New.same .non)⟩
      | some y => rw [hl] at e2; exact e2.elim
    | some u =>
      cases hl : tab.lookup z with
      | none => rw [hl] at e2; exact e2.elim
      | some y =>
        rw [hl] at e2 q
        obtain ⟨v, rv, rp⟩ := e2
        exact ⟨v, H2, I2.tok _, rv, q _ H2 (New.same (rp _ _))⟩
  · cases eo
end
end Z

set_option maxRecDepth 100000
set_option maxHeartbeats 4000000
namespace Z
open PySem PySem.Spec PyProof.Rows L2
/-! ### sets of keys of one kind: what is in them, and that they can be walked -/
section
variable {P : Program} {w : World} {κ : Type} [DecidableEq κ] [BEq κ] [LawfulBEq κ] (kd : KeyKind P w κ)
/-- no two have one key -/
def Apart1 (l : List (Int × Value)) : Prop := l.Pairwise fun e f => ∀ k, kd.is k e.2 = true → kd.is k f.2 = true → False
theorem Apart1.perm {l m : List (Int × Value)} (h : Apart1 kd l) (p : l.Perm m) : Apart1 kd m :=
  (p.pairwise_iff (fun {x y} q k h1 h2 => q k h2 h1)).mp h
/-- the set at a: its members' keys by B, n of them -/
def SetG (h : Heap) (a : Addr) (B : κ → Bool) (n : Nat) : Prop :=
  ∃ ob rows ep tb, h.get? a = some ob ∧ ob.ExactSet ∧ ob.data = .set rows ep tb ∧ ElemsOf kd rows.toList ∧ Apart1 kd rows.toList ∧ (∀ k, B k = true ↔ ∃ e ∈ rows.toList, kd.is k e.2 = true) ∧
    rows.size < scanBound ∧ tb.fits rows.size = true ∧ rows.size = n ∧ Ris tb.place.toList ∧ (w.params.followText "set-order" = true ∨ tb.led = true)
variable {kd} {A : Around} {E : Value → Shared → Prop} {s : Shared} {a : Addr} {B : κ → Bool} {n : Nat}
theorem SetG.stay {h h' : Heap} (G : SetG kd h a B n) (k : ∀ o, h.get? a = some o → h'.get? a = some o) : SetG kd h' a B n := by
  obtain ⟨ob, rows, ep, tb, e, r⟩ := G
  exact ⟨ob, rows, ep, tb, k ob e, r⟩
theorem SetG.like {h : Heap} {B' : κ → Bool} (G : SetG kd h a B n) (e : ∀ k, B' k = B k) : SetG kd h a B' n := by
  rw [show B' = B from funext e]
  exact G
theorem SetG.empty {h : Heap} : SetG kd (h.push { cls := .type "set", dict := none, data := .set #[] 0 (.fresh 0 0 (!w.params.followText "set-order")) }) h.objs.size (fun _ => false) 0 :=
  ⟨_, #[], 0, _, Heap.get?_push_size _ rfl, ⟨rfl, rfl, rfl⟩, rfl, (fun e he => by simp at he), List.Pairwise.nil, (fun k => by simp), (by decide), (by rfl), rfl, List.Pairwise.nil, by
    cases h : w.params.followText "set-order"
    · exact .inr (by simp [SetTable.fresh, h])
    · exact .inl rfl⟩
theorem setG_store {g : Bool → Sem Unit} (hg : ∀ (b : Bool) (z : Shared) (Q' : Unit → Shared → Prop), Q' () z → wpAny (model P w) A (g b) Q' E z)
    {ob : Obj} {rows : Array (Int × Value)} {ep : Nat} {tb : SetTable} (ho : s.heap.get? a = some ob) (hx : ob.ExactSet) (hd : ob.data = .set rows ep tb)
    {more : Array (Int × Value)} {tm : SetTable} {B' : κ → Bool} (g1 : ElemsOf kd more.toList) (d1 : Apart1 kd more.toList) (m1 : ∀ k, B' k = true ↔ ∃ e ∈ more.toList, kd.is k e.2 = true)
    (b1 : more.size < scanBound) (f1 : tm.fits more.size = true) (r1 : Ris tm.place.toList) (l1 : w.params.followText "set-order" = true ∨ tm.led = true) {wasD : Bool} {R : Option Bool → Shared → Prop}
    (hR : ∀ h', Heap.SameBut a s.heap h' → SetG kd h' a B' more.size → R (some true) { s with heap := h' }) :
    wpAny (model P w) A (do
        storeSet a more tm
        if (!wasD && tm.tooFull) = true then do
            g (relayAll tm more (SetTable.grown more.size)).2.2
            storeSet a (relayAll tm more (SetTable.grown more.size)).1 (relayAll tm more (SetTable.grown more.size)).2.1
            pure (some true)
          else pure (some true)) R E s := by
  refine wpAny_bind (wpAny_storeSet_of ho hd ?_ (fits_of_scanBound b1))
  have h1 := store_at (es' := more) (t' := tm) ho hd
  have s1 := Heap.SameBut.update s.heap a (Obj.putSet more tm)
  by_cases full : (!wasD && tm.tooFull) = true
  · rw [if_pos full]
    have q1 := relayAll_perm tm more (SetTable.grown more.size)
    have q2 := relayAll_fits tm more (SetTable.grown more.size)
    have q3 := relayAll_ris tm more (SetTable.grown more.size)
    have q4 := relayAll_led tm more (SetTable.grown more.size)
    generalize relayAll tm more (SetTable.grown more.size) = U at q1 q2 q3 q4 ⊢
    obtain ⟨rows2, t3, gave⟩ := U
    dsimp only at q1 q2 q3 q4 ⊢
    have z2 : rows2.size = more.size := by
      rw [← Array.length_toList, q1.length_eq, Array.length_toList]
    have b2 : rows2.size < scanBound := by
      rw [z2]
      exact b1
    refine wpAny_bind (hg _ _ _ (wpAny_bind (wpAny_storeSet_of h1 rfl ?_ (fits_of_scanBound b2))))
    have h2 := store_at (es' := rows2) (t' := t3) h1 rfl
    refine wpAny_pure (hR _ (s1.trans (Heap.SameBut.update _ a _)) ⟨_, rows2, _, t3, h2, hx, rfl, fun e he => g1 e (q1.mem_iff.mp he), d1.perm kd q1.symm, fun k => (m1 k).trans ?_, b2, q2, z2, q3, ?_⟩)
    · exact ⟨fun ⟨e, he, x⟩ => ⟨e, q1.mem_iff.mpr he, x⟩, fun ⟨e, he, x⟩ => ⟨e, q1.mem_iff.mp he, x⟩⟩
    · rcases l1 with l1 | l1
      · exact .inl l1
      · exact .inr (q4.trans l1)
  · rw [if_neg full]
    exact wpAny_pure (hR _ s1 ⟨_, more, _, tm, h1, hx, rfl, g1, d1, m1, b1, f1, rfl, r1, l1⟩)
theorem setG_put {k : κ} {v : Value} {Q : Bool → Shared → Prop} (hv : kd.is k v = true) (sc : v.scannable = true) (G : SetG kd s.heap a B n) (room : n + 1 < scanBound)
    (hQ : ∀ h', Heap.SameBut a s.heap h' → SetG kd h' a (fun j => B j || decide (j = k)) (if B k = true then n else n + 1) → Q (!B k) { s with heap := h' }) :
    wpAny (model P w) A (setAddHashed a v (kd.hash k)) Q E s := by
  obtain ⟨ob, rows, ep, tb, ho, hx, hd, el, ap, mem, hb, hf, hn, hr, hl⟩ := G
  unfold setAddHashed setAddHashedIn
  refine wpAny_holding (wpAny_bind (wpAny_setState_of ho hd hf ?_))
  dsimp only
  rw [byScan_of sc hb el]
  simp only [↓reduceIte]
  unfold setAddByScan
  refine wpAny_bind (wpAny_bind (wpAny_rule (wpAny_bind (wpAny_setScan_of hv ho hd hf el ?_))))
  cases look : List.findIdx? (fun e => kd.is k e.2) rows.toList with
  | some j =>
    dsimp only
    obtain ⟨hj, pj, _⟩ := List.findIdx?_eq_some_iff_getElem.mp look
    have hB : B k = true := (mem k).mpr ⟨rows.toList[j], List.getElem_mem hj, pj⟩
    have q := hQ s.heap (Heap.SameBut.refl a s.heap) ⟨ob, rows, ep, tb, ho, hx, hd, el, ap, fun i => by
      rw [Bool.or_eq_true, decide_eq_true_eq, ← mem i]
      constructor
      · rintro (z | z)
        · exact z
        · rw [z]; exact hB
      · exact .inl, hb, hf, by rw [if_pos hB]; exact hn, hr, hl⟩
    rw [hB] at q
    exact wpAny_pure (wpAny_pure q)
  | none =>
    dsimp only
    have no : ∀ e ∈ rows.toList, kd.is k e.2 = true → False := fun e he q => by
      have c := List.findIdx?_eq_none_iff.mp look e he
      rw [q] at c
      cases c
    have hB : B k = false := by
      cases q : B k with
      | false => rfl
      | true =>
        obtain ⟨e, he, z⟩ := (mem k).mp q
        exact (no e he z).elim
    have gw : ∀ (b : Bool) {z : Shared} {Q' : Unit → Shared → Prop}, Q' () z → wpAny (model P w) A (match b with | true => rule "set.scan.the-table-gave-way" | false => pure ()) Q' E z :=
      fun b z Q' q => by
        cases b
        · exact wpAny_pure q
        · exact wpAny_rule q
    have q1 := layNew_perm tb rows (kd.hash k) v
    have q2 := layNew_fits tb rows (kd.hash k) v
    have q3 := layNew_ris tb rows (kd.hash k) v hr
    have q4 := layNew_led tb rows (kd.hash k) v
    generalize layNew tb rows (kd.hash k) v = U at q1 q2 q3 q4 ⊢
    obtain ⟨rows1, t1, wasD, gave⟩ := U
    dsimp only at q1 q2 q3 q4 ⊢
    rw [Array.toList_push] at q1
    have pc : rows1.toList.Perm ((kd.hash k, v) :: rows.toList) := q1.trans (List.perm_append_singleton _ _)
    have el1 : ElemsOf kd rows1.toList := fun e he => by
      rcases List.mem_cons.mp (pc.mem_iff.mp he) with z | z
      · subst z
        exact ⟨⟨k, hv, rfl⟩, sc⟩
      · exact el e z
    have ap1 : Apart1 kd rows1.toList := by
      refine Apart1.perm kd ?_ pc.symm
      refine List.pairwise_cons.mpr ⟨fun e he i h1 h2 => ?_, ap⟩
      have : i = k := kd.inj _ _ _ h1 hv
      rw [this] at h2
      exact no e he h2
    have mem1 : ∀ i, (B i || decide (i = k)) = true ↔ ∃ e ∈ rows1.toList, kd.is i e.2 = true := fun i => by
      rw [Bool.or_eq_true, decide_eq_true_eq, mem i]
      constructor
      · rintro (⟨e, he, z⟩ | z)
        · exact ⟨e, pc.mem_iff.mpr (List.mem_cons_of_mem _ he), z⟩
        · rw [z]
          exact ⟨_, pc.mem_iff.mpr List.mem_cons_self, hv⟩
      · rintro ⟨e, he, z⟩
        rcases List.mem_cons.mp (pc.mem_iff.mp he) with y | y
        · subst y
          exact .inr (kd.inj _ _ _ z hv)
        · exact .inl ⟨e, y, z⟩
    have sz : rows1.size = n + 1 := by
      rw [← Array.length_toList, pc.length_eq, List.length_cons, Array.length_toList, hn]
    have b1 : rows1.size < scanBound := by
      rw [sz]
      exact room
    have l1 : w.params.followText "set-order" = true ∨ t1.led = true := by
      rcases hl with hl | hl
      · exact .inl hl
      · exact .inr (q4.trans hl)
    have fin : ∀ h', Heap.SameBut a s.heap h' → SetG kd h' a (fun j => B j || decide (j = k)) rows1.size → Q true { s with heap := h' } := fun h' sb r => by
      have q := hQ h' sb
      rw [hB] at q
      rw [sz] at r
      exact q r
    refine wpAny_bind (gw _ ?_)
    split
    · refine wpAny_bind ?_
      rw [hashByValue_scannable 8 sc]
      refine wpAny_pure (setG_store ?_ ho hx hd el1 ap1 mem1 b1 ?_ ?_ ?_ ?_)
      · intro b z Q' q
        cases b
        · exact wpAny_pure q
        · exact wpAny_rule q
      · first | (split <;> first | exact q2 | exact SetTable.fits_plain_off q2) | exact q2
      · first | (split <;> exact q3) | exact q3
      · first | (split <;> exact l1) | exact l1
      · intro h' sb r
        dsimp only
        exact wpAny_pure (fin h' sb r)
    · refine wpAny_bind (wpAny_pure ?_)
      simp only [↓reduceIte]
      refine setG_store ?_ ho hx hd el1 ap1 mem1 b1 q2 q3 l1 ?_
      · intro b z Q' q
        cases b
        · exact wpAny_pure q
        · exact wpAny_rule q
      · intro h' sb r
        dsimp only
        exact wpAny_pure (fin h' sb r)
end
end Z

set_option maxRecDepth 100000
set_option maxHeartbeats 4000000
namespace Z
open PySem PySem.Spec PyProof.Rows L2
section
variable {P : Program} {w : World} {κ : Type} [DecidableEq κ] [BEq κ] [LawfulBEq κ] {kd : KeyKind P w κ} {A : Around} {s : Shared}
theorem take_snoc {α : Type} {l : List α} {i : Nat} {x : α} (h : l[i]? = some x) : l.take (i + 1) = l.take i ++ [x] := by
  rw [List.take_add_one, h]
  rfl
/-- set.update, item by item -/
theorem setG_loop {R : Result → Shared → Prop} {I : Addr} {fp wr : List Addr} {G : Array GenState → Array GenState → Prop} {n : Nat} {Pv : Nat → Value → Prop} {St : Nat → Shared → Prop} (W : WalksS P w A.in1 I fp wr G n Pv St) (a : Addr) (ha : a ∉ fp)
    (keys : List κ) (hval : ∀ i v, Pv i v → ∃ k, keys[i]? = some k ∧ kd.is k v = true ∧ v.scannable = true) (hb : n + 1 < scanBound) :
    ∀ (f i : Nat) (s : Shared), n - i = f → i ≤ n → St i s → (∃ m, m ≤ i ∧ SetG kd s.heap a (fun k => decide (k ∈ keys.take i)) m) →
      (∀ s' m, Moved (a :: wr) G s s' → m ≤ n → SetG kd s'.heap a (fun k => decide (k ∈ keys.take n)) m → R (.ok (.ret .none)) s') →
      codeAny (model P w) A (.builtin "set.update.loop" ⟨[.ref a, .ref I], []⟩) R s := by
  have aw : a ∉ wr := fun h => ha (W.sub _ h)
  have up : ∀ b ∈ wr, b ∈ a :: wr := fun b hb => List.mem_cons_of_mem _ hb
  intro f
  induction f with
  | zero =>
    intro i s hf hi st ⟨m, hm, g⟩ hR
    obtain rfl : i = n := by omega
    refine codeAny_builtin F.entry_set_update_loop ?_
    rw [Around.under_plainId F.plain_set_update_loop _]
    show wpAny _ A.in1 (pyNext (.ref I) >>= _) _ _ s
    refine wpAny_bind (W.done s _ _ st fun s' mv => ?_)
    exact wpAny_pure (hR s' m (mv.mono up) hm (g.stay fun o e => mv.heap a o aw e))
  | succ f ih =>
    intro i s hf hi st ⟨m, hm, g⟩ hR
    have lt : i < n := by omega
    refine codeAny_builtin F.entry_set_update_loop ?_
    rw [Around.under_plainId F.plain_set_update_loop _]
    show wpAny _ A.in1 (pyNext (.ref I) >>= _) _ _ s
    refine wpAny_bind (W.item i s _ _ lt st fun v s' pv st' mv => ?_)
    obtain ⟨k, ek, hk, sc⟩ := hval i v pv
    have g' := g.stay (h' := s'.heap) fun o e => mv.heap a o aw e
    show wpAny _ A.in1 (holding [v] (setAdd a v) >>= _) _ _ s'
    refine wpAny_bind (wpAny_holding ?_)
    unfold setAdd
    refine wpAny_holding (wpAny_bind (kd.pyHash hk ?_))
    refine setG_put (s := { s' with toks := s'.toks + 1 }) hk sc g' (by omega) fun h' sb g2 => ?_
    have g3 : SetG kd h' a (fun j => decide (j ∈ keys.take (i + 1))) (if decide (k ∈ keys.take i) = true then m else m + 1) := g2.like fun j => by
      rw [take_snoc ek, Bool.eq_iff_iff]
      simp [List.mem_append]
    refine wpAny_pure ⟨plainId_quiet F.plain_set_update_loop _, ih (i + 1) _ (by omega) lt (W.frame _ s' _ _ st' (Nat.le_succ _) fun b hb o e => ?_) ⟨_, ?_, g3⟩ fun s2 m2 mv2 h2 g4 => ?_⟩
    · rw [sb.2 b (fun z : b = a => ha (by rw [← z]; exact hb))]
      exact e
    · split <;> omega
    · refine hR s2 m2 (Moved.trans W.gtrans ((mv.mono up).then_heap (Nat.le_succ _) fun b o hb e => ?_) mv2) h2 g4
      rw [sb.2 b (fun z : b = a => hb (by rw [z]; exact List.mem_cons_self))]
      exact e
end
section
variable {P : Program} {w : World} {κ : Type} [DecidableEq κ] [BEq κ] [LawfulBEq κ] {kd : KeyKind P w κ} {A : Around} {E : Value → Shared → Prop} {s : Shared}
theorem code_set_led1 (x : Value) {Q₁ : Value → Shared → Prop}
    (h : Q₁ (.ref s.heap.objs.size) { s with heap := s.heap.push { cls := .type "set", dict := none, data := .set #[] 0 (.fresh 0 0 (!w.params.followText "set-order")) } }) :
    codeAny (model P w) A (.call (.builtin "set.__new__") ⟨[.type "set", x], []⟩) (wants Q₁ E) s := by
  refine codeAny_of_tree ?_
  show wpAny _ A.in1 (do checkBuiltinCall "set.__new__" ⟨[.type "set", x], []⟩; again (.builtin "set.__new__" ⟨[.type "set", x], []⟩)) _ _ s
  refine wpAny_bind (wpAny_of_eq (F.newCall_set_1 x) (wpAny_pure ⟨plainId_quiet F.plain_set_new _, codeAny_builtin F.entry_set_new ?_⟩))
  rw [Around.under_plainId F.plain_set_new _]
  unfold Builtin.«set.__new__» Builtin.Frozenset.newClass
  have hsub := sub_set_self
  obtain ⟨hp, g, d, tk, os⟩ := s
  dsimp only
  wp_walk
  refine wpAny_askSetting (wpAny_pure ?_)
  dsimp only
  simp only [newObj]
  exact wpAny_bind (wpAny_alloc (wpAny_pure (wpAny_pure h)))
/-- set(xs), a list -/
theorem setG_of {l : Addr} {items : Array Value} (keys : List κ) {Q : Value → Shared → Prop} (hh : A.handled = none) (hl : s.heap.IsList l items) (hk : ∀ (i : Nat) (v : Value), items[i]? = some v → ∃ k, keys[i]? = some k ∧ kd.is k v = true ∧ v.scannable = true) (hb : items.size + 1 < scanBound)
    (h : ∀ (h' : Heap) (tk m : Nat), SetG kd h' s.heap.objs.size (fun k => decide (k ∈ keys.take items.size)) m → m ≤ items.size → (∀ b o, b < s.heap.objs.size → s.heap.get? b = some o → h'.get? b = some o) → Q (.ref s.heap.objs.size) { s with heap := h', toks := tk }) :
    wpAny (model P w) A (call (.type "set") [.ref l]) Q E s := by
  obtain ⟨c, tl, hmro⟩ := F.called_set.mro
  have hmade := F.called_set.made
  have hsub := F.called_set.sub
  refine wpAny_call (codeAny_of_tree ?_)
  show wpAny _ _ (callAny (.type "set") _) _ _ _
  refine wpAny_pure ⟨Code.quiet_builtin _ (by decide +kernel), codeAny_builtin F.entry_type_call ?_⟩
  rw [Around.under_plain (weight_type_call_type "set" [.ref l] []) rfl]
  have h1 := F.called_set.notType
  have h2 := F.called_set.canCreate
  have hct := F.typeCall_set_1 (.ref l)
  generalize hz : (!w.params.followText "set-order") = led
  repeat (any_goals (first | assumption | wp_step))
  refine codeAny_mono (code_set_led1 (.ref l) (E := E) (Q₁ := fun obj s₁ => obj = .ref s.heap.objs.size ∧ s₁ = { s with heap := s.heap.push ({ cls := .type "set", dict := none, data := .set #[] 0 (.fresh 0 0 led) } : Obj) }) ⟨rfl, by rw [← hz]⟩) fun r s₁ hr => ?_
  match r, hr with
  | .error e, hr => exact hr
  | .ok .next, hr => exact hr.elim
  | .ok .brk, hr => exact hr.elim
  | .ok .cont, hr => exact hr.elim
  | .ok (.ret obj), hr =>
    obtain ⟨rfl, rfl⟩ := hr
    have at0 : (s.heap.push ({ cls := .type "set", dict := none, data := .set #[] 0 (.fresh 0 0 led) } : Obj)).get? s.heap.objs.size = some ({ cls := .type "set", dict := none, data := .set #[] 0 (.fresh 0 0 led) } : Obj) := Heap.get?_push_size _ rfl
    have ty0 : Shared.TypeIs { s with heap := s.heap.push ({ cls := .type "set", dict := none, data := .set #[] 0 (.fresh 0 0 led) } : Obj) } (.ref s.heap.objs.size) "set" := ⟨_, at0, rfl⟩
    have hli := F.called_set.init.lookup
    have hbi := F.called_set.init.bind (.ref s.heap.objs.size)
    repeat (any_goals (first | assumption | wp_step))
    refine codeAny_mono (codeAny_call_builtin (R := wants (fun r s₂ => r = .none ∧ ∃ h' tk m, s₂ = { s with heap := h', toks := tk } ∧ SetG kd h' s.heap.objs.size (fun k => decide (k ∈ keys.take items.size)) m ∧ m ≤ items.size ∧
        (∀ b o, b < s.heap.objs.size → s.heap.get? b = some o → h'.get? b = some o)) E) F.called_set.init.plain F.entry_set_init (check_set_init_1 ty0 ?_)) fun r₂ s₂ hr₂ => ?_
    · obtain ⟨ol, hol, hcl, nl, hdl⟩ := hl
      obtain ⟨ocls, odict, odata, oslots⟩ := ol
      simp only at hcl hdl
      subst hcl hdl
      have ol1 : (s.heap.push ({ cls := .type "set", dict := none, data := .set #[] 0 (.fresh 0 0 led) } : Obj)).get? l = some { cls := .type "list", dict := odict, data := .seq items nl, slots := oslots } := Heap.get?_push_of_some _ hol
      have hsls := F.sub_list_set
      have hslf := F.sub_list_frozenset
      have hne : (Value.type "list" == Value.type "dict") = false := by decide
      have hl1 : (s.heap.push ({ cls := .type "set", dict := none, data := .set #[] 0 (.fresh 0 0 led) } : Obj)).IsList l items := ⟨_, ol1, rfl, nl, rfl⟩
      unfold Builtin.«set.__init__» noKeywords Builtin.Frozenset.updateFrom
      generalize hPI : pyIter = PI
      wp_walk
      subst hPI
      refine wpAny_pyIter_list hl1 ?_
      refine wpAny_bind (wpAny_runValue ?_)
      have lS : l < s.heap.objs.size := Heap.lt_size hol
      have hh3 : A.in1.in1.in1.handled = none := by simp [hh]
      have sz1 : (s.heap.push ({ cls := .type "set", dict := none, data := .set #[] 0 (.fresh 0 0 led) } : Obj)).objs.size = s.heap.objs.size + 1 := Heap.size_push ..
      refine setG_loop ((Walks.list hh3 (s.heap.push ({ cls := .type "set", dict := none, data := .set #[] 0 (.fresh 0 0 led) } : Obj)).objs.size l (by rw [sz1]; exact Nat.ne_of_lt (Nat.lt_succ_of_lt lS)) items).toS) s.heap.objs.size (by rw [sz1]; simp only [List.mem_cons, List.not_mem_nil, or_false, not_or]; exact ⟨Nat.ne_of_lt (Nat.lt_succ_self _), Nat.ne_of_gt lS⟩) keys hk hb (items.size - 0) 0 _ (by omega) (Nat.zero_le _)
        ⟨⟨_, Heap.get?_push_size _ rfl, rfl, rfl⟩, hl1.push _⟩ ⟨0, Nat.le_refl _, ?_⟩ fun s' m mv hm g => ?_
      · have g0 : SetG kd (s.heap.push ({ cls := .type "set", dict := none, data := .set #[] 0 (.fresh 0 0 led) } : Obj)) s.heap.objs.size (fun _ => false) 0 := by
          rw [← hz]
          exact SetG.empty
        refine (g0.stay fun o e => Heap.get?_push_of_some _ e).like fun k => by simp
      · obtain ⟨h', g', d', tk', os'⟩ := s'
        have eg : g' = s.gens := mv.gens
        have ed : d' = s.drawn := mv.drawn
        have eo : os' = s.os := mv.os
        subst eg ed eo
        refine wpAny_pure (wpAny_pure ⟨rfl, h', tk', m, rfl, g, hm, fun b o hb e => ?_⟩)
        exact mv.heap b o (by rw [sz1]; simp only [List.mem_cons, List.not_mem_nil, or_false, not_or]; exact ⟨Nat.ne_of_lt hb, Nat.ne_of_lt (Nat.lt_succ_of_lt hb)⟩) (Heap.get?_push_of_some _ (Heap.get?_push_of_some _ e))
    · match r₂, hr₂ with
      | .error e, hr₂ => exact hr₂
      | .ok .next, hr₂ => exact hr₂.elim
      | .ok .brk, hr₂ => exact hr₂.elim
      | .ok .cont, hr₂ => exact hr₂.elim
      | .ok (.ret r), hr₂ =>
        obtain ⟨rfl, h', tk, m, rfl, g, hm, kp⟩ := hr₂
        repeat (any_goals (first | assumption | wp_step))
        exact h _ _ m g hm kp
end
end Z

set_option maxRecDepth 100000
set_option maxHeartbeats 4000000
namespace Z
open PySem PySem.Spec PyProof.Rows L2
section
variable {P : Program} {w : World} {A : Around} {E : Value → Shared → Prop} {s : Shared} {a : Addr} {B : Str → Bool} {n : Nat}
theorem strOf_is {x : Str} {v : Value} (h : (PySem.strKind P w).is x v = true) : ∃ t, v = .str x t := Value.isStrOf_shape h
/-- sorted(a set of texts) -/
theorem sorted_setS {Q : Value → Shared → Prop} (G : SetG (PySem.strKind P w) s.heap a B n) (hh : A.handled = none)
    (hQ : ∀ s' p (out : Array Value) (c : Nat) (ss : List Str), (∀ b o, s.heap.get? b = some o → s'.heap.get? b = some o) → s'.gens = s.gens → s'.os = s.os → s.heap.objs.size ≤ p → s'.heap.get? p = some (seqObj "list" out c) →
      StrsAre out.toList ss → sortedS ss = true → ss.Nodup → (∀ x, x ∈ ss ↔ B x = true) → ss.length = n → n ≤ sizeLine → Q (.ref p) s') :
    wpAny (model P w) A (call (.builtin "sorted") [.ref a]) Q E s := by
  obtain ⟨ob, rows, ep, tb, ho, hx, hd, el, ap, mem, hb, hf, hn, hr, hl⟩ := G
  refine Calls.call_function_entry kind_sorted plain_sorted entry_sorted (args_sorted1 _) ?_
  unfold Builtin.«sorted»
  refine wpAny_bind (m := checkCount "sorted" 1 1 _) (wpAny_pure ?_)
  refine wpAny_bind (collect_set (A := A.in1) hh ⟨ob, ho, hx.1, hd⟩ hf hb hr hl fun s1 vs k1 hz g1 o1 pm => ?_)
  have lv : vs.length = n := by rw [pm.length_eq, List.length_map, Array.length_toList]; exact hn
  have ln : n ≤ sizeLine := by
    have : rows.size < scanBound := hb
    rw [hn] at this
    rw [sizeLine_eq]
    unfold scanBound at this
    omega
  have each : ∀ v ∈ vs, ∃ x t, v = Value.str x t := fun v hv => by
    obtain ⟨e, he, q⟩ := List.mem_map.mp (pm.mem_iff.mp hv)
    obtain ⟨⟨x, hx, _⟩, _⟩ := el e he
    obtain ⟨t, z⟩ := strOf_is hx
    exact ⟨x, t, by rw [← q]; exact z⟩
  have hS : StrsAre vs (vs.map PyProof.Rows.strOf) := strsAre_map vs each
  have pk : (vs.map PyProof.Rows.strOf).Perm (rows.toList.map fun e => PyProof.Rows.strOf e.2) := by
    have q := pm.map PyProof.Rows.strOf
    rw [List.map_map] at q
    exact q
  have nd : (rows.toList.map fun e => PyProof.Rows.strOf e.2).Nodup := by
    unfold List.Nodup
    rw [List.pairwise_map]
    refine List.Pairwise.imp_of_mem (fun {e f} he hf' q z => ?_) ap
    obtain ⟨⟨x, hx, _⟩, _⟩ := el e he
    obtain ⟨⟨y, hy, _⟩, _⟩ := el f hf'
    obtain ⟨t, z1⟩ := strOf_is hx
    obtain ⟨u, z2⟩ := strOf_is hy
    rw [z1, z2] at z
    have z : x = y := z
    subst z
    exact q x hx hy
  have mm : ∀ x, x ∈ (rows.toList.map fun e => PyProof.Rows.strOf e.2) ↔ B x = true := fun x => by
    rw [mem x, List.mem_map]
    constructor
    · rintro ⟨e, he, q⟩
      obtain ⟨⟨y, hy, _⟩, _⟩ := el e he
      obtain ⟨t, z1⟩ := strOf_is hy
      rw [z1] at q
      have q : y = x := q
      subst q
      exact ⟨e, he, hy⟩
    · rintro ⟨e, he, q⟩
      obtain ⟨t, z1⟩ := strOf_is q
      exact ⟨e, he, by rw [z1]; rfl⟩
  refine wpAny_bind (wpAny_newList ?_ (by rw [lv]; exact ln))
  have hoL : (s1.heap.push (seqObj "list" vs.toArray 0)).get? s1.heap.objs.size = some (seqObj "list" vs.toArray 0) := Heap.get?_push_size _ rfl
  refine wpAny_bind (wpAny_holding (wpAny_call_entry slot_list_sort ⟨_, hoL, rfl⟩ entry_list_sort (list_sort_treeKAny strKind_oneLt hoL hS.keysOf (fun v₁ v₂ rest e => keyKind_strs (by rw [← e]; exact hS)) (by rw [lv]; exact ln) fun st' hp hs => ?_) (args_list_sort _)))
  obtain ⟨ss, r1, r2, r3⟩ := sorted_out_str hS hp hs
  refine ⟨_, rfl, ?_⟩
  obtain ⟨c, hc⟩ := sortedHeap_at (vs := vs) (out := (arrOf st').map (·.2)) hoL
  have pn := r2.trans pk
  refine wpAny_pure ⟨_, rfl, hQ _ s1.heap.objs.size ((arrOf st').map (·.2)) c ss (fun b u e => ?_) g1 o1 hz hc r1 r3 (pn.nodup_iff.mpr nd) (fun x => (pn.mem_iff).trans (mm x)) (by rw [pn.length_eq, List.length_map, Array.length_toList]; exact hn) ln⟩
  have q := k1 b u e
  have lt := Heap.lt_size q
  show (sortedHeap (s1.heap.push (seqObj "list" vs.toArray 0)) s1.heap.objs.size vs _).get? b = some u
  rw [sortedHeap_old (Nat.ne_of_lt lt) (by rw [size_push']; exact Nat.lt_succ_of_lt lt)]
  exact Heap.get?_push_of_some _ q
end
end Z

set_option maxRecDepth 100000
set_option maxHeartbeats 4000000
namespace Z
open PySem PySem.Spec PyProof.Rows L2
/-! ### the ascending list of texts without doubles -/
def leS (a b : Str) : Bool := decide (a.cps.toList ≤ b.cps.toList)
def once {α : Type} [DecidableEq α] : List α → List α
  | [] => []
  | x :: r => if x ∈ r then once r else x :: once r
theorem mem_once {α : Type} [DecidableEq α] {x : α} : ∀ {l : List α}, x ∈ once l ↔ x ∈ l
  | [] => Iff.rfl
  | y :: r => by
    unfold once
    by_cases h : y ∈ r
    · rw [if_pos h, mem_once (l := r), List.mem_cons]
      exact ⟨.inr, fun z => z.elim (fun e => by rw [e]; exact h) id⟩
    · rw [if_neg h, List.mem_cons, List.mem_cons, mem_once (l := r)]
theorem nodup_once {α : Type} [DecidableEq α] : ∀ l : List α, (once l).Nodup
  | [] => List.nodup_nil
  | y :: r => by
    unfold once
    by_cases h : y ∈ r
    · rw [if_pos h]; exact nodup_once r
    · rw [if_neg h]
      exact List.nodup_cons.mpr ⟨fun z => h (mem_once.mp z), nodup_once r⟩
def upS (ss : List Str) : List Str := (once ss).mergeSort leS
theorem str_ext {a b : Str} (h : a.cps.toList = b.cps.toList) : a = b := by
  cases a
  cases b
  simp only at h
  congr
  exact Array.toList_inj.mp h
theorem leS_antisymm {a b : Str} (h1 : leS a b = true) (h2 : leS b a = true) : a = b :=
  str_ext (List.le_antisymm (of_decide_eq_true h1) (of_decide_eq_true h2))
theorem leS_trans (a b c : Str) (h1 : leS a b = true) (h2 : leS b c = true) : leS a c = true := decide_eq_true (List.le_trans (of_decide_eq_true h1) (of_decide_eq_true h2))
theorem leS_total (a b : Str) : (leS a b || leS b a) = true := by
  rcases List.le_total a.cps.toList b.cps.toList with h | h
  · rw [show leS a b = true from decide_eq_true h]; rfl
  · rw [show leS b a = true from decide_eq_true h, Bool.or_true]
/-- two ascending lists of the same members, none twice -/
theorem asc_one : ∀ {l m : List Str}, l.Pairwise (fun a b => leS a b = true) → l.Nodup → m.Pairwise (fun a b => leS a b = true) → m.Nodup → (∀ x, x ∈ l ↔ x ∈ m) → l = m
  | [], [], _, _, _, _, _ => rfl
  | [], y :: m, _, _, _, _, h => absurd ((h y).mpr List.mem_cons_self) List.not_mem_nil
  | x :: l, [], _, _, _, _, h => absurd ((h x).mp List.mem_cons_self) List.not_mem_nil
  | x :: l, y :: m, pl, nl, pm, nm, h => by
    obtain ⟨a1, a2⟩ := List.pairwise_cons.mp pl
    obtain ⟨b1, b2⟩ := List.pairwise_cons.mp pm
    obtain ⟨c1, c2⟩ := List.nodup_cons.mp nl
    obtain ⟨d1, d2⟩ := List.nodup_cons.mp nm
    have e : x = y := by
      rcases List.mem_cons.mp ((h x).mp List.mem_cons_self) with z | z
      · exact z
      · rcases List.mem_cons.mp ((h y).mpr List.mem_cons_self) with u | u
        · exact u.symm
        · exact leS_antisymm (a1 y u) (b1 x z)
    subst e
    rw [asc_one a2 c2 b2 d2 fun z => ?_]
    constructor
    · intro hz
      rcases List.mem_cons.mp ((h z).mp (List.mem_cons_of_mem _ hz)) with q | q
      · exact absurd (q ▸ hz) c1
      · exact q
    · intro hz
      rcases List.mem_cons.mp ((h z).mpr (List.mem_cons_of_mem _ hz)) with q | q
      · exact absurd (q ▸ hz) d1
      · exact q
theorem upS_asc (ss : List Str) : (upS ss).Pairwise (fun a b => leS a b = true) := List.pairwise_mergeSort leS_trans leS_total _
theorem upS_nodup (ss : List Str) : (upS ss).Nodup := (List.mergeSort_perm _ _).nodup_iff.mpr (nodup_once ss)
theorem mem_upS {ss : List Str} {x : Str} : x ∈ upS ss ↔ x ∈ ss := (List.mergeSort_perm _ _).mem_iff.trans mem_once
theorem le_of_notlt {a b : Str} (h : ltCps b.cps.toList a.cps.toList = false) : leS a b = true := by
  rw [ltCps_eq] at h
  exact decide_eq_true (List.not_lt.mp (of_decide_eq_false h))
theorem rising_asc : ∀ (p : Str) (l : List Str), risingS p l = true → (∀ x ∈ l, leS p x = true) ∧ l.Pairwise (fun a b => leS a b = true)
  | _, [], _ => ⟨fun x h => absurd h List.not_mem_nil, List.Pairwise.nil⟩
  | p, y :: r, h => by
    have h : (!ltCps y.cps.toList p.cps.toList && risingS y r) = true := h
    rw [Bool.and_eq_true, Bool.not_eq_true'] at h
    have py := le_of_notlt h.1
    obtain ⟨q1, q2⟩ := rising_asc y r h.2
    refine ⟨fun x hx => ?_, List.pairwise_cons.mpr ⟨q1, q2⟩⟩
    rcases List.mem_cons.mp hx with z | z
    · rw [z]; exact py
    · exact leS_trans _ _ _ py (q1 x z)
theorem sortedS_asc : ∀ {l : List Str}, sortedS l = true → l.Pairwise (fun a b => leS a b = true)
  | [], _ => List.Pairwise.nil
  | x :: r, h => by
    obtain ⟨q1, q2⟩ := rising_asc x r h
    exact List.pairwise_cons.mpr ⟨q1, q2⟩
theorem upS_is {l ss : List Str} (h : sortedS l = true) (nd : l.Nodup) (mm : ∀ x, x ∈ l ↔ x ∈ ss) : l = upS ss :=
  asc_one (sortedS_asc h) nd (upS_asc ss) (upS_nodup ss) fun x => (mm x).trans mem_upS.symm
/-! ### sorted(set(e)) -/
def strsD : List PyData → Option (List Str)
  | [] => some []
  | .str x :: r => (strsD r).map (x :: ·)
  | _ => none
def opSortSet : PyData → Option SV
  | .list ds => (strsD ds).bind fun ss => if decide (ss.length + 1 < scanBound) = true then some (.o (.lst ((upS ss).map .str))) else none
  | _ => none
def SetSO (P : Program) (w : World) (a : Addr) (ss : List Str) : HO := .ext fun h => ∃ m, SetG (PySem.strKind P w) h a (fun k => decide (k ∈ ss)) m
section
variable {X : Cx} {W : WX} {K : PySem.W.Frag} {M : List Addr} {H : Hp}
theorem setSO_new {P : Program} {w : World} {h : Heap} {a : Addr} {ss : List Str} {m : Nat} (G : SetG (PySem.strKind P w) h a (fun k => decide (k ∈ ss)) m) : ObjOk P w H h a (SetSO P w a ss) := by
  have ⟨o, _, _, _, ho, _⟩ := G
  exact ⟨⟨m, G⟩, ⟨o, ho⟩, fun h1 h2 ⟨m, p⟩ k => ⟨m, p.stay k⟩⟩
theorem strsD_vals : ∀ {ds : List PyData} {vs : List V} {ss : List Str}, RpAll K M H vs ds → strsD ds = some ss → vs = ss.map V.str
  | [], _, ss, .nil, h => by
    cases h
    rfl
  | d :: ds, _, ss, .cons (v := v) (vs := vs) r al, h => by
    cases d with
    | str x =>
      have h : (strsD ds).map (x :: ·) = some ss := h
      obtain ⟨s2, e1, e2⟩ := Option.map_eq_some_iff.mp h
      subst e2
      have := strsD_vals al e1
      subst this
      cases r
      rfl
    | _ => cases h
theorem str_items : ∀ {ss : List Str} {us : List Value}, Vals (ss.map V.str) us → ∀ (i : Nat) (v : Value), us[i]? = some v → ∃ x t, ss[i]? = some x ∧ v = .str x t
  | [], us, r, i, v, h => by
    have : us = [] := by
      have := r.length
      cases us with
      | nil => rfl
      | cons _ _ => simp at this
    subst this
    simp at h
  | x :: ss, _, .cons r rs, 0, v, h => by
    simp at h
    subst h
    obtain ⟨t, e⟩ := r
    exact ⟨x, t, rfl, e⟩
  | x :: ss, _, .cons r rs, i + 1, v, h => str_items rs i v (by simpa using h)
theorem vals_strs : ∀ {us : List Value} {ss : List Str}, StrsAre us ss → Vals (ss.map V.str) us
  | _, _, .nil => .nil
  | _, _, .cons x t h => .cons ⟨t, rfl⟩ (vals_strs h)
def rSetS (K : PySem.W.Frag) (P : Program) (w : World) : List V → Hp → VK → Prop := fun xs H Q => ∃ (l : Addr) (ss : List Str), xs = [V.ref l] ∧ SqL K H l (ss.map V.str) ∧ ss.length + 1 < scanBound ∧ ∀ p, H p = none → Q (.ref p) (upd H p (SetSO P w p ss))
theorem cr_setS (hc : X.calm = true) : CallR X (.type "set") (rSetS X.K X.prog X.w) := by
  intro pins s σ H xs us Q I r h
  obtain ⟨l, ss, rfl, hl, hb, q⟩ := h
  rw [Vals.ref1 r]
  obtain ⟨its, rv, pl, hz⟩ := I.list hl
  have len : its.toArray.size = ss.length := by rw [List.size_toArray, ← rv.length, List.length_map]
  refine setG_of (kd := PySem.strKind X.prog X.w) ss (I.ok.hd hc) pl.isList (fun i v e => ?_) (by rw [len]; exact hb) fun h' tk m g hm kp => ?_
  · obtain ⟨x, t, e1, e2⟩ := str_items rv i v (by simpa using e)
    subst e2
    exact ⟨x, e1, PySem.strKind_is X.prog X.w x t, rfl⟩
  · rw [len, List.take_length] at g
    exact ⟨.ref s.heap.objs.size, _, I.laid (t' := tk) (fun b u e => kp b u (Heap.lt_size e) e) (Nat.le_refl _) (setSO_new g), rfl, q _ (I.hok.fresh (Nat.le_refl _))⟩
def rSortS (P : Program) (w : World) : List V → Hp → VK → Prop := fun xs H Q => ∃ (a : Addr) (ss : List Str), xs = [V.ref a] ∧ H a = some (SetSO P w a ss) ∧ ∀ p, H p = none → Q (.ref p) (upd H p (.lst ((upS ss).map V.str)))
theorem cr_sortS (hc : X.calm = true) : CallR X (.builtin "sorted") (rSortS X.prog X.w) := by
  intro pins s σ H xs us Q I r h
  obtain ⟨a, ss, rfl, ha, q⟩ := h
  obtain ⟨m, G⟩ := (I.hok a _ ha).1
  rw [Vals.ref1 r]
  refine sorted_setS G (I.ok.hd hc) fun s' p out c l k g o hp hg hS so nd mm hlen ln => ?_
  have el : l = upS ss := upS_is so nd fun x => (mm x).trans (by simp)
  subst el
  have hn : H p = none := I.hok.fresh hp
  have hv := vals_strs hS
  have J : Inv X pins σ (upd H p (.lst ((upS ss).map V.str))) { s with heap := s'.heap, gens := s'.gens, drawn := s'.drawn, toks := s'.toks } :=
    I.call (ch := []) (Un.laid k hp hn) (I.hok.laid k hp ⟨by rw [List.length_map, hlen]; exact ln, out.toList, c, hv, hg⟩) (by rw [g]; exact I.bare) (fun _ z => nomatch z)
  have e : s' = { s with heap := s'.heap, gens := s'.gens, drawn := s'.drawn, toks := s'.toks } := by
    cases s'
    cases s
    cases o
    rfl
  rw [e]
  exact ⟨.ref p, _, J, rfl, q p hn⟩
theorem ze_sortedSet {e : Expr} {f : SPl} {p p2 q pos : Pos} (hc : X.calm = true) (hg : Gl X "sorted") (hm : X.mg "sorted" = none) (hg2 : Gl X "set") (hm2 : X.mg "set" = none) (he : ZP X W e f)
    (hs : starEach [e] X.env = (false, eval e X.env) :: starEach [] X.env := by rfl) (hpl : (backTo q (starEach [] X.env)).any (·.1) = false := by rfl)
    (hs2 : starEach [.Call (.Name "set" p2) [e] [] q] X.env = (false, eval (.Call (.Name "set" p2) [e] [] q) X.env) :: starEach [] X.env := by rfl) (hpl2 : (backTo pos (starEach [] X.env)).any (·.1) = false := by rfl) :
    ZE X W (.Call (.Name "sorted" p) [.Call (.Name "set" p2) [e] [] q] [] pos) (eUn opSortSet f) := by
  refine PE.mono (pe_callB (cr_sortS hc) hg hm PyProof.Rows.boot_sorted (pa_cons (pe_callTy (cr_setS hc) hg2 hm2 (by decide +kernel) (pa_cons he pa_nil hs) (by decide) (by decide) hs hpl) pa_nil hs2) (by decide) (by decide) hs2 hpl2) fun σ H Q h => ?_
  refine tzE.mono (coreUn h) fun x H1 ⟨M, d, sv, dm, t, e1, q⟩ => ?_
  unfold opSortSet at e1
  split at e1
  · rename_i ds
    cases e2 : strsD ds with
    | none => rw [e2] at e1; cases e1
    | some ss =>
      rw [e2, Option.bind_some] at e1
      by_cases hl : decide (ss.length + 1 < scanBound) = true
      · rw [if_pos hl] at e1
        cases e1
        obtain ⟨a, vs, rfl, n, al⟩ := t.list
        have ev := strsD_vals al e2
        subst ev
        refine ⟨a, ss, rfl, .inl n, of_decide_eq_true hl, fun p hp => ⟨p, ss, rfl, upd_same, fun p2 hp2 => ?_⟩⟩
        have hp3 : H1 p2 = none := by
          by_cases z : p2 = p
          · rw [z]; exact hp
          · rw [upd_ne z] at hp2; exact hp2
        refine q _ _ ⟨fun b o e => upd_grow hp2 b o (upd_grow hp b o e), p2, rfl, hp3, (upS ss).map V.str, upd_same, ?_⟩
        have : ∀ l : List Str, RpAll X.K (p2 :: M) (upd (upd H1 p (SetSO X.prog X.w p ss)) p2 (.lst ((upS ss).map V.str))) (l.map V.str) (l.map PyData.str) := fun l => by
          induction l with
          | nil => exact .nil
          | cons x l ih => exact .cons (.str x) ih
        exact this _
      · rw [if_neg hl] at e1; cases e1
  · cases e1
end
end Z

set_option maxRecDepth 100000
set_option maxHeartbeats 4000000
namespace Z
open PySem PySem.Spec PyProof.Rows L2
/-! ### list(zip(a, b)): the zip keeps its tuple for anew, the list holds it -/
theorem zip_no_len : typeLookup (.type "zip") "__len__" = pure none := by rw [typeLookup_type, builtinLookup_eq_fast]; kernel_rfl
theorem zip_no_hint : typeLookup (.type "zip") "__length_hint__" = pure none := by rw [typeLookup_type, builtinLookup_eq_fast]; kernel_rfl
section
variable {prog : Program} {w : World} {A : Around} {E : Value → Shared → Prop} {s : Shared} {z TI TO T i1 i2 : Addr} {fp1 fp2 : List Addr} {n1 n2 i : Nat} {P1 P2 : Nat → Value → Prop} {St1 St2 : Nat → Heap → Prop} {f : Bool} {oT : Obj}
theorem zipH_next_item {Q : Value → Shared → Prop} (S : ZipSep2 z TI TO i1 i2 fp1 fp2) (D1 : Draws prog w A i1 fp1 n1 P1 St1) (D2 : Draws prog w A i2 fp2 n2 P2 St2)
    (hz : IsZipHeld s.heap z TI TO T f) (hT : s.heap.get? T = some oT) (hTI : IsTupOf2 s.heap TI (.ref i1) (.ref i2)) (st1 : St1 i s.heap) (st2 : St2 i s.heap) (hlt1 : i < n1) (hlt2 : i < n2)
    (hQ : ∀ x1 x2 h' tk, P1 i x1 → P2 i x2 → IsZipHeld h' z TI TO T true → St1 (i + 1) h' → St2 (i + 1) h' → IsTupOf2 h' s.heap.objs.size x1 x2 → h'.objs.size = s.heap.objs.size + 1 →
      (∀ c o, c ≠ z → c ≠ i1 → c ≠ i2 → s.heap.get? c = some o → h'.get? c = some o) → Q (.ref s.heap.objs.size) { s with heap := h', toks := tk }) :
    wpAny (model prog w) A (Builtin.«zip.__next__» ⟨[.ref z], []⟩) (fun fin s' => ∃ v, fin = .done (.ret v) ∧ Q v s') E s := by
  obtain ⟨hp, g, d, tk0, os⟩ := s
  show wpAny _ _ (field (.ref z) 2 >>= _) _ _ _
  refine wpAny_bind (wpAny_field hz rfl (x := .bool false) rfl ?_)
  show wpAny _ _ (field (.ref z) 3 >>= _) _ _ _
  refine wpAny_bind (wpAny_field hz rfl (x := .ref TI) rfl ?_)
  refine wpAny_bind (wpAny_seqItems hTI rfl ?_)
  show wpAny _ _ (Builtin.SmallTypes.ownedTupleIsFree (.ref z) >>= _) _ _ _
  refine wpAny_bind (wpAny_tupleHeld_zip hz hT fun g0 hz0 hs0 => ?_)
  replace hs0 : Heap.SameBut z hp g0 := hs0
  simp only [Bool.false_eq_true, if_false]
  refine wpAny_bind ?_
  rw [← Array.forIn_toList]
  simp only [List.forIn_cons, List.forIn_nil]
  refine wpAny_bind (wpAny_bind (wpAny_holding ?_))
  show wpAny _ _ (Builtin.SmallTypes.nextOf (.ref i1) >>= _) _ _ _
  refine wpAny_bind (D1.item i _ _ _ hlt1 (D1.over st1 hs0 S.zf1) fun x1 p1 tk1 hx1 sn1 hp1 => wpAny_pure ?_)
  replace hp1 : Heap.SameBut i1 g0 p1 := hp1
  refine wpAny_pure ?_
  refine wpAny_bind (wpAny_bind (wpAny_holding ?_))
  show wpAny _ _ (Builtin.SmallTypes.nextOf (.ref i2) >>= _) _ _ _
  refine wpAny_bind (D2.item i _ _ _ hlt2 (D2.over (D2.over st2 hs0 S.zf2) hp1 S.sep1_2) fun x2 p2 tk2 hx2 sn2 hp2 => wpAny_pure ?_)
  replace hp2 : Heap.SameBut i2 p1 p2 := hp2
  refine wpAny_pure (wpAny_pure ?_)
  show wpAny _ _ (newTuple [x1, x2] >>= _) _ _ _
  refine wpAny_bind (wpAny_newTuple ?_)
  have hsz : p2.objs.size = hp.objs.size := by rw [hp2.1, hp1.1, hs0.1]
  have hzz : IsZipHeld p2 z TI TO T true := hp2.extBut _ _ S.zi2 (hp1.extBut _ _ S.zi1 hz0)
  have hk : ∀ c o, c ≠ z → c ≠ i1 → c ≠ i2 → hp.get? c = some o → p2.get? c = some o := fun c o c1 c2 c3 e => hp2.extBut _ _ c3 (hp1.extBut _ _ c2 (hs0.extBut _ _ c1 e))
  have hj1 : St1 (i + 1) p2 := D1.over sn1 hp2 S.sep2_1
  refine wpAny_pure ⟨_, rfl, ?_⟩
  show Q (.ref p2.objs.size) _
  have ht : IsTupOf2 (p2.push { cls := .type "tuple", data := .seq #[x1, x2] }) p2.objs.size x1 x2 := Heap.get?_push_size _ rfl
  have hz4 : (p2.push { cls := .type "tuple", data := .seq #[x1, x2] }).objs.size = p2.objs.size + 1 := Heap.size_push ..
  rw [hsz] at ht hz4 ⊢
  exact hQ x1 x2 _ tk2 hx1 hx2 (Heap.get?_push_of_some _ hzz) (D1.frame _ _ _ hj1 fun b hb o e => Heap.get?_push_of_some _ e) (D2.frame _ _ _ sn2 fun b hb o e => Heap.get?_push_of_some _ e) ht hz4 fun c o c1 c2 c3 e => Heap.get?_push_of_some _ (hk c o c1 c2 c3 e)
theorem zipH_next_end {Q : Fin → Shared → Prop} (S : ZipSep2 z TI TO i1 i2 fp1 fp2) (D1 : Draws prog w A i1 fp1 n1 P1 St1) (D2 : Draws prog w A i2 fp2 n2 P2 St2)
    (hz : IsZipHeld s.heap z TI TO T f) (hT : s.heap.get? T = some oT) (hTI : IsTupOf2 s.heap TI (.ref i1) (.ref i2)) (st1 : St1 i s.heap) (st2 : St2 i s.heap) (hle1 : i ≤ n1) (hle2 : i ≤ n2) (hend : i = n1 ∨ i = n2)
    (hE : ∀ h' tk e, (∀ c o, c ≠ z → c ≠ i1 → c ≠ i2 → s.heap.get? c = some o → h'.get? c = some o) → (∃ o, h'.get? e = some o ∧ o.cls = .type "StopIteration") → E (.ref e) { s with heap := h', toks := tk }) :
    wpAny (model prog w) A (Builtin.«zip.__next__» ⟨[.ref z], []⟩) Q E s := by
  obtain ⟨hp, g, d, tk0, os⟩ := s
  show wpAny _ _ (field (.ref z) 2 >>= _) _ _ _
  refine wpAny_bind (wpAny_field hz rfl (x := .bool false) rfl ?_)
  show wpAny _ _ (field (.ref z) 3 >>= _) _ _ _
  refine wpAny_bind (wpAny_field hz rfl (x := .ref TI) rfl ?_)
  refine wpAny_bind (wpAny_seqItems hTI rfl ?_)
  show wpAny _ _ (Builtin.SmallTypes.ownedTupleIsFree (.ref z) >>= _) _ _ _
  refine wpAny_bind (wpAny_tupleHeld_zip hz hT fun g0 hz0 hs0 => ?_)
  replace hs0 : Heap.SameBut z hp g0 := hs0
  simp only [Bool.false_eq_true, if_false]
  refine wpAny_bind ?_
  rw [← Array.forIn_toList]
  simp only [List.forIn_cons, List.forIn_nil]
  refine wpAny_bind (wpAny_bind (wpAny_holding ?_))
  show wpAny _ _ (Builtin.SmallTypes.nextOf (.ref i1) >>= _) _ _ _
  by_cases hlt1 : i < n1
  · refine wpAny_bind (D1.item i _ _ _ hlt1 (D1.over st1 hs0 S.zf1) fun x1 p1 tk1 hx1 sn1 hp1 => wpAny_pure ?_)
    replace hp1 : Heap.SameBut i1 g0 p1 := hp1
    refine wpAny_pure ?_
    refine wpAny_bind (wpAny_bind (wpAny_holding ?_))
    show wpAny _ _ (Builtin.SmallTypes.nextOf (.ref i2) >>= _) _ _ ⟨p1, g, d, tk1, os⟩
    have hi2 : i = n2 := by omega
    refine wpAny_bind (D2.done ⟨p1, g, d, tk1, os⟩ _ _ (by rw [← hi2]; exact D2.over (D2.over st2 hs0 S.zf2) hp1 S.sep1_2) fun q e hq he => ?_)
    replace hq : Heap.ExtBut i2 p1 q := hq
    exact hE q tk1 e (fun c o c1 c2 c3 x => hq _ _ c3 (hp1.extBut _ _ c2 (hs0.extBut _ _ c1 x))) he
  · have hi1 : i = n1 := by omega
    refine wpAny_bind (D1.done ⟨g0, g, d, tk0, os⟩ _ _ (by rw [← hi1]; exact D1.over st1 hs0 S.zf1) fun q e hq he => ?_)
    replace hq : Heap.ExtBut i1 g0 q := hq
    exact hE q tk0 e (fun c o c1 c2 c3 x => hq _ _ c2 (hs0.extBut _ _ c1 x)) he
theorem pyNext_zipH_item {Q : Option Value → Shared → Prop} (S : ZipSep2 z TI TO i1 i2 fp1 fp2) (D1 : Draws prog w A.in1 i1 fp1 n1 P1 St1) (D2 : Draws prog w A.in1 i2 fp2 n2 P2 St2)
    (hz : IsZipHeld s.heap z TI TO T f) (hT : s.heap.get? T = some oT) (hTI : IsTupOf2 s.heap TI (.ref i1) (.ref i2)) (st1 : St1 i s.heap) (st2 : St2 i s.heap) (hlt1 : i < n1) (hlt2 : i < n2)
    (hQ : ∀ x1 x2 h' tk, P1 i x1 → P2 i x2 → IsZipHeld h' z TI TO T true → St1 (i + 1) h' → St2 (i + 1) h' → IsTupOf2 h' s.heap.objs.size x1 x2 → h'.objs.size = s.heap.objs.size + 1 →
      (∀ c o, c ≠ z → c ≠ i1 → c ≠ i2 → s.heap.get? c = some o → h'.get? c = some o) → Q (some (.ref s.heap.objs.size)) { s with heap := h', toks := tk }) :
    wpAny (model prog w) A (pyNext (.ref z)) Q E s := by
  have hTy : s.TypeIs (.ref z) "zip" := ⟨_, hz, rfl⟩
  unfold pyNext
  exact wpAny_bind (wpAny_attempt (wpAny_callSpecial?_slot (name := Str.ofString "__next__") hTy F.slot_zip_next
    (wpAny_call_entry F.slot_zip_next hTy F.entry_zip_next
      (zipH_next_item S D1 D2 hz hT hTI st1 st2 hlt1 hlt2 fun x1 x2 h' tk y1 y2 a1 a3 a4 a5 a6 a7 => wpAny_pure (hQ x1 x2 h' tk y1 y2 a1 a3 a4 a5 a6 a7)) (F.args_zip_next_1 _))))
theorem pyNext_zipH_end {Q : Option Value → Shared → Prop} (S : ZipSep2 z TI TO i1 i2 fp1 fp2) (D1 : Draws prog w A.in1 i1 fp1 n1 P1 St1) (D2 : Draws prog w A.in1 i2 fp2 n2 P2 St2)
    (hz : IsZipHeld s.heap z TI TO T f) (hT : s.heap.get? T = some oT) (hTI : IsTupOf2 s.heap TI (.ref i1) (.ref i2)) (st1 : St1 i s.heap) (st2 : St2 i s.heap) (hle1 : i ≤ n1) (hle2 : i ≤ n2) (hend : i = n1 ∨ i = n2)
    (hQ : ∀ h' tk, (∀ c o, c ≠ z → c ≠ i1 → c ≠ i2 → s.heap.get? c = some o → h'.get? c = some o) → Q none { s with heap := h', toks := tk }) :
    wpAny (model prog w) A (pyNext (.ref z)) Q E s := by
  have hTy : s.TypeIs (.ref z) "zip" := ⟨_, hz, rfl⟩
  unfold pyNext
  refine wpAny_bind (wpAny_attempt (wpAny_callSpecial?_slot (name := Str.ofString "__next__") hTy F.slot_zip_next
    (wpAny_call_entry F.slot_zip_next hTy F.entry_zip_next (zipH_next_end S D1 D2 hz hT hTI st1 st2 hle1 hle2 hend fun h' tk e hk he => ?_) (F.args_zip_next_1 _))))
  obtain ⟨o, ho, hc⟩ := he
  refine wpAny_bind (wpAny_isInstance (T := "StopIteration") (b := true) ⟨o, ho, hc⟩ isSubtype_stop ?_)
  exact wpAny_pure (hQ _ tk hk)
/-- a zip at its turn i: nothing out, or a tuple that is there -/
def ZAt (z TI TO N0 : Addr) (i : Nat) (h : Heap) : Prop := (i = 0 ∧ IsZip h z TI TO .none) ∨ ∃ T f oT, IsZipHeld h z TI TO T f ∧ N0 ≤ T ∧ h.get? T = some oT
/-- the couples made so far -/
structure Cps (P1 P2 : Nat → Value → Prop) (N0 : Addr) (acc : Array Value) (i : Nat) (h : Heap) : Prop where
  size : acc.size = i
  ats : ∀ j, j < i → ∃ T x y, acc[j]? = some (.ref T) ∧ N0 ≤ T ∧ IsTupOf2 h T x y ∧ P1 j x ∧ P2 j y
  inj : ∀ (j k : Nat) (T : Addr), acc[j]? = some (Value.ref T) → acc[k]? = some (Value.ref T) → j = k
theorem Cps.nil {N0 : Addr} {h : Heap} : Cps P1 P2 N0 #[] 0 h := ⟨rfl, fun j h => absurd h (Nat.not_lt_zero _), fun j k T e => by simp at e⟩
theorem Cps.keep {N0 : Addr} {h h' : Heap} {acc : Array Value} (c : Cps P1 P2 N0 acc i h) (k : ∀ b o, N0 ≤ b → h.get? b = some o → h'.get? b = some o) : Cps P1 P2 N0 acc i h' :=
  ⟨c.size, fun j hj => let ⟨T, x, y, e, l, t, p⟩ := c.ats j hj; ⟨T, x, y, e, l, k _ _ l t, p⟩, c.inj⟩
theorem Cps.push {N0 : Addr} {h h' : Heap} {acc : Array Value} {x y : Value} (c : Cps P1 P2 N0 acc i h) (k : ∀ b o, N0 ≤ b → h.get? b = some o → h'.get? b = some o) (hN : N0 ≤ h.objs.size) (t : IsTupOf2 h' h.objs.size x y) (p1 : P1 i x) (p2 : P2 i y) :
    Cps P1 P2 N0 (acc.push (Value.ref h.objs.size)) (i + 1) h' := by
  have sz := c.size
  have new : ∀ (j : Nat) (T : Addr), acc[j]? = some (Value.ref T) → T < h.objs.size := fun j T e => by
    have hj : j < i := by
      rw [← sz]
      exact (Array.getElem?_eq_some_iff.mp e).1
    obtain ⟨T', x, y, e', _, t, _⟩ := c.ats j hj
    rw [e] at e'
    cases e'
    exact Heap.lt_size t
  refine ⟨by rw [Array.size_push, sz], fun j hj => ?_, fun j k' T e1 e2 => ?_⟩
  · rcases Nat.lt_succ_iff_lt_or_eq.mp hj with q | q
    · obtain ⟨T, x, y, e, l, t, p⟩ := c.ats j q
      exact ⟨T, x, y, by rw [Array.getElem?_push, if_neg (by omega)]; exact e, l, k _ _ l t, p⟩
    · subst q
      exact ⟨_, x, y, by rw [Array.getElem?_push, if_pos (by omega)], hN, t, p1, p2⟩
  · rw [Array.getElem?_push] at e1 e2
    split at e1 <;> split at e2
    · omega
    · cases e1
      exact absurd (new _ _ e2) (Nat.lt_irrefl _)
    · cases e2
      exact absurd (new _ _ e1) (Nat.lt_irrefl _)
    · exact c.inj _ _ _ e1 e2
theorem zip_loop {R : Result → Shared → Prop} {S : Addr} {res : Value} (Sp : ZipSep2 z TI TO i1 i2 fp1 fp2) (D1 : Draws prog w A.in1.in1 i1 fp1 n1 P1 St1) (D2 : Draws prog w A.in1.in1 i2 fp2 n2 P2 St2) {n : Nat} (hn : n = min n1 n2) (hnn : n ≤ sizeLine)
    {N0 : Addr} (lz : z < N0) (lTI : TI < N0) (lTO : TO < N0) (li1 : i1 < N0) (li2 : i2 < N0) (lS : S < N0) (hS1 : S ∉ fp1) (hS2 : S ∉ fp2) (hSz : S ≠ z) (hSTI : S ≠ TI) (hSTO : S ≠ TO) :
    ∀ (k i : Nat) (s : Shared) (acc : Array Value) (c : Nat), n - i = k → i ≤ n → N0 ≤ s.heap.objs.size → ZAt z TI TO N0 i s.heap → IsTupOf2 s.heap TI (.ref i1) (.ref i2) → (∃ x y, IsTupOf2 s.heap TO x y) → St1 i s.heap → St2 i s.heap →
      s.heap.get? S = some { cls := .type "list", dict := none, data := .seq acc c, slots := #[] } → Cps P1 P2 N0 acc i s.heap →
      (∀ h' tk acc' c', (∀ b o, b ≠ z → b ≠ TO → b ≠ i1 → b ≠ i2 → b ≠ S → s.heap.get? b = some o → h'.get? b = some o) → h'.get? S = some { cls := .type "list", dict := none, data := .seq acc' c', slots := #[] } → Cps P1 P2 N0 acc' n h' → R (.ok (.ret res)) { s with heap := h', toks := tk }) →
      codeAny (model prog w) A (.builtin "list.extend.loop" ⟨[.ref S, .ref z, res], []⟩) R s := by
  have hSi1 : S ≠ i1 := fun e => hS1 (by rw [e]; exact Sp.mem1)
  have hSi2 : S ≠ i2 := fun e => hS2 (by rw [e]; exact Sp.mem2)
  have ne : ∀ {a b : Addr}, a < N0 → N0 ≤ b → b ≠ a := fun {a b} h l q => Nat.lt_irrefl _ (Nat.lt_of_lt_of_le h (q ▸ l))
  intro k
  induction k with
  | zero =>
    intro i s acc c hk hi hN hz hTI hTO st1 st2 hS hc hR
    have hin : i = n := by omega
    subst hin
    refine codeAny_builtin F.entry_extend_loop ?_
    rw [Around.under_plainId F.plain_extend_loop _]
    show wpAny _ A.in1 (pyNext (.ref z) >>= _) _ _ s
    refine wpAny_bind ?_
    rcases hz with ⟨_, hz⟩ | ⟨T, f, oT, hz, lT, hT⟩
    · obtain ⟨x, y, hTO⟩ := hTO
      refine wpAny_pyNext_zipD2_end Sp D1 D2 hz hTI hTO st1 st2 (by omega) (by omega) (by omega) fun h' tk hm => ?_
      exact wpAny_pure (hR h' tk acc c (fun b o a1 a2 a3 a4 _ e => hm b o a1 a2 a3 a4 e) (hm S _ hSz hSTO hSi1 hSi2 hS) (hc.keep fun b o l e => hm b o (ne lz l) (ne lTO l) (ne li1 l) (ne li2 l) e))
    · refine pyNext_zipH_end Sp D1 D2 hz hT hTI st1 st2 (by omega) (by omega) (by omega) fun h' tk hm => ?_
      exact wpAny_pure (hR h' tk acc c (fun b o a1 a2 a3 a4 _ e => hm b o a1 a3 a4 e) (hm S _ hSz hSi1 hSi2 hS) (hc.keep fun b o l e => hm b o (ne lz l) (ne li1 l) (ne li2 l) e))
  | succ k ih =>
    intro i s acc c hk hi hN hz hTI hTO st1 st2 hS hc hR
    have hlt : i < n := by omega
    refine codeAny_builtin F.entry_extend_loop ?_
    rw [Around.under_plainId F.plain_extend_loop _]
    show wpAny _ A.in1 (pyNext (.ref z) >>= _) _ _ s
    refine wpAny_bind ?_
    have go : ∀ x1 x2 h' tk, P1 i x1 → P2 i x2 → (∃ T f oT, IsZipHeld h' z TI TO T f ∧ N0 ≤ T ∧ h'.get? T = some oT) → St1 (i + 1) h' → St2 (i + 1) h' → IsTupOf2 h' s.heap.objs.size x1 x2 → h'.objs.size = s.heap.objs.size + 1 → (∃ x y, IsTupOf2 h' TO x y) →
        (∀ b o, b ≠ z → b ≠ TO → b ≠ i1 → b ≠ i2 → s.heap.get? b = some o → h'.get? b = some o) →
        wpAny (model prog w) A.in1 (updateSeq S (·.push (.ref s.heap.objs.size)) >>= fun _ => again (.builtin "list.extend.loop" ⟨[.ref S, .ref z, res], []⟩)) (fun fin s' => match fin with | .done f => R (.ok f) s' | .again c' => c'.quiet = true ∧ codeAny (model prog w) A c' R s') (fun e s' => R (.error e) s') { s with heap := h', toks := tk } := by
      intro x1 x2 h' tk p1 p2 hz' sn1 sn2 ht hsz hTO' hm
      have hS' : h'.get? S = some { cls := .type "list", dict := none, data := .seq acc c, slots := #[] } := hm S _ hSz hSTO hSi1 hSi2 hS
      refine wpAny_bind ?_
      refine wpAny_updateSeq (s := { s with heap := h', toks := tk }) hS' rfl (wpAny_pure ⟨plainId_quiet F.plain_extend_loop _, ?_⟩) (by rw [hc.size]; omega) (by show (acc.push _).size ≤ sizeLine + 1; rw [Array.size_push, hc.size]; omega)
      have oth : ∀ b o, b ≠ S → h'.get? b = some o → (h'.update S (Obj.mapSeq (·.push (.ref s.heap.objs.size)))).get? b = some o := fun b o hb e => (Heap.get?_update_other _ _ (Ne.symm hb)).trans e
      have hSn := Heap.get?_update_self (Obj.mapSeq (·.push (.ref s.heap.objs.size))) hS' rfl
      have szu : (h'.update S (Obj.mapSeq (·.push (.ref s.heap.objs.size)))).objs.size = h'.objs.size := (Heap.SameBut.update ..).1
      refine ih (i + 1) { s with heap := h'.update S (Obj.mapSeq (·.push (.ref s.heap.objs.size))), toks := tk } (acc.push (.ref s.heap.objs.size)) _ (by omega) hlt (by show N0 ≤ (h'.update S _).objs.size; rw [szu, hsz]; exact Nat.le_succ_of_le hN) (.inr ?_) (oth _ _ (Ne.symm hSTI) (hm _ _ Sp.TIz Sp.TITO Sp.TIi1 Sp.TIi2 hTI)) ?_ (D1.frame _ _ _ sn1 fun b hb o e => oth b o (fun q => hS1 (q ▸ hb)) e)
        (D2.frame _ _ _ sn2 fun b hb o e => oth b o (fun q => hS2 (q ▸ hb)) e) hSn ?_ fun h'' tk' acc' c' hm' hS'' hc'' => ?_
      · obtain ⟨T, f, oT, a, b, e⟩ := hz'
        exact ⟨T, f, oT, oth _ _ (Ne.symm hSz) a, b, oth _ _ (ne lS b) e⟩
      · obtain ⟨x, y, e⟩ := hTO'
        exact ⟨x, y, oth _ _ (Ne.symm hSTO) e⟩
      · exact (hc.push (h' := h') (fun b o l e => hm b o (ne lz l) (ne lTO l) (ne li1 l) (ne li2 l) e) hN ht p1 p2).keep fun b o l e => oth b o (ne lS l) e
      · exact hR h'' tk' acc' c' (fun b o a1 a2 a3 a4 a5 e => hm' b o a1 a2 a3 a4 a5 (oth b o a5 (hm b o a1 a2 a3 a4 e))) hS'' hc''
    rcases hz with ⟨_, hz⟩ | ⟨T, f, oT, hz, lT, hT⟩
    · obtain ⟨x, y, hTO⟩ := hTO
      refine wpAny_pyNext_zipD2_item Sp D1 D2 hz hTI hTO st1 st2 (by omega) (by omega) fun x1 x2 h' tk y1 y2 z1 z2 d1 d2 z5 z6 hm => ?_
      exact go x1 x2 h' tk y1 y2 ⟨_, _, _, z1, hN, z5⟩ d1 d2 z5 z6 ⟨_, _, z2⟩ hm
    · refine pyNext_zipH_item Sp D1 D2 hz hT hTI st1 st2 (by omega) (by omega) fun x1 x2 h' tk y1 y2 z1 d1 d2 z5 z6 hm => ?_
      obtain ⟨x, y, hTO⟩ := hTO
      exact go x1 x2 h' tk y1 y2 ⟨_, _, _, z1, lT, hm _ _ (ne lz lT) (ne li1 lT) (ne li2 lT) hT⟩ d1 d2 z5 z6 ⟨_, _, hm _ _ Sp.TOz Sp.Ti1 Sp.Ti2 hTO⟩ fun b o a1 _ a3 a4 e => hm b o a1 a3 a4 e
end
end Z

set_option maxRecDepth 100000
set_option maxHeartbeats 4000000
namespace Z
open PySem PySem.Spec PyProof.Rows L2
section
variable {prog : Program} {w : World} {A : Around} {E : Value → Shared → Prop} {s : Shared} {z TI TO T i1 i2 : Addr} {fp1 fp2 : List Addr} {n1 n2 i : Nat} {P1 P2 : Nat → Value → Prop} {St1 St2 : Nat → Heap → Prop} {f : Bool} {oT : Obj}
theorem zip_list {Q : Value → Shared → Prop} (Sp : ZipSep2 z TI TO i1 i2 fp1 fp2) (D1 : Draws prog w A.in1.in1.in1 i1 fp1 n1 P1 St1) (D2 : Draws prog w A.in1.in1.in1 i2 fp2 n2 P2 St2) {n : Nat} (hn : n = min n1 n2) (hnn : n ≤ sizeLine)
    (hz : IsZip s.heap z TI TO .none) (hTI : IsTupOf2 s.heap TI (.ref i1) (.ref i2)) (hTO : ∃ x y, IsTupOf2 s.heap TO x y) (st1 : St1 0 s.heap) (st2 : St2 0 s.heap) (f1 : ∀ b ∈ fp1, b < s.heap.objs.size) (f2 : ∀ b ∈ fp2, b < s.heap.objs.size)
    (hQ : ∀ h' tk acc c, (∀ b o, b ≠ z → b ≠ TO → b ≠ i1 → b ≠ i2 → s.heap.get? b = some o → h'.get? b = some o) → h'.get? s.heap.objs.size = some { cls := .type "list", dict := none, data := .seq acc c, slots := #[] } → Cps P1 P2 (s.heap.objs.size + 1) acc n h' →
      Q (.ref s.heap.objs.size) { s with heap := h', toks := tk }) :
    wpAny (model prog w) A (call (.type "list") [.ref z]) Q E s := by
  obtain ⟨hp, g, d, tk0, os⟩ := s
  have lz : z < hp.objs.size := Heap.lt_size hz
  have lTI : TI < hp.objs.size := Heap.lt_size hTI
  have lTO : TO < hp.objs.size := let ⟨_, _, e⟩ := hTO; Heap.lt_size e
  have li1 : i1 < hp.objs.size := let ⟨_, e⟩ := D1.live _ _ st1; Heap.lt_size e
  have li2 : i2 < hp.objs.size := let ⟨_, e⟩ := D2.live _ _ st2; Heap.lt_size e
  have ne : ∀ {a : Addr}, a < hp.objs.size → hp.objs.size ≠ a := fun {a} h q => Nat.lt_irrefl _ (q ▸ h)
  have hS1 : hp.objs.size ∉ fp1 := fun h => Nat.lt_irrefl _ (f1 _ h)
  have hS2 : hp.objs.size ∉ fp2 := fun h => Nat.lt_irrefl _ (f2 _ h)
  refine callType_codes (Q₁ := fun obj s₁ => obj = .ref hp.objs.size ∧ s₁ = ⟨hp.push { cls := .type "list", data := .seq #[] }, g, d, tk0, os⟩) F.called_list (F.typeCall_list_1 _) F.entry_list_init
    (code_list_new _ ⟨rfl, rfl⟩) fun obj s₁ h₁ => ?_
  obtain ⟨rfl, rfl⟩ := h₁
  have hS : (hp.push { cls := .type "list", data := .seq #[] }).get? hp.objs.size = some { cls := .type "list", data := .seq #[] } := Heap.get?_push_size _ rfl
  refine ⟨⟨_, hS, rfl⟩, F.args_list_init_2 _ _, ?_⟩
  show wpAny _ A.in1.in1 (do let old ← Builtin.List.listItems (.ref hp.objs.size); Builtin.List.listUpdate (.ref hp.objs.size) (fun _ => #[]); letGo old.toList.reverse; Builtin.List.listExtendWith (.ref hp.objs.size) (.ref z) .none) _ _ _
  refine wpAny_bind ?_
  unfold Builtin.List.listItems
  refine wpAny_bind (wpAny_seqItems hS rfl (wpAny_pure ?_))
  show wpAny _ A.in1.in1 (updateSeq hp.objs.size (fun _ => #[]) >>= fun _ => letGo (#[] : Array Value).toList.reverse >>= fun _ => Builtin.List.listExtendWith (.ref hp.objs.size) (.ref z) .none) _ _ _
  refine wpAny_bind (wpAny_updateSeq hS rfl ?_)
  have hS₂ := Heap.get?_update_self (Obj.mapSeq (fun _ => (#[] : Array Value))) hS rfl
  have oth : ∀ b o, b ≠ hp.objs.size → hp.get? b = some o → ((hp.push { cls := .type "list", data := .seq #[] }).update hp.objs.size (Obj.mapSeq (fun _ => (#[] : Array Value)))).get? b = some o :=
    fun b o hb e => (Heap.get?_update_other _ _ (Ne.symm hb)).trans (Heap.get?_push_of_some _ e)
  have sz2 : ((hp.push { cls := .type "list", data := .seq #[] }).update hp.objs.size (Obj.mapSeq (fun _ => (#[] : Array Value)))).objs.size = hp.objs.size + 1 := by rw [(Heap.SameBut.update ..).1, Heap.size_push]
  generalize hh2 : (hp.push { cls := .type "list", data := .seq #[] }).update hp.objs.size (Obj.mapSeq (fun _ => (#[] : Array Value))) = h2 at *
  refine wpAny_bind (wpAny_letGo ?_)
  have hz2 : IsZip h2 z TI TO .none := oth _ _ (Ne.symm (ne lz)) hz
  have hT2 : Shared.TypeIs ⟨h2, g, d, tk0, os⟩ (.ref z) "zip" := ⟨_, hz2, rfl⟩
  unfold Builtin.List.listExtendWith
  refine wpAny_bind (wpAny_typeOf hT2 ?_)
  have h1 : Builtin.List.listSameRef (.ref hp.objs.size) (.ref z) = false := by simp [Builtin.List.listSameRef, ne lz]
  have h3 : (Value.type "zip" == Value.type "list") = false := by decide
  have h4 : (Value.type "zip" == Value.type "tuple") = false := by decide
  simp only [h1, h3, h4, Bool.or_false, Bool.false_eq_true, if_false]
  refine wpAny_bind (wpAny_pyIter_zip (s := ⟨h2, g, d, tk0, os⟩) hz2 ?_)
  refine wpAny_bind (wpAny_holding ?_)
  unfold Builtin.List.listLengthHint
  refine wpAny_bind (wpAny_specialOf hT2 zip_no_len ?_)
  show wpAny _ A.in1.in1 (specialOf (Value.ref z) (Str.ofString "__length_hint__") >>= _) _ _ _
  refine wpAny_bind (wpAny_specialOf hT2 zip_no_hint ?_)
  refine wpAny_pure ?_
  show wpAny _ A.in1.in1 (rule "list.extend.makes-room" >>= fun _ => Builtin.List.listTouch (.ref hp.objs.size) >>= fun _ =>
    again (.builtin "list.extend.loop" ⟨[.ref hp.objs.size, .ref z, .none], []⟩)) _ _ _
  refine wpAny_bind (wpAny_rule ?_)
  refine wpAny_bind ?_
  show wpAny _ A.in1.in1 (updateSeq hp.objs.size (·.push .none) >>= fun _ => updateSeq hp.objs.size (·.pop)) _ _ _
  refine wpAny_bind (wpAny_updateSeq (s := ⟨h2, g, d, tk0, os⟩) hS₂ rfl ?_)
  have hS₃ := Heap.get?_update_self (Obj.mapSeq (·.push Value.none)) hS₂ rfl
  refine wpAny_updateSeq (hz := by seq_fits) hS₃ rfl ?_
  have hS₄ := Heap.get?_update_self (Obj.mapSeq (·.pop)) hS₃ rfl
  have oth4 : ∀ b o, b ≠ hp.objs.size → h2.get? b = some o → ((h2.update hp.objs.size (Obj.mapSeq (·.push Value.none))).update hp.objs.size (Obj.mapSeq (·.pop))).get? b = some o :=
    fun b o hb e => (Heap.get?_update_other _ _ (Ne.symm hb)).trans ((Heap.get?_update_other _ _ (Ne.symm hb)).trans e)
  have sz4 : ((h2.update hp.objs.size (Obj.mapSeq (·.push Value.none))).update hp.objs.size (Obj.mapSeq (·.pop))).objs.size = hp.objs.size + 1 := by rw [(Heap.SameBut.update ..).1, (Heap.SameBut.update ..).1, sz2]
  have al : ∀ b o, b ≠ hp.objs.size → hp.get? b = some o → ((h2.update hp.objs.size (Obj.mapSeq (·.push Value.none))).update hp.objs.size (Obj.mapSeq (·.pop))).get? b = some o := fun b o hb e => oth4 b o hb (oth b o hb e)
  refine wpAny_pure ⟨plainId_quiet F.plain_extend_loop _, zip_loop (A := A.in1) (N0 := hp.objs.size + 1) Sp D1 D2 hn hnn (Nat.lt_succ_of_lt lz) (Nat.lt_succ_of_lt lTI) (Nat.lt_succ_of_lt lTO) (Nat.lt_succ_of_lt li1) (Nat.lt_succ_of_lt li2) (Nat.lt_succ_self _) hS1 hS2 (ne lz) (ne lTI) (ne lTO)
    n 0 ⟨_, g, d, tk0, os⟩ _ _ rfl (Nat.zero_le _) (Nat.le_of_eq sz4.symm) (.inl ⟨rfl, al _ _ (Ne.symm (ne lz)) hz⟩) (al _ _ (Ne.symm (ne lTI)) hTI) (let ⟨x, y, e⟩ := hTO; ⟨x, y, al _ _ (Ne.symm (ne lTO)) e⟩)
    (D1.frame _ _ _ st1 fun b hb o e => al b o (Ne.symm (ne (f1 b hb))) e) (D2.frame _ _ _ st2 fun b hb o e => al b o (Ne.symm (ne (f2 b hb))) e) hS₄ Cps.nil fun h' tk' acc' c' hm hS' hc => ?_⟩
  exact ⟨rfl, hQ h' tk' acc' c' (fun b o a1 a2 a3 a4 e => hm b o a1 a2 a3 a4 (Ne.symm (ne (Heap.lt_size e))) (al b o (Ne.symm (ne (Heap.lt_size e))) e)) hS' hc⟩
end
section
variable {X : Cx} {pins : List (Addr × Obj)} {σ : L2.St} {H H' : Hp} {s : Shared} {h' : Heap}
/-- many new objects are told -/
theorem Inv.many {t' : Nat} (I : Inv X pins σ H s) (k : ∀ b u, s.heap.get? b = some u → h'.get? b = some u) (lo : ∀ b, b < s.heap.objs.size → H' b = H b) (hi : ∀ b u, s.heap.objs.size ≤ b → H' b = some u → ObjOk X.prog X.w H' h' b u) : Inv X pins σ H' { s with heap := h', toks := t' } := by
  have up : ∀ b u, H b = some u → H' b = some u := fun b u e => by rw [lo b (I.hok.lt e)]; exact e
  refine I.un ⟨fun b o q _ _ _ => k b o q, fun b o q _ _ _ => ⟨o.slots, k b o q⟩, fun b o q n _ => by rw [lo b (Heap.lt_size q)]; exact n, fun b o q _ => ⟨o, k b o q⟩, fun b xs q => up _ _ q, fun b o u q => up _ _ q, fun b ps q => ⟨#[], by rw [up _ _ q]; simp⟩⟩ fun b u e => ?_
  by_cases hb : b < s.heap.objs.size
  · rw [lo b hb] at e
    exact (I.hok b u e).stay (fun c v _ q => k c v q) (fun c q => up _ _ q) fun c xs q => up _ _ q
  · exact hi b u (Nat.le_of_not_lt hb) e
end
theorem vals_refs : ∀ Ts : List Addr, Vals (Ts.map V.ref) (Ts.map Value.ref)
  | [] => .nil
  | _ :: r => .cons rfl (vals_refs r)
theorem RpAll.of_ix {K : PySem.W.Frag} {M : List Addr} {H : Hp} : ∀ {vs : List V} {ds : List PyData}, vs.length = ds.length → (∀ (i : Nat) (v : V) (d : PyData), vs[i]? = some v → ds[i]? = some d → Rp K M H v d) → RpAll K M H vs ds
  | [], [], _, _ => .nil
  | _ :: _, _ :: _, h, f => .cons (f 0 _ _ rfl rfl) (RpAll.of_ix (by simpa using h) fun i v d a b => f (i + 1) v d (by simpa using a) (by simpa using b))
/-- where the couples stand -/
theorem Cps.list {P1 P2 : Nat → Value → Prop} {N0 : Addr} {acc : Array Value} {n : Nat} {h : Heap} (c : Cps P1 P2 N0 acc n h) : ∃ Ts : List Addr, acc.toList = Ts.map Value.ref ∧ Ts.length = n ∧ (∀ (j k : Nat) (T : Addr), Ts[j]? = some T → Ts[k]? = some T → j = k) ∧ ∀ (j : Nat) (T : Addr), Ts[j]? = some T → N0 ≤ T ∧ ∃ x y, IsTupOf2 h T x y ∧ P1 j x ∧ P2 j y := by
  have sz := c.size
  have e1 : acc.toList = (acc.toList.map fun v => match v with | .ref a => a | _ => 0).map Value.ref := by
    rw [List.map_map]
    refine List.ext_getElem? fun j => ?_
    rw [List.getElem?_map]
    cases q : acc.toList[j]? with
    | none => rfl
    | some v =>
      have hj : j < n := by
        rw [← sz]
        have := (List.getElem?_eq_some_iff.mp q).1
        simpa using this
      obtain ⟨T, x, y, e, _⟩ := c.ats j hj
      rw [← Array.getElem?_toList, q] at e
      cases e
      rfl
  refine ⟨_, e1, by simpa using sz, fun j k T h1 h2 => ?_, fun j T h1 => ?_⟩
  · refine c.inj j k T ?_ ?_
    · rw [← Array.getElem?_toList, e1, List.getElem?_map, h1]; rfl
    · rw [← Array.getElem?_toList, e1, List.getElem?_map, h2]; rfl
  · have hj : j < n := by
      rw [← sz]
      have := (List.getElem?_eq_some_iff.mp h1).1
      simpa using this
    obtain ⟨T', x, y, e, l, t, p, q⟩ := c.ats j hj
    have : acc[j]? = some (.ref T) := by rw [← Array.getElem?_toList, e1, List.getElem?_map, h1]; rfl
    rw [this] at e
    cases e
    exact ⟨l, x, y, t, p, q⟩
/-- the list of couples -/
def opZipL (ds : List PyData) : Option SV := (zipOf ds).map fun cs => .o (.lst cs)
def eZipL (fs : List SE) : SE := fun s => (its fs s).bind fun ds s => retn (opZipL ds) s
open Classical in
/-- the abstract heap with the couples and their list -/
noncomputable def tellZ (H : Hp) (N S : Addr) (Ts : List Addr) (h : Heap) (as bs : List V) : Hp := fun b =>
  if b < N then H b else if b = S then some (.lst (Ts.map V.ref)) else
    if q : ∃ (o : Obj) (X Y : V) (j : Nat), Ts[j]? = some b ∧ h.get? b = some o ∧ as[j]? = some X ∧ bs[j]? = some Y then some (.frz q.choose (.tup [q.choose_spec.choose, q.choose_spec.choose_spec.choose])) else none
section
variable {X : Cx} {W : WX} {K : PySem.W.Frag} {M : List Addr} {H : Hp}
theorem ze_listZip {a b : Expr} {fs : List SE} {p p2 q pos : Pos} (hc : X.calm = true) (hg : Gl X "list") (hm : X.mg "list" = none) (hg2 : Gl X "zip") (hm2 : X.mg "zip" = none) (ha : ZIs X W [a, b] fs)
    (hs : starEach [a, b] X.env = (false, eval a X.env) :: starEach [b] X.env := by rfl) (hpl : (backTo q (starEach [b] X.env)).any (·.1) = false := by rfl)
    (hs2 : starEach [.Call (.Name "zip" p2) [a, b] [] q] X.env = (false, eval (.Call (.Name "zip" p2) [a, b] [] q) X.env) :: starEach [] X.env := by rfl) (hpl2 : (backTo pos (starEach [] X.env)).any (·.1) = false := by rfl) :
    ZE X W (.Call (.Name "list" p) [.Call (.Name "zip" p2) [a, b] [] q] [] pos) (eZipL fs) := by
  refine ⟨fun pins s σ H Q I h => ?_⟩
  have h : tzL X.K X.mg W (its fs) σ H fun vs H1 => ∃ ρ E st xs ds, Rel X.K ρ E st σ H1 ∧ RpAll X.K (avd ρ E st σ) H1 vs ds ∧ zipOf ds = some xs ∧ ∀ z H', New X.K (avd ρ E st σ) H1 H' (.o (.lst xs)) z → Q z H' := by
    obtain ⟨ρ, E, st, R0, q⟩ := h
    refine ⟨ρ, E, st, R0, ?_⟩
    unfold eZipL at q
    cases e : its fs st with
    | no => simp only [e] at q; exact q
    | ex x s => simp only [e] at q; exact q
    | ok ds s =>
      simp only [e, Res.bind_ok] at q
      intro vs ρ1 E1 H1 P1 r1
      obtain ⟨k, r1⟩ := r1
      subst k
      unfold opZipL at q
      cases e3 : zipOf ds with
      | none => simp only [e3] at q; exact q.elim
      | some xs =>
        simp only [e3, Option.map_some, retn_some] at q
        exact ⟨ρ1, _, s, xs, ds, P1.rel, r1, e3, fun z H' n => Go.new q P1 Come.refl n⟩
  refine wpAny_Call_Name_kw (ld_blt I hg hm PyProof.Rows.boot_list ?_)
  refine PyProof.Rows.callWith_type1 ?_ hs2 hpl2
  rw [hs2]
  show wpAny _ _ (spliced ((false, eval (.Call (.Name "zip" p2) [a, b] [] q) X.env) :: backTo pos (starEach [] X.env))) _ _ s
  refine Calls.spliced_cons (Call_ (ld_blt I hg2 hm2 PyProof.Rows.boot_zip (PyProof.Rows.callWith_type1 (thn (ha.run q pins s σ H _ I h) fun us s1 ⟨vs, H1, I1, r1, hh⟩ => ?_) hs hpl)))
  obtain ⟨ρ, E, st, zs, ds, R1, al, e, k⟩ := hh
  unfold zipOf at e
  split at e
  · rename_i d1 d2
    cases e1 : seqD d1 with
    | none => rw [e1] at e; cases e
    | some xs =>
      cases e2 : seqD d2 with
      | none => rw [e1, e2] at e; cases e
      | some ys =>
        rw [e1, e2] at e
        have e : couples xs ys = some zs := e
        obtain ⟨v, w, rfl, q1, q2⟩ := al.two
        obtain ⟨t, a1, as, rfl, al1, k1⟩ := q1.seq e1
        obtain ⟨u, b1, bs, rfl, al2, k2⟩ := q2.seq e2
        obtain ⟨u1, u2, rfl, ra, rb⟩ := vals2 r1
        cases ra
        cases rb
        obtain ⟨len, ats⟩ := couples_at e
        obtain ⟨its1, rv, s1', z1⟩ := seqF I1 (k1 H1 fun _ _ _ e => e)
        obtain ⟨its2, rv2, s2', z2⟩ := seqF I1 (k2 H1 fun _ _ _ e => e)
        refine zip_begins2 (begF t a1 its1.toArray) (begF u b1 its2.toArray) s1' s2' fun h1 hz hTI hTO o1 o2 hsz hk => Calls.spliced_nil ?_
        have ap := apart5 (n := s1.heap.objs.size) s1'.lt s2'.lt
        have hcA : X.A.handled = none := I.ok.hd hc
        have m1 := rv.length
        have m2 := rv2.length
        have st1 : ItF t h1 s1.heap.objs.size a1 0 ∧ HsF t h1 a1 its1.toArray := ⟨ItF.new o1, by
          cases t
          · exact (show s1.heap.IsList a1 its1.toArray from s1').at fun o e => hk _ _ e
          · exact (show s1.heap.IsTuple a1 its1.toArray from s1').at fun o e => hk _ _ e⟩
        have st2 : ItF u h1 (s1.heap.objs.size + 1) b1 0 ∧ HsF u h1 b1 its2.toArray := ⟨ItF.new o2, by
          cases u
          · exact (show s1.heap.IsList b1 its2.toArray from s2').at fun o e => hk _ _ e
          · exact (show s1.heap.IsTuple b1 its2.toArray from s2').at fun o e => hk _ _ e⟩
        have la := s1'.lt
        have lb := s2'.lt
        refine zip_list (s := { s1 with heap := h1 }) (n := min its1.toArray.size its2.toArray.size) ap.sep (drawsF (A := X.A.in1.in1.in1) t hcA _ a1 ap.a1 its1.toArray) (drawsF (A := X.A.in1.in1.in1) u hcA _ b1 ap.b2 its2.toArray) rfl (by simp only [List.size_toArray]; omega)
          hz hTI ⟨_, _, hTO⟩ st1 st2 (fun c hc => ?_) (fun c hc => ?_) fun h2 tk acc c hm hS hcp => ?_
        · show c < h1.objs.size
          rw [hsz]
          rcases List.mem_cons.mp hc with q | q
          · subst q; exact Nat.lt_add_of_pos_right (by decide)
          · rcases List.mem_cons.mp q with q | q
            · subst q; exact Nat.lt_add_right _ la
            · cases q
        · show c < h1.objs.size
          rw [hsz]
          rcases List.mem_cons.mp hc with q | q
          · subst q; exact Nat.add_lt_add_left (by decide) _
          · rcases List.mem_cons.mp q with q | q
            · subst q; exact Nat.lt_add_right _ lb
            · cases q
        · have hS : h2.get? h1.objs.size = some { cls := .type "list", dict := none, data := .seq acc c, slots := #[] } := hS
          have hcp : Cps (fun i v => its1.toArray[i]? = some v) (fun i v => its2.toArray[i]? = some v) (h1.objs.size + 1) acc (min its1.toArray.size its2.toArray.size) h2 := hcp
          obtain ⟨Ts, eT, lT, inj, atT⟩ := hcp.list
          have hN : ∀ x, x < s1.heap.objs.size → ∀ y : Nat, s1.heap.objs.size ≤ y → x ≠ y := fun x h y l q => Nat.lt_irrefl _ (Nat.lt_of_lt_of_le h (q ▸ l))
          have keep : ∀ b o, s1.heap.get? b = some o → h2.get? b = some o := fun b o e => by
            have l := Heap.lt_size e
            exact hm b o (hN _ l _ (Nat.le_add_right _ _)) (hN _ l _ (Nat.le_add_right _ _)) (hN _ l _ (Nat.le_refl _)) (hN _ l _ (Nat.le_add_right _ _)) (hk b o e)
          have told : ∀ (j : Nat) (T : Addr), Ts[j]? = some T → ∃ (o : Obj) (Xv Yv : V) (x y : Value), tellZ H1 s1.heap.objs.size h1.objs.size Ts h2 as bs T = some (.frz o (.tup [Xv, Yv])) ∧ o = { cls := .type "tuple", data := .seq #[x, y] } ∧ as[j]? = some Xv ∧ bs[j]? = some Yv ∧ RelV Xv x ∧ RelV Yv y ∧ h2.get? T = some o := fun j T hT => by
            obtain ⟨lN, x, y, ht, p1, p2⟩ := atT j T hT
            have hj : j < min its1.toArray.size its2.toArray.size := by
              rw [← lT]
              exact (List.getElem?_eq_some_iff.mp hT).1
            simp only [List.size_toArray] at hj
            have ja : j < as.length := by omega
            have jb : j < bs.length := by omega
            have ea : as[j]? = some as[j] := List.getElem?_eq_getElem ja
            have eb : bs[j]? = some bs[j] := List.getElem?_eq_getElem jb
            obtain ⟨x', ex, rx⟩ := rv.get ea
            obtain ⟨y', ey, ry⟩ := rv2.get eb
            have p1 : its1.toArray[j]? = some x := p1
            have p2 : its2.toArray[j]? = some y := p2
            rw [← Array.getElem?_toList] at p1 p2
            have p1 : its1[j]? = some x := p1
            have p2 : its2[j]? = some y := p2
            rw [ex] at p1
            rw [ey] at p2
            cases p1
            cases p2
            have q : ∃ (o : Obj) (X Y : V) (j : Nat), Ts[j]? = some T ∧ h2.get? T = some o ∧ as[j]? = some X ∧ bs[j]? = some Y := ⟨_, _, _, j, hT, ht, ea, eb⟩
            have hN0 : h1.objs.size + 1 ≤ T := lN
            have n1 : ¬ T < s1.heap.objs.size := by rw [hsz] at hN0; intro z; exact Nat.lt_irrefl _ (Nat.lt_of_lt_of_le z (Nat.le_trans (Nat.le_add_right _ 6) hN0))
            have n2 : T ≠ h1.objs.size := fun z => by rw [z] at hN0; exact Nat.lt_irrefl _ hN0
            obtain ⟨j', c1, c2, c3, c4⟩ := q.choose_spec.choose_spec.choose_spec
            have ej := inj _ _ _ c1 hT
            subst ej
            refine ⟨q.choose, q.choose_spec.choose, q.choose_spec.choose_spec.choose, x, y, ?_, ?_, c3, c4, ?_, ?_, c2⟩
            · unfold tellZ
              rw [if_neg n1, if_neg n2, dif_pos q]
            · exact Option.some.inj (c2.symm.trans ht)
            · have z := Option.some.inj (c3.symm.trans ea)
              exact z ▸ rx
            · have z := Option.some.inj (c4.symm.trans eb)
              exact z ▸ ry
          have tS : tellZ H1 s1.heap.objs.size h1.objs.size Ts h2 as bs h1.objs.size = some (.lst (Ts.map V.ref)) := by
            unfold tellZ
            rw [if_neg (by rw [hsz]; exact Nat.not_lt.mpr (Nat.le_add_right _ _)), if_pos rfl]
          have low : ∀ b, b < s1.heap.objs.size → tellZ H1 s1.heap.objs.size h1.objs.size Ts h2 as bs b = H1 b := fun b hb => by
            unfold tellZ
            rw [if_pos hb]
          have J : Inv X pins σ (tellZ H1 s1.heap.objs.size h1.objs.size Ts h2 as bs) { s1 with heap := h2, toks := tk } := by
            refine Inv.many I1 keep low fun b u lb e => ?_
            by_cases h2' : b = h1.objs.size
            · subst h2'
              rw [tS] at e
              cases e
              refine ⟨?_, acc.toList, c, by rw [eT]; exact vals_refs Ts, hS⟩
              rw [List.length_map, lT]
              simp only [List.size_toArray]
              omega
            · have e' := e
              unfold tellZ at e'
              rw [if_neg (Nat.not_lt.mpr lb), if_neg h2'] at e'
              split at e'
              · rename_i q
                obtain ⟨o, Xv, Yv, j, hj, _⟩ := id q
                obtain ⟨o', Xv', Yv', x, y, t1, t2, t3, t4, t5, t6, t7⟩ := told j b hj
                rw [t1] at e
                cases e
                refine ⟨t7, by show 2 ≤ sizeLine; decide, [x, y], .cons t5 (.cons t6 .nil), ⟨o', t7, by rw [t2], _, by rw [t2]⟩⟩
              · cases e'
          refine ⟨.ref h1.objs.size, _, J, rfl, k _ _ ⟨fun b o e => ?_, h1.objs.size, rfl, ?_, _, tS, ?_⟩⟩
          · rw [low b (I1.hok.lt e)]; exact e
          · exact I1.hok.fresh (by rw [hsz]; exact Nat.le_add_right _ _)
          · have lenz : Ts.length = zs.length := by
              rw [lT, len]
              simp only [List.size_toArray]
              rw [← m1, ← m2, al1.length, al2.length]
            have fr : ∀ a o, H1 a = some o → tellZ H1 s1.heap.objs.size h1.objs.size Ts h2 as bs a = some o := fun b o e => by rw [low b (I1.hok.lt e)]; exact e
            have mm : ∀ b ∈ h1.objs.size :: avd ρ E st σ, b ∈ avd ρ E st σ ∨ H1 b = none := fun b hb => by
              rcases List.mem_cons.mp hb with z | z
              · subst z
                exact .inr (I1.hok.fresh (by rw [hsz]; exact Nat.le_add_right _ _))
              · exact .inl z
            have b1' := al1.frame (M' := h1.objs.size :: avd ρ E st σ) (fun a o _ e => fr a o e) mm
            have b2' := al2.frame (M' := h1.objs.size :: avd ρ E st σ) (fun a o _ e => fr a o e) mm
            refine RpAll.of_ix (by rw [List.length_map]; exact lenz) fun j v d hv hd => ?_
            rw [List.getElem?_map] at hv
            cases hT : Ts[j]? with
            | none => rw [hT] at hv; cases hv
            | some T =>
              rw [hT] at hv
              cases hv
              obtain ⟨o', Xv', Yv', x, y, t1, t2, t3, t4, t5, t6, t7⟩ := told j T hT
              obtain ⟨dx, ex, rx⟩ := b1'.getV t3
              obtain ⟨dy, ey, ry⟩ := b2'.getV t4
              have := ats j dx dy ex ey
              rw [hd] at this
              cases this
              obtain ⟨lN, _⟩ := atT j T hT
              refine .tup (.inr (.inl ⟨o', t1, by rw [t2], fun z => ?_⟩)) (.cons rx (.cons ry .nil))
              rcases List.mem_cons.mp z with z | z
              · rw [z] at lN
                exact Nat.lt_irrefl _ lN
              · obtain ⟨o2, e2, _⟩ := R1.dom T z
                have := I1.hok.lt e2
                have lN : h1.objs.size + 1 ≤ T := lN
                rw [hsz] at lN
                exact Nat.lt_irrefl _ (Nat.lt_of_lt_of_le this (Nat.le_trans (Nat.le_add_right _ 6) lN))
  · cases e
end
end Z

set_option maxRecDepth 100000
set_option maxHeartbeats 4000000
namespace Z
open PySem PySem.Spec PyProof.Rows L2
open LamX (TabB CodeO among_app inv_table codeO_ne LamS lamCx lamEnv lam_start2 run_ofS)
/-! ### a lambda handed to a def that catches -/
section
variable {X : Cx} {pins : List (Addr × Obj)} {σ : L2.St} {H : Hp} {s : Shared} {M : List Addr}
/-- the lambda is made: all but the table stands as it stood -/
theorem lam_make3 {c P : Addr} {q : Str} {params : Arguments} {body : Expr} {scope : Scope} {pos : Pos} {E : Value → Shared → Prop} {Q : Value → Shared → Prop} (I : Inv X pins σ H s) (TB : TabB X.base X.mg c P) (hcode : X.env.code = .ref c) (hq : X.env.qual ++ "<lambda>" = q)
    (hO : Ob X.K M H P (.tb P q)) (hP : P ∈ M) (hM : ∀ a ∈ M, ∃ o, H a = some o) (hdef : defaultsOf params X.env = ([], [])) (hfree : ∀ y ∈ scope.names, y.2 = .free → ∃ c, X.env.cells.lookup y.1 = some c)
    (h : ∀ (f c' : Addr) (pm ctv : Value) (H1 : Hp) (s' : Shared), Inv X pins σ H1 s' → (∀ b o, b ≠ P → H b = some o → H1 b = some o) → Ob X.K M H1 P (.tb P q) →
      s'.heap.get? f = some (PySem.W.kla_obj "<lambda>" q params body scope (cloFrom X.env.cells scope.names []) pm c' ctv) → H1 f = none → f ∉ frs X.stack → H1 c' = some (CodeO c' q) → Q (.ref f) s') :
    wpAny (model X.prog X.w) X.A (eval (.Lambda params body scope pos) X.env) Q E s := by
  subst hq
  obtain ⟨_, ps, hPt, ht, ha⟩ := hO
  refine PySem.W.kla_eval hdef ?_
  have bP : s.heap.BuiltinsAt X.mg P := TB.bm.keeps I.bk
  have hP' : s.heap.get? P = some { cls := .none, data := .fields ps } := I.hok P _ hPt
  have nofr : ∀ f, s.heap.objs.size ≤ f → f ∉ frs X.stack := fun f hf z => by
    rcases List.mem_cons.mp (I.stkSub _ z) with e | e
    · have h1 := I.lt
      rw [← e] at h1
      exact Nat.lt_irrefl _ (Nat.lt_of_lt_of_le h1 hf)
    · exact I.nofs hf e
  cases hc : codeAmong pos ps.toList with
  | none =>
    refine PySem.W.kla_makeFunction (mg := X.mg) (c := c) (P := P) (ps := ps) (closure_ok hfree) I.ok.glob (I.mod.glob.keeps I.bk) hcode (TB.code.keeps I.bk) hP' ht hc TB.gP bP fun c' ctv h' tk hx hge hlt hrec htb => ?_
    obtain ⟨c2, oc, vs, t, e2, hoc, hd, hv⟩ := hrec
    cases e2
    have hsz : s.heap.objs.size ≤ h'.objs.size := Nat.le_trans hge (Nat.le_of_lt hlt)
    have nC : H c' = none := I.hok.fresh hge
    have nM : c' ∉ M := fun z => by obtain ⟨o, e⟩ := hM _ z; rw [nC] at e; cases e
    have I1 := inv_table (t' := tk) (more := #[rawInt pos.line, rawInt pos.col, .ref c']) (h' := h'.push (PySem.W.kla_obj "<lambda>" (X.env.qual ++ "<lambda>") params body scope (cloFrom X.env.cells scope.names []) ((X.mg "__name__").getD .none) c' ctv)) I hPt
      (fun b o hb e => Heap.get?_push_of_some _ (hx b o hb e)) (Heap.get?_push_of_some _ htb) hge ⟨oc, vs, t, Heap.get?_push_of_some _ hoc, hd, hv⟩
    have hE : ∀ b o, b ≠ P → H b = some o → upd (upd H P (.tbl (ps ++ #[rawInt pos.line, rawInt pos.col, .ref c']))) c' (CodeO c' (X.env.qual ++ "<lambda>")) b = some o := fun b o n e => by
      rw [upd_ne (ne_of_none e nC), upd_ne n]
      exact e
    have eL : (ps ++ #[rawInt pos.line, rawInt pos.col, .ref c']).toList = ps.toList ++ [rawInt pos.line, rawInt pos.col, .ref c'] := by simp
    refine h h'.objs.size c' ((X.mg "__name__").getD .none) ctv _ _ I1 hE ⟨rfl, _, by rw [upd_ne (ne_of_none hPt nC), upd_same], by rw [eL]; exact PySem.TriplesOk_snoc _ _ _ _ ht, fun p' cv hcv => ?_⟩ (Heap.get?_push_size _ rfl) ?_ (nofr _ hsz) upd_same
    · rw [eL] at hcv
      rcases among_app _ ht hcv with z | z
      · obtain ⟨c0, e1, e2, e3⟩ := ha p' cv z
        exact ⟨c0, e1, e2, hE _ _ (fun z => e2 (by rw [z]; exact hP)) e3⟩
      · exact ⟨c', z, nM, upd_same⟩
    · have n1 : h'.objs.size ≠ c' := Nat.ne_of_gt hlt
      have n2 : h'.objs.size ≠ P := Nat.ne_of_gt (Nat.lt_of_lt_of_le (Heap.lt_size hP') hsz)
      rw [upd_ne n1, upd_ne n2]
      exact I.hok.fresh hsz
  | some cv =>
    obtain ⟨c', e, hcm, hco⟩ := ha pos cv hc
    subst e
    refine PySem.W.kla_makeFunctionHit (mg := X.mg) (c := c) (P := P) (ps := ps) (closure_ok hfree) I.ok.glob (I.mod.glob.keeps I.bk) hcode (TB.code.keeps I.bk) hP' ht hc bP fun ctv h' tk hx hsz => ?_
    have I1 : Inv X pins σ H { s with heap := h'.push (PySem.W.kla_obj "<lambda>" (X.env.qual ++ "<lambda>") params body scope (cloFrom X.env.cells scope.names []) ((X.mg "__name__").getD .none) c' ctv), toks := tk } := I.kept fun b o e => Heap.get?_push_of_some _ (hx b o e)
    exact h h'.objs.size c' ((X.mg "__name__").getD .none) ctv H _ I1 (fun _ _ _ e => e) ⟨rfl, ps, hPt, ht, ha⟩ (Heap.get?_push_size _ rfl) (I.hok.fresh hsz) (nofr _ hsz) hco
/-- x(), in the def that got the lambda; what is wanted of an exception may hang on the slots there -/
theorem pe_act2 {CXg : CXT} {Eg : XK} {Ng : List Str} {qg q : Str} {sg : Scope} {g f c' : Addr} {cdg pm ctv : Value} {params : Arguments} {body : Expr} {scope : Scope} {k i : Nat} {a : Str} {pn : List (Addr × Obj)} {xe : Value → Shared → Prop} {W : WX} {tb : XK → TE} {p1 p2 : Pos}
    (hqq : X.env.qual ++ "<lambda>" = q) (I : Inv X pins σ H s) (L : LamS X.env.scope scope) (hf : s.heap.get? f = some (PySem.W.kla_obj "<lambda>" q params body scope (cloFrom X.env.cells scope.names []) pm c' ctv)) (hfn : H f = none) (hfr : f ∉ frs X.stack)
    (hbind : bindArgs (PySem.W.kla_fn "<lambda>" q params body scope (cloFrom X.env.cells scope.names []) pm (.ref c') ctv) ⟨[], []⟩ = pure [])
    (tk : Takes ((cxOf CXg X.prog X.w X.K X.mg X.base Ng qg sg g cdg X.A X.stack s H Eg).tr pn xe) W) (hr : Room (k + 1) (X.A.deeper (envOfC qg sg s.heap.objs.size g cdg)))
    (hbody : ∀ (A : Around) (outer : List Env) (s : Shared) (H : Hp) (E : XK), Room k (A.deeper (lamEnv X scope s.heap.objs.size f c')) → PE (lamCx X A outer s H E scope f c') body (tb E))
    (hN : Ng[i]? = some a) (hv : Vis sg a) (hd : (a == ("__debug__" : Str)) = false := by decide) (hcd : (a == ("__classdict__" : Str)) = false := by decide) :
    PE ((cxOf CXg X.prog X.w X.K X.mg X.base Ng qg sg g cdg X.A X.stack s H Eg).tr pn xe) (.Call (.Name a p1) [] [] p2)
      (fun σZ HZ Q => σZ[i]? = some (some (.ref f)) ∧ HZ c' = some (CodeO c' q) ∧ ∃ E : XK, (∀ cls d H', E cls d H' → W cls d σZ H') ∧ tb E σ HZ Q) := by
  subst hqq
  refine ⟨fun pinsZ sZ σZ HZ Q IZ h => ?_⟩
  obtain ⟨hs, hc, E, hW, ht⟩ := h
  refine wpAny_Call_Name_kw (thn ((pe_var (pos := p1) (i := i) hN hv hd hcd).run pinsZ sZ σZ HZ (fun v H1 => v = .ref f ∧ H1 = HZ) IZ ⟨.ref f, hs, rfl, rfl⟩) fun u s1 ⟨v, H1, I1, r1, q1⟩ => ?_)
  obtain ⟨ev, eH⟩ := q1
  subst ev
  rw [eH] at I1
  obtain rfl : u = Value.ref f := r1
  have of1 : s1.heap.get? f = some (PySem.W.kla_obj "<lambda>" (X.env.qual ++ "<lambda>") params body scope (cloFrom X.env.cells scope.names []) pm c' ctv) := I1.base.keep f _ hf hfn hfr (fun z => nomatch (show f ∈ ([] : List Addr) from z))
  refine PySem.W.callWith_F0 ⟨_, _, _, _, of1⟩ ?_
  have un : Un (frs X.stack) [] H HZ s.heap s1.heap := I1.base
  obtain ⟨⟨oc, vs, t, hoc, hdc, hvc⟩, _, _⟩ := I1.hok c' _ hc
  have rc : codeAny (model X.prog X.w) (X.A.deeper (envOfC qg sg s.heap.objs.size g cdg)) (.call (.ref f) ⟨[], []⟩) (CR (L2.CX X.prog X.w) (envOfC qg sg s.heap.objs.size g cdg :: X.stack) X.prog X.w HZ s1 Q E) s1 := by
    refine PySem.W.kla_callFunE hr.depth of1 rfl L.co L.gen rfl ⟨c', oc, vs, t, rfl, hoc, hdc, hvc⟩ ?_
    rw [hbind]
    refine wpAny_pure (wpAny_newFunctionEnv (fun y hy => (L.own y hy).2) (fun y hy => absurd hy (by simp)) (fun h₁ hns hsb => ⟨I1.nolimit.fresh _ hsb, ?_⟩) L.kind)
    show codeAny _ _ (.expr body (lamEnv X scope s1.heap.objs.size f c')) _ _
    have kp : ∀ b o, s1.heap.get? b = some o → h₁.get? b = some o := fun b o e => hsb.extBut b o (Nat.ne_of_lt (Heap.lt_size e)) (Heap.get?_push_of_some _ e)
    have J : Inv (lamCx X (X.A.deeper (envOfC qg sg s.heap.objs.size g cdg)) (envOfC qg sg s.heap.objs.size g cdg :: X.stack) s1 HZ E scope f c') [] σ HZ { s1 with heap := h₁, toks := s1.toks + ([] : List (Str × Value)).length } :=
      lam_start2 I L I1.env0 hr.hd un hns kp
    refine PySem.W.kla_codeExpr (wpAny_mono ((hbody _ _ s1 HZ E (hr.deeper _)).run [] _ _ HZ Q J ht) (fun v s' hq => ?_) fun e s' hq => hq)
    obtain ⟨w', H', J', rv, q⟩ := hq
    exact ⟨w', H', J'.os, J'.bare, J'.base, J'.hok, rv, q⟩
  have hx : ∀ e s', L2.CX X.prog X.w (envOfC qg sg s.heap.objs.size g cdg :: X.stack) HZ s1 E e s' → xe e s' := fun e s' c => tk e s' (XE.of_call I1 (fun cls d H' h => hW cls d H' h) c)
  refine wpAny_call (codeAny_mono rc fun r s' hq => ?_)
  cases r with
  | error e => exact hx e s' hq
  | ok fl =>
    cases fl with
    | ret u => exact I1.after hq
    | next => exact False.elim hq
    | brk => exact False.elim hq
    | cont => exact False.elim hq
end
/-! ### the meaning -/
def anyD : PyData := .dict [(.none, .none)]
def noTb : SV → Bool
  | .o (.tb _ _) => false
  | _ => true
/-- k: where the table stands; l: the clauses of the def -/
def eCame (k P : Nat) (q : Str) (isX : Str → Str → Option Bool) (l : CL) (fb : SE) : SE := fun s => match s.h[k]? with
  | some (.tb P' q') => if P' = P ∧ q' = q then (match fb s with
      | .ok sv s' => .ok sv s'
      | .ex x s' => if x.fs.isEmpty = true then .no else match catchL isX l x ⟨[some (.d anyD), none], s'.h⟩ with
        | .rt sv s2 => .ok sv { s' with h := s2.h }
        | _ => .no
      | .no => .no) else .no
  | _ => .no
/-- the context of the def that catches -/
abbrev caCx (X : Cx) (Ng : List Str) (x : Str) (sg : Scope) (g : Addr) (cdv : Value) (s : Shared) (H : Hp) : Cx := (cxOf C8.CX0 X.prog X.w X.K X.mg X.base Ng x sg g cdv X.A X.stack s H C8.E0).nox
section
variable {X : Cx} {W : WX} {K : PySem.W.Frag} {mg : Str → Option Value} {ρ ρ' E E' : List Addr} {st st' : S} {σ σ' : L2.St} {H H' : Hp}
/-- the table has grown -/
theorem Rel.table (R : Rel K ρ E st σ H) {k P : Nat} {q : Str} (hk : st.h[k]? = some (.tb P q)) (hP : ρ[k]? = some P) {H1 : Hp} (kp : ∀ b o, b ≠ P → H b = some o → H1 b = some o) (hO : Ob K (avd ρ E st σ) H1 P (.tb P q)) : Post K ρ E st σ H ρ E st σ H1 := by
  have hPm : P ∈ ρ := List.mem_of_getElem? hP
  have hPa : P ∈ avd ρ E st σ := List.mem_append_left _ (List.mem_append_left _ hPm)
  have fr : ∀ a o, a ∉ avd ρ E st σ → H a = some o → H1 a = some o := fun a o n e => kp a o (fun z => n (by rw [z]; exact hPa)) e
  have nd := R.nd
  rw [show avd ρ E st σ = (ρ ++ owns st.s σ) ++ E from rfl, List.nodup_append, List.nodup_append] at nd
  refine ⟨⟨R.nd, fun a h => ?_, R.len, fun i sv e => ?_, R.heap.1, fun j b e => ?_⟩, List.prefix_refl _, fun a o n e => kp a o (fun z => n (by rw [z]; exact List.mem_append_left _ hPm)) e, fun a h => .inl h⟩
  · by_cases z : a = P
    · obtain ⟨_, ps, e, _⟩ := hO
      exact ⟨.tbl ps, by rw [z]; exact e, trivial⟩
    · obtain ⟨o, e, m⟩ := R.dom a h
      exact ⟨o, kp a o z e, m⟩
  · obtain ⟨v, ev, r⟩ := R.slot i sv e
    refine ⟨v, ev, ?_⟩
    cases sv with
    | d x => exact Rp.frame fr (fun _ h => .inl h) r
    | r k => exact r
    | o b =>
      obtain ⟨a, e2, ob⟩ := r
      subst e2
      have na : a ≠ P := fun z => nd.1.2.2 P hPm a (own_mem R.len e ev) z.symm
      exact ⟨a, rfl, ob.frame (fun o e => kp a o na e) fr fun _ h => .inl h⟩
  · obtain ⟨a, ea, ob⟩ := R.heap.2 j b e
    by_cases z : j = k
    · subst z
      rw [hk] at e
      cases e
      rw [hP] at ea
      cases ea
      exact ⟨P, hP, hO⟩
    · have na : a ≠ P := fun z2 => by
        subst z2
        exact z ((List.getElem?_inj (List.getElem?_eq_some_iff.mp ea).1 nd.1.1).mp (ea.trans hP.symm))
      exact ⟨a, ea, ob.frame (fun o e => kp a o na e) fr fun _ h => .inl h⟩
theorem Post.bare0 {ss : List (Option SV)} {h : List PO} {σZ : L2.St} {B : List Addr} (ho : owns ss σZ = []) (p : Post K ρ B ⟨ss, h⟩ σZ H ρ' E' st' σ' H') : Post K ρ B ⟨[], h⟩ [] H ρ' E' ⟨[], st'.h⟩ [] H' := by
  have ec : chg ρ ⟨ss, h⟩ σZ = chg ρ ⟨[], h⟩ [] := by
    show ρ ++ owns _ _ = ρ ++ []
    rw [ho]
  refine ⟨p.rel.bare, p.pre, fun a o n e => p.fr a o (by rw [ec]; exact n) e, fun a h => ?_⟩
  have h : a ∈ ρ' ++ [] := h
  rw [List.append_nil] at h
  have := p.mu a (List.mem_append_left _ h)
  rw [ec] at this
  exact this
theorem ze_came {isX : Str → Str → Option Bool} {l : CL} {x a er q : Str} {g c P : Addr} {k n : Nat} {pg : Arguments} {bg : List Stmt} {sg : Scope} {dV kV doc pm cdv ct oc : Value} {an od : Option Addr} {osl : Array (Option Value)}
    {h₀ : ExceptHandler} {hs : List ExceptHandler} {p1 p2 p3 p8 : Pos} {fb : SE}
    {params : Arguments} {body : Expr} {scope : Scope} {p lpos pos : Pos} (hg : Gl X x) (hm : X.mg x = some (.ref g)) (hk : PySem.W.keepIn X.K (.ref g) = true)
    (lk : X.K.lookup g = some ⟨oc, od, .func (PySem.W.fnOf x x pg bg sg dV kV doc pm an cdv ct), osl⟩) (hcg : PySem.W.codeIn X.K cdv x = true) (hb : L2.Binds X.K (PySem.W.fnOf x x pg bg sg dV kV doc pm an cdv ct) [a] []) (Sg : FnScope [a, er] [a] sg) (hva : Vis sg a)
    (hbg : bg = [.Try [.Return (some (.Call (.Name a p1) [] [] p2)) p3] (h₀ :: hs) [] [] p8])
    (hX : ∀ x c b, isX x c = some b → ∀ C C', X.mg x = some (.ref C) → X.mg c = some (.ref C') → PySem.W.exmOne X.K (.ref C) (.ref C') = some b)
    (hcl : ∀ s H, ClzL (caCx X [a, er] x sg g cdv s H) isX (h₀ :: hs) l)
    (hqq : X.env.qual ++ "<lambda>" = q) (TB : TabB X.base X.mg c P) (hcode : X.env.code = .ref c) (hr : Room (k + 2) X.A) (L : LamS X.env.scope scope) (hdef : defaultsOf params X.env = ([], []))
    (hbind : ∀ (q : Str) (cl : List (Str × Addr)) (pm cv ctv : Value), bindArgs (PySem.W.kla_fn "<lambda>" q params body scope cl pm cv ctv) ⟨[], []⟩ = pure [])
    (hbody : ∀ (A : Around) (outer : List Env) (s : Shared) (H : Hp) (E : XK) (f c' : Addr), Room k (A.deeper (lamEnv X scope s.heap.objs.size f c')) → ZE (lamCx X A outer s H E scope f c') (fun cls d _ H' => E cls d H') body fb)
    (hdb : (x == ("__debug__" : Str)) = false := by decide) (hd : (a == ("__debug__" : Str)) = false := by decide) (hcd : (a == ("__classdict__" : Str)) = false := by decide) :
    ZE X W (.Call (.Name x p) [.Lambda params body scope lpos] [] pos) (eCame n P q isX l fb) := by
  subst hbg
  refine ⟨fun pins s σ H Q I h => ?_⟩
  obtain ⟨ρ, E, st, R, hq⟩ := h
  unfold eCame at hq
  split at hq
  · rename_i P' q' hst
    by_cases hPq : P' = P ∧ q' = q
    · rw [if_pos hPq] at hq
      obtain ⟨eP, eq⟩ := hPq
      subst eP eq
      obtain ⟨aP, eaP, obP⟩ := R.heap.2 n _ hst
      have e0 := obP.1
      subst e0
      refine wpAny_Call_Name_kw (ld_glob I hg hm ?_ hdb)
      refine PySem.W.callWith_K (h₀ := X.base) I.ok.mod.kin hk ?_ (by rfl) (by rfl)
      show wpAny _ _ (spliced ((false, eval (.Lambda params body scope lpos) X.env) :: backTo pos (starEach [] X.env))) _ _ s
      refine Calls.spliced_cons (lam_make3 I TB hcode hqq obP (List.mem_append_left _ (List.mem_append_left _ (List.mem_of_getElem? eaP))) (fun a h => by obtain ⟨o, e, _⟩ := R.dom a h; exact ⟨o, e⟩) hdef (L.has I.ok) fun f c' pm' ctv H1 s' I1 kp ob1 hf hfn hfr hco => ?_)
      refine Calls.spliced_nil ⟨I1.kIn, ?_⟩
      have P1 := R.table hst eaP kp ob1
      have rc : codeAny (model X.prog X.w) X.A (.call (.ref g) ⟨[.ref f], []⟩) (CR C8.CX0 X.stack X.prog X.w H1 s' Q C8.E0) s' := by
        refine run_ofS (N := [a, er]) (ps := [a]) (us := [.ref f]) (vs := [.ref f]) lk hcg Sg hr I1.env0 (hb s' [.ref f] I1.kIn rfl) (.cons rfl .nil) rfl fun hr' => ?_
        obtain ⟨l', c2, k2⟩ := clz_ok (W := fun _ _ _ _ => False) (X := caCx X [a, er] x sg g cdv s' H1) hX (hcl s' H1)
        refine ⟨_, PSs.nox (pss_one (ps_tryZ (X := caCx X [a, er] x sg g cdv s' H1) (Wout := fun _ _ _ _ => False)
          (tb := fun W D σZ HZ => σZ[0]? = some (some (.ref f)) ∧ HZ c' = some (CodeO c' q') ∧ ∃ Ech : XK, (∀ cls d H', Ech cls d H' → W cls d σZ H') ∧ tzE X.K X.mg (fun cls d _ H' => Ech cls d H') fb σ HZ D.rt)
          rfl rfl Sg.nd L2.takes0 (fun W pn xe tk _ => ?_) c2)), ?_⟩
        · have hp := pe_act2 (tb := fun E => tzE X.K X.mg (fun cls d _ H' => E cls d H') fb) (CXg := C8.CX0) (Eg := C8.E0) (Ng := [a, er]) (qg := x) (sg := sg) (g := g) (cdg := cdv) (p1 := p1) (p2 := p2) (i := 0) (a := a) hqq I1 L hf hfn hfr (hbind _ _ _ _ _) tk hr' (fun A outer s H E hr2 => hbody A outer s H E f c' hr2) rfl hva hd hcd
          have hq := pss_one (ps_ret (pos := p3) hp)
          exact ⟨fun pins s' σ H' D I h' => hq.run pins s' σ H' D I h'⟩
        · refine ⟨rfl, hco, fun cls d H' => wCl X.K (fun _ _ _ _ => False) { nx := fun _ H' => Q .non H', rt := Q } l' cls d (start [a, er] [.ref f]) H', fun _ _ _ h => h, ρ, E, st, P1.rel, ?_⟩
          cases e : fb st with
          | no => rw [e] at hq; exact hq
          | ok sv s2 =>
            rw [e] at hq
            intro v ρ2 E2 H2 P2 r2
            obtain ⟨F, sF, rF⟩ := rE.elder P1 Come.refl P2 r2
            exact hq v ρ2 F H2 ((P1.trans P2).sub sF) rF
          | ex xx s2 =>
            rw [e] at hq
            intro cls d ρ2 E2 H2 sub P2 xr
            have hq : Go X.K X.mg W (rE X.K) Q ρ E st σ H (if xx.fs.isEmpty = true then .no else match catchL isX l xx ⟨[some (.d anyD), none], s2.h⟩ with
              | .rt sv s3 => .ok sv { s2 with h := s3.h }
              | _ => .no) := hq
            by_cases hfs : xx.fs.isEmpty = true
            · rw [if_pos hfs] at hq; exact hq.elim
            · rw [if_neg hfs] at hq
              have P3 := (P1.trans P2).sub sub
              have xr : XR X.K X.mg (avd ρ2 E s2 σ) H2 xx cls d := by
                obtain ⟨C, h1, h2, h3⟩ := xr
                refine ⟨C, h1, h2, ?_⟩
                rcases h3 with h3 | ⟨dd, vs, e1, e2, e3, e4⟩
                · exact .inl h3
                · exact .inr ⟨dd, vs, e1, e2, fun z => e3 (avd_sub sub _ z), e4.mono (avd_sub sub)⟩
              cases eC : catchL isX l xx ⟨[some (.d anyD), none], s2.h⟩ with
              | rt sv s3 =>
                rw [eC] at hq
                obtain ⟨RB, mB, main⟩ := backCall (r := .ok sv s3.h) P3 hq
                have main : ∀ v ρ' B' H', Post X.K ρ2 (owns s2.s σ ++ E) ⟨[], s2.h⟩ [] H2 ρ' B' ⟨[], s3.h⟩ [] H' → rE X.K ρ2 (owns s2.s σ ++ E) ⟨[], s2.h⟩ [] H2 ρ' B' ⟨[], s3.h⟩ [] H' sv v → Q v H' := main
                have ho : owns [some (.d anyD), none] (start [a, er] [.ref f]) = [] := rfl
                have RZ : Rel X.K ρ2 (owns s2.s σ ++ E) ⟨[some (.d anyD), none], s2.h⟩ (start [a, er] [.ref f]) H2 := by
                  refine ⟨RB.nd, RB.dom, rfl, fun i sv e => ?_, RB.heap⟩
                  match i, e with
                  | 0, e =>
                    cases e
                    exact ⟨.ref f, rfl, .any f⟩
                  | 1, e => cases e
                  | i + 2, e => simp at e
                refine k2 (D := { nx := fun _ H' => Q .non H', rt := Q }) (ρ := ρ2) (E := owns s2.s σ ++ E) (st := ⟨[some (.d anyD), none], s2.h⟩) (σ := start [a, er] [.ref f]) (H := H2) (x := xx) (s := ⟨[some (.d anyD), none], s2.h⟩) ?_ cls d ρ2 _ _ H2 (.refl _) (.refl RZ) ?_
                · rw [eC]
                  exact fun v ρ' E' σ' H' p r => main v ρ' E' H' (p.bare0 ho) (r.bare ho)
                · obtain ⟨C, h1, h2, h3⟩ := xr
                  refine ⟨C, h1, h2, ?_⟩
                  have mm : ∀ z, z ∈ avd ρ2 (owns s2.s σ ++ E) ⟨[some (.d anyD), none], s2.h⟩ (start [a, er] [.ref f]) → z ∈ avd ρ2 E s2 σ := fun z hz => (mB z).mp hz
                  rcases h3 with h3 | ⟨dd, vs, e1, e2, e3, e4⟩
                  · exact .inl h3
                  · exact .inr ⟨dd, vs, e1, e2, fun z => e3 (mm _ z), e4.mono mm⟩
              | _ => rw [eC] at hq; exact hq.elim
      refine wpAny_call (codeAny_mono rc fun r s2 hq => ?_)
      cases r with
      | error e => exact (show False from hq).elim
      | ok fl =>
        cases fl with
        | ret u => exact I1.after hq
        | next => exact False.elim hq
        | brk => exact False.elim hq
        | cont => exact False.elim hq
    · rw [if_neg hPq] at hq; exact hq.elim
  · exact hq.elim
end
end Z

set_option maxRecDepth 100000
set_option maxHeartbeats 4000000
namespace Z
open PySem PySem.Spec PyProof.Rows L2
open LamX (TabB LamS lamCx lamEnv)
theorem PSs.imp {X : Cx} {e : List Stmt} {t t' : TS} (h : PSs X e t) (m : ∀ D σ H, t' D σ H → t D σ H) : PSs X e t' := PSs.mono h m
section
variable {P : Program} {w : World} {K : PySem.W.Frag} {mg : Str → Option Value} {base : Heap}
/-- as fn_ok, where the body asks which code object it is -/
theorem fn_okc {x qual : Str} {st : Stmt} {f : Addr} {fd : FuncData} {N ps : List Str} {k : Nat} {body : SS} (F : Fun K x qual st f fd) (S' : FnScope N ps (defScope st)) (hN : ps.length ≤ N.length := by decide)
    (h : ∀ (cdv : Value) (A : Around) (outer : List Env) (s : Shared) (H : Hp) (E : XK), fd.code = cdv → Room k (A.deeper (envOfC qual (defScope st) s.heap.objs.size f cdv)) → Takes (cxOf (L2.CX P w) P w K mg base N qual (defScope st) f cdv A outer s H E) (fun cls d _ H' => E cls d H') →
      ZSs (cxOf (L2.CX P w) P w K mg base N qual (defScope st) f cdv A outer s H E) (fun cls d _ H' => E cls d H') (defBody st) body) :
    FnOk P w K mg base (L2.CX P w) (k + 1) f fd ps (spF K mg (fnS N.length body) ps.length) := by
  obtain ⟨oc, od, kV, doc, pm, an, cdv, ct, osl, rfl, lk, hcd⟩ := F.ex
  refine fn_of lk hcd S' (fun vs H Q E h => h.1) fun A outer s H vs Q E hr hsp => ?_
  obtain ⟨hl, ρ, B, hp, svs, R, ag, hq⟩ := hsp
  refine ⟨_, h cdv A outer s H E rfl hr (takes_of rfl rfl rfl rfl), ?_⟩
  have eN : (start N vs) = vs.map some ++ List.replicate (N.length - vs.length) none := rfl
  have hlen := ag.length
  have ho : owns (svs.map some ++ List.replicate (N.length - svs.length) none) (start N vs) = [] := by rw [eN, hlen]; exact ag.owns _
  have R1 : Rel K ρ B ⟨svs.map some ++ List.replicate (N.length - svs.length) none, hp⟩ (start N vs) H := by
    have ea : avd ρ B ⟨svs.map some ++ List.replicate (N.length - svs.length) none, hp⟩ (start N vs) = avd ρ B ⟨[], hp⟩ [] := by
      show ρ ++ owns _ _ ++ B = ρ ++ [] ++ B
      rw [ho]
    refine ⟨by rw [ea]; exact R.nd, by rw [ea]; exact R.dom, ?_, fun i sv e => ?_, R.heap.1, fun k b e => ?_⟩
    · rw [eN]; simp [hlen]
    · rw [ea, eN, ← hlen]
      have := ag.slot (N.length - svs.length) i sv e
      exact this
    · obtain ⟨a, e1, ob⟩ := R.heap.2 k b e
      exact ⟨a, e1, by rw [ea]; exact ob⟩
  have post : ∀ {ρ' E' st' σ' H'}, Post K ρ B ⟨svs.map some ++ List.replicate (N.length - svs.length) none, hp⟩ (start N vs) H ρ' E' st' σ' H' → Post K ρ B ⟨[], hp⟩ [] H ρ' E' ⟨[], st'.h⟩ [] H' := fun {ρ' E' st' σ' H'} p => p.bare0 ho
  refine ⟨ρ, B, _, R1, ?_⟩
  unfold fnS at hq
  show (match body ⟨svs.map some ++ List.replicate (N.length - svs.length) none, hp⟩ with
    | .nx st' => _
    | .bk st' => _
    | .ct st' => _
    | .rt sv st' => _
    | .ex x st' => _
    | .no => _)
  cases e : body ⟨svs.map some ++ List.replicate (N.length - svs.length) none, hp⟩ with
  | no => rw [e] at hq; exact hq
  | bk s => rw [e] at hq; exact hq.elim
  | ct s => rw [e] at hq; exact hq.elim
  | nx s => rw [e] at hq; exact fun ρ' σ' H' p => hq .non ρ' B H' (post p) ⟨rfl, .non⟩
  | rt sv s => rw [e] at hq; exact fun v ρ' E' σ' H' p r => hq v ρ' E' H' (post p) (r.bare ho)
  | ex x s => rw [e] at hq; exact fun cls d ρ' E' σ' H' sub p xr => hq cls d ρ' E' H' sub (post p) (by
      obtain ⟨C, h1, h2, h3⟩ := xr
      refine ⟨C, h1, h2, ?_⟩
      rcases h3 with h3 | ⟨dd, vs, e1, e2, e3, e4⟩
      · exact .inl h3
      · exact .inr ⟨dd, vs, e1, e2, fun z => e3 (avd_bare _ z), e4.mono avd_bare⟩)
end
section
variable {X : Cx} {W : WX}
/-- the lambda of a text: its body's meaning in the maker's slots -/
def ZLm (X : Cx) (k : Nat) (scope : Scope) (body : Expr) (fb : SE) : Prop := ∀ (A : Around) (outer : List Env) (s : Shared) (H : Hp) (E : XK) (f c' : Addr), Room k (A.deeper (lamEnv X scope s.heap.objs.size f c')) →
  Takes (lamCx X A outer s H E scope f c') (fun cls d _ H' => E cls d H') → ZE (lamCx X A outer s H E scope f c') (fun cls d _ H' => E cls d H') body fb
/-- the clauses of a def that is one try -/
def tryHs (st : Stmt) : List ExceptHandler := match defBody st with
  | .Try _ hs _ _ _ :: _ => hs
  | _ => []
theorem ze_cameF {isX : Str → Str → Option Bool} {l : CL} {x a er q : Str} {st : Stmt} {fd : FuncData} {g c P : Addr} {k n : Nat} {p1 p2 p3 p8 : Pos} {fb : SE}
    {params : Arguments} {body : Expr} {scope : Scope} {p lpos pos : Pos} (F : Fun X.K x x st g fd) (hm : X.mg x = some (.ref g)) (hb : L2.Binds X.K fd [a] []) (Sg : FnScope [a, er] [a] (defScope st)) (hva : Vis (defScope st) a)
    (hbg : defBody st = [.Try [.Return (some (.Call (.Name a p1) [] [] p2)) p3] (tryHs st) [] [] p8]) (hne : ∃ h₀ hs, tryHs st = h₀ :: hs)
    (hX : ∀ x c b, isX x c = some b → ∀ C C', X.mg x = some (.ref C) → X.mg c = some (.ref C') → PySem.W.exmOne X.K (.ref C) (.ref C') = some b)
    (hcl : ∀ cdv s H, ClzL (caCx X [a, er] x (defScope st) g cdv s H) isX (tryHs st) l)
    (TB : TabB X.base X.mg c P) (hcode : X.env.code = .ref c) (hr : Room (k + 2) X.A) (hbody : ZLm X k scope body fb) (hg : Gl X x := by rfl) (hqq : X.env.qual ++ "<lambda>" = q := by rfl) (L : LamS X.env.scope scope := by exact LamX.lamS_by (by decide +kernel)) (hdef : defaultsOf params X.env = ([], []) := by rfl)
    (hbind : ∀ (q : Str) (cl : List (Str × Addr)) (pm cv ctv : Value), bindArgs (PySem.W.kla_fn "<lambda>" q params body scope cl pm cv ctv) ⟨[], []⟩ = pure [] := by intro _ _ _ _ _; rfl)
    (hdb : (x == ("__debug__" : Str)) = false := by decide) (hd : (a == ("__debug__" : Str)) = false := by decide) (hcd : (a == ("__classdict__" : Str)) = false := by decide) :
    ZE X W (.Call (.Name x p) [.Lambda params body scope lpos] [] pos) (eCame n P q isX l fb) := by
  obtain ⟨oc, od, kV, doc, pm, an, cdv, ct, osl, rfl, lk, hcd'⟩ := F.ex
  obtain ⟨h₀, hs, eh⟩ := hne
  rw [eh] at hbg hcl
  exact ze_came hg hm F.kp lk hcd' hb Sg hva hbg hX (hcl cdv) hqq TB hcode hr L hdef hbind (fun A outer s H E f c' hr' => hbody A outer s H E f c' hr' (takes_of rfl rfl rfl rfl)) hdb hd hcd
end
/-! ### clauses: except X as error: return [.., error.f] -/
theorem wipe_set1 (s : S) (i : Nat) (v : SV) : (s.set i v).wipe [i] = s.wipe [i] := by
  simp [S.set, S.wipe, wipeL, List.set_set]
/-- a clause that returns a list of texts and fields of the error -/
inductive LP where
  | s (x : Str)
  | f (x : Str)
def LP.sem (a d i : Nat) : LP → SE
  | .s x => eC (.str x)
  | .f x => eXf a d i x
def LP.val (fs : List (Str × PyData)) : LP → Option PyData
  | .s x => some (.str x)
  | .f x => ((fs.map fun p => (PyData.str p.1, p.2)).find? fun p => kEq p.1 (.str x)).map (·.2)
def lpVals (fs : List (Str × PyData)) : List LP → Option (List PyData)
  | [] => some []
  | p :: ps => (p.val fs).bind fun v => (lpVals fs ps).bind fun vs => some (v :: vs)
def suL (i : Nat) (ps : List LP) : Nat → Nat → Ex → SS := fun a d _ => sRet (eLst (ps.map (LP.sem a d i)))
/-- what such a clause makes of an exception -/
def rLp (i : Nat) (ps : List LP) : Ex → S → Fl := fun x s => if i < s.s.length then match lpVals x.fs ps with
    | some vs => if fits vs.length = true then .rt (.o (.lst vs)) (s.wipe [i]) else .no
    | none => .no
  else fin (some i) (suL i ps 0 0 x (inSuite (some i) 0 0 x s))
theorem lp_its (a d i : Nat) (x : Ex) (s : S) (h : i < s.s.length) : ∀ ps : List LP, its (ps.map (LP.sem a d i)) (inSuite (some i) a d x s) = retn (lpVals x.fs ps) (inSuite (some i) a d x s)
  | [] => rfl
  | p :: ps => by
    have ih := lp_its a d i x s h ps
    have e : LP.sem a d i p (inSuite (some i) a d x s) = retn ((p.val x.fs).map SV.d) (inSuite (some i) a d x s) := by
      cases p with
      | s z => rfl
      | f z =>
        have hs : (inSuite (some i) a d x s).s[i]? = some (some (.d (excD a d x))) := by
          show (s.s.set i _)[i]? = _
          rw [List.getElem?_set_self h]
        show eXf a d i z _ = _
        unfold eXf
        rw [hs]
        unfold excD
        simp only [LP.val]
        rw [if_pos ⟨trivial, trivial⟩, Option.map_map]
        rfl
    show ((LP.sem a d i p (inSuite (some i) a d x s)).bind fun sv s => (retn sv.keep s).bind fun x s => (its (ps.map (LP.sem a d i)) s).bind fun xs s => .ok (x :: xs) s) = _
    rw [e]
    show _ = retn ((p.val x.fs).bind fun v => (lpVals x.fs ps).bind fun vs => some (v :: vs)) _
    cases p.val x.fs with
    | none => rfl
    | some v =>
      simp only [Option.map_some, retn_some, Res.bind_ok, SV.keep, Option.bind_some]
      rw [ih]
      cases lpVals x.fs ps with
      | none => rfl
      | some vs => rfl
theorem lp_fits (a d i : Nat) (x : Ex) (s : S) (ps : List LP) (h : ¬ i < s.s.length) : fin (some i) (suL i ps a d x (inSuite (some i) a d x s)) = fin (some i) (suL i ps 0 0 x (inSuite (some i) 0 0 x s)) := by
  have e1 : ∀ a d, inSuite (some i) a d x s = s := fun a d => by
    show ({ s with s := s.s.set i _ } : S) = s
    rw [List.set_eq_of_length_le (by omega)]
  rw [e1, e1]
  unfold suL sRet eLst
  have e2 : ∀ ps : List LP, its (ps.map (LP.sem a d i)) s = its (ps.map (LP.sem 0 0 i)) s := fun ps => by
    induction ps with
    | nil => rfl
    | cons p ps ih =>
      have e3 : LP.sem a d i p s = LP.sem 0 0 i p s := by
        cases p with
        | s z => rfl
        | f z =>
          show eXf a d i z s = eXf 0 0 i z s
          unfold eXf
          rw [List.getElem?_eq_none (by omega)]
      have e4 : LP.sem a d i p s = .no ∨ LP.sem a d i p s = .ok (.d (match p with | .s z => .str z | .f z => .none)) s := by
        cases p with
        | s z => exact .inr rfl
        | f z =>
          left
          show eXf a d i z s = .no
          unfold eXf
          rw [List.getElem?_eq_none (by omega)]
      show ((LP.sem a d i p s).bind fun sv s => (retn sv.keep s).bind fun x s => (its (ps.map (LP.sem a d i)) s).bind fun xs s => Res.ok (x :: xs) s) = ((LP.sem 0 0 i p s).bind fun sv s => (retn sv.keep s).bind fun x s => (its (ps.map (LP.sem 0 0 i)) s).bind fun xs s => Res.ok (x :: xs) s)
      rw [← e3]
      rcases e4 with e4 | e4
      · rw [e4]; rfl
      · rw [e4]
        simp only [Res.bind_ok, SV.keep, retn_some]
        rw [ih]
  rw [e2]
theorem rLp_is (i : Nat) (ps : List LP) (a d : Nat) (x : Ex) (s : S) : fin (some i) (suL i ps a d x (inSuite (some i) a d x s)) = rLp i ps x s := by
  unfold rLp
  by_cases h : i < s.s.length
  · rw [if_pos h]
    unfold suL sRet eLst
    rw [lp_its a d i x s h]
    cases lpVals x.fs ps with
    | none => rfl
    | some vs =>
      simp only [retn_some, Res.bind_ok]
      by_cases hf : fits vs.length = true
      · rw [if_pos hf, if_pos hf]
        show fin (some i) (.rt (.o (.lst vs)) (s.set i _)) = _
        show Fl.rt (.o (.lst vs)) ((s.set i _).wipe [i]) = _
        rw [wipe_set1]
      · rw [if_neg hf, if_neg hf]; rfl
  · rw [if_neg h, lp_fits a d i x s ps h]
theorem suL_ne (i : Nat) (ps : List LP) (a d : Nat) (x : Ex) (s : S) : notEx (suL i ps a d x s) = true := by
  have e : ∀ (ps : List LP) (s : S), (∃ vs, its (ps.map (LP.sem a d i)) s = .ok vs s) ∨ its (ps.map (LP.sem a d i)) s = .no := fun ps => by
    induction ps with
    | nil => exact fun s => .inl ⟨[], rfl⟩
    | cons p ps ih =>
      intro s
      have e4 : LP.sem a d i p s = .no ∨ ∃ v, LP.sem a d i p s = .ok (.d v) s := by
        cases p with
        | s z => exact .inr ⟨_, rfl⟩
        | f z =>
          show eXf a d i z s = .no ∨ ∃ v, eXf a d i z s = .ok (.d v) s
          unfold eXf
          split
          · split
            · cases (List.find? _ _ : Option (PyData × PyData)) with
              | none => exact .inl rfl
              | some p => exact .inr ⟨_, rfl⟩
            · exact .inl rfl
          · exact .inl rfl
      show (∃ vs, ((LP.sem a d i p s).bind fun sv s => (retn sv.keep s).bind fun x s => (its (ps.map (LP.sem a d i)) s).bind fun xs s => Res.ok (x :: xs) s) = .ok vs s) ∨ ((LP.sem a d i p s).bind fun sv s => (retn sv.keep s).bind fun x s => (its (ps.map (LP.sem a d i)) s).bind fun xs s => Res.ok (x :: xs) s) = .no
      rcases e4 with e4 | ⟨v, e4⟩
      · rw [e4]; exact .inr rfl
      · rw [e4]
        simp only [Res.bind_ok, SV.keep, retn_some]
        rcases ih s with ⟨vs, e5⟩ | e5
        · rw [e5]; exact .inl ⟨_, rfl⟩
        · rw [e5]; exact .inr rfl
  unfold suL sRet eLst
  rcases e ps s with ⟨vs, e5⟩ | e5
  · rw [e5, Res.bind_ok]
    by_cases hf : fits vs.length = true
    · rw [if_pos hf]; rfl
    · rw [if_neg hf]; rfl
  · rw [e5]; rfl
end Z



set_option maxRecDepth 100000
set_option maxHeartbeats 4000000
namespace Z
open PySem PySem.Spec
/-! ### how the meanings are reckoned: equations for simp -/
section
variable (s : S) (i j k n : Nat) (f g f' g' : SE) (p q : SPl) (x y z : PyData) (b : Bool)
@[simp] theorem q_retn_ite {α : Type} (c : Prop) [Decidable c] (a : α) : retn (if c then some a else none) s = if c then .ok a s else .no := by split <;> rfl
@[simp] theorem q_eC : eC x s = .ok (.d x) s := (rfl)
@[simp] theorem q_pV : pV i s = (match s.s[i]? with
  | some (some (.d x)) => .ok (.v x) s
  | some (some (.r k)) => .ok (.hp k) s
  | some (some (.o _)) => .ok (.sl i) s
  | _ => .no) := (rfl)
@[simp] theorem q_eV : eV i s = (match s.s[i]? with
  | some (some (.o b)) => .ok (.d b.data) { s with s := s.s.set i (some (.d b.data)) }
  | some (some v) => .ok v s
  | _ => .no) := (rfl)
@[simp] theorem q_eM : eM i s = (match s.s[i]? with
  | some (some (.o b)) => .ok (.o b) { s with s := s.s.set i none }
  | some (some v) => .ok v s
  | _ => .no) := (rfl)
@[simp] theorem q_pE : pE f s = (f s).bind fun sv s => .ok sv.pl s := (rfl)
@[simp] theorem q_pl_d : (SV.d x).pl = .v x := (rfl)
@[simp] theorem q_pl_r : (SV.r k).pl = .hp k := (rfl)
@[simp] theorem q_pl_o (b : PO) : (SV.o b).pl = .tm b := (rfl)
@[simp] theorem q_ld_v : ld s (.v x) = some x := (rfl)
@[simp] theorem q_ld_sl : ld s (.sl i) = (match s.s[i]? with
  | some (some (.o b)) => some b.data
  | _ => none) := (rfl)
@[simp] theorem q_ld_hp : ld s (.hp k) = (s.h[k]?).map PO.data := (rfl)
@[simp] theorem q_ld_tm (b : PO) : ld s (.tm b) = some b.data := (rfl)
@[simp] theorem q_data_lst (xs : List PyData) : (PO.lst xs).data = .list xs := (rfl)
@[simp] theorem q_eBin (o : PyData → PyData → Option SV) : eBin o p q s = (p s).bind fun p s => (q s).bind fun q s => retn ((ld s p).bind fun x => (ld s q).bind fun y => o x y) s := (rfl)
@[simp] theorem q_eUn (o : PyData → Option SV) : eUn o p s = (p s).bind fun p s => retn ((ld s p).bind o) s := (rfl)
@[simp] theorem q_eSl (o : PyData → Option Int → Option Int → Option SV) (g h : S → Res (Option Int)) : eSl o p g h s = (p s).bind fun p s => (g s).bind fun lo s => (h s).bind fun hi s => retn ((ld s p).bind fun x => o x lo hi) s := (rfl)
@[simp] theorem q_pls_nil : pls [] s = .ok [] s := (rfl)
@[simp] theorem q_pls_cons (f : SPl) (fs : List SPl) : pls (f :: fs) s = (f s).bind fun p s => (pls fs s).bind fun ps s => .ok (p :: ps) s := (rfl)
@[simp] theorem q_ldAll_nil : ldAll s [] = some [] := (rfl)
@[simp] theorem q_ldAll_cons (p : Pl) (ps : List Pl) : ldAll s (p :: ps) = (ld s p).bind fun x => (ldAll s ps).bind fun xs => some (x :: xs) := (rfl)
@[simp] theorem q_eCallB (o : List PyData → Option SV) (fs : List SPl) : eCallB o fs s = (pls fs s).bind fun ps s => retn ((ldAll s ps).bind o) s := (rfl)
@[simp] theorem q_tOf : tOf f s = (f s).bind fun sv s => retn sv.bool? s := (rfl)
@[simp] theorem q_bool : (SV.d (.bool b)).bool? = some b := (rfl)
@[simp] theorem q_int (i : Int) : (SV.d (.int i)).int? = some i := (rfl)
@[simp] theorem q_keep_d : (SV.d x).keep = some x := (rfl)
@[simp] theorem q_keep_o (b : PO) : (SV.o b).keep = some b.data := (rfl)
@[simp] theorem q_arg_d : (SV.d x).arg = .d x := (rfl)
@[simp] theorem q_arg_r : (SV.r k).arg = .r k := (rfl)
@[simp] theorem q_arg_o (b : PO) : (SV.o b).arg = .d b.data := (rfl)
@[simp] theorem q_tAnd (t u : S → Res Bool) : tAnd t u s = (t s).bind fun b s => if b = true then u s else .ok false s := (rfl)
@[simp] theorem q_tOr (t u : S → Res Bool) : tOr t u s = (t s).bind fun b s => if b = true then .ok true s else u s := (rfl)
@[simp] theorem q_tNot (t : S → Res Bool) : tNot t s = (t s).bind fun b s => .ok (!b) s := (rfl)
@[simp] theorem q_eAnd : eAnd f g s = (tOf f s).bind fun b s => if b = true then g s else .ok (.d (.bool false)) s := (rfl)
@[simp] theorem q_eOr : eOr f g s = (tOf f s).bind fun b s => if b = true then .ok (.d (.bool true)) s else g s := (rfl)
@[simp] theorem q_eNot : eNot f s = (tOf f s).bind fun b s => .ok (.d (.bool (!b))) s := (rfl)
@[simp] theorem q_eIf (t : S → Res Bool) : eIf t f g s = (t s).bind fun b s => if b = true then f s else g s := (rfl)
@[simp] theorem q_eChain (o o' : PyData → PyData → Option SV) (r : SPl) : eChain o o' p q r s = (p s).bind fun p s => (q s).bind fun q s => (retn ((ld s p).bind fun x => (ld s q).bind fun y => (o x y).bind SV.bool?) s).bind fun b s =>
    if b = true then (r s).bind fun r s => retn ((ld s q).bind fun y => (ld s r).bind fun z => o' y z) s else .ok (.d (.bool false)) s := (rfl)
@[simp] theorem q_its_nil : its [] s = .ok [] s := (rfl)
@[simp] theorem q_its_cons (fs : List SE) : its (f :: fs) s = (f s).bind fun sv s => (retn sv.keep s).bind fun x s => (its fs s).bind fun xs s => .ok (x :: xs) s := (rfl)
@[simp] theorem q_eTup (fs : List SE) : eTup fs s = (its fs s).bind fun xs s => if fits xs.length = true then .ok (.d (.tuple xs)) s else .no := (rfl)
@[simp] theorem q_eLst (fs : List SE) : eLst fs s = (its fs s).bind fun xs s => if fits xs.length = true then .ok (.o (.lst xs)) s else .no := (rfl)
@[simp] theorem q_itsS_nil : itsS [] s = .ok [] s := (rfl)
@[simp] theorem q_itsS_f (fs : List (Bool × SE)) : itsS ((false, f) :: fs) s = (f s).bind fun sv s => (retn sv.keep s).bind fun x s => (itsS fs s).bind fun xs s => .ok (x :: xs) s := (rfl)
@[simp] theorem q_itsS_t (fs : List (Bool × SE)) : itsS ((true, f) :: fs) s = (f s).bind fun sv s => (retn (sv.keep.bind seqD) s).bind fun ys s => (itsS fs s).bind fun xs s => .ok (ys ++ xs) s := (rfl)
@[simp] theorem q_seqD_l (xs : List PyData) : seqD (.list xs) = some xs := (rfl)
@[simp] theorem q_seqD_t (xs : List PyData) : seqD (.tuple xs) = some xs := (rfl)
@[simp] theorem q_eTupS (fs : List (Bool × SE)) : eTupS fs s = (itsS fs s).bind fun xs s => if fits xs.length = true then .ok (.d (.tuple xs)) s else .no := (rfl)
@[simp] theorem q_eLstS (fs : List (Bool × SE)) : eLstS fs s = (itsS fs s).bind fun xs s => if fits xs.length = true then .ok (.o (.lst xs)) s else .no := (rfl)
/-- what a call makes of its end -/
def gPure (ps : List Pl) (s : S) : FR → Res SV
  | .ok v _ => if okP ps v = true then .ok v s else .no
  | .ex x _ => if okX ps x = true then .ex x s else .no
  | .no => .no
@[simp] theorem q_ePure (F : Fn) (fs : List SPl) : ePure F fs s = (pls fs s).bind fun ps s => match ldAll s ps with
  | none => .no
  | some ds => gPure ps s (F (ds.map .d) []) := (rfl)
@[simp] theorem q_gPure_ok (ps : List Pl) (v : SV) (h : List PO) : gPure ps s (.ok v h) = if okP ps v = true then .ok v s else .no := (rfl)
@[simp] theorem q_gPure_ex (ps : List Pl) (v : Ex) (h : List PO) : gPure ps s (.ex v h) = if okX ps v = true then .ex v s else .no := (rfl)
@[simp] theorem q_gPure_no (ps : List Pl) : gPure ps s .no = .no := (rfl)
@[simp] theorem q_okP_d (ps : List Pl) : okP ps (.d x) = (ps.all Pl.still || (SV.d x).free) := (rfl)
@[simp] theorem q_okP_o (ps : List Pl) (b : PO) : okP ps (.o b) = (ps.all Pl.still || (SV.o b).free) := (rfl)
@[simp] theorem q_okX (ps : List Pl) (x : Ex) : okX ps x = (ps.all Pl.still || noL.noLs (x.fs.map (·.2))) := (rfl)
@[simp] theorem q_still_v : Pl.still (.v x) = true := (rfl)
@[simp] theorem q_free_d : (SV.d x).free = noL x := (rfl)
@[simp] theorem q_free_o (xs : List PyData) : (SV.o (.lst xs)).free = noL.noLs xs := (rfl)
@[simp] theorem q_noL0 : noL .none = true := (rfl)
@[simp] theorem q_noL1 (b : Bool) : noL (.bool b) = true := (rfl)
@[simp] theorem q_noL2 (b : Int) : noL (.int b) = true := (rfl)
@[simp] theorem q_noL3 (b : Str) : noL (.str b) = true := (rfl)
@[simp] theorem q_noL4 (xs : List PyData) : noL (.tuple xs) = noL.noLs xs := (rfl)
@[simp] theorem q_noLs0 : noL.noLs [] = true := (rfl)
@[simp] theorem q_noLs1 (xs : List PyData) : noL.noLs (x :: xs) = (noL x && noL.noLs xs) := (rfl)
@[simp] theorem q_ags_nil : ags [] s = .ok [] s := (rfl)
@[simp] theorem q_ags_cons (fs : List SE) : ags (f :: fs) s = (f s).bind fun sv s => (ags fs s).bind fun vs s => .ok (sv.arg :: vs) s := (rfl)
def gCall (s : S) : FR → Res SV
  | .ok v h => .ok v { s with h := h }
  | .ex x h => .ex x { s with h := h }
  | .no => .no
@[simp] theorem q_eCall (F : Fn) (fs : List SE) : eCall F fs s = (ags fs s).bind fun vs s => gCall s (F vs s.h) := (rfl)
@[simp] theorem q_gCall_ok (v : SV) (h : List PO) : gCall s (.ok v h) = .ok v { s with h := h } := (rfl)
@[simp] theorem q_gCall_ex (v : Ex) (h : List PO) : gCall s (.ex v h) = .ex v { s with h := h } := (rfl)
@[simp] theorem q_gCall_no : gCall s .no = .no := (rfl)
@[simp] theorem q_sNil : sNil s = .nx s := (rfl)
/-- behind a statement -/
def Fl.then (r : Fl) (g : SS) : Fl := match r with
  | .nx s => g s
  | r => r
@[simp] theorem q_sSeq (f g : SS) : sSeq f g s = (f s).then g := by
  unfold sSeq Fl.then
  cases f s <;> rfl
@[simp] theorem q_then_nx (g : SS) : (Fl.nx s).then g = g s := (rfl)
@[simp] theorem q_then_rt (v : SV) (g : SS) : (Fl.rt v s).then g = .rt v s := (rfl)
@[simp] theorem q_then_ex (v : Ex) (g : SS) : (Fl.ex v s).then g = .ex v s := (rfl)
@[simp] theorem q_then_bk (g : SS) : (Fl.bk s).then g = .bk s := (rfl)
@[simp] theorem q_then_ct (g : SS) : (Fl.ct s).then g = .ct s := (rfl)
@[simp] theorem q_then_no (g : SS) : (Fl.no).then g = .no := (rfl)
@[simp] theorem q_sExpr : sExpr f s = (f s).flow fun _ s => .nx s := (rfl)
@[simp] theorem q_sRet : sRet f s = (f s).flow fun v s => .rt v s := (rfl)
@[simp] theorem q_sRetN : sRetN s = .rt (.d .none) s := (rfl)
@[simp] theorem q_sBreak : sBreak s = .bk s := (rfl)
@[simp] theorem q_sCont : sCont s = .ct s := (rfl)
@[simp] theorem q_sPass : sPass s = .nx s := (rfl)
@[simp] theorem q_sIf (t : S → Res Bool) (f g : SS) : sIf t f g s = (t s).flow fun b s => if b = true then f s else g s := (rfl)
@[simp] theorem q_set (v : SV) : s.set i v = { s with s := s.s.set i (some v) } := (rfl)
@[simp] theorem q_sSet : sSet i f s = (f s).flow fun v s => .nx (s.set i v) := (rfl)
@[simp] theorem q_ags'_nil : ags' [] s = .ok [] s := (rfl)
@[simp] theorem q_ags'_cons (fs : List SE) : ags' (f :: fs) s = (f s).bind fun sv s => (ags' fs s).bind fun vs s => .ok (sv :: vs) s := (rfl)
@[simp] theorem q_oNone : oNone s = .ok none s := (rfl)
@[simp] theorem q_oSome : oSome f s = (f s).bind fun sv s => retn (sv.int?.map some) s := (rfl)
@[simp] theorem q_tgN : tgN i x s = some (s.set i (.d x)) := (rfl)
@[simp] theorem q_tgs0 : tgs [] [] s = some s := (rfl)
@[simp] theorem q_tgs1 (g : SG) (gs : List SG) (xs : List PyData) : tgs (g :: gs) (x :: xs) s = (g x s).bind fun s => tgs gs xs s := (rfl)
@[simp] theorem q_tgT (gs : List SG) (xs : List PyData) : tgT gs (.tuple xs) s = tgs gs xs s := (rfl)
def gTg (g : SG) (s : S) : SV → Fl
  | .d x => match g x s with
    | some s => .nx s
    | none => .no
  | _ => .no
@[simp] theorem q_sTg (g : SG) : sTg g f s = (f s).flow fun sv s => gTg g s sv := (rfl)
@[simp] theorem q_gTg (g : SG) : gTg g s (.d x) = match g x s with
    | some s => .nx s
    | none => .no := (rfl)
@[simp] theorem q_sRaise (c : Str) (fl : List Str) (fs : List SE) : sRaise c fl fs s = (its fs s).flow fun ds s => if ds.length = fl.length then .ex ⟨c, (fl.zip ds).reverse⟩ s else .no := (rfl)
@[simp] theorem q_eIsi (Ts : List String) : eIsi Ts p s = (p s).bind fun p s => retn ((ld s p).bind fun d => if oddD d = true then none else some (.d (.bool (isaAny Ts d)))) s := (rfl)
@[simp] theorem q_iPl (g : List PyData → Option (List PyData)) (fs : List SPl) : iPl g fs s = (pls fs s).bind fun ps s => retn ((ldAll s ps).bind g) s := (rfl)
@[simp] theorem q_iOf (o : SV → Option (List PyData)) : iOf o f s = (f s).bind fun sv s => retn (o sv) s := (rfl)
@[simp] theorem q_iIts (g : List PyData → Option (List PyData)) (fs : List SE) : iIts g fs s = (its fs s).bind fun ds s => retn (g ds) s := (rfl)
@[simp] theorem q_any_l (xs : List PyData) : anyOf (.d (.list xs)) = some xs := (rfl)
@[simp] theorem q_any_t (xs : List PyData) : anyOf (.d (.tuple xs)) = some xs := (rfl)
@[simp] theorem q_any_o (xs : List PyData) : anyOf (.o (.lst xs)) = some xs := (rfl)
@[simp] theorem q_any_s (z : Str) : anyOf (.d (.str z)) = some (signsOf z) := (rfl)
@[simp] theorem q_sFor (it : SI) (g : SG) (body : SS) : sFor it g body s = (it s).flow fun xs s => forL g body xs s := (rfl)
@[simp] theorem q_eComp (it : SI) (vs : List Nat) (c : CT) (t : S → Res Bool) : eComp it vs c t f s = (it s).bind fun xs s => compL vs c.sg t f xs [] (s.wipe vs) := (rfl)
@[simp] theorem q_wipe (vs : List Nat) : s.wipe vs = { s with s := wipeL s.s vs } := (rfl)
@[simp] theorem q_wipeL0 (l : List (Option SV)) : wipeL l [] = l := (rfl)
@[simp] theorem q_wipeL1 (l : List (Option SV)) (v : Nat) (vs : List Nat) : wipeL l (v :: vs) = (wipeL l vs).set v none := (rfl)
@[simp] theorem q_sg_n : (CT.n i).sg = tgN i := (rfl)
@[simp] theorem q_sg_t (is : List Nat) : (CT.t is).sg = tgT (is.map tgN) := (rfl)
@[simp] theorem q_tYes : tYesZ s = .ok true s := (rfl)
@[simp] theorem q_on_ok {α β : Type} (a : α) (g : α → S → Res β) : (Res.ok a s).on g = g a s := (rfl)
@[simp] theorem q_eBox : eBox f s = (f s).bind fun sv s => match sv with
  | .o b => .ok (.r s.h.length) { s with h := s.h ++ [b] }
  | _ => .no := (rfl)
/-! operations -/
@[simp] theorem q_add_i (i j : Int) : opAdd (.int i) (.int j) = some (.d (.int (i + j))) := (rfl)
@[simp] theorem q_add_t (xs ys : List PyData) : opAdd (.tuple xs) (.tuple ys) = if fits (xs.length + ys.length) = true then some (.d (.tuple (xs ++ ys))) else none := (rfl)
@[simp] theorem q_add_l (xs ys : List PyData) : opAdd (.list xs) (.list ys) = if fits (xs.length + ys.length) = true then some (.o (.lst (xs ++ ys))) else none := (rfl)
@[simp] theorem q_sub_i (i j : Int) : opSub (.int i) (.int j) = some (.d (.int (i - j))) := (rfl)
@[simp] theorem q_le_i (i j : Int) : opLe (.int i) (.int j) = some (.d (.bool (decide (i ≤ j)))) := (rfl)
@[simp] theorem q_gt_i (i j : Int) : opGt (.int i) (.int j) = some (.d (.bool (decide (j < i)))) := (rfl)
@[simp] theorem q_ge_i (i j : Int) : opGe (.int i) (.int j) = some (.d (.bool (decide (j ≤ i)))) := (rfl)
@[simp] theorem q_lt_i (i j : Int) : opLt (.int i) (.int j) = some (.d (.bool (decide (i < j)))) := (rfl)
@[simp] theorem q_is_n : opIs x .none = some (.d (.bool (isNone x))) := by cases x <;> rfl
@[simp] theorem q_isn_n : opIsNot x .none = some (.d (.bool (!isNone x))) := by cases x <;> rfl
@[simp] theorem q_is_b (a b : Bool) : opIs (.bool a) (.bool b) = some (.d (.bool (decide (a = b)))) := (rfl)
@[simp] theorem q_isn_b (a b : Bool) : opIsNot (.bool a) (.bool b) = some (.d (.bool (!decide (a = b)))) := (rfl)
@[simp] theorem q_len_t (xs : List PyData) : opLen [.tuple xs] = some (.d (.int xs.length)) := (rfl)
@[simp] theorem q_len_l (xs : List PyData) : opLen [.list xs] = some (.d (.int xs.length)) := (rfl)
@[simp] theorem q_len_s (z : Str) : opLen [.str z] = if fits z.length = true then some (.d (.int z.length)) else none := (rfl)
@[simp] theorem q_opTup_l (xs : List PyData) : opTuple [.list xs] = some (.d (.tuple xs)) := (rfl)
@[simp] theorem q_opTup_t (xs : List PyData) : opTuple [.tuple xs] = some (.d (.tuple xs)) := (rfl)
@[simp] theorem q_opLst_l (xs : List PyData) : opList [.list xs] = some (.o (.lst xs)) := (rfl)
@[simp] theorem q_opLst_t (xs : List PyData) : opList [.tuple xs] = some (.o (.lst xs)) := (rfl)
@[simp] theorem q_int_i (i : Int) : opInt [.int i] = some (.d (.int i)) := (rfl)
@[simp] theorem q_int_b (b : Bool) : opInt [.bool b] = some (.d (.int (if b then 1 else 0))) := (rfl)
@[simp] theorem q_neg (i : Int) : opNeg (.int i) = some (.d (.int (-i))) := (rfl)
@[simp] theorem q_ix_t (xs : List PyData) (i : Int) : opIxS (.tuple xs) (.int i) = (L2.atI xs i).map .d := (rfl)
@[simp] theorem q_ix_l (xs : List PyData) (i : Int) : opIxS (.list xs) (.int i) = (L2.atI xs i).map .d := (rfl)
@[simp] theorem q_sl_t (xs : List PyData) (lo hi : Option Int) : opSl (.tuple xs) lo hi = some (.d (.tuple (cutD xs lo hi))) := (rfl)
@[simp] theorem q_sl_l (xs : List PyData) (lo hi : Option Int) : opSl (.list xs) lo hi = some (.o (.lst (cutD xs lo hi))) := (rfl)
@[simp] theorem q_eq_i (i j : Int) : opEq (.int i) (.int j) = some (.d (.bool (decide (i = j)))) := by
  show some (SV.d (.bool (i == j))) = _
  rw [show (i == j) = decide (i = j) from rfl]
@[simp] theorem q_eq_s (i j : Str) : opEq (.str i) (.str j) = some (.d (.bool (i == j))) := (rfl)
@[simp] theorem q_ne_i (i j : Int) : opNe (.int i) (.int j) = some (.d (.bool (!decide (i = j)))) := by
  show some (SV.d (.bool (!(i == j)))) = _
  rw [show (i == j) = decide (i = j) from rfl]
@[simp] theorem q_ne_b (i j : Bool) : opNe (.bool i) (.bool j) = some (.d (.bool (!(i == j)))) := (rfl)
end
@[simp] theorem q_in_ss (x y : Str) : opInG false (.str x) (.str y) = some (.d (.bool (!(Builtin.Str.occurrences y x 0 y.length 1).isEmpty))) := by
  show some (SV.d (.bool (false != _))) = _
  simp
@[simp] theorem fits_of {n : Nat} (h : n ≤ 1000000) : fits n = true := decide_eq_true (Nat.le_trans h (by decide))
@[simp] theorem q_atI (α : Type) (xs : List α) (i : Nat) : L2.atI xs (i : Int) = xs[i]? := by
  unfold L2.atI L2.ixN
  rw [if_pos (by omega)]
  by_cases h : i < xs.length
  · rw [if_pos (by omega)]
    simp
  · rw [if_neg (by omega), List.getElem?_eq_none (by omega)]
    rfl
@[simp] theorem q_atI0 {α : Type} (xs : List α) : L2.atI xs 0 = xs[0]? := q_atI α xs 0
@[simp] theorem q_atI1 {α : Type} (xs : List α) : L2.atI xs 1 = xs[1]? := q_atI α xs 1
@[simp] theorem q_atI2 {α : Type} (xs : List α) : L2.atI xs 2 = xs[2]? := q_atI α xs 2
@[simp] theorem q_atI3 {α : Type} (xs : List α) : L2.atI xs 3 = xs[3]? := q_atI α xs 3
end Z

set_option maxRecDepth 100000
set_option maxHeartbeats 4000000
namespace Z
open PySem PySem.Spec
/-! ### data of a bounded kind: depth n at the most, short texts, no dicts -/
def gd : Nat → PyData → Bool
  | _, .none => true
  | _, .bool _ => true
  | _, .int _ => true
  | _, .str z => PyData.strOk z && decide (z.length ≤ 100)
  | n + 1, .list xs => decide (xs.length ≤ 1000) && xs.all (gd n)
  | n + 1, .tuple xs => decide (xs.length ≤ 1000) && xs.all (gd n)
  | _, _ => false
theorem gd_succ : ∀ {n : Nat} {x : PyData}, gd n x = true → gd (n + 1) x = true
  | 0, x, h => by cases x <;> simp_all [gd]
  | n + 1, x, h => by
    cases x with
    | list xs =>
      simp only [gd, Bool.and_eq_true, List.all_eq_true] at h ⊢
      exact ⟨h.1, fun y hy => gd_succ (h.2 y hy)⟩
    | tuple xs =>
      simp only [gd, Bool.and_eq_true, List.all_eq_true] at h ⊢
      exact ⟨h.1, fun y hy => gd_succ (h.2 y hy)⟩
    | _ => simp_all [gd]
theorem gd_le {n m : Nat} (hm : n ≤ m) {x : PyData} (h : gd n x = true) : gd m x = true := by
  induction hm with
  | refl => exact h
  | step _ ih => exact gd_succ ih
theorem gd_tup {n : Nat} {xs : List PyData} : gd (n + 1) (.tuple xs) = true ↔ xs.length ≤ 1000 ∧ ∀ x ∈ xs, gd n x = true := by
  simp [gd]
theorem gd_lst {n : Nat} {xs : List PyData} : gd (n + 1) (.list xs) = true ↔ xs.length ≤ 1000 ∧ ∀ x ∈ xs, gd n x = true := by
  simp [gd]
theorem gd_odd {n : Nat} {x : PyData} (h : gd n x = true) : oddD x = false := by
  cases x with
  | dict kvs => cases n <;> simp [gd] at h
  | _ => rfl
theorem layAll {xs : List PyData} (h : ∀ x ∈ xs, x.canLay0 = true) : PyData.canLayAll0 xs = true := by
  induction xs with
  | nil => rfl
  | cons x xs ih =>
    rw [PyData.canLayAll0, Bool.and_eq_true]
    exact ⟨h x List.mem_cons_self, ih fun y hy => h y (List.mem_cons_of_mem _ hy)⟩
theorem deepAll {n : Nat} {xs : List PyData} (h : ∀ x ∈ xs, x.depth ≤ n) : PyData.depthAll xs ≤ n := by
  induction xs with
  | nil => exact Nat.zero_le _
  | cons x xs ih =>
    rw [PyData.depthAll]
    exact Nat.max_le.mpr ⟨h x List.mem_cons_self, ih fun y hy => h y (List.mem_cons_of_mem _ hy)⟩
theorem gd_lay : ∀ {n : Nat} {x : PyData}, gd n x = true → x.canLay0 = true ∧ x.depth ≤ n
  | n, .none, _ => ⟨rfl, Nat.zero_le _⟩
  | n, .bool _, _ => ⟨rfl, Nat.zero_le _⟩
  | n, .int _, _ => ⟨rfl, Nat.zero_le _⟩
  | n, .str z, h => by
    have : PyData.strOk z = true := by cases n <;> simp [gd] at h <;> exact h.1
    exact ⟨this, Nat.zero_le _⟩
  | 0, .list xs, h => by simp [gd] at h
  | 0, .tuple xs, h => by simp [gd] at h
  | n + 1, .list xs, h => by
    have h := (gd_lst.mp h).2
    exact ⟨layAll fun x hx => (gd_lay (h x hx)).1, Nat.succ_le_succ (deepAll fun x hx => (gd_lay (h x hx)).2)⟩
  | n + 1, .tuple xs, h => by
    have h := (gd_tup.mp h).2
    exact ⟨layAll fun x hx => (gd_lay (h x hx)).1, Nat.succ_le_succ (deepAll fun x hx => (gd_lay (h x hx)).2)⟩
  | 0, .dict _, h => by simp [gd] at h
  | n + 1, .dict _, h => by simp [gd] at h
theorem gd_shaped {n : Nat} {x : PyData} (h : gd n x = true) (hn : n ≤ 64 := by omega) : SeqAt.shaped x = true := by
  have := gd_lay h
  simp only [SeqAt.shaped, Bool.and_eq_true, decide_eq_true_eq]
  exact ⟨this.1, Nat.le_trans this.2 hn⟩
theorem gd_str {n : Nat} {z : Str} (h : gd n (.str z) = true) : z.length ≤ 100 := by
  cases n <;> simp [gd] at h <;> exact h.2
/-! ### comprehensions -/
theorem compL_fm {vs : List Nat} {g : SG} {t : S → Res Bool} {f : SE} {s : S} {p : PyData → Bool} {F : PyData → PyData} : ∀ {xs acc : List PyData},
    (∀ x ∈ xs, ∃ s1 s2, g x s = some s1 ∧ t s1 = .ok (p x) s2 ∧ (p x = false → s2.wipe vs = s) ∧ (p x = true → ∃ v s3, f s2 = .ok v s3 ∧ v.keep = some (F x) ∧ s3.wipe vs = s)) →
    acc.length + xs.length ≤ 1000000 → compL vs g t f xs acc s = .ok (.o (.lst (acc ++ (xs.filter p).map F))) s
  | [], acc, _, _ => by simp [compL]
  | x :: xs, acc, h, hl => by
    obtain ⟨s1, s2, e1, e2, e3, e4⟩ := h x List.mem_cons_self
    have hl' : acc.length + xs.length + 1 ≤ 1000000 := by simp only [List.length_cons] at hl; omega
    unfold compL
    rw [e1]
    simp only [e2, q_on_ok]
    cases hp : p x with
    | false =>
      rw [if_neg (by decide), e3 hp, compL_fm (fun y hy => h y (List.mem_cons_of_mem _ hy)) (by omega), List.filter_cons_of_neg (by simp [hp])]
    | true =>
      obtain ⟨v, s3, e5, e6, e7⟩ := e4 hp
      rw [if_pos rfl]
      simp only [e5, q_on_ok, e6]
      rw [if_pos (fits_of (by omega)), e7, compL_fm (fun y hy => h y (List.mem_cons_of_mem _ hy)) (by simp only [List.length_append, List.length_singleton]; omega), List.filter_cons_of_pos hp]
      simp
theorem compL_map {vs : List Nat} {g : SG} {f : SE} {s : S} {F : PyData → PyData} {xs acc : List PyData}
    (h : ∀ x ∈ xs, ∃ s1 v s3, g x s = some s1 ∧ f s1 = .ok v s3 ∧ v.keep = some (F x) ∧ s3.wipe vs = s) (hl : acc.length + xs.length ≤ 1000000) : compL vs g tYesZ f xs acc s = .ok (.o (.lst (acc ++ xs.map F))) s := by
  have := compL_fm (vs := vs) (g := g) (t := tYesZ) (f := f) (s := s) (p := fun _ => true) (F := F) (xs := xs) (acc := acc) (fun x hx => by
    obtain ⟨s1, v, s3, a, b, c, d⟩ := h x hx
    exact ⟨s1, s1, a, rfl, (fun z => Bool.noConfusion z), fun _ => ⟨v, s3, b, c, d⟩⟩) hl
  rw [this, List.filter_eq_self.mpr (fun _ _ => rfl)]
theorem boolsD_map (bs : List Bool) : boolsD (bs.map .bool) = some bs := by
  induction bs with
  | nil => rfl
  | cons b bs ih => simp [boolsD, ih]
theorem boolsD_all {α : Type} {xs : List α} (p : α → Bool) : boolsD (xs.map fun x => .bool (p x)) = some (xs.map p) := by
  rw [← boolsD_map, List.map_map]; rfl
theorem intsD_map (bs : List Int) : intsD (bs.map .int) = some bs := by
  induction bs with
  | nil => rfl
  | cons b bs ih => simp [intsD, ih]
theorem opAll_map {α : Type} {xs : List α} (p : α → Bool) : opAll [.list (xs.map fun x => .bool (p x))] = some (.d (.bool (xs.all p))) := by
  show (boolsD (xs.map fun x => .bool (p x))).map (fun bs => SV.d (.bool (bs.all id))) = _
  rw [boolsD_all]
  simp
theorem opAny_map {α : Type} {xs : List α} (p : α → Bool) : opAny [.list (xs.map fun x => .bool (p x))] = some (.d (.bool (xs.any p))) := by
  show (boolsD (xs.map fun x => .bool (p x))).map (fun bs => SV.d (.bool (bs.any id))) = _
  rw [boolsD_all]
  simp
theorem strsD_map (bs : List Str) : strsD (bs.map .str) = some bs := by
  induction bs with
  | nil => rfl
  | cons b bs ih => simp [strsD, ih]
/-! ### equal data -/
mutual
theorem eqv_refl : ∀ {x : PyData}, x.canLay0 = true → PyData.eqv x x = true
  | .none, _ => rfl
  | .bool _, _ => by simp [PyData.eqv]
  | .int _, _ => by simp [PyData.eqv]
  | .str _, _ => by simp [PyData.eqv]
  | .list xs, h => by
    rw [PyData.eqv]
    exact eqvAll_refl (by simpa [PyData.canLay0] using h)
  | .tuple xs, h => by
    rw [PyData.eqv]
    exact eqvAll_refl (by simpa [PyData.canLay0] using h)
  | .dict _, h => by simp [PyData.canLay0] at h
theorem eqvAll_refl : ∀ {xs : List PyData}, PyData.canLayAll0 xs = true → PyData.eqvAll xs xs = true
  | [], _ => rfl
  | x :: xs, h => by
    rw [PyData.canLayAll0, Bool.and_eq_true] at h
    rw [PyData.eqvAll, Bool.and_eq_true]
    exact ⟨eqv_refl h.1, eqvAll_refl h.2⟩
end
/-! ### for loops -/
/-- a loop whose turns go on, by an invariant over the part behind and the part ahead -/
theorem forL_run {g : SG} {body : SS} {I : List PyData → S → Prop} {ok : Fl → Prop} : ∀ {xs : List PyData} {s : S}, I xs s →
    (∀ x xs s, I (x :: xs) s → ∃ s1, g x s = some s1 ∧ ((∃ s2, (body s1 = .nx s2 ∨ body s1 = .ct s2) ∧ I xs s2) ∨ (∃ v s2, body s1 = .rt v s2 ∧ ok (.rt v s2)) ∨ (∃ v s2, body s1 = .ex v s2 ∧ ok (.ex v s2)) ∨ (∃ s2, body s1 = .bk s2 ∧ ok (.nx s2)))) →
    (∀ s, I [] s → ok (.nx s)) → ok (forL g body xs s)
  | [], s, h, _, e => by simpa [forL] using e s h
  | x :: xs, s, h, st, e => by
    obtain ⟨s1, e1, q⟩ := st x xs s h
    unfold forL
    rw [e1]
    rcases q with ⟨s2, q | q, hi⟩ | ⟨v, s2, q, hk⟩ | ⟨v, s2, q, hk⟩ | ⟨s2, q, hk⟩
    · simp only [q]; exact forL_run hi st e
    · simp only [q]; exact forL_run hi st e
    · simp only [q]; exact hk
    · simp only [q]; exact hk
    · simp only [q]; exact hk
/-! ### comprehensions of two clauses -/
theorem compI_run {k : Nat} {vs1 : List Nat} {g1 : SG} {f : SE} {sl : List (Option SV)} {h : List PO} {F : PyData → PyData} (hk : h.length = k) : ∀ {ys acc : List PyData},
    (∀ y ∈ ys, ∀ H, ∃ sl1 v sl3, g1 y ⟨sl, H⟩ = some ⟨sl1, H⟩ ∧ f ⟨sl1, H⟩ = .ok v ⟨sl3, H⟩ ∧ v.keep = some (F y) ∧ wipeL sl3 vs1 = sl) → acc.length + ys.length ≤ 1000000 →
    compI k vs1 g1 tYesZ f ys ⟨sl, h ++ [.lst acc]⟩ = .ok () ⟨sl, h ++ [.lst (acc ++ ys.map F)]⟩
  | [], acc, _, _ => by simp [compI]
  | y :: ys, acc, hy, hl => by
    obtain ⟨sl1, v, sl3, e1, e2, e3, e4⟩ := hy y List.mem_cons_self (h ++ [.lst acc])
    have hl' : acc.length + ys.length + 1 ≤ 1000000 := by simp only [List.length_cons] at hl; omega
    have at_ : (h ++ [PO.lst acc])[k]? = some (.lst acc) := by rw [← hk, List.getElem?_append_right (Nat.le_refl _)]; simp
    have st_ : (h ++ [PO.lst acc]).set k (.lst (acc ++ [F y])) = h ++ [.lst (acc ++ [F y])] := by rw [← hk, List.set_append_right _ _ (Nat.le_refl _)]; simp
    unfold compI
    rw [e1]
    simp only [q_tYes, q_on_ok, e2, e3]
    rw [at_]
    simp only
    rw [if_pos trivial, if_pos (fits_of (by omega)), st_, q_wipe]
    simp only [e4]
    rw [compI_run hk (fun z hz => hy z (List.mem_cons_of_mem _ hz)) (by simp only [List.length_append, List.length_singleton]; omega)]
    simp
theorem comp2_run {k : Nat} {vs vs1 : List Nat} {g g1 : SG} {it1 : SI} {f : SE} {sl : List (Option SV)} {h : List PO} {F : PyData → PyData} {G : PyData → List PyData} (hk : h.length = k) : ∀ {xs acc : List PyData},
    (∀ x ∈ xs, ∃ sl1 sl2 sl4, (∀ H, g x ⟨sl, H⟩ = some ⟨sl1, H⟩) ∧ (∀ H, it1 ⟨sl1, H⟩ = .ok (G x) ⟨sl2, H⟩) ∧ wipeL sl2 vs1 = sl4 ∧ wipeL sl4 vs = sl ∧
      ∀ y ∈ G x, ∀ H, ∃ sl5 v sl6, g1 y ⟨sl4, H⟩ = some ⟨sl5, H⟩ ∧ f ⟨sl5, H⟩ = .ok v ⟨sl6, H⟩ ∧ v.keep = some (F y) ∧ wipeL sl6 vs1 = sl4) → acc.length + (xs.flatMap G).length ≤ 1000000 →
    comp2L k vs g tYesZ it1 vs1 g1 tYesZ f xs ⟨sl, h ++ [.lst acc]⟩ = .ok () ⟨sl, h ++ [.lst (acc ++ (xs.flatMap G).map F)]⟩
  | [], acc, _, _ => by simp [comp2L]
  | x :: xs, acc, hx, hl => by
    obtain ⟨sl1, sl2, sl4, e1, e2, e3, e4, e5⟩ := hx x List.mem_cons_self
    simp only [List.flatMap_cons, List.length_append] at hl
    unfold comp2L
    rw [e1]
    simp only [q_tYes, q_on_ok, e2]
    rw [if_pos trivial, q_wipe]
    simp only [e3]
    rw [compI_run (F := F) hk e5 (by omega), q_on_ok, q_wipe]
    simp only [e4]
    rw [comp2_run hk (fun z hz => hx z (List.mem_cons_of_mem _ hz)) (by simp only [List.length_append, List.length_map]; omega)]
    simp
/-! ### dicts of unlike keys -/
theorem merge_nodup {κ : Type} [DecidableEq κ] : ∀ {more acc : List (κ × PyData)}, ((acc ++ more).map (·.1)).Nodup → mergeD acc more = acc ++ more
  | [], acc, _ => by simp [mergeD]
  | p :: more, acc, h => by
    have nk : (acc.any fun q => decide (q.1 = p.1)) = false := by
      rw [List.any_eq_false]
      intro q hq e
      have e := of_decide_eq_true e
      rw [List.map_append, List.map_cons, List.nodup_append] at h
      exact h.2.2 q.1 (List.mem_map.mpr ⟨q, hq, rfl⟩) p.1 List.mem_cons_self e
    show mergeD (putD acc p.1 p.2) more = _
    have : putD acc p.1 p.2 = acc ++ [p] := by
      unfold putD
      rw [if_neg (by rw [nk]; decide)]
    rw [this, merge_nodup (by simpa using h)]
    simp
@[simp] theorem q_data_dk (kds : List (L2.Key × PyData)) : (PO.dk kds).data = .dict (kds.map fun p => (keyD p.1, p.2)) := (rfl)
/-! ### methods that change -/
section
variable (s : S) (i j k n : Nat) (f g f' g' : SE) (p q : SPl) (x y z : PyData) (b : Bool)
@[simp] theorem q_obj_sl : obj s (.sl i) = (match s.s[i]? with
    | some (some (.o b)) => some b
    | _ => none) := (rfl)
@[simp] theorem q_obj_hp : obj s (.hp k) = s.h[k]? := (rfl)
@[simp] theorem q_put_sl (b : PO) : put s b (.sl i) = { s with s := s.s.set i (some (.o b)) } := (rfl)
@[simp] theorem q_put_hp (b : PO) : put s b (.hp k) = { s with h := s.h.set k b } := (rfl)
@[simp] theorem q_kind_l (xs : List PyData) : (PO.lst xs).kind = "list" := (rfl)
@[simp] theorem q_eMut (T : String) (o : PO → List PyData → Option (PyData × PO)) (fs : List SE) : eMut T o p fs s = (p s).bind fun p s => if ((obj s p).map PO.kind) = some T then (its fs s).bind fun ds s => (match (obj s p).bind fun b => o b ds with
  | some (v, b') => .ok (.d v) (put s b' p)
  | none => .no) else .no := (rfl)
@[simp] theorem q_eMutR (T : String) (o : PO → List PyData → Option (PyData × PO)) (fs : List SPl) : eMutR T o p fs s = (p s).bind fun p s => if ((obj s p).map PO.kind) = some T then (pls fs s).bind fun ps s => (match (ldAll s ps).bind fun ds => (obj s p).bind fun b => o b ds with
  | some (v, b') => .ok (.d v) (put s b' p)
  | none => .no) else .no := (rfl)
@[simp] theorem q_muAppend (xs : List PyData) : muAppend (.lst xs) [x] = if fits (xs.length + 1) = true then some (.none, .lst (xs ++ [x])) else none := (rfl)
@[simp] theorem q_muExtend (xs ys : List PyData) : muExtend (.lst xs) [.list ys] = if fits (xs.length + ys.length) = true then some (.none, .lst (xs ++ ys)) else none := (rfl)
@[simp] theorem q_muInsert (xs : List PyData) (i : Int) : muInsert (.lst xs) [.int i, x] = if (fits (xs.length + 1) && decide (0 ≤ i) && small63 i) = true then some (.none, .lst (xs.take i.toNat ++ [x] ++ xs.drop i.toNat)) else none := (rfl)
@[simp] theorem q_rg1 (j : Int) : rg1 [.int j] = if small62 j = true then some (rangeD 0 j) else none := (rfl)
@[simp] theorem q_rg2 (i j : Int) : rg2 [.int i, .int j] = if (small62 i && small62 j) = true then some (rangeD i j) else none := (rfl)
@[simp] theorem q_comp2 (it : SI) (vs : List Nat) (c : CT) (t : S → Res Bool) (it1 : SI) (vs1 : List Nat) (c1 : CT) (t1 : S → Res Bool) : eComp2 it vs c t it1 vs1 c1 t1 f s = (it s).bind fun xs s =>
  comp2F s.h.length (comp2L s.h.length vs c.sg t it1 vs1 c1.sg t1 f xs ⟨wipeL s.s vs, s.h ++ [.lst []]⟩) := (rfl)
theorem comp2F_ok (sl : List (Option SV)) (h : List PO) (acc : List PyData) (hr : noRef h.length sl = true) : comp2F h.length (.ok () ⟨sl, h ++ [.lst acc]⟩) = .ok (.o (.lst acc)) ⟨sl, h⟩ := by
  unfold comp2F
  simp [hr]
end
theorem small62_nat {n : Nat} (h : n ≤ 1000000) : small62 (n : Int) = true := by
  exact decide_eq_true (by omega)
/-- the numbers from lo on, n of them -/
def nums (lo n : Nat) : List PyData := (List.range' lo n).map fun i => .int (i : Nat)
theorem rangeD_nat (n : Nat) : rangeD 0 (n : Int) = nums 0 n := by
  unfold rangeD nums
  rw [show ((n : Int) - 0).toNat = n by omega, List.range_eq_range']
  refine List.map_congr_left fun i _ => ?_
  simp
theorem nums_succ (lo n : Nat) : nums lo (n + 1) = .int lo :: nums (lo + 1) n := by
  simp [nums, List.range'_succ]
@[simp] theorem nums_zero (lo : Nat) : nums lo 0 = [] := (rfl)
/-- texts -/
def isS : PyData → Bool | .str _ => true | _ => false
def strsOf (xs : List PyData) : List Str := xs.filterMap fun | .str z => some z | _ => none
theorem strsD_of {xs : List PyData} (h : ∀ x ∈ xs, isS x = true) : strsD xs = some (strsOf xs) := by
  induction xs with
  | nil => rfl
  | cons x xs ih =>
    have hx := h x List.mem_cons_self
    cases x with
    | str z =>
      show (strsD xs).map (z :: ·) = _
      rw [ih fun y hy => h y (List.mem_cons_of_mem _ hy)]
      rfl
    | _ => simp [isS] at hx
theorem strsOf_len (xs : List PyData) : (strsOf xs).length ≤ xs.length := List.length_filterMap_le _ _
theorem mem_strsOf {xs : List PyData} {z : Str} : z ∈ strsOf xs ↔ .str z ∈ xs := by
  unfold strsOf
  rw [List.mem_filterMap]
  constructor
  · rintro ⟨x, hx, e⟩
    cases x <;> simp at e
    subst e
    exact hx
  · intro h
    exact ⟨_, h, rfl⟩
theorem opSortSet_ok {xs : List PyData} (h : ∀ x ∈ xs, isS x = true) (hl : xs.length ≤ 4000) : opSortSet (.list xs) = some (.o (.lst ((upS (strsOf xs)).map .str))) := by
  show ((strsD xs).bind fun ss => if decide (ss.length + 1 < scanBound) = true then some (SV.o (.lst ((upS ss).map .str))) else none) = _
  rw [strsD_of h]
  show (if decide ((strsOf xs).length + 1 < scanBound) = true then _ else _) = _
  rw [if_pos]
  have := strsOf_len xs
  have : scanBound > 4001 := by decide
  exact decide_eq_true (by omega)
theorem nodup_len {α : Type} [DecidableEq α] {l m : List α} (nd : l.Nodup) (h : ∀ x ∈ l, x ∈ m) : l.length ≤ m.length := by
  induction l generalizing m with
  | nil => exact Nat.zero_le _
  | cons a l ih =>
    obtain ⟨n1, n2⟩ := List.nodup_cons.mp nd
    have ha := h a List.mem_cons_self
    have := ih (m := m.erase a) n2 fun x hx => (List.mem_erase_of_ne (fun e => n1 (by rw [← e]; exact hx))).mpr (h x (List.mem_cons_of_mem _ hx))
    rw [List.length_erase_of_mem ha] at this
    have hm : 0 < m.length := List.length_pos_of_mem ha
    simp only [List.length_cons]
    omega
@[simp] theorem ofString_inj {a b : String} : (Str.ofString a = Str.ofString b) ↔ a = b := by
  constructor
  · intro h
    rw [Str.ofString_eq_toList, Str.ofString_eq_toList, Str.mk.injEq] at h
    have h : a.toList.map Char.toNat = b.toList.map Char.toNat := by simpa using h
    have inj : ∀ x y : Char, x.toNat = y.toNat → x = y := fun x y e => Char.ext (UInt32.toNat_inj.mp e)
    have : ∀ l m : List Char, l.map Char.toNat = m.map Char.toNat → l = m := fun l => by
      induction l with
      | nil => intro m e; cases m with
        | nil => rfl
        | cons _ _ => cases e
      | cons x l ih => intro m e; cases m with
        | nil => cases e
        | cons y m =>
          simp only [List.map_cons, List.cons.injEq] at e
          rw [inj _ _ e.1, ih m e.2]
    exact String.toList_inj.mp (this _ _ h)
  · intro h; rw [h]
@[simp] theorem ofString_beq {a b : String} : (Str.ofString a == Str.ofString b) = decide (a = b) := by
  by_cases h : a = b
  · subst h; simp
  · have : Str.ofString a ≠ Str.ofString b := fun e => h (ofString_inj.mp e)
    simp [h]
end Z

set_option maxRecDepth 100000
set_option maxHeartbeats 4000000
namespace Z
open PySem PySem.Spec
section
variable (s : S) (i j k n : Nat) (f g f' g' : SE) (p q : SPl) (x y z : PyData) (b : Bool)
def gAug (i : Nat) (s : S) (op : PyData → PyData → Option SV) (x : PyData) (q : Pl) : Fl := match (ld s q).bind fun y => op x y with
    | some v => .nx (s.set i v)
    | none => .no
@[simp] theorem q_sAug (op : PyData → PyData → Option SV) : sAug i op p s = (match s.s[i]? with
  | some (some (.d x)) => (p s).flow fun q s => gAug i s op x q
  | _ => .no) := (rfl)
@[simp] theorem q_gAug (op : PyData → PyData → Option SV) (q : Pl) : gAug i s op x q = (match (ld s q).bind fun y => op x y with
    | some v => .nx (s.set i v)
    | none => .no) := (rfl)
def gPar (is : List Nat) (vs : List SV) (s : S) : Fl := match setAll is vs s with
  | some s' => .nx s'
  | none => .no
@[simp] theorem q_sPar (is : List Nat) (fs : List SE) : sPar is fs s = (ags' fs s).flow fun vs s => gPar is vs s := (rfl)
@[simp] theorem q_gPar0 : gPar [] [] s = .nx s := (rfl)
@[simp] theorem q_gPar1 (is : List Nat) (v : SV) (vs : List SV) : gPar (i :: is) (v :: vs) s = gPar is vs (s.set i v) := (rfl)
@[simp] theorem q_eZipL (fs : List SE) : eZipL fs s = (its fs s).bind fun ds s => retn (opZipL ds) s := (rfl)
@[simp] theorem q_zipL_t (xs ys : List PyData) : opZipL [.tuple xs, .tuple ys] = some (.o (.lst ((xs.zip ys).map fun p => .tuple [p.1, p.2]))) := (rfl)
@[simp] theorem q_zipL_l (xs ys : List PyData) : opZipL [.list xs, .list ys] = some (.o (.lst ((xs.zip ys).map fun p => .tuple [p.1, p.2]))) := (rfl)
@[simp] theorem q_sWhile (t : S → Res Bool) (body : SS) : sWhile n t body s = whileL t body n s := (rfl)
@[simp] theorem q_iadd_i (i j : Int) : opIadd (.int i) (.int j) = some (.d (.int (i + j))) := (rfl)
def gIx (op : PO → PyData → PyData → Option PO) (x : PyData) (p r : Pl) (s : S) : Fl := match (ld s r).bind fun i => (obj s p).bind fun b => op b i x with
    | some b' => .nx (put s b' p)
    | none => .no
@[simp] theorem q_sIx (op : PO → PyData → PyData → Option PO) : sIx op p q f s = (f s).flow fun sv s => (match sv.keep with
  | none => .no
  | some x => (p s).flow fun p s => (q s).flow fun r s => gIx op x p r s) := (rfl)
@[simp] theorem q_gIx (op : PO → PyData → PyData → Option PO) (p r : Pl) : gIx op x p r s = (match (ld s r).bind fun i => (obj s p).bind fun b => op b i x with
    | some b' => .nx (put s b' p)
    | none => .no) := (rfl)
@[simp] theorem q_stL (xs : List PyData) (i : Int) : stL (.lst xs) (.int i) x = (L2.ixN xs.length i).map fun j => .lst (xs.set j x) := (rfl)
@[simp] theorem q_gtL (xs : List PyData) (i : Int) : gtL (.list xs) (.int i) = (L2.atI xs i).map .d := (rfl)
@[simp] theorem q_mod (i j : Int) : opMod (.int i) (.int j) = if j = 0 then none else some (.d (.int (i.fmod j))) := (rfl)
@[simp] theorem q_div (i j : Int) : opDiv (.int i) (.int j) = if (decide (j ≠ 0) && decide (j.natAbs < 1073741824)) = true then some (.d (.int (i.fdiv j))) else none := (rfl)
@[simp] theorem q_mul (i j : Int) : opMul (.int i) (.int j) = if (small64 i || small64 j) = true then some (.d (.int (i * j))) else none := (rfl)
@[simp] theorem q_abs (i : Int) : opAbs [.int i] = some (.d (.int (if i < 0 then -i else i))) := (rfl)
end
theorem ixN_nat {n i : Nat} (h : i < n) : L2.ixN n (i : Int) = some i := by
  unfold L2.ixN
  rw [if_pos (by omega), if_pos (by omega)]
  simp
/-! ### sizes -/
mutual
def sz : PyData → Nat
  | .list xs => szs xs + 1
  | .tuple xs => szs xs + 1
  | .none => 1
  | .bool _ => 1
  | .int _ => 1
  | .str _ => 1
  | .dict _ => 1
def szs : List PyData → Nat
  | [] => 0
  | x :: xs => sz x + szs xs
end
theorem sz_pos (x : PyData) : 1 ≤ sz x := by cases x <;> simp [sz]
theorem szs_append (xs ys : List PyData) : szs (xs ++ ys) = szs xs + szs ys := by
  induction xs with
  | nil => simp [szs]
  | cons x xs ih => simp only [List.cons_append, szs, ih]; omega
theorem len_szs (xs : List PyData) : xs.length ≤ szs xs := by
  induction xs with
  | nil => simp [szs]
  | cons x xs ih =>
    have := sz_pos x
    simp only [List.length_cons, szs]
    omega
theorem opNe_refl {n : Nat} {x : PyData} (h : gd n x = true) (hn : n ≤ 60) : opNe x x = some (.d (.bool false)) := by
  have : opNe x x = if eqOk x x = true then some (.d (.bool (!PyData.eqv x x))) else none := rfl
  rw [this, if_pos, eqv_refl (gd_lay h).1]
  · rfl
  · have := gd_shaped h
    cases x <;> simp [eqOk] <;> exact this
end Z

set_option maxRecDepth 100000
set_option maxHeartbeats 4000000
namespace Z
open PySem PySem.Spec
section
variable {α : Type} (le : α → α → Bool)
def mgF : Nat → List α → List α → List α
  | 0, _, _ => []
  | _ + 1, [], ys => ys
  | _ + 1, x :: xs, [] => x :: xs
  | n + 1, x :: xs, y :: ys => if le x y then x :: mgF n xs (y :: ys) else y :: mgF n (x :: xs) ys
theorem mgF_is : ∀ (n : Nat) (xs ys : List α), xs.length + ys.length < n → mgF le n xs ys = List.merge xs ys le
  | 0, xs, ys, h => absurd h (by omega)
  | n + 1, [], ys, h => by simp [mgF]
  | n + 1, x :: xs, [], h => by simp [mgF]
  | n + 1, x :: xs, y :: ys, h => by
    simp only [mgF, List.cons_merge_cons]
    simp at h
    rw [mgF_is n xs (y :: ys) (by simp; omega), mgF_is n (x :: xs) ys (by simp; omega)]
def msF : Nat → List α → List α
  | 0, _ => []
  | _ + 1, [] => []
  | _ + 1, [a] => [a]
  | n + 1, a :: b :: xs => mgF le (xs.length + 3) (msF n ((a :: b :: xs).take ((xs.length + 3) / 2))) (msF n ((a :: b :: xs).drop ((xs.length + 3) / 2)))
theorem msF_is : ∀ (n : Nat) (xs : List α), xs.length < n → msF le n xs = xs.mergeSort le
  | 0, xs, h => absurd h (by omega)
  | n + 1, [], h => by simp [msF]
  | n + 1, [a], h => by simp [msF]
  | n + 1, a :: b :: xs, h => by
    simp only [List.length_cons] at h
    rw [List.mergeSort]
    simp only [msF]
    have e1 := msF_is n ((a :: b :: xs).take ((xs.length + 3) / 2)) (by simp; omega)
    have e2 := msF_is n ((a :: b :: xs).drop ((xs.length + 3) / 2)) (by simp; omega)
    rw [mgF_is, e1, e2]
    · simp [List.MergeSort.Internal.splitInTwo]
    · rw [e1, e2]
      simp
      omega
end
theorem inOrder_is (ds : List PyData) : inOrder ds = msF (PySem.W.dataLe false id) (ds.length + 1) ds := (msF_is _ _ _ (by omega)).symm
end Z

set_option maxRecDepth 100000
set_option maxHeartbeats 4000000
namespace Z
open PySem PySem.Spec PyProof.Rows L2
/-! ### the ends of a law with a table of its own -/
theorem RpAll.ints {K : PySem.W.Frag} {M : List Addr} {H : Hp} : ∀ ns : List Int, RpAll K M H (ns.map V.int) (ns.map PyData.int)
  | [] => .nil
  | n :: ns => .cons (.int n) (RpAll.ints ns)
theorem spF_law {K : PySem.W.Frag} {mg : Str → Option Value} {F : Fn} {q : Str} {P a : Addr} {H : Hp} {ns : List Int} (hP : H P = some (.tbl #[])) (hS : SqL K H a (ns.map V.int))
    (hF : ∃ h', F [.d (.dict [(.none, .list (ns.map .int))])] [.tb P q] = .ok (.d (.bool true)) h') : spF K mg F 1 [.ref a] H (fun v _ => v = .bl true) fun _ _ _ => False := by
  refine ⟨rfl, [P], [], [.tb P q], [.d (.dict [(.none, .list (ns.map .int))])], ⟨?_, ?_, rfl, ?_, ?_⟩, .d (.scr (xs := ns.map V.int) ?_ (RpAll.ints ns)) .nil, ?_⟩
  · show [P].Nodup
    simp
  · intro b hb
    have hb : b ∈ [P] := hb
    rw [List.mem_singleton.mp hb]
    exact ⟨_, hP, trivial⟩
  · intro i sv h
    simp at h
  · refine ⟨rfl, fun k b hk => ?_⟩
    cases k with
    | zero =>
      cases hk
      exact ⟨P, rfl, rfl, #[], hP, trivial, fun pos cv e => by cases e⟩
    | succ k => simp at hk
  · rcases hS with h | h
    · refine .inl ⟨h, fun hm => ?_⟩
      have hm : a ∈ [P] := hm
      rw [List.mem_singleton.mp hm] at h
      rcases h with h | ⟨o, h⟩
      · rw [hP] at h; cases h
      · rw [hP] at h; cases h
    · exact .inr h
  · obtain ⟨h', e⟩ := hF
    rw [e]
    intro v ρ' B' H' _ r
    obtain ⟨_, r⟩ := r
    cases r
    rfl
/-- a def of the text's top -/
def DefAt (K : PySem.W.Frag) (mg : Str → Option Value) (x : Str) (st : Stmt) : Prop := ∃ (f : Addr) (fd : FuncData), Fun K x x st f fd ∧ mg x = some (.ref f)
theorem mkF {K : PySem.W.Frag} {h : Heap} {mg : Str → Option Value} {x : Str} {st : Stmt} {f : Addr} {oc kV dc pm cd ct : Value} {od an : Option Addr} {sl : Array (Option Value)} (X : K.In h) (G : h.Ns mainGlobals mg) (a : PySem.W.nsIn K mainGlobals x = some (some (.ref f)))
    (l : K.lookup f = some ⟨oc, od, .func (PySem.W.fnOf x x (defArgs st) (defBody st) (defScope st) .none kV dc pm an cd ct), sl⟩) (c : PySem.W.codeIn K cd x = true) (k : PySem.W.keepIn K (.ref f) = true) : DefAt K mg x st :=
  ⟨f, _, fun_mk l c k, PySem.W.mg_of X G a⟩
theorem fun_ne {K : PySem.W.Frag} {x y : Str} {s t : Stmt} {f g : Addr} {fd gd : FuncData} (F : Fun K x x s f fd) (G : Fun K y y t g gd) (h : x ≠ y) : f ≠ g := by
  rintro rfl
  obtain ⟨oc, od, kV, dc, pm, an, cd, ct, sl, rfl, l, _⟩ := F.ex
  obtain ⟨oc', od', kV', dc', pm', an', cd', ct', sl', rfl, l', _⟩ := G.ex
  rw [l] at l'
  injection l' with e
  injection e with _ _ e _
  injection e with e
  exact h (congrArg FuncData.name e)
theorem noCX {P : Program} {w : World} {H : Hp} {s : Shared} {e : Value} {s' : Shared} (h : L2.CX P w [] H s (fun _ _ _ => False) e s') : False := by
  obtain ⟨_, _, _, _, _, _, _, _, _, _, _, _, h⟩ := h
  exact h
/-! ### a module's dict of texts -/
inductive TabRel (K : PySem.W.Frag) : List DictEntry → List (Str × PyData) → Prop
  | nil : TabRel K [] []
  | cons {e : DictEntry} {l : List DictEntry} {x : Str} {t : Tok} {v : V} {y : PyData} {tab : List (Str × PyData)} : e.key = .str x t → RelV v e.val → (∀ M H, Rp K M H v y) → TabRel K l tab → TabRel K (e :: l) ((x, y) :: tab)
theorem TabRel.noRef {K : PySem.W.Frag} {l : List DictEntry} {tab : List (Str × PyData)} (h : TabRel K l tab) : l.any (·.refKey) = false := by
  induction h with
  | nil => rfl
  | cons hk _ _ _ ih =>
    rw [List.any_cons, ih]
    unfold DictEntry.refKey
    rw [hk]
    rfl
theorem TabRel.look {K : PySem.W.Frag} {l : List DictEntry} {tab : List (Str × PyData)} (h : TabRel K l tab) (z : Str) : ∃ r : Option Value, (match l.find? (·.key.isStr z) with | some e => some (some e.val) | none => some none) = some r ∧ match r, tab.lookup z with
    | none, none => True
    | some u, some y => ∃ v, RelV v u ∧ ∀ M H, Rp K M H v y
    | _, _ => False := by
  induction h with
  | nil => exact ⟨none, rfl, trivial⟩
  | @cons e l x t v y tab hk hv hy _ ih =>
    have e1 : e.key.isStr z = (x == z) := by rw [hk]; rfl
    rw [List.find?_cons, e1, List.lookup_cons]
    by_cases q : x = z
    · subst q
      simp only [beq_self_eq_true]
      exact ⟨_, rfl, v, hv, hy⟩
    · have q1 : (x == z) = false := by simpa using q
      have q2 : (z == x) = false := by simpa using fun h => q h.symm
      rw [q1, q2]
      exact ih
theorem gDict_mk {w : World} {K : PySem.W.Frag} {h : Heap} {mg : Str → Option Value} {x : Str} {tab : List (Str × PyData)} {d : Addr} {es : Array DictEntry} {n : Nat} (X : K.In h) (G : h.Ns mainGlobals mg) (a : PySem.W.nsIn K mainGlobals x = some (some (.ref d)))
    (l : K.lookup d = some ⟨.type "dict", none, .dict es n, #[]⟩) (k : PySem.W.KeysLit w.params es.toList) (lo : (d == sysModules) = false) (t : TabRel K es.toList tab) : gDict w K mg x tab := by
  refine ⟨d, es, n, PySem.W.mg_of X G a, ⟨l, k, lo⟩, fun z => ?_⟩
  have nr := t.noRef
  obtain ⟨r, e, q⟩ := t.look z
  refine ⟨r, ?_, q⟩
  unfold PySem.W.nsIn
  rw [l]
  simp only [nr]
  exact e
/-! ### constants of the text's top -/
theorem gInt_mk {K : PySem.W.Frag} {h : Heap} {mg : Str → Option Value} {x : Str} {i : Int} {t : Tok} (X : K.In h) (G : h.Ns mainGlobals mg) (a : PySem.W.nsIn K mainGlobals x = some (some (.int i t))) : gInt mg x (.int i) := ⟨i, _, rfl, PySem.W.mg_of X G a, t, rfl⟩
theorem gStr_mk {K : PySem.W.Frag} {h : Heap} {mg : Str → Option Value} {x : Str} {i : Str} {t : Tok} (X : K.In h) (G : h.Ns mainGlobals mg) (a : PySem.W.nsIn K mainGlobals x = some (some (.str i t))) : gStr mg x (.str i) := ⟨i, _, rfl, PySem.W.mg_of X G a, t, rfl⟩
theorem gTup_mk {K : PySem.W.Frag} {h : Heap} {mg : Str → Option Value} {x : Str} {ds : List PyData} {p : Addr} {xs : List V} {its : Array Value} {n : Nat} {sl : Array (Option Value)} (X : K.In h) (G : h.Ns mainGlobals mg) (a : PySem.W.nsIn K mainGlobals x = some (some (.ref p)))
    (l : K.lookup p = some ⟨.type "tuple", none, .seq its n, sl⟩) (hr : ∀ M H, RpAll K M H xs ds) (hs : its.size ≤ sizeLine) (hv : Vals xs its.toList) : gTup K mg x (.tuple ds) :=
  ⟨p, xs, ds, rfl, PySem.W.mg_of X G a, hr, _, its, n, l, rfl, rfl, rfl, hs, hv⟩
theorem free_mk {K : PySem.W.Frag} {h : Heap} {mg : Str → Option Value} {x : Str} (X : K.In h) (G : h.Ns mainGlobals mg) (a : PySem.W.nsIn K mainGlobals x = some none) : mg x = none := PySem.W.mg_none_of X G a
end Z

set_option maxRecDepth 100000
set_option maxHeartbeats 4000000
namespace K05
open PySem PySem.Spec PyProof.Rows L2 Z
def topS (i : Nat) : Stmt := PySem.Challenge.pw_kindboughs_k05_books_amended_and_put_bac.main.body.getD i (.Pass ⟨0, 0, 0, 0⟩)
abbrev s__law_came : Stmt := topS 58
theorem sc__law_came : FnScope ["deed", "error"] ["deed"] (defScope s__law_came) := ⟨rfl, rfl, rfl, by decide +kernel, rfl, by decide +kernel, by decide +kernel⟩
abbrev s_is_integer : Stmt := topS 9
theorem sc_is_integer : FnScope ["thing"] ["thing"] (defScope s_is_integer) := ⟨rfl, rfl, rfl, by decide +kernel, rfl, by decide +kernel, by decide +kernel⟩
abbrev s_is_within : Stmt := topS 10
theorem sc_is_within : FnScope ["thing", "least", "most"] ["thing", "least", "most"] (defScope s_is_within) := ⟨rfl, rfl, rfl, by decide +kernel, rfl, by decide +kernel, by decide +kernel⟩
abbrev s_is_string : Stmt := topS 11
theorem sc_is_string : FnScope ["thing"] ["thing"] (defScope s_is_string) := ⟨rfl, rfl, rfl, by decide +kernel, rfl, by decide +kernel, by decide +kernel⟩
abbrev s_is_name : Stmt := topS 12
theorem sc_is_name : FnScope ["thing", "letter"] ["thing"] (defScope s_is_name) := ⟨rfl, rfl, rfl, by decide +kernel, rfl, by decide +kernel, by decide +kernel⟩
abbrev s_are_all : Stmt := topS 13
theorem sc_are_all : FnScope ["thing", "fits", "member"] ["thing", "fits"] (defScope s_are_all) := ⟨rfl, rfl, rfl, by decide +kernel, rfl, by decide +kernel, by decide +kernel⟩
abbrev s_are_integers : Stmt := topS 14
theorem sc_are_integers : FnScope ["thing"] ["thing"] (defScope s_are_integers) := ⟨rfl, rfl, rfl, by decide +kernel, rfl, by decide +kernel, by decide +kernel⟩
abbrev s_are_names : Stmt := topS 15
theorem sc_are_names : FnScope ["thing"] ["thing"] (defScope s_are_names) := ⟨rfl, rfl, rfl, by decide +kernel, rfl, by decide +kernel, by decide +kernel⟩
abbrev s_is_tuple_of : Stmt := topS 16
theorem sc_is_tuple_of : FnScope ["thing", "many"] ["thing", "many"] (defScope s_is_tuple_of) := ⟨rfl, rfl, rfl, by decide +kernel, rfl, by decide +kernel, by decide +kernel⟩
abbrev s_do_rise : Stmt := topS 17
theorem sc_do_rise : FnScope ["thing", "one", "other"] ["thing"] (defScope s_do_rise) := ⟨rfl, rfl, rfl, by decide +kernel, rfl, by decide +kernel, by decide +kernel⟩
abbrev s_is_sign : Stmt := topS 21
theorem sc_is_sign : FnScope ["thing"] ["thing"] (defScope s_is_sign) := ⟨rfl, rfl, rfl, by decide +kernel, rfl, by decide +kernel, by decide +kernel⟩
abbrev s_is_signs : Stmt := topS 22
theorem sc_is_signs : FnScope ["thing", "labels", "label", "many", "one", "other"] ["thing"] (defScope s_is_signs) := ⟨rfl, rfl, rfl, by decide +kernel, rfl, by decide +kernel, by decide +kernel⟩
abbrev s_many_of : Stmt := topS 23
theorem sc_many_of : FnScope ["signs", "label"] ["signs", "label"] (defScope s_many_of) := ⟨rfl, rfl, rfl, by decide +kernel, rfl, by decide +kernel, by decide +kernel⟩
abbrev s_is_rule_form : Stmt := topS 28
theorem sc_is_rule_form : FnScope ["thing"] ["thing"] (defScope s_is_rule_form) := ⟨rfl, rfl, rfl, by decide +kernel, rfl, by decide +kernel, by decide +kernel⟩
abbrev s_rule_fault : Stmt := topS 29
theorem sc_rule_fault : FnScope ["signs", "rules", "index", "kind", "label", "kinds"] ["signs", "rules", "index"] (defScope s_rule_fault) := ⟨rfl, rfl, rfl, by decide +kernel, rfl, by decide +kernel, by decide +kernel⟩
abbrev s_kinds_among : Stmt := topS 30
theorem sc_kinds_among : FnScope ["tops", "rules", "found", "one", "kind", "label", "kinds"] ["tops", "rules"] (defScope s_kinds_among) := ⟨rfl, rfl, rfl, by decide +kernel, rfl, by decide +kernel, by decide +kernel⟩
abbrev s_rules_fault : Stmt := topS 31
theorem sc_rules_fault : FnScope ["signs", "tops", "rules", "index", "fault"] ["signs", "tops", "rules"] (defScope s_rules_fault) := ⟨rfl, rfl, rfl, by decide +kernel, rfl, by decide +kernel, by decide +kernel⟩
abbrev s_book_fault : Stmt := topS 32
theorem sc_book_fault : FnScope ["thing", "name", "signs", "tops", "rules"] ["thing"] (defScope s_book_fault) := ⟨rfl, rfl, rfl, by decide +kernel, rfl, by decide +kernel, by decide +kernel⟩
abbrev s_is_book : Stmt := topS 33
theorem sc_is_book : FnScope ["thing"] ["thing"] (defScope s_is_book) := ⟨rfl, rfl, rfl, by decide +kernel, rfl, by decide +kernel, by decide +kernel⟩
abbrev s_checked_book : Stmt := topS 34
theorem sc_checked_book : FnScope ["thing", "fault"] ["thing"] (defScope s_checked_book) := ⟨rfl, rfl, rfl, by decide +kernel, rfl, by decide +kernel, by decide +kernel⟩
abbrev s_is_change : Stmt := topS 39
theorem sc_is_change : FnScope ["thing"] ["thing"] (defScope s_is_change) := ⟨rfl, rfl, rfl, by decide +kernel, rfl, by decide +kernel, by decide +kernel⟩
abbrev s_with_rules : Stmt := topS 40
theorem sc_with_rules : FnScope ["book", "rules"] ["book", "rules"] (defScope s_with_rules) := ⟨rfl, rfl, rfl, by decide +kernel, rfl, by decide +kernel, by decide +kernel⟩
abbrev s_turned_by : Stmt := topS 41
theorem sc_turned_by : FnScope ["book", "change", "rules", "at"] ["book", "change"] (defScope s_turned_by) := ⟨rfl, rfl, rfl, by decide +kernel, rfl, by decide +kernel, by decide +kernel⟩
abbrev s_after_change : Stmt := topS 42
theorem sc_after_change : FnScope ["book", "change"] ["book", "change"] (defScope s_after_change) := ⟨rfl, rfl, rfl, by decide +kernel, rfl, by decide +kernel, by decide +kernel⟩
abbrev s_back_of : Stmt := topS 43
theorem sc_back_of : FnScope ["book", "change", "at"] ["book", "change"] (defScope s_back_of) := ⟨rfl, rfl, rfl, by decide +kernel, rfl, by decide +kernel, by decide +kernel⟩
abbrev s_after_all : Stmt := topS 44
theorem sc_after_all : FnScope ["book", "changes", "change"] ["book", "changes"] (defScope s_after_all) := ⟨rfl, rfl, rfl, by decide +kernel, rfl, by decide +kernel, by decide +kernel⟩
abbrev s_backs : Stmt := topS 45
theorem sc_backs : FnScope ["book", "changes", "found", "change"] ["book", "changes"] (defScope s_backs) := ⟨rfl, rfl, rfl, by decide +kernel, rfl, by decide +kernel, by decide +kernel⟩
abbrev s__law_bag : Stmt := topS 47
theorem sc__law_bag : FnScope ["script", "cell"] ["script"] (defScope s__law_bag) := ⟨rfl, rfl, rfl, by decide +kernel, rfl, by decide +kernel, by decide +kernel⟩
abbrev s__law_take : Stmt := topS 48
theorem sc__law_take : FnScope ["bag", "many", "begin", "second", "cell", "stirred", "value"] ["bag", "many"] (defScope s__law_take) := ⟨rfl, rfl, rfl, by decide +kernel, rfl, by decide +kernel, by decide +kernel⟩
abbrev s__law_some : Stmt := topS 49
theorem sc__law_some : FnScope ["bag", "things"] ["bag", "things"] (defScope s__law_some) := ⟨rfl, rfl, rfl, by decide +kernel, rfl, by decide +kernel, by decide +kernel⟩
abbrev s__law_mixed : Stmt := topS 50
theorem sc__law_mixed : FnScope ["bag", "things", "found", "thing"] ["bag", "things"] (defScope s__law_mixed) := ⟨rfl, rfl, rfl, by decide +kernel, rfl, by decide +kernel, by decide +kernel⟩
abbrev s__law_alike : Stmt := topS 51
theorem sc__law_alike : FnScope ["found", "due", "pairs", "at", "one", "other"] ["found", "due"] (defScope s__law_alike) := ⟨rfl, rfl, rfl, by decide +kernel, rfl, by decide +kernel, by decide +kernel⟩
abbrev s__law_signs : Stmt := topS 52
theorem sc__law_signs : FnScope ["bag", "found", "sign", "many"] ["bag"] (defScope s__law_signs) := ⟨rfl, rfl, rfl, by decide +kernel, rfl, by decide +kernel, by decide +kernel⟩
abbrev s__law_a_rule : Stmt := topS 53
theorem sc__law_a_rule : FnScope ["bag", "signs", "kinds", "label", "many", "sign", "turn"] ["bag", "signs", "kinds"] (defScope s__law_a_rule) := ⟨rfl, rfl, rfl, by decide +kernel, rfl, by decide +kernel, by decide +kernel⟩
abbrev s__law_book_of : Stmt := topS 54
theorem sc__law_book_of : FnScope ["bag", "signs", "kinds", "rules", "turn", "tops", "rule", "label", "many"] ["bag", "signs"] (defScope s__law_book_of) := ⟨rfl, rfl, rfl, by decide +kernel, rfl, by decide +kernel, by decide +kernel⟩
abbrev s__law_book : Stmt := topS 55
theorem sc__law_book : FnScope ["bag"] ["bag"] (defScope s__law_book) := ⟨rfl, rfl, rfl, by decide +kernel, rfl, by decide +kernel, by decide +kernel⟩
abbrev s__law_drawn_change : Stmt := topS 56
theorem sc__law_drawn_change : FnScope ["bag", "book", "index", "rules", "way", "rule"] ["bag", "book"] (defScope s__law_drawn_change) := ⟨rfl, rfl, rfl, by decide +kernel, rfl, by decide +kernel, by decide +kernel⟩
abbrev s__law_behind : Stmt := topS 57
theorem sc__law_behind : FnScope ["book", "change", "at", "name", "signs", "tops", "rules"] ["book", "change"] (defScope s__law_behind) := ⟨rfl, rfl, rfl, by decide +kernel, rfl, by decide +kernel, by decide +kernel⟩
abbrev s__law_due : Stmt := topS 59
theorem sc__law_due : FnScope ["book", "change", "later"] ["book", "change"] (defScope s__law_due) := ⟨rfl, rfl, rfl, by decide +kernel, rfl, by decide +kernel, by decide +kernel⟩
abbrev s_law : Stmt := topS 60
theorem sc_law : FnScope ["script", "bag", "turn", "book", "again", "some", "told", "bad", "here", "row", "change", "due", "tried", "back"] ["script"] (defScope s_law) := ⟨rfl, rfl, rfl, by decide +kernel, rfl, by decide +kernel, by decide +kernel⟩
/-- where the defs stand that are values -/
structure Ad where
  is_integer : Nat
  is_name : Nat
def tab_LONG : List (Str × PyData) := [("rule", .int 3), ("unrule", .int 2), ("tops", .int 2), ("book", .int 2)]
structure Txt (w : World) (K : PySem.W.Frag) (mg : Str → Option Value) (ad : Ad) where
  d_is_integer : FuncData
  F_is_integer : Fun K "is_integer" "is_integer" s_is_integer ad.is_integer d_is_integer
  m_is_integer : mg "is_integer" = some (.ref ad.is_integer)
  b_is_integer : Binds K d_is_integer ["thing"] []
  a_is_within : Addr
  d_is_within : FuncData
  F_is_within : Fun K "is_within" "is_within" s_is_within a_is_within d_is_within
  m_is_within : mg "is_within" = some (.ref a_is_within)
  b_is_within : Binds K d_is_within ["thing", "least", "most"] []
  a_is_string : Addr
  d_is_string : FuncData
  F_is_string : Fun K "is_string" "is_string" s_is_string a_is_string d_is_string
  m_is_string : mg "is_string" = some (.ref a_is_string)
  b_is_string : Binds K d_is_string ["thing"] []
  d_is_name : FuncData
  F_is_name : Fun K "is_name" "is_name" s_is_name ad.is_name d_is_name
  m_is_name : mg "is_name" = some (.ref ad.is_name)
  b_is_name : Binds K d_is_name ["thing"] []
  a_are_all : Addr
  d_are_all : FuncData
  F_are_all : Fun K "are_all" "are_all" s_are_all a_are_all d_are_all
  m_are_all : mg "are_all" = some (.ref a_are_all)
  b_are_all : Binds K d_are_all ["thing", "fits"] []
  a_are_integers : Addr
  d_are_integers : FuncData
  F_are_integers : Fun K "are_integers" "are_integers" s_are_integers a_are_integers d_are_integers
  m_are_integers : mg "are_integers" = some (.ref a_are_integers)
  b_are_integers : Binds K d_are_integers ["thing"] []
  a_are_names : Addr
  d_are_names : FuncData
  F_are_names : Fun K "are_names" "are_names" s_are_names a_are_names d_are_names
  m_are_names : mg "are_names" = some (.ref a_are_names)
  b_are_names : Binds K d_are_names ["thing"] []
  a_is_tuple_of : Addr
  d_is_tuple_of : FuncData
  F_is_tuple_of : Fun K "is_tuple_of" "is_tuple_of" s_is_tuple_of a_is_tuple_of d_is_tuple_of
  m_is_tuple_of : mg "is_tuple_of" = some (.ref a_is_tuple_of)
  b_is_tuple_of : Binds K d_is_tuple_of ["thing", "many"] []
  a_do_rise : Addr
  d_do_rise : FuncData
  F_do_rise : Fun K "do_rise" "do_rise" s_do_rise a_do_rise d_do_rise
  m_do_rise : mg "do_rise" = some (.ref a_do_rise)
  b_do_rise : Binds K d_do_rise ["thing"] []
  a_is_sign : Addr
  d_is_sign : FuncData
  F_is_sign : Fun K "is_sign" "is_sign" s_is_sign a_is_sign d_is_sign
  m_is_sign : mg "is_sign" = some (.ref a_is_sign)
  b_is_sign : Binds K d_is_sign ["thing"] []
  a_is_signs : Addr
  d_is_signs : FuncData
  F_is_signs : Fun K "is_signs" "is_signs" s_is_signs a_is_signs d_is_signs
  m_is_signs : mg "is_signs" = some (.ref a_is_signs)
  b_is_signs : Binds K d_is_signs ["thing"] []
  a_many_of : Addr
  d_many_of : FuncData
  F_many_of : Fun K "many_of" "many_of" s_many_of a_many_of d_many_of
  m_many_of : mg "many_of" = some (.ref a_many_of)
  b_many_of : Binds K d_many_of ["signs", "label"] []
  a_is_rule_form : Addr
  d_is_rule_form : FuncData
  F_is_rule_form : Fun K "is_rule_form" "is_rule_form" s_is_rule_form a_is_rule_form d_is_rule_form
  m_is_rule_form : mg "is_rule_form" = some (.ref a_is_rule_form)
  b_is_rule_form : Binds K d_is_rule_form ["thing"] []
  a_rule_fault : Addr
  d_rule_fault : FuncData
  F_rule_fault : Fun K "rule_fault" "rule_fault" s_rule_fault a_rule_fault d_rule_fault
  m_rule_fault : mg "rule_fault" = some (.ref a_rule_fault)
  b_rule_fault : Binds K d_rule_fault ["signs", "rules", "index"] []
  a_kinds_among : Addr
  d_kinds_among : FuncData
  F_kinds_among : Fun K "kinds_among" "kinds_among" s_kinds_among a_kinds_among d_kinds_among
  m_kinds_among : mg "kinds_among" = some (.ref a_kinds_among)
  b_kinds_among : Binds K d_kinds_among ["tops", "rules"] []
  a_rules_fault : Addr
  d_rules_fault : FuncData
  F_rules_fault : Fun K "rules_fault" "rules_fault" s_rules_fault a_rules_fault d_rules_fault
  m_rules_fault : mg "rules_fault" = some (.ref a_rules_fault)
  b_rules_fault : Binds K d_rules_fault ["signs", "tops", "rules"] []
  a_book_fault : Addr
  d_book_fault : FuncData
  F_book_fault : Fun K "book_fault" "book_fault" s_book_fault a_book_fault d_book_fault
  m_book_fault : mg "book_fault" = some (.ref a_book_fault)
  b_book_fault : Binds K d_book_fault ["thing"] []
  a_is_book : Addr
  d_is_book : FuncData
  F_is_book : Fun K "is_book" "is_book" s_is_book a_is_book d_is_book
  m_is_book : mg "is_book" = some (.ref a_is_book)
  b_is_book : Binds K d_is_book ["thing"] []
  a_checked_book : Addr
  d_checked_book : FuncData
  F_checked_book : Fun K "checked_book" "checked_book" s_checked_book a_checked_book d_checked_book
  m_checked_book : mg "checked_book" = some (.ref a_checked_book)
  b_checked_book : Binds K d_checked_book ["thing"] []
  a_is_change : Addr
  d_is_change : FuncData
  F_is_change : Fun K "is_change" "is_change" s_is_change a_is_change d_is_change
  m_is_change : mg "is_change" = some (.ref a_is_change)
  b_is_change : Binds K d_is_change ["thing"] []
  a_with_rules : Addr
  d_with_rules : FuncData
  F_with_rules : Fun K "with_rules" "with_rules" s_with_rules a_with_rules d_with_rules
  m_with_rules : mg "with_rules" = some (.ref a_with_rules)
  b_with_rules : Binds K d_with_rules ["book", "rules"] []
  a_turned_by : Addr
  d_turned_by : FuncData
  F_turned_by : Fun K "turned_by" "turned_by" s_turned_by a_turned_by d_turned_by
  m_turned_by : mg "turned_by" = some (.ref a_turned_by)
  b_turned_by : Binds K d_turned_by ["book", "change"] []
  a_after_change : Addr
  d_after_change : FuncData
  F_after_change : Fun K "after_change" "after_change" s_after_change a_after_change d_after_change
  m_after_change : mg "after_change" = some (.ref a_after_change)
  b_after_change : Binds K d_after_change ["book", "change"] []
  a_back_of : Addr
  d_back_of : FuncData
  F_back_of : Fun K "back_of" "back_of" s_back_of a_back_of d_back_of
  m_back_of : mg "back_of" = some (.ref a_back_of)
  b_back_of : Binds K d_back_of ["book", "change"] []
  a_after_all : Addr
  d_after_all : FuncData
  F_after_all : Fun K "after_all" "after_all" s_after_all a_after_all d_after_all
  m_after_all : mg "after_all" = some (.ref a_after_all)
  b_after_all : Binds K d_after_all ["book", "changes"] []
  a_backs : Addr
  d_backs : FuncData
  F_backs : Fun K "backs" "backs" s_backs a_backs d_backs
  m_backs : mg "backs" = some (.ref a_backs)
  b_backs : Binds K d_backs ["book", "changes"] []
  a__law_bag : Addr
  d__law_bag : FuncData
  F__law_bag : Fun K "_law_bag" "_law_bag" s__law_bag a__law_bag d__law_bag
  m__law_bag : mg "_law_bag" = some (.ref a__law_bag)
  b__law_bag : Binds K d__law_bag ["script"] []
  a__law_take : Addr
  d__law_take : FuncData
  F__law_take : Fun K "_law_take" "_law_take" s__law_take a__law_take d__law_take
  m__law_take : mg "_law_take" = some (.ref a__law_take)
  b__law_take : Binds K d__law_take ["bag", "many"] []
  a__law_some : Addr
  d__law_some : FuncData
  F__law_some : Fun K "_law_some" "_law_some" s__law_some a__law_some d__law_some
  m__law_some : mg "_law_some" = some (.ref a__law_some)
  b__law_some : Binds K d__law_some ["bag", "things"] []
  a__law_mixed : Addr
  d__law_mixed : FuncData
  F__law_mixed : Fun K "_law_mixed" "_law_mixed" s__law_mixed a__law_mixed d__law_mixed
  m__law_mixed : mg "_law_mixed" = some (.ref a__law_mixed)
  b__law_mixed : Binds K d__law_mixed ["bag", "things"] []
  a__law_alike : Addr
  d__law_alike : FuncData
  F__law_alike : Fun K "_law_alike" "_law_alike" s__law_alike a__law_alike d__law_alike
  m__law_alike : mg "_law_alike" = some (.ref a__law_alike)
  b__law_alike : Binds K d__law_alike ["found", "due"] []
  a__law_signs : Addr
  d__law_signs : FuncData
  F__law_signs : Fun K "_law_signs" "_law_signs" s__law_signs a__law_signs d__law_signs
  m__law_signs : mg "_law_signs" = some (.ref a__law_signs)
  b__law_signs : Binds K d__law_signs ["bag"] []
  a__law_a_rule : Addr
  d__law_a_rule : FuncData
  F__law_a_rule : Fun K "_law_a_rule" "_law_a_rule" s__law_a_rule a__law_a_rule d__law_a_rule
  m__law_a_rule : mg "_law_a_rule" = some (.ref a__law_a_rule)
  b__law_a_rule : Binds K d__law_a_rule ["bag", "signs", "kinds"] []
  a__law_book_of : Addr
  d__law_book_of : FuncData
  F__law_book_of : Fun K "_law_book_of" "_law_book_of" s__law_book_of a__law_book_of d__law_book_of
  m__law_book_of : mg "_law_book_of" = some (.ref a__law_book_of)
  b__law_book_of : Binds K d__law_book_of ["bag", "signs"] []
  a__law_book : Addr
  d__law_book : FuncData
  F__law_book : Fun K "_law_book" "_law_book" s__law_book a__law_book d__law_book
  m__law_book : mg "_law_book" = some (.ref a__law_book)
  b__law_book : Binds K d__law_book ["bag"] []
  a__law_drawn_change : Addr
  d__law_drawn_change : FuncData
  F__law_drawn_change : Fun K "_law_drawn_change" "_law_drawn_change" s__law_drawn_change a__law_drawn_change d__law_drawn_change
  m__law_drawn_change : mg "_law_drawn_change" = some (.ref a__law_drawn_change)
  b__law_drawn_change : Binds K d__law_drawn_change ["bag", "book"] []
  a__law_behind : Addr
  d__law_behind : FuncData
  F__law_behind : Fun K "_law_behind" "_law_behind" s__law_behind a__law_behind d__law_behind
  m__law_behind : mg "_law_behind" = some (.ref a__law_behind)
  b__law_behind : Binds K d__law_behind ["book", "change"] []
  a__law_due : Addr
  d__law_due : FuncData
  F__law_due : Fun K "_law_due" "_law_due" s__law_due a__law_due d__law_due
  m__law_due : mg "_law_due" = some (.ref a__law_due)
  b__law_due : Binds K d__law_due ["book", "change"] []
  a_law : Addr
  d_law : FuncData
  F_law : Fun K "law" "law" s_law a_law d_law
  m_law : mg "law" = some (.ref a_law)
  b_law : Binds K d_law ["script"] []
  a__law_came : Addr
  d__law_came : FuncData
  F__law_came : Fun K "_law_came" "_law_came" s__law_came a__law_came d__law_came
  m__law_came : mg "_law_came" = some (.ref a__law_came)
  b__law_came : Binds K d__law_came ["deed"] []
  z_abs : mg "abs" = none
  z_all : mg "all" = none
  z_bool : mg "bool" = none
  z_dict : mg "dict" = none
  z_int : mg "int" = none
  z_isinstance : mg "isinstance" = none
  z_len : mg "len" = none
  z_list : mg "list" = none
  z_range : mg "range" = none
  z_set : mg "set" = none
  z_sorted : mg "sorted" = none
  z_str : mg "str" = none
  z_tuple : mg "tuple" = none
  z_zip : mg "zip" = none
  D_LONG : gDict w K mg "LONG" tab_LONG
  X_BadBook : Exc2 K mg "BadBook" "at" "fault"
  Y_BadBook : XfC K X_BadBook.C
  X_Refused : Exc1 K mg "Refused" "why"
  Y_Refused : XfC K X_Refused.C
  E_BadBook_Refused : PySem.W.exmOne K (.ref X_BadBook.C) (.ref X_Refused.C) = some false
  E_Refused_Refused : PySem.W.exmOne K (.ref X_Refused.C) (.ref X_Refused.C) = some true
  E_BadBook_BadBook : PySem.W.exmOne K (.ref X_BadBook.C) (.ref X_BadBook.C) = some true
  E_Refused_BadBook : PySem.W.exmOne K (.ref X_Refused.C) (.ref X_BadBook.C) = some false
  KEYS : gTup K mg "KEYS" (.tuple [.str "book", .str "label", .str "top", .str "rule", .str "program", .str "start", .str "turn", .str "is", .str "of"])
  LETTERS : gStr mg "LETTERS" (.str "abcdefghijklmnopqrstuvwxyz")
  MOST_CHILDREN : gInt mg "MOST_CHILDREN" (.int 2)
  MOST_KINDS : gInt mg "MOST_KINDS" (.int 8)
  MOST_LABELS : gInt mg "MOST_LABELS" (.int 8)
  MOST_LETTERS : gInt mg "MOST_LETTERS" (.int 8)
  MOST_RULES : gInt mg "MOST_RULES" (.int 24)
  MOST_TOPS : gInt mg "MOST_TOPS" (.int 6)
  RULES : gInt mg "RULES" (.int 3)
  TOPS : gInt mg "TOPS" (.int 2)
variable {P : Program} {w : World} {K : PySem.W.Frag} {mg : Str → Option Value} {base : Heap} {ad : Ad}
def isX (c x : Str) : Option Bool := if c = "BadBook" ∧ x = "Refused" then some false else if c = "Refused" ∧ x = "Refused" then some true else if c = "BadBook" ∧ x = "BadBook" then some true else if c = "Refused" ∧ x = "BadBook" then some false else none
theorem isX_ok (T : Txt w K mg ad) : ∀ x c b, isX x c = some b → ∀ C C', mg x = some (.ref C) → mg c = some (.ref C') → PySem.W.exmOne K (.ref C) (.ref C') = some b := by
  intro x c b h C C' h1 h2
  unfold isX at h
  split at h
  · rename_i e
    obtain ⟨rfl, rfl⟩ := e
    cases h
    rw [T.X_BadBook.gm] at h1
    rw [T.X_Refused.gm] at h2
    cases h1
    cases h2
    exact T.E_BadBook_Refused
  split at h
  · rename_i e
    obtain ⟨rfl, rfl⟩ := e
    cases h
    rw [T.X_Refused.gm] at h1
    rw [T.X_Refused.gm] at h2
    cases h1
    cases h2
    exact T.E_Refused_Refused
  split at h
  · rename_i e
    obtain ⟨rfl, rfl⟩ := e
    cases h
    rw [T.X_BadBook.gm] at h1
    rw [T.X_BadBook.gm] at h2
    cases h1
    cases h2
    exact T.E_BadBook_BadBook
  split at h
  · rename_i e
    obtain ⟨rfl, rfl⟩ := e
    cases h
    rw [T.X_Refused.gm] at h1
    rw [T.X_BadBook.gm] at h2
    cases h1
    cases h2
    exact T.E_Refused_BadBook
  cases h
def cl__law_came : CL := [("Refused", fun xx s => if xx.fs.isEmpty = true then .no else rLp 1 [.s "refused", .f "why"] xx s), ("BadBook", fun xx s => if xx.fs.isEmpty = true then .no else rLp 1 [.s "bad"] xx s)]
theorem cl_ok__law_came {X : Cx} (T : Txt X.w X.K X.mg ad) (cdv : Value) (s : Shared) (H : Hp) : ClzL (caCx X ["deed", "error"] "_law_came" (defScope s__law_came) T.a__law_came cdv s H) isX (tryHs s__law_came) cl__law_came :=
  (.as (i := 1) (C := T.X_Refused.C) (su := suL 1 _) ⟨rfl, by decide, .inl T.X_Refused.gm⟩ T.X_Refused.gm rfl rfl
    (fun xx a dd Cx oe pn hm hi hz hd => by
      have : XfC X.K Cx ∧ PySem.W.findIn X.K (.ref Cx) "why" = some none := by
        have hi : isX xx.c "Refused" = some true := hi
        unfold isX at hi
        split at hi
        · rename_i e
          cases hi
        split at hi
        · rename_i e
          have hm : X.mg xx.c = some (.ref Cx) := hm
          rw [e.1, T.X_Refused.gm] at hm
          cases hm
          exact ⟨T.Y_Refused, T.X_Refused.nf⟩
        split at hi
        · rename_i e
          exact absurd e.2 (by decide)
        split at hi
        · rename_i e
          exact absurd e.2 (by decide)
        cases hi
      obtain ⟨xf, n_why⟩ := this
      exact (show ZSs _ W0 _ (suL 1 [.s "refused", .f "why"] a dd xx) from zss_one (zs_ret (ze_lst (zis_cons ze_str (zis_cons (ze_xf xf n_why hz hd (pv 1)) zis_nil))))))
    (suL_ne 1 _) (rLp_is 1 _)
    (.as (i := 1) (C := T.X_BadBook.C) (su := suL 1 _) ⟨rfl, by decide, .inl T.X_BadBook.gm⟩ T.X_BadBook.gm rfl rfl
    (fun xx a dd Cx oe pn hm hi hz hd => by
      exact (show ZSs _ W0 _ (suL 1 [.s "bad"] a dd xx) from zss_one (zs_ret (ze_lst (zis_cons ze_str zis_nil)))))
    (suL_ne 1 _) (rLp_is 1 _)
    .nil))
def B_is_integer (ad : Ad) : SS := (sRet (eAnd (eIsi ["int"] (pV 0)) (eNot (eIsi ["bool"] (pV 0)))))
def F_is_integer (ad : Ad) : Fn := fnS 1 (B_is_integer ad)
theorem ok_is_integer (T : Txt w K mg ad) (hP : SupP P) : FnOk P w K mg base (L2.CX P w) 2 ad.is_integer T.d_is_integer ["thing"] (spF K mg (F_is_integer ad) 1) := fn_ok (k := 1) T.F_is_integer sc_is_integer (h := fun cdv A outer s H E hr tk => (zss_one (zs_ret (ze_and (ze_isi1 (zp_v (pv 0)) rfl T.z_isinstance rfl T.z_int PyProof.Rows.boot_int) (ze_one (ze_not (ze_isi1 (zp_v (pv 0)) rfl T.z_isinstance rfl T.z_bool PyProof.Rows.boot_bool)))))))
def B_is_within (ad : Ad) : SS := (sRet (eAnd (ePure (F_is_integer ad) [(pV 0)]) (eChain opLe opLe (pV 1) (pV 0) (pV 2))))
def F_is_within (ad : Ad) : Fn := fnS 3 (B_is_within ad)
theorem ok_is_within (T : Txt w K mg ad) (hP : SupP P) : FnOk P w K mg base (L2.CX P w) 3 T.a_is_within T.d_is_within ["thing", "least", "most"] (spF K mg (F_is_within ad) 3) := fn_ok (k := 2) T.F_is_within sc_is_within (h := fun cdv A outer s H E hr tk => (zss_one (zs_ret (ze_and (ze_pure (ok_is_integer T hP) tk (hr.mono (by decide)) rfl T.m_is_integer T.F_is_integer.kp T.b_is_integer (zps_cons (zp_v (pv 0)) zps_nil)) (ze_one (ze_chain z_le z_le (zp_v (pv 1)) (zp_v (pv 0)) (zp_v (pv 2))))))))
def B_is_string (ad : Ad) : SS := (sRet (eIsi ["str"] (pV 0)))
def F_is_string (ad : Ad) : Fn := fnS 1 (B_is_string ad)
theorem ok_is_string (T : Txt w K mg ad) (hP : SupP P) : FnOk P w K mg base (L2.CX P w) 2 T.a_is_string T.d_is_string ["thing"] (spF K mg (F_is_string ad) 1) := fn_ok (k := 1) T.F_is_string sc_is_string (h := fun cdv A outer s H E hr tk => (zss_one (zs_ret (ze_isi1 (zp_v (pv 0)) rfl T.z_isinstance rfl T.z_str PyProof.Rows.boot_str))))
def B_is_name (ad : Ad) : SS := (sSeq (sIf (tOr (tNot (tOf (ePure (F_is_string ad) [(pV 0)]))) (tOr (tNot (tOf (eChain opLe opLe (pE (eC (.int 1))) (pE (eCallB opLen [(pV 0)])) (pE (eC (.int 8)))))) (tOf (eBin opIn (pV 0) (pE (eC (.tuple [.str "book", .str "label", .str "top", .str "rule", .str "program", .str "start", .str "turn", .str "is", .str "of"])))))))
  (sRet (eC (.bool false)))
  sNil)
  (sRet (eCallB opAll [(pE (eComp (iOf anyOf (eV 0)) [1] (.n 1) tYesZ (eBin opIn (pV 1) (pE (eC (.str "abcdefghijklmnopqrstuvwxyz"))))))])))
def F_is_name (ad : Ad) : Fn := fnS 2 (B_is_name ad)
theorem ok_is_name (T : Txt w K mg ad) (hP : SupP P) : FnOk P w K mg base (L2.CX P w) 3 ad.is_name T.d_is_name ["thing"] (spF K mg (F_is_name ad) 1) := fn_ok (k := 2) T.F_is_name sc_is_name (h := fun cdv A outer s H E hr tk => (zss_cons (zs_if (zt_w (zw_or (zt_not (zt_val (ze_pure (ok_is_string T hP) tk (hr.mono (by decide)) rfl T.m_is_string T.F_is_string.kp T.b_is_string (zps_cons (zp_v (pv 0)) zps_nil)))) (zw_or (zt_not (zt_chain z_le z_le (zp_e ze_int) (zp_e (ze_callB z_len rfl T.z_len PySem.boot_len (zps_cons (zp_v (pv 0)) zps_nil))) (zp_e (ze_gint T.MOST_LETTERS)))) (zw_or1 (zt_cmp (z_in (hu65 hr)) (zp_v (pv 0)) (zp_e (ze_gtup T.KEYS)) (by rfl))))))
  (zss_one (zs_ret ze_bl))
  zss_nil)
  (zss_one (zs_ret (ze_callB (z_all rfl) rfl T.z_all PyProof.Rows.boot_all (zps_cons (zp_e (ze_lc (own := [("letter", 1)]) rfl sc_is_name.nd (zi_any (ze_v (pv 0))) (blkOk_by (by first | rfl | kernel_rfl)) (fun _ _ _ _ _ => (zc_name sc_is_name.nd (by rfl) (.inl rfl))) (fun _ _ _ _ _ => zts_nil) (fun _ _ _ _ _ => (ze_cmp (z_in (hu65 hr)) (zp_v (pv 1)) (zp_e (ze_gstr T.LETTERS)) (by rfl))))) zps_nil))))))
def B_are_all (ad : Ad) : SS := (sRet (eAnd (eIsi ["tuple"] (pV 0)) (eCallB opAll [(pE (eComp (iOf anyOf (eV 0)) [2] (.n 2) tYesZ (eCallV [(ad.is_integer, F_is_integer ad), (ad.is_name, F_is_name ad)] 1 [(pV 2)])))])))
def F_are_all (ad : Ad) : Fn := fnS 3 (B_are_all ad)
theorem ok_are_all (T : Txt w K mg ad) (hP : SupP P) : FnOk P w K mg base (L2.CX P w) 4 T.a_are_all T.d_are_all ["thing", "fits"] (spF K mg (F_are_all ad) 2) := fn_ok (k := 3) T.F_are_all sc_are_all (h := fun cdv A outer s H E hr tk => (zss_one (zs_ret (ze_and (ze_isi1 (zp_v (pv 0)) rfl T.z_isinstance rfl T.z_tuple PyProof.Rows.boot_tuple) (ze_one (ze_callB (z_all rfl) rfl T.z_all PyProof.Rows.boot_all (zps_cons (zp_e (ze_lc (own := [("member", 2)]) rfl sc_are_all.nd (zi_any (ze_v (pv 0))) (blkOk_by (by first | rfl | kernel_rfl)) (fun _ _ _ _ _ => (zc_name sc_are_all.nd (by rfl) (.inl rfl))) (fun _ _ _ _ _ => zts_nil) (fun _ _ _ _ _ => (ze_callV (k := 3) takes0 (hr.mono (by decide)) (by rfl) (zps_cons (zp_v (pv 2)) zps_nil) (fni_cons (FnOk.up (ok_is_integer T hP)) T.F_is_integer.kp T.b_is_integer (fni_cons (FnOk.up (ok_is_name T hP)) T.F_is_name.kp T.b_is_name fni_nil)))))) zps_nil)))))))
def B_are_integers (ad : Ad) : SS := (sRet (ePure (F_are_all ad) [(pV 0), (pE (eC (fnD ad.is_integer)))]))
def F_are_integers (ad : Ad) : Fn := fnS 1 (B_are_integers ad)
theorem ok_are_integers (T : Txt w K mg ad) (hP : SupP P) : FnOk P w K mg base (L2.CX P w) 5 T.a_are_integers T.d_are_integers ["thing"] (spF K mg (F_are_integers ad) 1) := fn_ok (k := 4) T.F_are_integers sc_are_integers (h := fun cdv A outer s H E hr tk => (zss_one (zs_ret (ze_pure (ok_are_all T hP) tk (hr.mono (by decide)) rfl T.m_are_all T.F_are_all.kp T.b_are_all (zps_cons (zp_v (pv 0)) (zps_cons (zp_e (ze_fn T.m_is_integer)) zps_nil))))))
def B_are_names (ad : Ad) : SS := (sRet (ePure (F_are_all ad) [(pV 0), (pE (eC (fnD ad.is_name)))]))
def F_are_names (ad : Ad) : Fn := fnS 1 (B_are_names ad)
theorem ok_are_names (T : Txt w K mg ad) (hP : SupP P) : FnOk P w K mg base (L2.CX P w) 5 T.a_are_names T.d_are_names ["thing"] (spF K mg (F_are_names ad) 1) := fn_ok (k := 4) T.F_are_names sc_are_names (h := fun cdv A outer s H E hr tk => (zss_one (zs_ret (ze_pure (ok_are_all T hP) tk (hr.mono (by decide)) rfl T.m_are_all T.F_are_all.kp T.b_are_all (zps_cons (zp_v (pv 0)) (zps_cons (zp_e (ze_fn T.m_is_name)) zps_nil))))))
def B_is_tuple_of (ad : Ad) : SS := (sRet (eAnd (eIsi ["tuple"] (pV 0)) (eBin opEq (pE (eCallB opLen [(pV 0)])) (pV 1))))
def F_is_tuple_of (ad : Ad) : Fn := fnS 2 (B_is_tuple_of ad)
theorem ok_is_tuple_of (T : Txt w K mg ad) (hP : SupP P) : FnOk P w K mg base (L2.CX P w) 2 T.a_is_tuple_of T.d_is_tuple_of ["thing", "many"] (spF K mg (F_is_tuple_of ad) 2) := fn_ok (k := 1) T.F_is_tuple_of sc_is_tuple_of (h := fun cdv A outer s H E hr tk => (zss_one (zs_ret (ze_and (ze_isi1 (zp_v (pv 0)) rfl T.z_isinstance rfl T.z_tuple PyProof.Rows.boot_tuple) (ze_one (ze_cmp (z_eq (hu64 hr)) (zp_e (ze_callB z_len rfl T.z_len PySem.boot_len (zps_cons (zp_v (pv 0)) zps_nil))) (zp_v (pv 1)) (by rfl)))))))
def B_do_rise (ad : Ad) : SS := (sSeq (sIf (tAnd (tNot (tOf (ePure (F_are_integers ad) [(pV 0)]))) (tNot (tOf (ePure (F_are_names ad) [(pV 0)]))))
  (sRet (eC (.bool false)))
  sNil)
  (sRet (eCallB opAll [(pE (eComp (iIts zipOf [(eV 0), (eSl opSl (pV 0) (oSome (eC (.int 1))) oNone)]) [1, 2] (.t [1, 2]) tYesZ (eBin opLt (pV 1) (pV 2))))])))
def F_do_rise (ad : Ad) : Fn := fnS 3 (B_do_rise ad)
theorem ok_do_rise (T : Txt w K mg ad) (hP : SupP P) : FnOk P w K mg base (L2.CX P w) 6 T.a_do_rise T.d_do_rise ["thing"] (spF K mg (F_do_rise ad) 1) := fn_ok (k := 5) T.F_do_rise sc_do_rise (h := fun cdv A outer s H E hr tk => (zss_cons (zs_if (zt_w (zw_and (zt_not (zt_val (ze_pure (ok_are_integers T hP) tk (hr.mono (by decide)) rfl T.m_are_integers T.F_are_integers.kp T.b_are_integers (zps_cons (zp_v (pv 0)) zps_nil)))) (zw_and1 (zt_not (zt_val (ze_pure (ok_are_names T hP) tk (hr.mono (by decide)) rfl T.m_are_names T.F_are_names.kp T.b_are_names (zps_cons (zp_v (pv 0)) zps_nil)))))))
  (zss_one (zs_ret ze_bl))
  zss_nil)
  (zss_one (zs_ret (ze_callB (z_all rfl) rfl T.z_all PyProof.Rows.boot_all (zps_cons (zp_e (ze_lc (own := [("one", 1), ("other", 2)]) rfl sc_do_rise.nd (zi_zip rfl T.z_zip (zis_cons (ze_v (pv 0)) (zis_cons (ze_sl z_sl (zp_v (pv 0)) (zo_some ze_int) zo_none) zis_nil))) (blkOk_by (by first | rfl | kernel_rfl)) (fun _ _ _ _ _ => (zc_tup rfl sc_do_rise.nd (.cons (by rfl) (.inl rfl) (by first | exact .inl rfl | exact .inr rfl) (.cons (by rfl) (.inl rfl) (by first | exact .inl rfl | exact .inr rfl) .nil)))) (fun _ _ _ _ _ => zts_nil) (fun _ _ _ _ _ => (ze_cmp (z_lt (hu64 hr)) (zp_v (pv 1)) (zp_v (pv 2)) (by rfl))))) zps_nil))))))
def B_is_sign (ad : Ad) : SS := (sRet (eAnd (ePure (F_is_tuple_of ad) [(pV 0), (pE (eC (.int 2)))]) (eAnd (ePure (F_is_name ad) [(pE (eBin opIxS (pV 0) (pE (eC (.int 0)))))]) (ePure (F_is_within ad) [(pE (eBin opIxS (pV 0) (pE (eC (.int 1))))), (pE (eC (.int 0))), (pE (eC (.int 2)))]))))
def F_is_sign (ad : Ad) : Fn := fnS 1 (B_is_sign ad)
theorem ok_is_sign (T : Txt w K mg ad) (hP : SupP P) : FnOk P w K mg base (L2.CX P w) 4 T.a_is_sign T.d_is_sign ["thing"] (spF K mg (F_is_sign ad) 1) := fn_ok (k := 3) T.F_is_sign sc_is_sign (h := fun cdv A outer s H E hr tk => (zss_one (zs_ret (ze_and (ze_pure (ok_is_tuple_of T hP) tk (hr.mono (by decide)) rfl T.m_is_tuple_of T.F_is_tuple_of.kp T.b_is_tuple_of (zps_cons (zp_v (pv 0)) (zps_cons (zp_e ze_int) zps_nil))) (ze_and (ze_pure (ok_is_name T hP) tk (hr.mono (by decide)) rfl T.m_is_name T.F_is_name.kp T.b_is_name (zps_cons (zp_e (ze_ixS (zp_v (pv 0)) (zp_e ze_int))) zps_nil)) (ze_one (ze_pure (ok_is_within T hP) tk (hr.mono (by decide)) rfl T.m_is_within T.F_is_within.kp T.b_is_within (zps_cons (zp_e (ze_ixS (zp_v (pv 0)) (zp_e ze_int))) (zps_cons (zp_e ze_int) (zps_cons (zp_e (ze_gint T.MOST_CHILDREN)) zps_nil))))))))))
def B_is_signs (ad : Ad) : SS := (sSeq (sIf (tOr (tNot (tOf (eIsi ["tuple"] (pV 0)))) (tOr (tNot (tOf (eChain opLe opLe (pE (eC (.int 1))) (pE (eCallB opLen [(pV 0)])) (pE (eC (.int 8)))))) (tNot (tOf (eCallB opAll [(pE (eComp (iOf anyOf (eV 0)) [4] (.n 4) tYesZ (ePure (F_is_sign ad) [(pV 4)])))])))))
  (sRet (eC (.bool false)))
  sNil)
  (sSeq (sSet 1 (eComp (iOf anyOf (eV 0)) [2, 3] (.t [2, 3]) tYesZ (eV 2)))
  (sRet (eAnd (eCallB opAll [(pE (eComp (iIts zipOf [(eV 1), (eSl opSl (pV 1) (oSome (eC (.int 1))) oNone)]) [4, 5] (.t [4, 5]) tYesZ (eBin opLt (pV 4) (pV 5))))]) (eBin opIn (pE (eC (.int 0))) (pE (eComp (iOf anyOf (eV 0)) [2, 3] (.t [2, 3]) tYesZ (eV 3))))))))
def F_is_signs (ad : Ad) : Fn := fnS 6 (B_is_signs ad)
theorem ok_is_signs (T : Txt w K mg ad) (hP : SupP P) : FnOk P w K mg base (L2.CX P w) 5 T.a_is_signs T.d_is_signs ["thing"] (spF K mg (F_is_signs ad) 1) := fn_ok (k := 4) T.F_is_signs sc_is_signs (h := fun cdv A outer s H E hr tk => (zss_cons (zs_if (zt_w (zw_or (zt_not (zt_val (ze_isi1 (zp_v (pv 0)) rfl T.z_isinstance rfl T.z_tuple PyProof.Rows.boot_tuple))) (zw_or (zt_not (zt_chain z_le z_le (zp_e ze_int) (zp_e (ze_callB z_len rfl T.z_len PySem.boot_len (zps_cons (zp_v (pv 0)) zps_nil))) (zp_e (ze_gint T.MOST_LABELS)))) (zw_or1 (zt_not (zt_val (ze_callB (z_all rfl) rfl T.z_all PyProof.Rows.boot_all (zps_cons (zp_e (ze_lc (own := [("one", 4)]) rfl sc_is_signs.nd (zi_any (ze_v (pv 0))) (blkOk_by (by first | rfl | kernel_rfl)) (fun _ _ _ _ _ => (zc_name sc_is_signs.nd (by rfl) (.inl rfl))) (fun _ _ _ _ _ => zts_nil) (fun _ _ _ _ _ => (ze_pure (ok_is_sign T hP) takes0 (hr.mono (by decide)) rfl T.m_is_sign T.F_is_sign.kp T.b_is_sign (zps_cons (zp_v (pv 4)) zps_nil))))) zps_nil))))))))
  (zss_one (zs_ret ze_bl))
  zss_nil)
  (zss_cons (zs_setLc (own := [("label", 2), ("many", 3)]) rfl sc_is_signs.nd (by rfl) (by rfl) (by rfl) (zi_any (ze_v (pv 0))) (blkOk_by (by first | rfl | kernel_rfl)) (fun _ _ _ _ _ => (zc_tup rfl sc_is_signs.nd (.cons (by rfl) (.inl rfl) (by first | exact .inl rfl | exact .inr rfl) (.cons (by rfl) (.inl rfl) (by first | exact .inl rfl | exact .inr rfl) .nil)))) (fun _ _ _ _ _ => zts_nil) (fun _ _ _ _ _ => (ze_v (pv 2))))
  (zss_one (zs_ret (ze_and (ze_callB (z_all rfl) rfl T.z_all PyProof.Rows.boot_all (zps_cons (zp_e (ze_lc (own := [("one", 4), ("other", 5)]) rfl sc_is_signs.nd (zi_zip rfl T.z_zip (zis_cons (ze_v (pv 1)) (zis_cons (ze_sl z_sl (zp_v (pv 1)) (zo_some ze_int) zo_none) zis_nil))) (blkOk_by (by first | rfl | kernel_rfl)) (fun _ _ _ _ _ => (zc_tup rfl sc_is_signs.nd (.cons (by rfl) (.inl rfl) (by first | exact .inl rfl | exact .inr rfl) (.cons (by rfl) (.inl rfl) (by first | exact .inl rfl | exact .inr rfl) .nil)))) (fun _ _ _ _ _ => zts_nil) (fun _ _ _ _ _ => (ze_cmp (z_lt (hu64 hr)) (zp_v (pv 4)) (zp_v (pv 5)) (by rfl))))) zps_nil)) (ze_one (ze_cmp (z_in (hu65 hr)) (zp_e ze_int) (zp_e (ze_lc (own := [("label", 2), ("many", 3)]) rfl sc_is_signs.nd (zi_any (ze_v (pv 0))) (blkOk_by (by first | rfl | kernel_rfl)) (fun _ _ _ _ _ => (zc_tup rfl sc_is_signs.nd (.cons (by rfl) (.inl rfl) (by first | exact .inl rfl | exact .inr rfl) (.cons (by rfl) (.inl rfl) (by first | exact .inl rfl | exact .inr rfl) .nil)))) (fun _ _ _ _ _ => zts_nil) (fun _ _ _ _ _ => (ze_v (pv 3))))) (by rfl)))))))))
def B_many_of (ad : Ad) : SS := (sSeq (sIf (tNot (tOf (ePure (F_is_string ad) [(pV 1)])))
  (sRet (eC .none))
  sNil)
  (sRet (eGet (pE (eCallB opDict [(pV 0)])) (pV 1))))
def F_many_of (ad : Ad) : Fn := fnS 2 (B_many_of ad)
theorem ok_many_of (T : Txt w K mg ad) (hP : SupP P) : FnOk P w K mg base (L2.CX P w) 3 T.a_many_of T.d_many_of ["signs", "label"] (spF K mg (F_many_of ad) 2) := fn_ok (k := 2) T.F_many_of sc_many_of (h := fun cdv A outer s H E hr tk => (zss_cons (zs_if (zt_not (zt_val (ze_pure (ok_is_string T hP) tk (hr.mono (by decide)) rfl T.m_is_string T.F_is_string.kp T.b_is_string (zps_cons (zp_v (pv 1)) zps_nil))))
  (zss_one (zs_ret ze_non))
  zss_nil)
  (zss_one (zs_ret (ze_get (hu1 hr) (zp_e (ze_callTy (z_dict rfl) rfl T.z_dict PyProof.Rows.boot_dict (zps_cons (zp_v (pv 0)) zps_nil))) (zp_v (pv 1)) ⟨by rfl, by rfl, by rfl, by rfl⟩)))))
def B_is_rule_form (ad : Ad) : SS := (sRet (eAnd (ePure (F_is_tuple_of ad) [(pV 0), (pE (eC (.int 3)))]) (eAnd (ePure (F_is_name ad) [(pE (eBin opIxS (pV 0) (pE (eC (.int 0)))))]) (eAnd (ePure (F_is_string ad) [(pE (eBin opIxS (pV 0) (pE (eC (.int 1)))))]) (ePure (F_are_names ad) [(pE (eBin opIxS (pV 0) (pE (eC (.int 2)))))])))))
def F_is_rule_form (ad : Ad) : Fn := fnS 1 (B_is_rule_form ad)
theorem ok_is_rule_form (T : Txt w K mg ad) (hP : SupP P) : FnOk P w K mg base (L2.CX P w) 6 T.a_is_rule_form T.d_is_rule_form ["thing"] (spF K mg (F_is_rule_form ad) 1) := fn_ok (k := 5) T.F_is_rule_form sc_is_rule_form (h := fun cdv A outer s H E hr tk => (zss_one (zs_ret (ze_and (ze_pure (ok_is_tuple_of T hP) tk (hr.mono (by decide)) rfl T.m_is_tuple_of T.F_is_tuple_of.kp T.b_is_tuple_of (zps_cons (zp_v (pv 0)) (zps_cons (zp_e ze_int) zps_nil))) (ze_and (ze_pure (ok_is_name T hP) tk (hr.mono (by decide)) rfl T.m_is_name T.F_is_name.kp T.b_is_name (zps_cons (zp_e (ze_ixS (zp_v (pv 0)) (zp_e ze_int))) zps_nil)) (ze_and (ze_pure (ok_is_string T hP) tk (hr.mono (by decide)) rfl T.m_is_string T.F_is_string.kp T.b_is_string (zps_cons (zp_e (ze_ixS (zp_v (pv 0)) (zp_e ze_int))) zps_nil)) (ze_one (ze_pure (ok_are_names T hP) tk (hr.mono (by decide)) rfl T.m_are_names T.F_are_names.kp T.b_are_names (zps_cons (zp_e (ze_ixS (zp_v (pv 0)) (zp_e ze_int))) zps_nil)))))))))
def B_rule_fault (ad : Ad) : SS := (sSeq (sIf (tNot (tOf (ePure (F_is_rule_form ad) [(pE (eBin opIxS (pV 1) (pV 2)))])))
  (sRet (eC (.str "form")))
  sNil)
  (sSeq (sTg (tgT [(tgN 3), (tgN 4), (tgN 5)]) (eBin opIxS (pV 1) (pV 2)))
  (sSeq (sIf (tOf (eBin opIs (pE (ePure (F_many_of ad) [(pV 0), (pV 4)])) (pE (eC .none))))
  (sRet (eC (.str "label")))
  sNil)
  (sSeq (sIf (tOf (eBin opNe (pE (ePure (F_many_of ad) [(pV 0), (pV 4)])) (pE (eCallB opLen [(pV 5)]))))
  (sRet (eC (.str "many")))
  sNil)
  (sRet (eIf (tOf (eBin opIn (pE (eBin opIxS (pV 1) (pV 2))) (pE (eSl opSl (pV 1) oNone (oSome (eV 2)))))) (eC (.str "twice")) (eC .none)))))))
def F_rule_fault (ad : Ad) : Fn := fnS 6 (B_rule_fault ad)
theorem ok_rule_fault (T : Txt w K mg ad) (hP : SupP P) : FnOk P w K mg base (L2.CX P w) 7 T.a_rule_fault T.d_rule_fault ["signs", "rules", "index"] (spF K mg (F_rule_fault ad) 3) := fn_ok (k := 6) T.F_rule_fault sc_rule_fault (h := fun cdv A outer s H E hr tk => (zss_cons (zs_if (zt_not (zt_val (ze_pure (ok_is_rule_form T hP) tk (hr.mono (by decide)) rfl T.m_is_rule_form T.F_is_rule_form.kp T.b_is_rule_form (zps_cons (zp_e (ze_ixS (zp_v (pv 1)) (zp_v (pv 2)))) zps_nil))))
  (zss_one (zs_ret ze_str))
  zss_nil)
  (zss_cons (zs_tg (ze_ixS (zp_v (pv 1)) (zp_v (pv 2))) (zg_tup rfl (zgs_cons (zg_name sc_rule_fault.nd (by rfl) (.inl rfl)) (zgs_cons (zg_name sc_rule_fault.nd (by rfl) (.inl rfl)) (zgs_cons (zg_name sc_rule_fault.nd (by rfl) (.inl rfl)) zgs_nil)))))
  (zss_cons (zs_if (zt_cmp z_is (zp_e (ze_pure (ok_many_of T hP) tk (hr.mono (by decide)) rfl T.m_many_of T.F_many_of.kp T.b_many_of (zps_cons (zp_v (pv 0)) (zps_cons (zp_v (pv 4)) zps_nil)))) (zp_e ze_non) (by rfl))
  (zss_one (zs_ret ze_str))
  zss_nil)
  (zss_cons (zs_if (zt_cmp (z_ne (hu64 hr)) (zp_e (ze_pure (ok_many_of T hP) tk (hr.mono (by decide)) rfl T.m_many_of T.F_many_of.kp T.b_many_of (zps_cons (zp_v (pv 0)) (zps_cons (zp_v (pv 4)) zps_nil)))) (zp_e (ze_callB z_len rfl T.z_len PySem.boot_len (zps_cons (zp_v (pv 5)) zps_nil))) (by rfl))
  (zss_one (zs_ret ze_str))
  zss_nil)
  (zss_one (zs_ret (ze_if (zt_cmp (z_in (hu65 hr)) (zp_e (ze_ixS (zp_v (pv 1)) (zp_v (pv 2)))) (zp_e (ze_sl z_sl (zp_v (pv 1)) zo_none (zo_some (ze_v (pv 2))))) (by rfl)) ze_str ze_non))))))))
def B_kinds_among (ad : Ad) : SS := (sSeq (sSet 2 (eLstS [(true, (eV 0)), (true, (eComp (iOf anyOf (eV 1)) [4, 5, 6] (.t [4, 5, 6]) tYesZ (eV 4)))]))
  (sSeq (sExpr (eMutR "list" muExtend (pV 2) [(pE (eComp2 (iOf anyOf (eV 1)) [4, 5, 6, 3] (.t [4, 5, 6]) tYesZ (iOf anyOf (eV 6)) [3] (.n 3) tYesZ (eV 3)))]))
  (sRet (eCallB opTuple [(pE (eUn opSortSet (pV 2)))]))))
def F_kinds_among (ad : Ad) : Fn := fnS 7 (B_kinds_among ad)
theorem ok_kinds_among (T : Txt w K mg ad) (hP : SupP P) : FnOk P w K mg base (L2.CX P w) 2 T.a_kinds_among T.d_kinds_among ["tops", "rules"] (spF K mg (F_kinds_among ad) 2) := fn_ok (k := 1) T.F_kinds_among sc_kinds_among (h := fun cdv A outer s H E hr tk => (zss_cons (zs_set sc_kinds_among.nd (by rfl) (.inl rfl) (ze_lstS (zst_star (ze_v (pv 0)) (zst_star (ze_lc (own := [("kind", 4), ("label", 5), ("kinds", 6)]) rfl sc_kinds_among.nd (zi_any (ze_v (pv 1))) (blkOk_by (by first | rfl | kernel_rfl)) (fun _ _ _ _ _ => (zc_tup rfl sc_kinds_among.nd (.cons (by rfl) (.inl rfl) (by first | exact .inl rfl | exact .inr rfl) (.cons (by rfl) (.inl rfl) (by first | exact .inl rfl | exact .inr rfl) (.cons (by rfl) (.inl rfl) (by first | exact .inl rfl | exact .inr rfl) .nil))))) (fun _ _ _ _ _ => zts_nil) (fun _ _ _ _ _ => (ze_v (pv 4)))) zst_nil))))
  (zss_cons (zs_expr (ze_mutR PySem.F.plainAttrs_list PySem.F.slot_list_extend PySem.F.type_list_extend m_extend (zp_v (pv 2)) (zps_cons (zp_e (ze_lc2 (own := [("kind", 4), ("label", 5), ("kinds", 6), ("one", 3)]) [3] rfl sc_kinds_among.nd (zi_any (ze_v (pv 1))) (blkOk_by (by first | rfl | kernel_rfl)) (fun _ _ _ _ _ => (zc_tup rfl sc_kinds_among.nd (.cons (by rfl) (.inl rfl) (by first | exact .inl rfl | exact .inr rfl) (.cons (by rfl) (.inl rfl) (by first | exact .inl rfl | exact .inr rfl) (.cons (by rfl) (.inl rfl) (by first | exact .inl rfl | exact .inr rfl) .nil))))) (fun _ _ _ _ _ => zts_nil) (fun _ _ _ _ _ => (zi_any (ze_v (pv 6)))) (fun _ _ _ _ _ => (zc_name sc_kinds_among.nd (by rfl) (.inl rfl))) (fun _ _ _ _ _ => zts_nil) (fun _ _ _ _ _ => (ze_v (pv 3))))) zps_nil)))
  (zss_one (zs_ret (ze_callTy z_tuple rfl T.z_tuple PyProof.Rows.boot_tuple (zps_cons (zp_e (ze_sortedSet rfl rfl T.z_sorted rfl T.z_set (zp_v (pv 2)))) zps_nil)))))))
def B_rules_fault (ad : Ad) : SS := (sSeq (sIf (tOr (tNot (tOf (eIsi ["tuple"] (pV 2)))) (tNot (tOf (eChain opLe opLe (pE (eC (.int 1))) (pE (eCallB opLen [(pV 2)])) (pE (eC (.int 24)))))))
  (sRet (eTup [(eTup [(eC (.str "rules")), (eUn opNeg (pE (eC (.int 1))))]), (eC (.str "form"))]))
  sNil)
  (sSeq (sFor (iPl rg1 [(pE (eCallB opLen [(pV 2)]))]) (tgN 3)
  (sSeq (sSet 4 (ePure (F_rule_fault ad) [(pV 0), (pV 2), (pV 3)]))
  (sIf (tOf (eBin opIsNot (pV 4) (pE (eC .none))))
  (sRet (eTup [(eTup [(eC (.str "rules")), (eV 3)]), (eV 4)]))
  sNil)))
  (sRet (eIf (tOf (eBin opGt (pE (eCallB opLen [(pE (ePure (F_kinds_among ad) [(pV 1), (pV 2)]))])) (pE (eC (.int 8))))) (eTup [(eTup [(eC (.str "rules")), (eUn opNeg (pE (eC (.int 1))))]), (eC (.str "kinds"))]) (eC .none)))))
def F_rules_fault (ad : Ad) : Fn := fnS 5 (B_rules_fault ad)
theorem ok_rules_fault (T : Txt w K mg ad) (hP : SupP P) : FnOk P w K mg base (L2.CX P w) 8 T.a_rules_fault T.d_rules_fault ["signs", "tops", "rules"] (spF K mg (F_rules_fault ad) 3) := fn_ok (k := 7) T.F_rules_fault sc_rules_fault (h := fun cdv A outer s H E hr tk => (zss_cons (zs_if (zt_w (zw_or (zt_not (zt_val (ze_isi1 (zp_v (pv 2)) rfl T.z_isinstance rfl T.z_tuple PyProof.Rows.boot_tuple))) (zw_or1 (zt_not (zt_chain z_le z_le (zp_e ze_int) (zp_e (ze_callB z_len rfl T.z_len PySem.boot_len (zps_cons (zp_v (pv 2)) zps_nil))) (zp_e (ze_gint T.MOST_RULES)))))))
  (zss_one (zs_ret (ze_tup (zis_cons (ze_tup (zis_cons ze_str (zis_cons (ze_un z_neg (zp_e ze_int)) zis_nil))) (zis_cons ze_str zis_nil)))))
  zss_nil)
  (zss_cons (zs_for (passes_of rfl) rfl (zi_range1 rfl T.z_range (zps_cons (zp_e (ze_callB z_len rfl T.z_len PySem.boot_len (zps_cons (zp_v (pv 2)) zps_nil))) zps_nil)) (zg_name sc_rules_fault.nd (by rfl) (.inl rfl))
  (zss_cons (zs_set sc_rules_fault.nd (by rfl) (.inl rfl) (ze_pure (ok_rule_fault T hP) tk (hr.mono (by decide)) rfl T.m_rule_fault T.F_rule_fault.kp T.b_rule_fault (zps_cons (zp_v (pv 0)) (zps_cons (zp_v (pv 2)) (zps_cons (zp_v (pv 3)) zps_nil)))))
  (zss_one (zs_if (zt_cmp z_isnot (zp_v (pv 4)) (zp_e ze_non) (by rfl))
  (zss_one (zs_ret (ze_tup (zis_cons (ze_tup (zis_cons ze_str (zis_cons (ze_v (pv 3)) zis_nil))) (zis_cons (ze_v (pv 4)) zis_nil)))))
  zss_nil))))
  (zss_one (zs_ret (ze_if (zt_cmp z_gt (zp_e (ze_callB z_len rfl T.z_len PySem.boot_len (zps_cons (zp_e (ze_pure (ok_kinds_among T hP) tk (hr.mono (by decide)) rfl T.m_kinds_among T.F_kinds_among.kp T.b_kinds_among (zps_cons (zp_v (pv 1)) (zps_cons (zp_v (pv 2)) zps_nil)))) zps_nil))) (zp_e (ze_gint T.MOST_KINDS)) (by rfl)) (ze_tup (zis_cons (ze_tup (zis_cons ze_str (zis_cons (ze_un z_neg (zp_e ze_int)) zis_nil))) (zis_cons ze_str zis_nil))) ze_non))))))
def B_book_fault (ad : Ad) : SS := (sSeq (sIf (tNot (tOf (ePure (F_is_tuple_of ad) [(pV 0), (pE (eC (.int 4)))])))
  (sRet (eTup [(eTup [(eC (.str "book")), (eUn opNeg (pE (eC (.int 1))))]), (eC (.str "form"))]))
  sNil)
  (sSeq (sTg (tgT [(tgN 1), (tgN 2), (tgN 3), (tgN 4)]) (eV 0))
  (sSeq (sIf (tNot (tOf (ePure (F_is_name ad) [(pV 1)])))
  (sRet (eTup [(eTup [(eC (.str "name")), (eUn opNeg (pE (eC (.int 1))))]), (eC (.str "form"))]))
  sNil)
  (sSeq (sIf (tNot (tOf (ePure (F_is_signs ad) [(pV 2)])))
  (sRet (eTup [(eTup [(eC (.str "signs")), (eUn opNeg (pE (eC (.int 1))))]), (eC (.str "form"))]))
  sNil)
  (sSeq (sIf (tOr (tNot (tOf (ePure (F_are_names ad) [(pV 3)]))) (tOr (tNot (tOf (ePure (F_do_rise ad) [(pV 3)]))) (tNot (tOf (eChain opLe opLe (pE (eC (.int 1))) (pE (eCallB opLen [(pV 3)])) (pE (eC (.int 6))))))))
  (sRet (eTup [(eTup [(eC (.str "tops")), (eUn opNeg (pE (eC (.int 1))))]), (eC (.str "form"))]))
  sNil)
  (sRet (ePure (F_rules_fault ad) [(pV 2), (pV 3), (pV 4)])))))))
def F_book_fault (ad : Ad) : Fn := fnS 5 (B_book_fault ad)
theorem ok_book_fault (T : Txt w K mg ad) (hP : SupP P) : FnOk P w K mg base (L2.CX P w) 9 T.a_book_fault T.d_book_fault ["thing"] (spF K mg (F_book_fault ad) 1) := fn_ok (k := 8) T.F_book_fault sc_book_fault (h := fun cdv A outer s H E hr tk => (zss_cons (zs_if (zt_not (zt_val (ze_pure (ok_is_tuple_of T hP) tk (hr.mono (by decide)) rfl T.m_is_tuple_of T.F_is_tuple_of.kp T.b_is_tuple_of (zps_cons (zp_v (pv 0)) (zps_cons (zp_e ze_int) zps_nil)))))
  (zss_one (zs_ret (ze_tup (zis_cons (ze_tup (zis_cons ze_str (zis_cons (ze_un z_neg (zp_e ze_int)) zis_nil))) (zis_cons ze_str zis_nil)))))
  zss_nil)
  (zss_cons (zs_tg (ze_v (pv 0)) (zg_tup rfl (zgs_cons (zg_name sc_book_fault.nd (by rfl) (.inl rfl)) (zgs_cons (zg_name sc_book_fault.nd (by rfl) (.inl rfl)) (zgs_cons (zg_name sc_book_fault.nd (by rfl) (.inl rfl)) (zgs_cons (zg_name sc_book_fault.nd (by rfl) (.inl rfl)) zgs_nil))))))
  (zss_cons (zs_if (zt_not (zt_val (ze_pure (ok_is_name T hP) tk (hr.mono (by decide)) rfl T.m_is_name T.F_is_name.kp T.b_is_name (zps_cons (zp_v (pv 1)) zps_nil))))
  (zss_one (zs_ret (ze_tup (zis_cons (ze_tup (zis_cons ze_str (zis_cons (ze_un z_neg (zp_e ze_int)) zis_nil))) (zis_cons ze_str zis_nil)))))
  zss_nil)
  (zss_cons (zs_if (zt_not (zt_val (ze_pure (ok_is_signs T hP) tk (hr.mono (by decide)) rfl T.m_is_signs T.F_is_signs.kp T.b_is_signs (zps_cons (zp_v (pv 2)) zps_nil))))
  (zss_one (zs_ret (ze_tup (zis_cons (ze_tup (zis_cons ze_str (zis_cons (ze_un z_neg (zp_e ze_int)) zis_nil))) (zis_cons ze_str zis_nil)))))
  zss_nil)
  (zss_cons (zs_if (zt_w (zw_or (zt_not (zt_val (ze_pure (ok_are_names T hP) tk (hr.mono (by decide)) rfl T.m_are_names T.F_are_names.kp T.b_are_names (zps_cons (zp_v (pv 3)) zps_nil)))) (zw_or (zt_not (zt_val (ze_pure (ok_do_rise T hP) tk (hr.mono (by decide)) rfl T.m_do_rise T.F_do_rise.kp T.b_do_rise (zps_cons (zp_v (pv 3)) zps_nil)))) (zw_or1 (zt_not (zt_chain z_le z_le (zp_e ze_int) (zp_e (ze_callB z_len rfl T.z_len PySem.boot_len (zps_cons (zp_v (pv 3)) zps_nil))) (zp_e (ze_gint T.MOST_TOPS))))))))
  (zss_one (zs_ret (ze_tup (zis_cons (ze_tup (zis_cons ze_str (zis_cons (ze_un z_neg (zp_e ze_int)) zis_nil))) (zis_cons ze_str zis_nil)))))
  zss_nil)
  (zss_one (zs_ret (ze_pure (ok_rules_fault T hP) tk (hr.mono (by decide)) rfl T.m_rules_fault T.F_rules_fault.kp T.b_rules_fault (zps_cons (zp_v (pv 2)) (zps_cons (zp_v (pv 3)) (zps_cons (zp_v (pv 4)) zps_nil))))))))))))
def B_is_book (ad : Ad) : SS := (sRet (eBin opIs (pE (ePure (F_book_fault ad) [(pV 0)])) (pE (eC .none))))
def F_is_book (ad : Ad) : Fn := fnS 1 (B_is_book ad)
theorem ok_is_book (T : Txt w K mg ad) (hP : SupP P) : FnOk P w K mg base (L2.CX P w) 10 T.a_is_book T.d_is_book ["thing"] (spF K mg (F_is_book ad) 1) := fn_ok (k := 9) T.F_is_book sc_is_book (h := fun cdv A outer s H E hr tk => (zss_one (zs_ret (ze_cmp z_is (zp_e (ze_pure (ok_book_fault T hP) tk (hr.mono (by decide)) rfl T.m_book_fault T.F_book_fault.kp T.b_book_fault (zps_cons (zp_v (pv 0)) zps_nil))) (zp_e ze_non) (by rfl)))))
def B_checked_book (ad : Ad) : SS := (sSeq (sSet 1 (ePure (F_book_fault ad) [(pV 0)]))
  (sSeq (sIf (tOf (eBin opIsNot (pV 1) (pE (eC .none))))
  (sRaise "BadBook" ["at", "fault"] [(eBin opIxS (pV 1) (pE (eC (.int 0)))), (eBin opIxS (pV 1) (pE (eC (.int 1))))])
  sNil)
  (sRet (eM 0))))
def F_checked_book (ad : Ad) : Fn := fnS 2 (B_checked_book ad)
theorem ok_checked_book (T : Txt w K mg ad) (hP : SupP P) : FnOk P w K mg base (L2.CX P w) 10 T.a_checked_book T.d_checked_book ["thing"] (spF K mg (F_checked_book ad) 1) := fn_ok (k := 9) T.F_checked_book sc_checked_book (h := fun cdv A outer s H E hr tk => (zss_cons (zs_set sc_checked_book.nd (by rfl) (.inl rfl) (ze_pure (ok_book_fault T hP) tk (hr.mono (by decide)) rfl T.m_book_fault T.F_book_fault.kp T.b_book_fault (zps_cons (zp_v (pv 0)) zps_nil)))
  (zss_cons (zs_if (zt_cmp z_isnot (zp_v (pv 1)) (zp_e ze_non) (by rfl))
  (zss_one (zs_r2 T.X_BadBook hP rfl tk (hr.mono (by decide)) (zis_cons (ze_ixS (zp_v (pv 1)) (zp_e ze_int)) (zis_cons (ze_ixS (zp_v (pv 1)) (zp_e ze_int)) zis_nil))))
  zss_nil)
  (zss_one (zs_ret (ze_m (pv 0)))))))
def B_is_change (ad : Ad) : SS := (sSeq (sIf (tOr (tNot (tOf (eIsi ["tuple"] (pV 0)))) (tOr (tOf (eBin opEq (pV 0) (pE (eTup [])))) (tNot (tOf (eIsi ["str"] (pE (eBin opIxS (pV 0) (pE (eC (.int 0))))))))))
  (sRet (eC (.bool false)))
  sNil)
  (sRet (eBin opEq (pE (eUn (opKGet tab_LONG) (pE (eBin opIxS (pV 0) (pE (eC (.int 0))))))) (pE (eCallB opLen [(pV 0)])))))
def F_is_change (ad : Ad) : Fn := fnS 1 (B_is_change ad)
theorem ok_is_change (T : Txt w K mg ad) (hP : SupP P) : FnOk P w K mg base (L2.CX P w) 2 T.a_is_change T.d_is_change ["thing"] (spF K mg (F_is_change ad) 1) := fn_ok (k := 1) T.F_is_change sc_is_change (h := fun cdv A outer s H E hr tk => (zss_cons (zs_if (zt_w (zw_or (zt_not (zt_val (ze_isi1 (zp_v (pv 0)) rfl T.z_isinstance rfl T.z_tuple PyProof.Rows.boot_tuple))) (zw_or (zt_cmp (z_eq (hu64 hr)) (zp_v (pv 0)) (zp_e (ze_tup zis_nil)) (by rfl)) (zw_or1 (zt_not (zt_val (ze_isi1 (zp_e (ze_ixS (zp_v (pv 0)) (zp_e ze_int))) rfl T.z_isinstance rfl T.z_str PyProof.Rows.boot_str)))))))
  (zss_one (zs_ret ze_bl))
  zss_nil)
  (zss_one (zs_ret (ze_cmp (z_eq (hu64 hr)) (zp_e (ze_kget T.D_LONG (zp_e (ze_ixS (zp_v (pv 0)) (zp_e ze_int))) ⟨by rfl, by rfl, by rfl, by rfl⟩)) (zp_e (ze_callB z_len rfl T.z_len PySem.boot_len (zps_cons (zp_v (pv 0)) zps_nil))) (by rfl))))))
def B_with_rules (ad : Ad) : SS := (sRet (eTupS [(true, (eSl opSl (pV 0) oNone (oSome (eC (.int 3))))), (false, (eV 1))]))
def F_with_rules (ad : Ad) : Fn := fnS 2 (B_with_rules ad)
theorem ok_with_rules (T : Txt w K mg ad) (hP : SupP P) : FnOk P w K mg base (L2.CX P w) 2 T.a_with_rules T.d_with_rules ["book", "rules"] (spF K mg (F_with_rules ad) 2) := fn_ok (k := 1) T.F_with_rules sc_with_rules (h := fun cdv A outer s H E hr tk => (zss_one (zs_ret (ze_tupS (zst_star (ze_sl z_sl (zp_v (pv 0)) zo_none (zo_some (ze_gint T.RULES))) (zst_cons (ze_v (pv 1)) zst_nil))))))
def B_turned_by (ad : Ad) : SS := (sSeq (sSet 2 (eBin opIxS (pV 0) (pE (eC (.int 3)))))
  (sSeq (sIf (tOf (eBin opEq (pE (eBin opIxS (pV 1) (pE (eC (.int 0))))) (pE (eC (.str "book")))))
  (sRet (eBin opIxS (pV 1) (pE (eC (.int 1)))))
  sNil)
  (sSeq (sIf (tOf (eBin opEq (pE (eBin opIxS (pV 1) (pE (eC (.int 0))))) (pE (eC (.str "tops")))))
  (sRet (eTupS [(true, (eSl opSl (pV 0) oNone (oSome (eC (.int 2))))), (false, (eBin opIxS (pV 1) (pE (eC (.int 1))))), (false, (eV 2))]))
  sNil)
  (sSeq (sSet 3 (eBin opIxS (pV 1) (pE (eC (.int 1)))))
  (sSeq (sIf (tNot (tOf (ePure (F_is_within ad) [(pV 3), (pE (eC (.int 0))), (pE (eBin opSub (pE (eCallB opLen [(pV 2)])) (pE (eCallB opInt [(pE (eBin opEq (pE (eBin opIxS (pV 1) (pE (eC (.int 0))))) (pE (eC (.str "unrule")))))]))))])))
  (sRaise "Refused" ["why"] [(eC (.str "index"))])
  sNil)
  (sSeq (sIf (tOf (eBin opEq (pE (eBin opIxS (pV 1) (pE (eC (.int 0))))) (pE (eC (.str "rule")))))
  (sRet (ePure (F_with_rules ad) [(pV 0), (pE (eTupS [(true, (eSl opSl (pV 2) oNone (oSome (eV 3)))), (false, (eBin opIxS (pV 1) (pE (eC (.int 2))))), (true, (eSl opSl (pV 2) (oSome (eV 3)) oNone))]))]))
  sNil)
  (sRet (ePure (F_with_rules ad) [(pV 0), (pE (eTupS [(true, (eSl opSl (pV 2) oNone (oSome (eV 3)))), (true, (eSl opSl (pV 2) (oSome (eBin opAdd (pV 3) (pE (eC (.int 1))))) oNone))]))]))))))))
def F_turned_by (ad : Ad) : Fn := fnS 4 (B_turned_by ad)
theorem ok_turned_by (T : Txt w K mg ad) (hP : SupP P) : FnOk P w K mg base (L2.CX P w) 4 T.a_turned_by T.d_turned_by ["book", "change"] (spF K mg (F_turned_by ad) 2) := fn_ok (k := 3) T.F_turned_by sc_turned_by (h := fun cdv A outer s H E hr tk => (zss_cons (zs_set sc_turned_by.nd (by rfl) (.inl rfl) (ze_ixS (zp_v (pv 0)) (zp_e (ze_gint T.RULES))))
  (zss_cons (zs_if (zt_cmp (z_eq (hu64 hr)) (zp_e (ze_ixS (zp_v (pv 1)) (zp_e ze_int))) (zp_e ze_str) (by rfl))
  (zss_one (zs_ret (ze_ixS (zp_v (pv 1)) (zp_e ze_int))))
  zss_nil)
  (zss_cons (zs_if (zt_cmp (z_eq (hu64 hr)) (zp_e (ze_ixS (zp_v (pv 1)) (zp_e ze_int))) (zp_e ze_str) (by rfl))
  (zss_one (zs_ret (ze_tupS (zst_star (ze_sl z_sl (zp_v (pv 0)) zo_none (zo_some (ze_gint T.TOPS))) (zst_cons (ze_ixS (zp_v (pv 1)) (zp_e ze_int)) (zst_cons (ze_v (pv 2)) zst_nil))))))
  zss_nil)
  (zss_cons (zs_set sc_turned_by.nd (by rfl) (.inl rfl) (ze_ixS (zp_v (pv 1)) (zp_e ze_int)))
  (zss_cons (zs_if (zt_not (zt_val (ze_pure (ok_is_within T hP) tk (hr.mono (by decide)) rfl T.m_is_within T.F_is_within.kp T.b_is_within (zps_cons (zp_v (pv 3)) (zps_cons (zp_e ze_int) (zps_cons (zp_e (ze_bin z_sub (zp_e (ze_callB z_len rfl T.z_len PySem.boot_len (zps_cons (zp_v (pv 2)) zps_nil))) (zp_e (ze_callTy z_int rfl T.z_int PyProof.Rows.boot_int (zps_cons (zp_e (ze_cmp (z_eq (hu64 hr)) (zp_e (ze_ixS (zp_v (pv 1)) (zp_e ze_int))) (zp_e ze_str) (by rfl))) zps_nil))))) zps_nil))))))
  (zss_one (zs_r1 T.X_Refused hP rfl tk (hr.mono (by decide)) (zis_cons ze_str zis_nil)))
  zss_nil)
  (zss_cons (zs_if (zt_cmp (z_eq (hu64 hr)) (zp_e (ze_ixS (zp_v (pv 1)) (zp_e ze_int))) (zp_e ze_str) (by rfl))
  (zss_one (zs_ret (ze_pure (ok_with_rules T hP) tk (hr.mono (by decide)) rfl T.m_with_rules T.F_with_rules.kp T.b_with_rules (zps_cons (zp_v (pv 0)) (zps_cons (zp_e (ze_tupS (zst_star (ze_sl z_sl (zp_v (pv 2)) zo_none (zo_some (ze_v (pv 3)))) (zst_cons (ze_ixS (zp_v (pv 1)) (zp_e ze_int)) (zst_star (ze_sl z_sl (zp_v (pv 2)) (zo_some (ze_v (pv 3))) zo_none) zst_nil))))) zps_nil)))))
  zss_nil)
  (zss_one (zs_ret (ze_pure (ok_with_rules T hP) tk (hr.mono (by decide)) rfl T.m_with_rules T.F_with_rules.kp T.b_with_rules (zps_cons (zp_v (pv 0)) (zps_cons (zp_e (ze_tupS (zst_star (ze_sl z_sl (zp_v (pv 2)) zo_none (zo_some (ze_v (pv 3)))) (zst_star (ze_sl z_sl (zp_v (pv 2)) (zo_some (ze_bin z_add (zp_v (pv 3)) (zp_e ze_int))) zo_none) zst_nil)))) zps_nil))))))))))))
def B_after_change (ad : Ad) : SS := (sSeq (sIf (tNot (tOf (ePure (F_is_change ad) [(pV 1)])))
  (sRaise "Refused" ["why"] [(eC (.str "change"))])
  sNil)
  (sRet (ePure (F_checked_book ad) [(pE (ePure (F_turned_by ad) [(pV 0), (pV 1)]))])))
def F_after_change (ad : Ad) : Fn := fnS 2 (B_after_change ad)
theorem ok_after_change (T : Txt w K mg ad) (hP : SupP P) : FnOk P w K mg base (L2.CX P w) 11 T.a_after_change T.d_after_change ["book", "change"] (spF K mg (F_after_change ad) 2) := fn_ok (k := 10) T.F_after_change sc_after_change (h := fun cdv A outer s H E hr tk => (zss_cons (zs_if (zt_not (zt_val (ze_pure (ok_is_change T hP) tk (hr.mono (by decide)) rfl T.m_is_change T.F_is_change.kp T.b_is_change (zps_cons (zp_v (pv 1)) zps_nil))))
  (zss_one (zs_r1 T.X_Refused hP rfl tk (hr.mono (by decide)) (zis_cons ze_str zis_nil)))
  zss_nil)
  (zss_one (zs_ret (ze_pure (ok_checked_book T hP) tk (hr.mono (by decide)) rfl T.m_checked_book T.F_checked_book.kp T.b_checked_book (zps_cons (zp_e (ze_pure (ok_turned_by T hP) tk (hr.mono (by decide)) rfl T.m_turned_by T.F_turned_by.kp T.b_turned_by (zps_cons (zp_v (pv 0)) (zps_cons (zp_v (pv 1)) zps_nil)))) zps_nil))))))
def B_back_of (ad : Ad) : SS := (sSeq (sIf (tOf (eBin opEq (pE (eBin opIxS (pV 1) (pE (eC (.int 0))))) (pE (eC (.str "book")))))
  (sRet (eTup [(eC (.str "book")), (eV 0)]))
  sNil)
  (sSeq (sIf (tOf (eBin opEq (pE (eBin opIxS (pV 1) (pE (eC (.int 0))))) (pE (eC (.str "tops")))))
  (sRet (eTup [(eC (.str "tops")), (eBin opIxS (pV 0) (pE (eC (.int 2))))]))
  sNil)
  (sSeq (sSet 2 (eBin opIxS (pV 1) (pE (eC (.int 1)))))
  (sRet (eIf (tOf (eBin opEq (pE (eBin opIxS (pV 1) (pE (eC (.int 0))))) (pE (eC (.str "rule"))))) (eTup [(eC (.str "unrule")), (eV 2)]) (eTup [(eC (.str "rule")), (eV 2), (eBin opIxS (pE (eBin opIxS (pV 0) (pE (eC (.int 3))))) (pV 2))]))))))
def F_back_of (ad : Ad) : Fn := fnS 3 (B_back_of ad)
theorem ok_back_of (T : Txt w K mg ad) (hP : SupP P) : FnOk P w K mg base (L2.CX P w) 2 T.a_back_of T.d_back_of ["book", "change"] (spF K mg (F_back_of ad) 2) := fn_ok (k := 1) T.F_back_of sc_back_of (h := fun cdv A outer s H E hr tk => (zss_cons (zs_if (zt_cmp (z_eq (hu64 hr)) (zp_e (ze_ixS (zp_v (pv 1)) (zp_e ze_int))) (zp_e ze_str) (by rfl))
  (zss_one (zs_ret (ze_tup (zis_cons ze_str (zis_cons (ze_v (pv 0)) zis_nil)))))
  zss_nil)
  (zss_cons (zs_if (zt_cmp (z_eq (hu64 hr)) (zp_e (ze_ixS (zp_v (pv 1)) (zp_e ze_int))) (zp_e ze_str) (by rfl))
  (zss_one (zs_ret (ze_tup (zis_cons ze_str (zis_cons (ze_ixS (zp_v (pv 0)) (zp_e (ze_gint T.TOPS))) zis_nil)))))
  zss_nil)
  (zss_cons (zs_set sc_back_of.nd (by rfl) (.inl rfl) (ze_ixS (zp_v (pv 1)) (zp_e ze_int)))
  (zss_one (zs_ret (ze_if (zt_cmp (z_eq (hu64 hr)) (zp_e (ze_ixS (zp_v (pv 1)) (zp_e ze_int))) (zp_e ze_str) (by rfl)) (ze_tup (zis_cons ze_str (zis_cons (ze_v (pv 2)) zis_nil))) (ze_tup (zis_cons ze_str (zis_cons (ze_v (pv 2)) (zis_cons (ze_ixS (zp_e (ze_ixS (zp_v (pv 0)) (zp_e (ze_gint T.RULES)))) (zp_v (pv 2))) zis_nil)))))))))))
def B_after_all (ad : Ad) : SS := (sSeq (sFor (iOf anyOf (eV 1)) (tgN 2)
  (sSet 0 (ePure (F_after_change ad) [(pV 0), (pV 2)])))
  (sRet (eM 0)))
def F_after_all (ad : Ad) : Fn := fnS 3 (B_after_all ad)
theorem ok_after_all (T : Txt w K mg ad) (hP : SupP P) : FnOk P w K mg base (L2.CX P w) 12 T.a_after_all T.d_after_all ["book", "changes"] (spF K mg (F_after_all ad) 2) := fn_ok (k := 11) T.F_after_all sc_after_all (h := fun cdv A outer s H E hr tk => (zss_cons (zs_for (passes_of rfl) rfl (zi_any (ze_v (pv 1))) (zg_name sc_after_all.nd (by rfl) (.inl rfl))
  (zss_one (zs_set sc_after_all.nd (by rfl) (.inl rfl) (ze_pure (ok_after_change T hP) tk (hr.mono (by decide)) rfl T.m_after_change T.F_after_change.kp T.b_after_change (zps_cons (zp_v (pv 0)) (zps_cons (zp_v (pv 2)) zps_nil))))))
  (zss_one (zs_ret (ze_m (pv 0))))))
def B_backs (ad : Ad) : SS := (sSeq (sSet 2 (eLst []))
  (sSeq (sFor (iOf anyOf (eV 1)) (tgN 3)
  (sSeq (sExpr (eMut "list" muAppend (pV 2) [(ePure (F_back_of ad) [(pV 0), (pV 3)])]))
  (sSet 0 (ePure (F_after_change ad) [(pV 0), (pV 3)]))))
  (sRet (eCallB opTuple [(pE (eUn opRevL (pV 2)))]))))
def F_backs (ad : Ad) : Fn := fnS 4 (B_backs ad)
theorem ok_backs (T : Txt w K mg ad) (hP : SupP P) : FnOk P w K mg base (L2.CX P w) 12 T.a_backs T.d_backs ["book", "changes"] (spF K mg (F_backs ad) 2) := fn_ok (k := 11) T.F_backs sc_backs (h := fun cdv A outer s H E hr tk => (zss_cons (zs_set sc_backs.nd (by rfl) (.inl rfl) (ze_lst zis_nil))
  (zss_cons (zs_for (passes_of rfl) rfl (zi_any (ze_v (pv 1))) (zg_name sc_backs.nd (by rfl) (.inl rfl))
  (zss_cons (zs_expr (ze_mut PySem.F.plainAttrs_list PySem.F.slot_list_append PySem.F.type_list_append m_append (zp_v (pv 2)) (zis_cons (ze_pure (ok_back_of T hP) tk (hr.mono (by decide)) rfl T.m_back_of T.F_back_of.kp T.b_back_of (zps_cons (zp_v (pv 0)) (zps_cons (zp_v (pv 3)) zps_nil))) zis_nil)))
  (zss_one (zs_set sc_backs.nd (by rfl) (.inl rfl) (ze_pure (ok_after_change T hP) tk (hr.mono (by decide)) rfl T.m_after_change T.F_after_change.kp T.b_after_change (zps_cons (zp_v (pv 0)) (zps_cons (zp_v (pv 3)) zps_nil)))))))
  (zss_one (zs_ret (ze_callTy z_tuple rfl T.z_tuple PyProof.Rows.boot_tuple (zps_cons (zp_e (ze_revL (zp_v (pv 2)))) zps_nil)))))))
def B__law_bag (ad : Ad) : SS := (sRet (eLst [(eC (.int 0)), (eC (.int 1234567891)), (eC (.int 0)), (eComp (iOf anyOf (eSl opSl (pV 0) oNone (oSome (eC (.int 63))))) [1] (.n 1) tYesZ (eCallB opAbs [(pV 1)]))]))
def F__law_bag (ad : Ad) : Fn := fnS 2 (B__law_bag ad)
theorem ok__law_bag (T : Txt w K mg ad) (hP : SupP P) : FnOk P w K mg base (L2.CX P w) 2 T.a__law_bag T.d__law_bag ["script"] (spF K mg (F__law_bag ad) 1) := fn_ok (k := 1) T.F__law_bag sc__law_bag (h := fun cdv A outer s H E hr tk => (zss_one (zs_ret (ze_lst (zis_cons ze_int (zis_cons ze_int (zis_cons ze_int (zis_cons (ze_lc (own := [("cell", 1)]) rfl sc__law_bag.nd (zi_any (ze_sl z_sl (zp_v (pv 0)) zo_none (zo_some ze_int))) (blkOk_by (by first | rfl | kernel_rfl)) (fun _ _ _ _ _ => (zc_name sc__law_bag.nd (by rfl) (.inl rfl))) (fun _ _ _ _ _ => zts_nil) (fun _ _ _ _ _ => (ze_callB z_abs rfl T.z_abs PyProof.Rows.boot_abs (zps_cons (zp_v (pv 1)) zps_nil)))) zis_nil))))))))
def B__law_take (ad : Ad) : SS := (sSeq (sIf (tOf (eBin opEq (pE (eBin opIxS (pV 0) (pE (eC (.int 0))))) (pE (eC (.int 0)))))
  (sSeq (sSet 4 (eBin opIxS (pE (eBin opAdd (pE (eSl opSl (pE (eBin opIxS (pV 0) (pE (eC (.int 3))))) (oSome (eBin opIxS (pV 0) (pE (eC (.int 2))))) oNone)) (pE (eLst [(eC (.int 0))])))) (pE (eC (.int 0)))))
  (sSeq (sAugIx gtL opIadd stL (pV 0) (pE (eC (.int 2))) (pE (eC (.int 1))))
  (sSeq (sIf (tOf (eBin opGe (pV 4) (pE (eBin opPow (pE (eC (.int 10))) (pE (eC (.int 18)))))))
  (sIx stL (pV 0) (pE (eC (.int 0))) (eV 4))
  sNil)
  (sSeq (sSet 5 (eBin opAdd (pE (eBin opAdd (pE (eBin opMul (pE (eBin opIxS (pV 0) (pE (eC (.int 1))))) (pE (eC (.int 48271))))) (pE (eBin opMod (pE (eCallB opInt [(pV 4)])) (pE (eC (.int 2147483647))))))) (pE (eBin opMul (pE (eC (.int 7919))) (pE (eBin opIxS (pV 0) (pE (eC (.int 2)))))))))
  (sIx stL (pV 0) (pE (eC (.int 1))) (eBin opMod (pE (eCallB opInt [(pV 5)])) (pE (eC (.int 2147483647)))))))))
  sNil)
  (sSeq (sIf (tOf (eBin opGt (pE (eBin opIxS (pV 0) (pE (eC (.int 0))))) (pE (eC (.int 0)))))
  (sSeq (sSet 6 (eBin opMod (pE (eCallB opInt [(pE (eBin opIxS (pV 0) (pE (eC (.int 0)))))])) (pV 1)))
  (sSeq (sIx stL (pV 0) (pE (eC (.int 0))) (eBin opDiv (pE (eCallB opInt [(pE (eBin opIxS (pV 0) (pE (eC (.int 0)))))])) (pV 1)))
  (sRet (eM 6))))
  sNil)
  (sSeq (sSet 2 (eBin opMod (pE (eCallB opInt [(pE (eBin opMul (pE (eBin opAdd (pE (eBin opIxS (pV 0) (pE (eC (.int 1))))) (pE (eC (.int 1))))) (pE (eC (.int 39373)))))])) (pE (eC (.int 1000000007)))))
  (sSeq (sSet 3 (eBin opMod (pE (eCallB opInt [(pE (eBin opMul (pE (eBin opMod (pE (eCallB opInt [(pE (eBin opMul (pV 2) (pV 2)))])) (pE (eC (.int 998244353))))) (pE (eC (.int 30011)))))])) (pE (eC (.int 998244353)))))
  (sRet (eBin opMod (pE (eCallB opInt [(pE (eBin opDiv (pV 3) (pE (eC (.int 7)))))])) (pV 1)))))))
def F__law_take (ad : Ad) : Fn := fnS 7 (B__law_take ad)
theorem ok__law_take (T : Txt w K mg ad) (hP : SupP P) : FnOk P w K mg base (L2.CX P w) 2 T.a__law_take T.d__law_take ["bag", "many"] (spF K mg (F__law_take ad) 2) := fn_ok (k := 1) T.F__law_take sc__law_take (h := fun cdv A outer s H E hr tk => (zss_cons (zs_if (zt_cmp (z_eq (hu64 hr)) (zp_e (ze_ixS (zp_v (pv 0)) (zp_e ze_int))) (zp_e ze_int) (by rfl))
  (zss_cons (zs_set sc__law_take.nd (by rfl) (.inl rfl) (ze_ixS (zp_e (ze_bin z_add (zp_e (ze_sl z_sl (zp_e (ze_ixS (zp_v (pv 0)) (zp_e ze_int))) (zo_some (ze_ixS (zp_v (pv 0)) (zp_e ze_int))) zo_none)) (zp_e (ze_lst (zis_cons ze_int zis_nil))))) (zp_e ze_int)))
  (zss_cons (zs_augix m_getL z_iadd m_setL (zp_v (pv 0)) (zp_e ze_int) (zp_e ze_int))
  (zss_cons (zs_if (zt_cmp z_ge (zp_v (pv 4)) (zp_e (ze_bin z_pow (zp_e ze_int) (zp_e ze_int))) (by rfl))
  (zss_one (zs_ix m_setL (zp_v (pv 0)) (zp_e ze_int) (ze_v (pv 4))))
  zss_nil)
  (zss_cons (zs_set sc__law_take.nd (by rfl) (.inl rfl) (ze_bin z_add (zp_e (ze_bin z_add (zp_e (ze_bin z_mul (zp_e (ze_ixS (zp_v (pv 0)) (zp_e ze_int))) (zp_e ze_int))) (zp_e (ze_bin z_mod (zp_e (ze_callTy z_int rfl T.z_int PyProof.Rows.boot_int (zps_cons (zp_v (pv 4)) zps_nil))) (zp_e ze_int))))) (zp_e (ze_bin z_mul (zp_e ze_int) (zp_e (ze_ixS (zp_v (pv 0)) (zp_e ze_int)))))))
  (zss_one (zs_ix m_setL (zp_v (pv 0)) (zp_e ze_int) (ze_bin z_mod (zp_e (ze_callTy z_int rfl T.z_int PyProof.Rows.boot_int (zps_cons (zp_v (pv 5)) zps_nil))) (zp_e ze_int))))))))
  zss_nil)
  (zss_cons (zs_if (zt_cmp z_gt (zp_e (ze_ixS (zp_v (pv 0)) (zp_e ze_int))) (zp_e ze_int) (by rfl))
  (zss_cons (zs_set sc__law_take.nd (by rfl) (.inl rfl) (ze_bin z_mod (zp_e (ze_callTy z_int rfl T.z_int PyProof.Rows.boot_int (zps_cons (zp_e (ze_ixS (zp_v (pv 0)) (zp_e ze_int))) zps_nil))) (zp_v (pv 1))))
  (zss_cons (zs_ix m_setL (zp_v (pv 0)) (zp_e ze_int) (ze_bin z_div (zp_e (ze_callTy z_int rfl T.z_int PyProof.Rows.boot_int (zps_cons (zp_e (ze_ixS (zp_v (pv 0)) (zp_e ze_int))) zps_nil))) (zp_v (pv 1))))
  (zss_one (zs_ret (ze_m (pv 6))))))
  zss_nil)
  (zss_cons (zs_set sc__law_take.nd (by rfl) (.inl rfl) (ze_bin z_mod (zp_e (ze_callTy z_int rfl T.z_int PyProof.Rows.boot_int (zps_cons (zp_e (ze_bin z_mul (zp_e (ze_bin z_add (zp_e (ze_ixS (zp_v (pv 0)) (zp_e ze_int))) (zp_e ze_int))) (zp_e ze_int))) zps_nil))) (zp_e ze_int)))
  (zss_cons (zs_set sc__law_take.nd (by rfl) (.inl rfl) (ze_bin z_mod (zp_e (ze_callTy z_int rfl T.z_int PyProof.Rows.boot_int (zps_cons (zp_e (ze_bin z_mul (zp_e (ze_bin z_mod (zp_e (ze_callTy z_int rfl T.z_int PyProof.Rows.boot_int (zps_cons (zp_e (ze_bin z_mul (zp_v (pv 2)) (zp_v (pv 2)))) zps_nil))) (zp_e ze_int))) (zp_e ze_int))) zps_nil))) (zp_e ze_int)))
  (zss_one (zs_ret (ze_bin z_mod (zp_e (ze_callTy z_int rfl T.z_int PyProof.Rows.boot_int (zps_cons (zp_e (ze_bin z_div (zp_v (pv 3)) (zp_e ze_int))) zps_nil))) (zp_v (pv 1))))))))))
def B__law_some (ad : Ad) : SS := (sRet (eBin opIxS (pV 1) (pE (eCall (F__law_take ad) [(eV 0), (eCallB opLen [(pV 1)])]))))
def F__law_some (ad : Ad) : Fn := fnS 2 (B__law_some ad)
theorem ok__law_some (T : Txt w K mg ad) (hP : SupP P) : FnOk P w K mg base (L2.CX P w) 3 T.a__law_some T.d__law_some ["bag", "things"] (spF K mg (F__law_some ad) 2) := fn_ok (k := 2) T.F__law_some sc__law_some (h := fun cdv A outer s H E hr tk => (zss_one (zs_ret (ze_ixS (zp_v (pv 1)) (zp_e (ze_call (ok__law_take T hP) tk (hr.mono (by decide)) rfl T.m__law_take T.F__law_take.kp T.b__law_take (zas_cons (ze_v (pv 0)) (zas_cons (ze_callB z_len rfl T.z_len PySem.boot_len (zps_cons (zp_v (pv 1)) zps_nil)) zas_nil))))))))
def B__law_mixed (ad : Ad) : SS := (sSeq (sSet 2 (eLst []))
  (sSeq (sFor (iOf anyOf (eV 1)) (tgN 3)
  (sExpr (eMut "list" muInsert (pV 2) [(eCall (F__law_take ad) [(eV 0), (eBin opAdd (pE (eCallB opLen [(pV 2)])) (pE (eC (.int 1))))]), (eV 3)])))
  (sRet (eM 2))))
def F__law_mixed (ad : Ad) : Fn := fnS 4 (B__law_mixed ad)
theorem ok__law_mixed (T : Txt w K mg ad) (hP : SupP P) : FnOk P w K mg base (L2.CX P w) 3 T.a__law_mixed T.d__law_mixed ["bag", "things"] (spF K mg (F__law_mixed ad) 2) := fn_ok (k := 2) T.F__law_mixed sc__law_mixed (h := fun cdv A outer s H E hr tk => (zss_cons (zs_set sc__law_mixed.nd (by rfl) (.inl rfl) (ze_lst zis_nil))
  (zss_cons (zs_for (passes_of rfl) rfl (zi_any (ze_v (pv 1))) (zg_name sc__law_mixed.nd (by rfl) (.inl rfl))
  (zss_one (zs_expr (ze_mut PySem.F.plainAttrs_list PySem.F.slot_list_insert PySem.F.type_list_insert m_insert (zp_v (pv 2)) (zis_cons (ze_call (ok__law_take T hP) tk (hr.mono (by decide)) rfl T.m__law_take T.F__law_take.kp T.b__law_take (zas_cons (ze_v (pv 0)) (zas_cons (ze_bin z_add (zp_e (ze_callB z_len rfl T.z_len PySem.boot_len (zps_cons (zp_v (pv 2)) zps_nil))) (zp_e ze_int)) zas_nil))) (zis_cons (ze_v (pv 3)) zis_nil))))))
  (zss_one (zs_ret (ze_m (pv 2)))))))
def B__law_alike (ad : Ad) : SS := (sSeq (sPar [2, 3] [(eLst [(eTup [(eV 0), (eV 1)])]), (eC (.int 0))])
  (sSeq (sWhile bigN (tOf (eBin opLt (pV 3) (pE (eCallB opLen [(pV 2)]))))
  (sSeq (sTg (tgT [(tgN 4), (tgN 5)]) (eBin opIxS (pV 2) (pV 3)))
  (sSeq (sAug 3 opIadd (pE (eC (.int 1))))
  (sSeq (sIf (tOr (tOf (eBin opNe (pE (eIsi ["bool"] (pV 4))) (pE (eIsi ["bool"] (pV 5))))) (tOf (eBin opNe (pE (eIsi ["str"] (pV 4))) (pE (eIsi ["str"] (pV 5))))))
  (sRet (eC (.bool false)))
  sNil)
  (sSeq (sIf (tOf (eBin opNe (pE (eIsi ["tuple", "list"] (pV 4))) (pE (eIsi ["tuple", "list"] (pV 5)))))
  (sRet (eC (.bool false)))
  sNil)
  (sIf (tOf (eIsi ["tuple", "list"] (pV 4)))
  (sSeq (sIf (tOr (tOf (eBin opNe (pE (eIsi ["tuple"] (pV 4))) (pE (eIsi ["tuple"] (pV 5))))) (tOf (eBin opNe (pE (eCallB opLen [(pV 4)])) (pE (eCallB opLen [(pV 5)])))))
  (sRet (eC (.bool false)))
  sNil)
  (sExpr (eMutR "list" muExtend (pV 2) [(pE (eZipL [(eV 4), (eV 5)]))])))
  (sIf (tOf (eBin opNe (pV 4) (pV 5)))
  (sRet (eC (.bool false)))
  sNil)))))))
  (sRet (eC (.bool true)))))
def F__law_alike (ad : Ad) : Fn := fnS 6 (B__law_alike ad)
theorem ok__law_alike (T : Txt w K mg ad) (hP : SupP P) : FnOk P w K mg base (L2.CX P w) 2 T.a__law_alike T.d__law_alike ["found", "due"] (spF K mg (F__law_alike ad) 2) := fn_ok (k := 1) T.F__law_alike sc__law_alike (h := fun cdv A outer s H E hr tk => (zss_cons (zs_par2 rfl sc__law_alike.nd (by rfl) (by rfl) (by decide) (by rfl) (by rfl) (zvs_cons (ze_lst (zis_cons (ze_tup (zis_cons (ze_v (pv 0)) (zis_cons (ze_v (pv 1)) zis_nil))) zis_nil)) (zvs_cons ze_int zvs_nil)) (by rfl))
  (zss_cons (zs_while (passes_of rfl) (zt_cmp (z_lt (hu64 hr)) (zp_v (pv 3)) (zp_e (ze_callB z_len rfl T.z_len PySem.boot_len (zps_cons (zp_v (pv 2)) zps_nil))) (by rfl))
  (zss_cons (zs_tg (ze_ixS (zp_v (pv 2)) (zp_v (pv 3))) (zg_tup rfl (zgs_cons (zg_name sc__law_alike.nd (by rfl) (.inl rfl)) (zgs_cons (zg_name sc__law_alike.nd (by rfl) (.inl rfl)) zgs_nil))))
  (zss_cons (zs_aug sc__law_alike.nd (by rfl) (.inl rfl) (zp_e ze_int) z_iadd)
  (zss_cons (zs_if (zt_w (zw_or (zt_cmp (z_ne (hu64 hr)) (zp_e (ze_isi1 (zp_v (pv 4)) rfl T.z_isinstance rfl T.z_bool PyProof.Rows.boot_bool)) (zp_e (ze_isi1 (zp_v (pv 5)) rfl T.z_isinstance rfl T.z_bool PyProof.Rows.boot_bool)) (by rfl)) (zw_or1 (zt_cmp (z_ne (hu64 hr)) (zp_e (ze_isi1 (zp_v (pv 4)) rfl T.z_isinstance rfl T.z_str PyProof.Rows.boot_str)) (zp_e (ze_isi1 (zp_v (pv 5)) rfl T.z_isinstance rfl T.z_str PyProof.Rows.boot_str)) (by rfl)))))
  (zss_one (zs_ret ze_bl))
  zss_nil)
  (zss_cons (zs_if (zt_cmp (z_ne (hu64 hr)) (zp_e (ze_isiN (zp_v (pv 4)) rfl T.z_isinstance (pa_cons (pe_bltn rfl T.z_tuple PyProof.Rows.boot_tuple rfl (by decide) (by decide)) (pa_cons (pe_bltn rfl T.z_list PyProof.Rows.boot_list rfl (by decide) (by decide)) pa_nil)))) (zp_e (ze_isiN (zp_v (pv 5)) rfl T.z_isinstance (pa_cons (pe_bltn rfl T.z_tuple PyProof.Rows.boot_tuple rfl (by decide) (by decide)) (pa_cons (pe_bltn rfl T.z_list PyProof.Rows.boot_list rfl (by decide) (by decide)) pa_nil)))) (by rfl))
  (zss_one (zs_ret ze_bl))
  zss_nil)
  (zss_one (zs_if (zt_val (ze_isiN (zp_v (pv 4)) rfl T.z_isinstance (pa_cons (pe_bltn rfl T.z_tuple PyProof.Rows.boot_tuple rfl (by decide) (by decide)) (pa_cons (pe_bltn rfl T.z_list PyProof.Rows.boot_list rfl (by decide) (by decide)) pa_nil))))
  (zss_cons (zs_if (zt_w (zw_or (zt_cmp (z_ne (hu64 hr)) (zp_e (ze_isi1 (zp_v (pv 4)) rfl T.z_isinstance rfl T.z_tuple PyProof.Rows.boot_tuple)) (zp_e (ze_isi1 (zp_v (pv 5)) rfl T.z_isinstance rfl T.z_tuple PyProof.Rows.boot_tuple)) (by rfl)) (zw_or1 (zt_cmp (z_ne (hu64 hr)) (zp_e (ze_callB z_len rfl T.z_len PySem.boot_len (zps_cons (zp_v (pv 4)) zps_nil))) (zp_e (ze_callB z_len rfl T.z_len PySem.boot_len (zps_cons (zp_v (pv 5)) zps_nil))) (by rfl)))))
  (zss_one (zs_ret ze_bl))
  zss_nil)
  (zss_one (zs_expr (ze_mutR PySem.F.plainAttrs_list PySem.F.slot_list_extend PySem.F.type_list_extend m_extend (zp_v (pv 2)) (zps_cons (zp_e (ze_listZip rfl rfl T.z_list rfl T.z_zip (zis_cons (ze_v (pv 4)) (zis_cons (ze_v (pv 5)) zis_nil)))) zps_nil)))))
  (zss_one (zs_if (zt_cmp (z_ne (hu64 hr)) (zp_v (pv 4)) (zp_v (pv 5)) (by rfl))
  (zss_one (zs_ret ze_bl))
  zss_nil)))))))))
  (zss_one (zs_ret ze_bl)))))
def B__law_signs (ad : Ad) : SS := (sSeq (sSet 1 (eLst [(eTup [(eC (.str "a")), (eC (.int 0))]), (eTup [(eC (.str "p")), (eC (.int 2))])]))
  (sSeq (sFor (iOf anyOf (eLst [(eTup [(eTup [(eC (.str "ab")), (eC (.int 0))]), (eC (.int 2))]), (eTup [(eTup [(eC (.str "pq")), (eC (.int 2))]), (eC (.int 2))]), (eTup [(eTup [(eC (.str "s")), (eC (.int 1))]), (eC (.int 2))]), (eTup [(eTup [(eC (.str "st")), (eC (.int 1))]), (eC (.int 4))]), (eTup [(eTup [(eC (.str "abd")), (eC (.int 0))]), (eC (.int 4))])])) (tgT [(tgN 2), (tgN 3)])
  (sIf (tOf (eBin opEq (pE (eCall (F__law_take ad) [(eV 0), (eV 3)])) (pE (eC (.int 0)))))
  (sExpr (eMut "list" muAppend (pV 1) [(eV 2)]))
  sNil))
  (sRet (eCallB opTuple [(pE (eCallB opSorted [(pV 1)]))]))))
def F__law_signs (ad : Ad) : Fn := fnS 4 (B__law_signs ad)
theorem ok__law_signs (T : Txt w K mg ad) (hP : SupP P) : FnOk P w K mg base (L2.CX P w) 3 T.a__law_signs T.d__law_signs ["bag"] (spF K mg (F__law_signs ad) 1) := fn_ok (k := 2) T.F__law_signs sc__law_signs (h := fun cdv A outer s H E hr tk => (zss_cons (zs_set sc__law_signs.nd (by rfl) (.inl rfl) (ze_lst (zis_cons (ze_tup (zis_cons ze_str (zis_cons ze_int zis_nil))) (zis_cons (ze_tup (zis_cons ze_str (zis_cons ze_int zis_nil))) zis_nil))))
  (zss_cons (zs_for (passes_of rfl) rfl (zi_any (ze_lst (zis_cons (ze_tup (zis_cons (ze_tup (zis_cons ze_str (zis_cons ze_int zis_nil))) (zis_cons ze_int zis_nil))) (zis_cons (ze_tup (zis_cons (ze_tup (zis_cons ze_str (zis_cons ze_int zis_nil))) (zis_cons ze_int zis_nil))) (zis_cons (ze_tup (zis_cons (ze_tup (zis_cons ze_str (zis_cons ze_int zis_nil))) (zis_cons ze_int zis_nil))) (zis_cons (ze_tup (zis_cons (ze_tup (zis_cons ze_str (zis_cons ze_int zis_nil))) (zis_cons ze_int zis_nil))) (zis_cons (ze_tup (zis_cons (ze_tup (zis_cons ze_str (zis_cons ze_int zis_nil))) (zis_cons ze_int zis_nil))) zis_nil))))))) (zg_tup rfl (zgs_cons (zg_name sc__law_signs.nd (by rfl) (.inl rfl)) (zgs_cons (zg_name sc__law_signs.nd (by rfl) (.inl rfl)) zgs_nil)))
  (zss_one (zs_if (zt_cmp (z_eq (hu64 hr)) (zp_e (ze_call (ok__law_take T hP) tk (hr.mono (by decide)) rfl T.m__law_take T.F__law_take.kp T.b__law_take (zas_cons (ze_v (pv 0)) (zas_cons (ze_v (pv 3)) zas_nil)))) (zp_e ze_int) (by rfl))
  (zss_one (zs_expr (ze_mut PySem.F.plainAttrs_list PySem.F.slot_list_append PySem.F.type_list_append m_append (zp_v (pv 1)) (zis_cons (ze_v (pv 2)) zis_nil))))
  zss_nil)))
  (zss_one (zs_ret (ze_callTy z_tuple rfl T.z_tuple PyProof.Rows.boot_tuple (zps_cons (zp_e (ze_callB (z_sorted (hu67 hr)) rfl T.z_sorted PyProof.Rows.boot_sorted (zps_cons (zp_v (pv 1)) zps_nil))) zps_nil)))))))
def B__law_a_rule (ad : Ad) : SS := (sSeq (sTg (tgT [(tgN 3), (tgN 4)]) (eCall (F__law_some ad) [(eV 0), (eBin opAdd (pE (eCallB opList [(pV 1)])) (pE (eComp (iOf anyOf (eV 1)) [5] (.n 5) (tOf (eBin opGt (pE (eBin opIxS (pV 5) (pE (eC (.int 1))))) (pE (eC (.int 0))))) (eV 5))))]))
  (sRet (eTup [(eCall (F__law_some ad) [(eV 0), (eV 2)]), (eV 3), (eCallB opTuple [(pE (eComp (iPl rg1 [(pV 4)]) [6] (.n 6) tYesZ (eCall (F__law_some ad) [(eV 0), (eV 2)])))])])))
def F__law_a_rule (ad : Ad) : Fn := fnS 7 (B__law_a_rule ad)
theorem ok__law_a_rule (T : Txt w K mg ad) (hP : SupP P) : FnOk P w K mg base (L2.CX P w) 4 T.a__law_a_rule T.d__law_a_rule ["bag", "signs", "kinds"] (spF K mg (F__law_a_rule ad) 3) := fn_ok (k := 3) T.F__law_a_rule sc__law_a_rule (h := fun cdv A outer s H E hr tk => (zss_cons (zs_tg (ze_call (ok__law_some T hP) tk (hr.mono (by decide)) rfl T.m__law_some T.F__law_some.kp T.b__law_some (zas_cons (ze_v (pv 0)) (zas_cons (ze_bin z_add (zp_e (ze_callTy z_list rfl T.z_list PyProof.Rows.boot_list (zps_cons (zp_v (pv 1)) zps_nil))) (zp_e (ze_lc (own := [("sign", 5)]) rfl sc__law_a_rule.nd (zi_any (ze_v (pv 1))) (blkOk_by (by first | rfl | kernel_rfl)) (fun _ _ _ _ _ => (zc_name sc__law_a_rule.nd (by rfl) (.inl rfl))) (fun _ _ _ _ _ => (zts_one (zt_cmp z_gt (zp_e (ze_ixS (zp_v (pv 5)) (zp_e ze_int))) (zp_e ze_int) (by rfl)))) (fun _ _ _ _ _ => (ze_v (pv 5)))))) zas_nil))) (zg_tup rfl (zgs_cons (zg_name sc__law_a_rule.nd (by rfl) (.inl rfl)) (zgs_cons (zg_name sc__law_a_rule.nd (by rfl) (.inl rfl)) zgs_nil))))
  (zss_one (zs_ret (ze_tup (zis_cons (ze_call (ok__law_some T hP) tk (hr.mono (by decide)) rfl T.m__law_some T.F__law_some.kp T.b__law_some (zas_cons (ze_v (pv 0)) (zas_cons (ze_v (pv 2)) zas_nil))) (zis_cons (ze_v (pv 3)) (zis_cons (ze_callTy z_tuple rfl T.z_tuple PyProof.Rows.boot_tuple (zps_cons (zp_e (ze_lc (own := [("turn", 6)]) rfl sc__law_a_rule.nd (zi_range1 rfl T.z_range (zps_cons (zp_v (pv 4)) zps_nil)) (blkOk_by (by first | rfl | kernel_rfl)) (fun _ _ _ _ _ => (zc_name sc__law_a_rule.nd (by rfl) (.inl rfl))) (fun _ _ _ _ _ => zts_nil) (fun _ _ _ _ _ => (ze_call (ok__law_some T hP) takes0 (hr.mono (by decide)) rfl T.m__law_some T.F__law_some.kp T.b__law_some (zas_cons (ze_v (pv 0)) (zas_cons (ze_v (pv 2)) zas_nil)))))) zps_nil)) zis_nil))))))))
def B__law_book_of (ad : Ad) : SS := (sSeq (sSet 2 (eSl opSl (pE (eLst [(eC (.str "k")), (eC (.str "m")), (eC (.str "n"))])) oNone (oSome (eBin opAdd (pE (eC (.int 1))) (pE (eCall (F__law_take ad) [(eV 0), (eC (.int 3))]))))))
  (sSeq (sSet 3 (eLst [(eTup [(eCall (F__law_some ad) [(eV 0), (eV 2)]), (eCall (F__law_some ad) [(eV 0), (eComp (iOf anyOf (eV 1)) [7, 8] (.t [7, 8]) (tOf (eBin opEq (pV 8) (pE (eC (.int 0))))) (eV 7))]), (eTup [])])]))
  (sSeq (sFor (iPl rg1 [(pE (eBin opAdd (pE (eC (.int 2))) (pE (eCall (F__law_take ad) [(eV 0), (eC (.int 7))]))))]) (tgN 4)
  (sSeq (sSet 6 (eCall (F__law_a_rule ad) [(eV 0), (eV 1), (eV 2)]))
  (sIf (tOf (eBin opNotIn (pV 6) (pV 3)))
  (sExpr (eMut "list" muAppend (pV 3) [(eV 6)]))
  sNil)))
  (sSeq (sSet 5 (eCallB opTuple [(pE (eCallB opSorted [(pE (eSl opSl (pE (eCall (F__law_mixed ad) [(eV 0), (eV 2)])) oNone (oSome (eBin opAdd (pE (eC (.int 1))) (pE (eCall (F__law_take ad) [(eV 0), (eC (.int 2))]))))))]))]))
  (sRet (eTup [(eC (.str "drawn")), (eV 1), (eV 5), (eCallB opTuple [(pE (eCall (F__law_mixed ad) [(eV 0), (eV 3)]))])]))))))
def F__law_book_of (ad : Ad) : Fn := fnS 9 (B__law_book_of ad)
theorem ok__law_book_of (T : Txt w K mg ad) (hP : SupP P) : FnOk P w K mg base (L2.CX P w) 5 T.a__law_book_of T.d__law_book_of ["bag", "signs"] (spF K mg (F__law_book_of ad) 2) := fn_ok (k := 4) T.F__law_book_of sc__law_book_of (h := fun cdv A outer s H E hr tk => (zss_cons (zs_set sc__law_book_of.nd (by rfl) (.inl rfl) (ze_sl z_sl (zp_e (ze_lst (zis_cons ze_str (zis_cons ze_str (zis_cons ze_str zis_nil))))) zo_none (zo_some (ze_bin z_add (zp_e ze_int) (zp_e (ze_call (ok__law_take T hP) tk (hr.mono (by decide)) rfl T.m__law_take T.F__law_take.kp T.b__law_take (zas_cons (ze_v (pv 0)) (zas_cons ze_int zas_nil))))))))
  (zss_cons (zs_set sc__law_book_of.nd (by rfl) (.inl rfl) (ze_lst (zis_cons (ze_tup (zis_cons (ze_call (ok__law_some T hP) tk (hr.mono (by decide)) rfl T.m__law_some T.F__law_some.kp T.b__law_some (zas_cons (ze_v (pv 0)) (zas_cons (ze_v (pv 2)) zas_nil))) (zis_cons (ze_call (ok__law_some T hP) tk (hr.mono (by decide)) rfl T.m__law_some T.F__law_some.kp T.b__law_some (zas_cons (ze_v (pv 0)) (zas_cons (ze_lc (own := [("label", 7), ("many", 8)]) rfl sc__law_book_of.nd (zi_any (ze_v (pv 1))) (blkOk_by (by first | rfl | kernel_rfl)) (fun _ _ _ _ _ => (zc_tup rfl sc__law_book_of.nd (.cons (by rfl) (.inl rfl) (by first | exact .inl rfl | exact .inr rfl) (.cons (by rfl) (.inl rfl) (by first | exact .inl rfl | exact .inr rfl) .nil)))) (fun _ _ _ _ _ => (zts_one (zt_cmp (z_eq (hu64 hr)) (zp_v (pv 8)) (zp_e ze_int) (by rfl)))) (fun _ _ _ _ _ => (ze_v (pv 7)))) zas_nil))) (zis_cons (ze_tup zis_nil) zis_nil)))) zis_nil)))
  (zss_cons (zs_for (passes_of rfl) rfl (zi_range1 rfl T.z_range (zps_cons (zp_e (ze_bin z_add (zp_e ze_int) (zp_e (ze_call (ok__law_take T hP) tk (hr.mono (by decide)) rfl T.m__law_take T.F__law_take.kp T.b__law_take (zas_cons (ze_v (pv 0)) (zas_cons ze_int zas_nil)))))) zps_nil)) (zg_name sc__law_book_of.nd (by rfl) (.inl rfl))
  (zss_cons (zs_set sc__law_book_of.nd (by rfl) (.inl rfl) (ze_call (ok__law_a_rule T hP) tk (hr.mono (by decide)) rfl T.m__law_a_rule T.F__law_a_rule.kp T.b__law_a_rule (zas_cons (ze_v (pv 0)) (zas_cons (ze_v (pv 1)) (zas_cons (ze_v (pv 2)) zas_nil)))))
  (zss_one (zs_if (zt_cmp (z_notin (hu65 hr)) (zp_v (pv 6)) (zp_v (pv 3)) (by rfl))
  (zss_one (zs_expr (ze_mut PySem.F.plainAttrs_list PySem.F.slot_list_append PySem.F.type_list_append m_append (zp_v (pv 3)) (zis_cons (ze_v (pv 6)) zis_nil))))
  zss_nil))))
  (zss_cons (zs_set sc__law_book_of.nd (by rfl) (.inl rfl) (ze_callTy z_tuple rfl T.z_tuple PyProof.Rows.boot_tuple (zps_cons (zp_e (ze_callB (z_sorted (hu67 hr)) rfl T.z_sorted PyProof.Rows.boot_sorted (zps_cons (zp_e (ze_sl z_sl (zp_e (ze_call (ok__law_mixed T hP) tk (hr.mono (by decide)) rfl T.m__law_mixed T.F__law_mixed.kp T.b__law_mixed (zas_cons (ze_v (pv 0)) (zas_cons (ze_v (pv 2)) zas_nil)))) zo_none (zo_some (ze_bin z_add (zp_e ze_int) (zp_e (ze_call (ok__law_take T hP) tk (hr.mono (by decide)) rfl T.m__law_take T.F__law_take.kp T.b__law_take (zas_cons (ze_v (pv 0)) (zas_cons ze_int zas_nil)))))))) zps_nil))) zps_nil)))
  (zss_one (zs_ret (ze_tup (zis_cons ze_str (zis_cons (ze_v (pv 1)) (zis_cons (ze_v (pv 5)) (zis_cons (ze_callTy z_tuple rfl T.z_tuple PyProof.Rows.boot_tuple (zps_cons (zp_e (ze_call (ok__law_mixed T hP) tk (hr.mono (by decide)) rfl T.m__law_mixed T.F__law_mixed.kp T.b__law_mixed (zas_cons (ze_v (pv 0)) (zas_cons (ze_v (pv 3)) zas_nil)))) zps_nil)) zis_nil))))))))))))
def B__law_book (ad : Ad) : SS := (sRet (eCall (F__law_book_of ad) [(eV 0), (eCall (F__law_signs ad) [(eV 0)])]))
def F__law_book (ad : Ad) : Fn := fnS 1 (B__law_book ad)
theorem ok__law_book (T : Txt w K mg ad) (hP : SupP P) : FnOk P w K mg base (L2.CX P w) 6 T.a__law_book T.d__law_book ["bag"] (spF K mg (F__law_book ad) 1) := fn_ok (k := 5) T.F__law_book sc__law_book (h := fun cdv A outer s H E hr tk => (zss_one (zs_ret (ze_call (ok__law_book_of T hP) tk (hr.mono (by decide)) rfl T.m__law_book_of T.F__law_book_of.kp T.b__law_book_of (zas_cons (ze_v (pv 0)) (zas_cons (ze_call (ok__law_signs T hP) tk (hr.mono (by decide)) rfl T.m__law_signs T.F__law_signs.kp T.b__law_signs (zas_cons (ze_v (pv 0)) zas_nil)) zas_nil))))))
def B__law_drawn_change (ad : Ad) : SS := (sSeq (sPar [3, 4] [(eBin opIxS (pV 1) (pE (eC (.int 3)))), (eCall (F__law_take ad) [(eV 0), (eC (.int 6))])])
  (sSeq (sSet 2 (eCall (F__law_some ad) [(eV 0), (eLst [(eC (.int 0)), (eC (.int 0)), (eBin opSub (pE (eCallB opLen [(pV 3)])) (pE (eC (.int 1)))), (eCallB opLen [(pV 3)]), (eBin opAdd (pE (eCallB opLen [(pV 3)])) (pE (eC (.int 1)))), (eUn opNeg (pE (eC (.int 1)))), (eC (.bool true)), (eC .none), (eC (.str "0"))])]))
  (sSeq (sIf (tOf (eBin opLt (pV 4) (pE (eC (.int 2)))))
  (sSeq (sSet 5 (eCall (F__law_a_rule ad) [(eV 0), (eBin opIxS (pV 1) (pE (eC (.int 1)))), (eLst [(eC (.str "k")), (eC (.str "m")), (eC (.str "n"))])]))
  (sRet (eTup [(eC (.str "rule")), (eV 2), (eCall (F__law_some ad) [(eV 0), (eLst [(eV 5), (eV 5), (eV 5), (eBin opIxS (pV 3) (pE (eC (.int 0)))), (eTup [(eC (.str "k")), (eC (.str "zz")), (eTup [])]), (eTup [(eC (.str "k")), (eC (.str "a")), (eTup [(eC (.str "k"))])]), (eC .none)])])])))
  sNil)
  (sSeq (sIf (tOf (eBin opLt (pV 4) (pE (eC (.int 4)))))
  (sRet (eTup [(eC (.str "unrule")), (eV 2)]))
  sNil)
  (sSeq (sIf (tOf (eBin opEq (pV 4) (pE (eC (.int 4)))))
  (sRet (eTup [(eC (.str "tops")), (eCall (F__law_some ad) [(eV 0), (eLst [(eTup [(eC (.str "k"))]), (eTup [(eC (.str "k")), (eC (.str "m"))]), (eTup [(eC (.str "m")), (eC (.str "n"))]), (eTup []), (eTup [(eC (.str "m")), (eC (.str "k"))]), (eLst [(eC (.str "k"))]), (eTup [(eC (.str "Kk"))]), (eC .none)])])]))
  sNil)
  (sRet (eTup [(eC (.str "book")), (eCall (F__law_some ad) [(eV 0), (eLst [(eCall (F__law_book_of ad) [(eV 0), (eBin opIxS (pV 1) (pE (eC (.int 1))))]), (eCall (F__law_book ad) [(eV 0)]), (eSl opSl (pV 1) oNone (oSome (eC (.int 3)))), (eC .none), (eC (.int 5))])])])))))))
def F__law_drawn_change (ad : Ad) : Fn := fnS 6 (B__law_drawn_change ad)
theorem ok__law_drawn_change (T : Txt w K mg ad) (hP : SupP P) : FnOk P w K mg base (L2.CX P w) 7 T.a__law_drawn_change T.d__law_drawn_change ["bag", "book"] (spF K mg (F__law_drawn_change ad) 2) := fn_ok (k := 6) T.F__law_drawn_change sc__law_drawn_change (h := fun cdv A outer s H E hr tk => (zss_cons (zs_par2 rfl sc__law_drawn_change.nd (by rfl) (by rfl) (by decide) (by rfl) (by rfl) (zvs_cons (ze_ixS (zp_v (pv 1)) (zp_e ze_int)) (zvs_cons (ze_call (ok__law_take T hP) tk (hr.mono (by decide)) rfl T.m__law_take T.F__law_take.kp T.b__law_take (zas_cons (ze_v (pv 0)) (zas_cons ze_int zas_nil))) zvs_nil)) (by rfl))
  (zss_cons (zs_set sc__law_drawn_change.nd (by rfl) (.inl rfl) (ze_call (ok__law_some T hP) tk (hr.mono (by decide)) rfl T.m__law_some T.F__law_some.kp T.b__law_some (zas_cons (ze_v (pv 0)) (zas_cons (ze_lst (zis_cons ze_int (zis_cons ze_int (zis_cons (ze_bin z_sub (zp_e (ze_callB z_len rfl T.z_len PySem.boot_len (zps_cons (zp_v (pv 3)) zps_nil))) (zp_e ze_int)) (zis_cons (ze_callB z_len rfl T.z_len PySem.boot_len (zps_cons (zp_v (pv 3)) zps_nil)) (zis_cons (ze_bin z_add (zp_e (ze_callB z_len rfl T.z_len PySem.boot_len (zps_cons (zp_v (pv 3)) zps_nil))) (zp_e ze_int)) (zis_cons (ze_un z_neg (zp_e ze_int)) (zis_cons ze_bl (zis_cons ze_non (zis_cons ze_str zis_nil)))))))))) zas_nil))))
  (zss_cons (zs_if (zt_cmp (z_lt (hu64 hr)) (zp_v (pv 4)) (zp_e ze_int) (by rfl))
  (zss_cons (zs_set sc__law_drawn_change.nd (by rfl) (.inl rfl) (ze_call (ok__law_a_rule T hP) tk (hr.mono (by decide)) rfl T.m__law_a_rule T.F__law_a_rule.kp T.b__law_a_rule (zas_cons (ze_v (pv 0)) (zas_cons (ze_ixS (zp_v (pv 1)) (zp_e ze_int)) (zas_cons (ze_lst (zis_cons ze_str (zis_cons ze_str (zis_cons ze_str zis_nil)))) zas_nil)))))
  (zss_one (zs_ret (ze_tup (zis_cons ze_str (zis_cons (ze_v (pv 2)) (zis_cons (ze_call (ok__law_some T hP) tk (hr.mono (by decide)) rfl T.m__law_some T.F__law_some.kp T.b__law_some (zas_cons (ze_v (pv 0)) (zas_cons (ze_lst (zis_cons (ze_v (pv 5)) (zis_cons (ze_v (pv 5)) (zis_cons (ze_v (pv 5)) (zis_cons (ze_ixS (zp_v (pv 3)) (zp_e ze_int)) (zis_cons (ze_tup (zis_cons ze_str (zis_cons ze_str (zis_cons (ze_tup zis_nil) zis_nil)))) (zis_cons (ze_tup (zis_cons ze_str (zis_cons ze_str (zis_cons (ze_tup (zis_cons ze_str zis_nil)) zis_nil)))) (zis_cons ze_non zis_nil)))))))) zas_nil))) zis_nil)))))))
  zss_nil)
  (zss_cons (zs_if (zt_cmp (z_lt (hu64 hr)) (zp_v (pv 4)) (zp_e ze_int) (by rfl))
  (zss_one (zs_ret (ze_tup (zis_cons ze_str (zis_cons (ze_v (pv 2)) zis_nil)))))
  zss_nil)
  (zss_cons (zs_if (zt_cmp (z_eq (hu64 hr)) (zp_v (pv 4)) (zp_e ze_int) (by rfl))
  (zss_one (zs_ret (ze_tup (zis_cons ze_str (zis_cons (ze_call (ok__law_some T hP) tk (hr.mono (by decide)) rfl T.m__law_some T.F__law_some.kp T.b__law_some (zas_cons (ze_v (pv 0)) (zas_cons (ze_lst (zis_cons (ze_tup (zis_cons ze_str zis_nil)) (zis_cons (ze_tup (zis_cons ze_str (zis_cons ze_str zis_nil))) (zis_cons (ze_tup (zis_cons ze_str (zis_cons ze_str zis_nil))) (zis_cons (ze_tup zis_nil) (zis_cons (ze_tup (zis_cons ze_str (zis_cons ze_str zis_nil))) (zis_cons (ze_lst (zis_cons ze_str zis_nil)) (zis_cons (ze_tup (zis_cons ze_str zis_nil)) (zis_cons ze_non zis_nil))))))))) zas_nil))) zis_nil)))))
  zss_nil)
  (zss_one (zs_ret (ze_tup (zis_cons ze_str (zis_cons (ze_call (ok__law_some T hP) tk (hr.mono (by decide)) rfl T.m__law_some T.F__law_some.kp T.b__law_some (zas_cons (ze_v (pv 0)) (zas_cons (ze_lst (zis_cons (ze_call (ok__law_book_of T hP) tk (hr.mono (by decide)) rfl T.m__law_book_of T.F__law_book_of.kp T.b__law_book_of (zas_cons (ze_v (pv 0)) (zas_cons (ze_ixS (zp_v (pv 1)) (zp_e ze_int)) zas_nil))) (zis_cons (ze_call (ok__law_book T hP) tk (hr.mono (by decide)) rfl T.m__law_book T.F__law_book.kp T.b__law_book (zas_cons (ze_v (pv 0)) zas_nil)) (zis_cons (ze_sl z_sl (zp_v (pv 1)) zo_none (zo_some ze_int)) (zis_cons ze_non (zis_cons ze_int zis_nil)))))) zas_nil))) zis_nil)))))))))))
def B__law_behind (ad : Ad) : SS := (sSeq (sTg (tgT [(tgN 3), (tgN 4), (tgN 5), (tgN 6)]) (eV 0))
  (sSeq (sIf (tOf (eBin opEq (pE (eBin opIxS (pV 1) (pE (eC (.int 0))))) (pE (eC (.str "book")))))
  (sRet (eBin opIxS (pV 1) (pE (eC (.int 1)))))
  sNil)
  (sSeq (sIf (tOf (eBin opEq (pE (eBin opIxS (pV 1) (pE (eC (.int 0))))) (pE (eC (.str "tops")))))
  (sRet (eTup [(eV 3), (eV 4), (eBin opIxS (pV 1) (pE (eC (.int 1)))), (eV 6)]))
  sNil)
  (sSeq (sSet 2 (eBin opIxS (pV 1) (pE (eC (.int 1)))))
  (sSeq (sIf (tOr (tNot (tOf (eIsi ["int"] (pV 2)))) (tOr (tOf (eIsi ["bool"] (pV 2))) (tNot (tOf (eChain opLe opLt (pE (eC (.int 0))) (pV 2) (pE (eBin opAdd (pE (eCallB opLen [(pV 6)])) (pE (eCallB opInt [(pE (eBin opEq (pE (eBin opIxS (pV 1) (pE (eC (.int 0))))) (pE (eC (.str "rule")))))])))))))))
  (sRet (eC (.str "index")))
  sNil)
  (sSeq (sIf (tOf (eBin opEq (pE (eBin opIxS (pV 1) (pE (eC (.int 0))))) (pE (eC (.str "rule")))))
  (sRet (eTup [(eV 3), (eV 4), (eV 5), (eBin opAdd (pE (eBin opAdd (pE (eSl opSl (pV 6) oNone (oSome (eV 2)))) (pE (eTup [(eBin opIxS (pV 1) (pE (eC (.int 2))))])))) (pE (eSl opSl (pV 6) (oSome (eV 2)) oNone)))]))
  sNil)
  (sRet (eTup [(eV 3), (eV 4), (eV 5), (eBin opAdd (pE (eSl opSl (pV 6) oNone (oSome (eV 2)))) (pE (eSl opSl (pV 6) (oSome (eBin opAdd (pV 2) (pE (eC (.int 1))))) oNone)))]))))))))
def F__law_behind (ad : Ad) : Fn := fnS 7 (B__law_behind ad)
theorem ok__law_behind (T : Txt w K mg ad) (hP : SupP P) : FnOk P w K mg base (L2.CX P w) 2 T.a__law_behind T.d__law_behind ["book", "change"] (spF K mg (F__law_behind ad) 2) := fn_ok (k := 1) T.F__law_behind sc__law_behind (h := fun cdv A outer s H E hr tk => (zss_cons (zs_tg (ze_v (pv 0)) (zg_tup rfl (zgs_cons (zg_name sc__law_behind.nd (by rfl) (.inl rfl)) (zgs_cons (zg_name sc__law_behind.nd (by rfl) (.inl rfl)) (zgs_cons (zg_name sc__law_behind.nd (by rfl) (.inl rfl)) (zgs_cons (zg_name sc__law_behind.nd (by rfl) (.inl rfl)) zgs_nil))))))
  (zss_cons (zs_if (zt_cmp (z_eq (hu64 hr)) (zp_e (ze_ixS (zp_v (pv 1)) (zp_e ze_int))) (zp_e ze_str) (by rfl))
  (zss_one (zs_ret (ze_ixS (zp_v (pv 1)) (zp_e ze_int))))
  zss_nil)
  (zss_cons (zs_if (zt_cmp (z_eq (hu64 hr)) (zp_e (ze_ixS (zp_v (pv 1)) (zp_e ze_int))) (zp_e ze_str) (by rfl))
  (zss_one (zs_ret (ze_tup (zis_cons (ze_v (pv 3)) (zis_cons (ze_v (pv 4)) (zis_cons (ze_ixS (zp_v (pv 1)) (zp_e ze_int)) (zis_cons (ze_v (pv 6)) zis_nil)))))))
  zss_nil)
  (zss_cons (zs_set sc__law_behind.nd (by rfl) (.inl rfl) (ze_ixS (zp_v (pv 1)) (zp_e ze_int)))
  (zss_cons (zs_if (zt_w (zw_or (zt_not (zt_val (ze_isi1 (zp_v (pv 2)) rfl T.z_isinstance rfl T.z_int PyProof.Rows.boot_int))) (zw_or (zt_val (ze_isi1 (zp_v (pv 2)) rfl T.z_isinstance rfl T.z_bool PyProof.Rows.boot_bool)) (zw_or1 (zt_not (zt_chain z_le (z_lt (hu64 hr)) (zp_e ze_int) (zp_v (pv 2)) (zp_e (ze_bin z_add (zp_e (ze_callB z_len rfl T.z_len PySem.boot_len (zps_cons (zp_v (pv 6)) zps_nil))) (zp_e (ze_callTy z_int rfl T.z_int PyProof.Rows.boot_int (zps_cons (zp_e (ze_cmp (z_eq (hu64 hr)) (zp_e (ze_ixS (zp_v (pv 1)) (zp_e ze_int))) (zp_e ze_str) (by rfl))) zps_nil)))))))))))
  (zss_one (zs_ret ze_str))
  zss_nil)
  (zss_cons (zs_if (zt_cmp (z_eq (hu64 hr)) (zp_e (ze_ixS (zp_v (pv 1)) (zp_e ze_int))) (zp_e ze_str) (by rfl))
  (zss_one (zs_ret (ze_tup (zis_cons (ze_v (pv 3)) (zis_cons (ze_v (pv 4)) (zis_cons (ze_v (pv 5)) (zis_cons (ze_bin z_add (zp_e (ze_bin z_add (zp_e (ze_sl z_sl (zp_v (pv 6)) zo_none (zo_some (ze_v (pv 2))))) (zp_e (ze_tup (zis_cons (ze_ixS (zp_v (pv 1)) (zp_e ze_int)) zis_nil))))) (zp_e (ze_sl z_sl (zp_v (pv 6)) (zo_some (ze_v (pv 2))) zo_none))) zis_nil)))))))
  zss_nil)
  (zss_one (zs_ret (ze_tup (zis_cons (ze_v (pv 3)) (zis_cons (ze_v (pv 4)) (zis_cons (ze_v (pv 5)) (zis_cons (ze_bin z_add (zp_e (ze_sl z_sl (zp_v (pv 6)) zo_none (zo_some (ze_v (pv 2))))) (zp_e (ze_sl z_sl (zp_v (pv 6)) (zo_some (ze_bin z_add (zp_v (pv 2)) (zp_e ze_int))) zo_none))) zis_nil))))))))))))))
def B__law_due (ad : Ad) : SS := (sSeq (sSet 2 (ePure (F__law_behind ad) [(pV 0), (pV 1)]))
  (sSeq (sIf (tOf (eBin opEq (pV 2) (pE (eC (.str "index")))))
  (sRet (eLst [(eC (.str "refused")), (eC (.str "index"))]))
  sNil)
  (sRet (eIf (tOf (ePure (F_is_book ad) [(pV 2)])) (eV 2) (eLst [(eC (.str "bad"))])))))
def F__law_due (ad : Ad) : Fn := fnS 3 (B__law_due ad)
theorem ok__law_due (T : Txt w K mg ad) (hP : SupP P) : FnOk P w K mg base (L2.CX P w) 11 T.a__law_due T.d__law_due ["book", "change"] (spF K mg (F__law_due ad) 2) := fn_ok (k := 10) T.F__law_due sc__law_due (h := fun cdv A outer s H E hr tk => (zss_cons (zs_set sc__law_due.nd (by rfl) (.inl rfl) (ze_pure (ok__law_behind T hP) tk (hr.mono (by decide)) rfl T.m__law_behind T.F__law_behind.kp T.b__law_behind (zps_cons (zp_v (pv 0)) (zps_cons (zp_v (pv 1)) zps_nil))))
  (zss_cons (zs_if (zt_cmp (z_eq (hu64 hr)) (zp_v (pv 2)) (zp_e ze_str) (by rfl))
  (zss_one (zs_ret (ze_lst (zis_cons ze_str (zis_cons ze_str zis_nil)))))
  zss_nil)
  (zss_one (zs_ret (ze_if (zt_val (ze_pure (ok_is_book T hP) tk (hr.mono (by decide)) rfl T.m_is_book T.F_is_book.kp T.b_is_book (zps_cons (zp_v (pv 2)) zps_nil))) (ze_v (pv 2)) (ze_lst (zis_cons ze_str zis_nil))))))))
def q_law : Str := "law.<locals>.<lambda>"
def B_law (ad : Ad) (Pt : Nat) : SS := (sSeq (sSet 1 (eBox (ePure (F__law_bag ad) [(pV 0)])))
  (sSeq (sFor (iPl rg1 [(pE (eC (.int 3)))]) (tgN 2)
  (sSeq (sSet 3 (eCall (F__law_book ad) [(eV 1)]))
  (sSeq (sPar [8, 9] [(eV 3), (eTup [])])
  (sSeq (sFor (iPl rg1 [(pE (eC (.int 10)))]) (tgN 4)
  (sSeq (sSet 10 (eCall (F__law_drawn_change ad) [(eV 1), (eV 8)]))
  (sSeq (sSet 11 (ePure (F__law_due ad) [(pV 8), (pV 10)]))
  (sSeq (sIf (tOr (tOf (eBin opIsNot (pE (ePure (F_is_change ad) [(pV 10)])) (pE (eC (.bool true))))) (tNot (tOf (ePure (F__law_alike ad) [(pE (eCame 0 Pt q_law isX cl__law_came (ePure (F_after_change ad) [(pV 8), (pV 10)]))), (pV 11)]))))
  (sRet (eC (.bool false)))
  sNil)
  (sSeq (sSet 12 (eCame 0 Pt q_law isX cl__law_came (ePure (F_after_all ad) [(pV 3), (pE (eBin opAdd (pV 9) (pE (eTup [(eV 10), (eTup [(eC (.str "unrule")), (eC (.int 99))])]))))])))
  (sSeq (sIf (tNot (tOf (ePure (F__law_alike ad) [(pV 12), (pE (eIf (tOf (eIsi ["list"] (pV 11))) (eV 11) (eLst [(eC (.str "refused")), (eC (.str "index"))])))])))
  (sRet (eC (.bool false)))
  sNil)
  (sSeq (sIf (tOf (eIsi ["list"] (pV 11)))
  sCont
  sNil)
  (sSeq (sSet 13 (ePure (F_back_of ad) [(pV 8), (pV 10)]))
  (sSeq (sIf (tOr (tOf (eBin opIsNot (pE (ePure (F_is_change ad) [(pV 13)])) (pE (eC (.bool true))))) (tNot (tOf (ePure (F__law_alike ad) [(pE (ePure (F_after_change ad) [(pV 11), (pV 13)])), (pV 8)]))))
  (sRet (eC (.bool false)))
  sNil)
  (sPar [8, 9] [(eV 11), (eBin opAdd (pV 9) (pE (eTup [(eV 10)])))]))))))))))
  (sSeq (sSet 5 (ePure (F_backs ad) [(pV 3), (pV 9)]))
  (sSeq (sSet 6 (eLst [(ePure (F_after_all ad) [(pV 3), (pV 9)]), (ePure (F_after_all ad) [(pV 8), (pV 5)]), (eCallB opLen [(pV 5)]), (ePure (F_after_all ad) [(pV 3), (pE (eTup []))]), (ePure (F_backs ad) [(pV 3), (pE (eTup []))])]))
  (sSeq (sIf (tNot (tOf (ePure (F__law_alike ad) [(pV 6), (pE (eLst [(eV 8), (eV 3), (eCallB opLen [(pV 9)]), (eV 3), (eTup [])]))])))
  (sRet (eC (.bool false)))
  sNil)
  (sFor (iOf anyOf (eTup [(eC .none), (eTup []), (eTup [(eC (.str "rule")), (eC (.int 0))]), (eTup [(eC (.str "unrule")), (eC (.int 0)), (eC (.int 1))]), (eLst [(eC (.str "unrule")), (eC (.int 0))]), (eTup [(eC (.str "fly")), (eC (.int 0))]), (eTup [(eC (.int 3)), (eC (.int 3))]), (eC (.str "tops")), (eTup [(eC (.str "book"))])])) (tgN 7)
  (sIf (tOr (tOf (eBin opIsNot (pE (ePure (F_is_change ad) [(pV 7)])) (pE (eC (.bool false))))) (tOf (eBin opNe (pE (eCame 0 Pt q_law isX cl__law_came (ePure (F_after_change ad) [(pV 3), (pV 7)]))) (pE (eLst [(eC (.str "refused")), (eC (.str "change"))])))))
  (sRet (eC (.bool false)))
  sNil)))))))))
  (sRet (eC (.bool true)))))
def F_law (ad : Ad) (Pt : Nat) : Fn := fnS 14 (B_law ad Pt)
theorem ok_law (T : Txt w K mg ad) (hP : SupP P) {c Pt : Addr} (TB : LamX.TabB base mg c Pt) (hcd : T.d_law.code = .ref c) : FnOk P w K mg base (L2.CX P w) 15 T.a_law T.d_law ["script"] (spF K mg (F_law ad Pt) 1) := fn_okc (k := 14) T.F_law sc_law (h := fun cdv A outer s H E hcdv hr tk => (zss_cons (zs_set sc_law.nd (by rfl) (.inl rfl) (ze_box (ze_pure (ok__law_bag T hP) tk (hr.mono (by decide)) rfl T.m__law_bag T.F__law_bag.kp T.b__law_bag (zps_cons (zp_v (pv 0)) zps_nil))))
  (zss_cons (zs_for (passes_of rfl) rfl (zi_range1 rfl T.z_range (zps_cons (zp_e ze_int) zps_nil)) (zg_name sc_law.nd (by rfl) (.inl rfl))
  (zss_cons (zs_set sc_law.nd (by rfl) (.inr rfl) (ze_call (ok__law_book T hP) tk (hr.mono (by decide)) rfl T.m__law_book T.F__law_book.kp T.b__law_book (zas_cons (ze_v (pv 1)) zas_nil)))
  (zss_cons (zs_parT rfl sc_law.nd (.cons (by rfl) (.inr rfl) (.inl rfl) (.cons (by rfl) (.inr rfl) (.inl rfl) .nil)) (by decide +kernel) (zvs_cons (ze_v (pv 3)) (zvs_cons (ze_tup zis_nil) zvs_nil)))
  (zss_cons (zs_for (passes_of rfl) rfl (zi_range1 rfl T.z_range (zps_cons (zp_e ze_int) zps_nil)) (zg_name sc_law.nd (by rfl) (.inl rfl))
  (zss_cons (zs_set sc_law.nd (by rfl) (.inr rfl) (ze_call (ok__law_drawn_change T hP) tk (hr.mono (by decide)) rfl T.m__law_drawn_change T.F__law_drawn_change.kp T.b__law_drawn_change (zas_cons (ze_v (pv 1)) (zas_cons (ze_v (pv 8)) zas_nil))))
  (zss_cons (zs_set sc_law.nd (by rfl) (.inl rfl) (ze_pure (ok__law_due T hP) tk (hr.mono (by decide)) rfl T.m__law_due T.F__law_due.kp T.b__law_due (zps_cons (zp_v (pv 8)) (zps_cons (zp_v (pv 10)) zps_nil))))
  (zss_cons (zs_if (zt_w (zw_or (zt_cmp z_isnot (zp_e (ze_pure (ok_is_change T hP) tk (hr.mono (by decide)) rfl T.m_is_change T.F_is_change.kp T.b_is_change (zps_cons (zp_v (pv 10)) zps_nil))) (zp_e ze_bl) (by rfl)) (zw_or1 (zt_not (zt_val (ze_pure (ok__law_alike T hP) tk (hr.mono (by decide)) rfl T.m__law_alike T.F__law_alike.kp T.b__law_alike (zps_cons (zp_e (ze_cameF (q := q_law) (k := 12) T.F__law_came T.m__law_came T.b__law_came sc__law_came (.inl rfl) rfl ⟨_, _, rfl⟩ (isX_ok T) (cl_ok__law_came (X := cxOf (L2.CX P w) P w K mg base ["script", "bag", "turn", "book", "again", "some", "told", "bad", "here", "row", "change", "due", "tried", "back"] "law" (defScope s_law) T.a_law cdv A outer s H E) T) TB (hcdv.symm.trans hcd) (L := LamX.lamS_by (sc := defScope s_law) (by decide +kernel)) (hr.mono (by decide)) (fun A2 outer2 s2 H2 E2 f c2 hr tk => (ze_pure (ok_after_change T hP) tk (hr.mono (by decide)) rfl T.m_after_change T.F_after_change.kp T.b_after_change (zps_cons (zp_v (pv 8)) (zps_cons (zp_v (pv 10)) zps_nil)))))) (zps_cons (zp_v (pv 11)) zps_nil))))))))
  (zss_one (zs_ret ze_bl))
  zss_nil)
  (zss_cons (zs_set sc_law.nd (by rfl) (.inl rfl) (ze_cameF (q := q_law) (k := 12) T.F__law_came T.m__law_came T.b__law_came sc__law_came (.inl rfl) rfl ⟨_, _, rfl⟩ (isX_ok T) (cl_ok__law_came (X := cxOf (L2.CX P w) P w K mg base ["script", "bag", "turn", "book", "again", "some", "told", "bad", "here", "row", "change", "due", "tried", "back"] "law" (defScope s_law) T.a_law cdv A outer s H E) T) TB (hcdv.symm.trans hcd) (L := LamX.lamS_by (sc := defScope s_law) (by decide +kernel)) (hr.mono (by decide)) (fun A2 outer2 s2 H2 E2 f c2 hr tk => (ze_pure (ok_after_all T hP) tk (hr.mono (by decide)) rfl T.m_after_all T.F_after_all.kp T.b_after_all (zps_cons (zp_v (pv 3)) (zps_cons (zp_e (ze_bin z_add (zp_v (pv 9)) (zp_e (ze_tup (zis_cons (ze_v (pv 10)) (zis_cons (ze_tup (zis_cons ze_str (zis_cons ze_int zis_nil))) zis_nil)))))) zps_nil))))))
  (zss_cons (zs_if (zt_not (zt_val (ze_pure (ok__law_alike T hP) tk (hr.mono (by decide)) rfl T.m__law_alike T.F__law_alike.kp T.b__law_alike (zps_cons (zp_v (pv 12)) (zps_cons (zp_e (ze_if (zt_val (ze_isi1 (zp_v (pv 11)) rfl T.z_isinstance rfl T.z_list PyProof.Rows.boot_list)) (ze_v (pv 11)) (ze_lst (zis_cons ze_str (zis_cons ze_str zis_nil))))) zps_nil)))))
  (zss_one (zs_ret ze_bl))
  zss_nil)
  (zss_cons (zs_if (zt_val (ze_isi1 (zp_v (pv 11)) rfl T.z_isinstance rfl T.z_list PyProof.Rows.boot_list))
  (zss_one zs_continue)
  zss_nil)
  (zss_cons (zs_set sc_law.nd (by rfl) (.inl rfl) (ze_pure (ok_back_of T hP) tk (hr.mono (by decide)) rfl T.m_back_of T.F_back_of.kp T.b_back_of (zps_cons (zp_v (pv 8)) (zps_cons (zp_v (pv 10)) zps_nil))))
  (zss_cons (zs_if (zt_w (zw_or (zt_cmp z_isnot (zp_e (ze_pure (ok_is_change T hP) tk (hr.mono (by decide)) rfl T.m_is_change T.F_is_change.kp T.b_is_change (zps_cons (zp_v (pv 13)) zps_nil))) (zp_e ze_bl) (by rfl)) (zw_or1 (zt_not (zt_val (ze_pure (ok__law_alike T hP) tk (hr.mono (by decide)) rfl T.m__law_alike T.F__law_alike.kp T.b__law_alike (zps_cons (zp_e (ze_pure (ok_after_change T hP) tk (hr.mono (by decide)) rfl T.m_after_change T.F_after_change.kp T.b_after_change (zps_cons (zp_v (pv 11)) (zps_cons (zp_v (pv 13)) zps_nil)))) (zps_cons (zp_v (pv 8)) zps_nil))))))))
  (zss_one (zs_ret ze_bl))
  zss_nil)
  (zss_one (zs_parT rfl sc_law.nd (.cons (by rfl) (.inr rfl) (.inl rfl) (.cons (by rfl) (.inr rfl) (.inl rfl) .nil)) (by decide +kernel) (zvs_cons (ze_v (pv 11)) (zvs_cons (ze_bin z_add (zp_v (pv 9)) (zp_e (ze_tup (zis_cons (ze_v (pv 10)) zis_nil)))) zvs_nil)))))))))))))
  (zss_cons (zs_set sc_law.nd (by rfl) (.inl rfl) (ze_pure (ok_backs T hP) tk (hr.mono (by decide)) rfl T.m_backs T.F_backs.kp T.b_backs (zps_cons (zp_v (pv 3)) (zps_cons (zp_v (pv 9)) zps_nil))))
  (zss_cons (zs_set sc_law.nd (by rfl) (.inl rfl) (ze_lst (zis_cons (ze_pure (ok_after_all T hP) tk (hr.mono (by decide)) rfl T.m_after_all T.F_after_all.kp T.b_after_all (zps_cons (zp_v (pv 3)) (zps_cons (zp_v (pv 9)) zps_nil))) (zis_cons (ze_pure (ok_after_all T hP) tk (hr.mono (by decide)) rfl T.m_after_all T.F_after_all.kp T.b_after_all (zps_cons (zp_v (pv 8)) (zps_cons (zp_v (pv 5)) zps_nil))) (zis_cons (ze_callB z_len rfl T.z_len PySem.boot_len (zps_cons (zp_v (pv 5)) zps_nil)) (zis_cons (ze_pure (ok_after_all T hP) tk (hr.mono (by decide)) rfl T.m_after_all T.F_after_all.kp T.b_after_all (zps_cons (zp_v (pv 3)) (zps_cons (zp_e (ze_tup zis_nil)) zps_nil))) (zis_cons (ze_pure (ok_backs T hP) tk (hr.mono (by decide)) rfl T.m_backs T.F_backs.kp T.b_backs (zps_cons (zp_v (pv 3)) (zps_cons (zp_e (ze_tup zis_nil)) zps_nil))) zis_nil)))))))
  (zss_cons (zs_if (zt_not (zt_val (ze_pure (ok__law_alike T hP) tk (hr.mono (by decide)) rfl T.m__law_alike T.F__law_alike.kp T.b__law_alike (zps_cons (zp_v (pv 6)) (zps_cons (zp_e (ze_lst (zis_cons (ze_v (pv 8)) (zis_cons (ze_v (pv 3)) (zis_cons (ze_callB z_len rfl T.z_len PySem.boot_len (zps_cons (zp_v (pv 9)) zps_nil)) (zis_cons (ze_v (pv 3)) (zis_cons (ze_tup zis_nil) zis_nil))))))) zps_nil)))))
  (zss_one (zs_ret ze_bl))
  zss_nil)
  (zss_one (zs_for (passes_of rfl) rfl (zi_any (ze_tup (zis_cons ze_non (zis_cons (ze_tup zis_nil) (zis_cons (ze_tup (zis_cons ze_str (zis_cons ze_int zis_nil))) (zis_cons (ze_tup (zis_cons ze_str (zis_cons ze_int (zis_cons ze_int zis_nil)))) (zis_cons (ze_lst (zis_cons ze_str (zis_cons ze_int zis_nil))) (zis_cons (ze_tup (zis_cons ze_str (zis_cons ze_int zis_nil))) (zis_cons (ze_tup (zis_cons ze_int (zis_cons ze_int zis_nil))) (zis_cons ze_str (zis_cons (ze_tup (zis_cons ze_str zis_nil)) zis_nil))))))))))) (zg_name sc_law.nd (by rfl) (.inr rfl))
  (zss_one (zs_if (zt_w (zw_or (zt_cmp z_isnot (zp_e (ze_pure (ok_is_change T hP) tk (hr.mono (by decide)) rfl T.m_is_change T.F_is_change.kp T.b_is_change (zps_cons (zp_v (pv 7)) zps_nil))) (zp_e ze_bl) (by rfl)) (zw_or1 (zt_cmp (z_ne (hu64 hr)) (zp_e (ze_cameF (q := q_law) (k := 12) T.F__law_came T.m__law_came T.b__law_came sc__law_came (.inl rfl) rfl ⟨_, _, rfl⟩ (isX_ok T) (cl_ok__law_came (X := cxOf (L2.CX P w) P w K mg base ["script", "bag", "turn", "book", "again", "some", "told", "bad", "here", "row", "change", "due", "tried", "back"] "law" (defScope s_law) T.a_law cdv A outer s H E) T) TB (hcdv.symm.trans hcd) (L := LamX.lamS_by (sc := defScope s_law) (by decide +kernel)) (hr.mono (by decide)) (fun A2 outer2 s2 H2 E2 f c2 hr tk => (ze_pure (ok_after_change T hP) tk (hr.mono (by decide)) rfl T.m_after_change T.F_after_change.kp T.b_after_change (zps_cons (zp_v (pv 3)) (zps_cons (zp_v (pv 7)) zps_nil)))))) (zp_e (ze_lst (zis_cons ze_str (zis_cons ze_str zis_nil)))) (by rfl)))))
  (zss_one (zs_ret ze_bl))
  zss_nil)))))))))))
  (zss_one (zs_ret ze_bl)))))
end K05

set_option maxRecDepth 100000
set_option maxHeartbeats 1000000
namespace K05
open PySem PySem.Spec PyProof.Rows L2 Z
variable {ad : Ad}
def isInt : PyData → Bool | .int _ => true | _ => false
def isStr : PyData → Bool | .str _ => true | _ => false
theorem f_is_integer (x : PyData) (h : List PO) (hx : oddD x = false) : F_is_integer ad [.d x] h = .ok (.d (.bool (isInt x))) h := by
  simp [F_is_integer, fnS, B_is_integer, hx]
  cases x <;> simp [isaAny, isa, isaN, tyN, isInt]
def within (x : PyData) (a b : Int) : Bool := match x with | .int i => decide (a ≤ i) && decide (i ≤ b) | _ => false
theorem f_is_within (x : PyData) (a b : Int) (h : List PO) (hx : oddD x = false) : F_is_within ad [.d x, .d (.int a), .d (.int b)] h = .ok (.d (.bool (within x a b))) h := by
  simp [F_is_within, fnS, B_is_within, f_is_integer x _ hx]
  cases x <;> simp [isInt, within]
  rename_i i
  by_cases h1 : a ≤ i <;> simp [h1]
theorem f_is_string (x : PyData) (h : List PO) (hx : oddD x = false) : F_is_string ad [.d x] h = .ok (.d (.bool (isStr x))) h := by
  simp [F_is_string, fnS, B_is_string, hx]
  cases x <;> simp [isaAny, isa, isaN, tyN, isStr]
def LETS : Str := "abcdefghijklmnopqrstuvwxyz"
def KEYSd : List PyData := [.str "book", .str "label", .str "top", .str "rule", .str "program", .str "start", .str "turn", .str "is", .str "of"]
def nameOk (z : Str) : Bool := decide (1 ≤ z.length) && decide (z.length ≤ 8) && !(KEYSd.any fun y => PyData.eqv y (.str z)) && (signsOf z).all fun c => match c with | .str c => !(Builtin.Str.occurrences LETS c 0 LETS.length 1).isEmpty | _ => false
def isName : PyData → Bool | .str z => nameOk z | _ => false
theorem f_is_name {n : Nat} (x : PyData) (h : List PO) (hx : gd n x = true) : F_is_name ad [.d x] h = .ok (.d (.bool (isName x))) h := by
  have ho := gd_odd hx
  simp [F_is_name, fnS, B_is_name, f_is_string x _ ho]
  cases x with
  | str z =>
    have hl := gd_str hx
    have hf : fits z.length = true := fits_of (by omega)
    have hk : SeqAt.shaped (.tuple KEYSd) = true := by decide +kernel
    have hz : SeqAt.shaped (.str z) = true := gd_shaped (n := 0) (by cases n <;> simpa [gd] using hx)
    have e1 : opIn (.str z) (.tuple KEYSd) = some (.d (.bool (KEYSd.any fun y => PyData.eqv y (.str z)))) := by
      show (if (SeqAt.shaped (.str z) && SeqAt.shaped (.tuple KEYSd)) = true then _ else _) = _
      rw [hz, hk]
      simp
    unfold KEYSd at e1
    have ec : compL [1] (tgN 1) tYesZ (eBin opIn (pV 1) (pE (eC (.str LETS)))) (signsOf z) [] ⟨[some (.d (.str z)), none], h⟩ = .ok (.o (.lst ((signsOf z).map fun c => .bool (match c with | .str c => !(Builtin.Str.occurrences LETS c 0 LETS.length 1).isEmpty | _ => false)))) ⟨[some (.d (.str z)), none], h⟩ := by
      rw [compL_map (F := fun c => .bool (match c with | .str c => !(Builtin.Str.occurrences LETS c 0 LETS.length 1).isEmpty | _ => false))]
      · rfl
      · intro x hx
        obtain ⟨c, _, rfl⟩ := List.mem_map.mp hx
        exact ⟨_, _, _, rfl, by simp; exact ⟨rfl, rfl⟩, rfl, rfl⟩
      · have : (signsOf z).length = z.length := by simp [signsOf, Str.length]
        simp only [List.length_nil]
        omega
    unfold LETS at ec
    by_cases a : (1 : Int) ≤ z.length
    · by_cases b : (z.length : Int) ≤ 8
      · cases hkk : (KEYSd.any fun y => PyData.eqv y (.str z)) with
        | true =>
          have hkk' := hkk
          unfold KEYSd at hkk'
          rw [hkk'] at e1
          simp [isStr, isName, hf, a, b, e1, nameOk, hkk]
        | false =>
          have hkk' := hkk
          unfold KEYSd at hkk'
          rw [hkk'] at e1
          simp [isStr, isName, hf, a, b, e1, ec, nameOk, hkk, opAll_map]
          have c1 : 1 ≤ z.length := by omega
          have c2 : z.length ≤ 8 := by omega
          simp [c1, c2, LETS]
      · have b' : ¬ z.length ≤ 8 := by omega
        simp [isStr, isName, hf, a, b, b', nameOk]
    · have a' : z.length = 0 := by omega
      simp [isStr, isName, hf, a, a', nameOk]
  | _ => simp [isStr, isName]
end K05

set_option maxRecDepth 100000
set_option maxHeartbeats 1000000
namespace K05
open PySem PySem.Spec PyProof.Rows L2 Z
variable {ad : Ad}
def tupAll (p : PyData → Bool) : PyData → Bool | .tuple xs => xs.all p | _ => false
theorem f_are_all {n : Nat} {F : Fn} {p : PyData → Bool} {a : Nat} (x : PyData) (h : List PO) (hx : gd n x = true)
    (hF : ∀ y, gd n y = true → F [.d y] [] = .ok (.d (.bool (p y))) []) (hl : List.lookup a [(ad.is_integer, F_is_integer ad), (ad.is_name, F_is_name ad)] = some F) :
    F_are_all ad [.d x, .d (fnD a)] h = .ok (.d (.bool (tupAll p x))) h := by
  have ho := gd_odd hx
  cases x with
  | tuple xs =>
    have ec : compL [2] (tgN 2) tYesZ (eCallV [(ad.is_integer, F_is_integer ad), (ad.is_name, F_is_name ad)] 1 [pV 2]) xs [] ⟨[some (.d (.tuple xs)), some (.d (fnD a)), none], h⟩ = .ok (.o (.lst (xs.map fun y => .bool (p y)))) ⟨[some (.d (.tuple xs)), some (.d (fnD a)), none], h⟩ := by
      have hm : ∀ y ∈ xs, gd n y = true := fun y hy => by
        cases n with
        | zero => simp [gd] at hx
        | succ n => exact gd_succ ((gd_tup.mp hx).2 y hy)
      have hlen : xs.length ≤ 1000 := by
        cases n with
        | zero => simp [gd] at hx
        | succ n => exact (gd_tup.mp hx).1
      rw [compL_map (F := fun y => .bool (p y))]
      · rfl
      · intro y hy
        refine ⟨_, .d (.bool (p y)), ⟨[some (.d (.tuple xs)), some (.d (fnD a)), some (.d y)], h⟩, rfl, ?_, rfl, rfl⟩
        unfold eCallV
        have e1 : (S.mk [some (.d (.tuple xs)), some (.d (fnD a)), none] h).s.set 2 (some (SV.d y)) = [some (.d (.tuple xs)), some (.d (fnD a)), some (.d y)] := rfl
        simp only [q_set, e1]
        show (match (fnA (fnD a)).bind (fun a => List.lookup a [(ad.is_integer, F_is_integer ad), (ad.is_name, F_is_name ad)]) with
          | some F => ePure F [pV 2] _
          | none => .no) = _
        rw [fnA_fnD, Option.bind_some, hl]
        simp [hF y (hm y hy)]
      · simp only [List.length_nil]; omega
    simp [F_are_all, fnS, B_are_all, ho, isaAny, isa, isaN, tyN, ec, opAll_map, tupAll]
  | _ => simp [F_are_all, fnS, B_are_all, ho, isaAny, isa, isaN, tyN, tupAll]
theorem f_are_integers {n : Nat} (x : PyData) (h : List PO) (hx : gd n x = true) : F_are_integers ad [.d x] h = .ok (.d (.bool (tupAll isInt x))) h := by
  simp [F_are_integers, fnS, B_are_integers, f_are_all (ad := ad) (F := F_is_integer ad) (p := isInt) (a := ad.is_integer) x [] hx (fun y hy => f_is_integer y [] (gd_odd hy)) (by simp [List.lookup])]
theorem f_are_names {n : Nat} (hne : ad.is_integer ≠ ad.is_name) (x : PyData) (h : List PO) (hx : gd n x = true) : F_are_names ad [.d x] h = .ok (.d (.bool (tupAll isName x))) h := by
  have : (ad.is_name == ad.is_integer) = false := by simpa using (Ne.symm hne)
  simp [F_are_names, fnS, B_are_names, f_are_all (ad := ad) (F := F_is_name ad) (p := isName) (a := ad.is_name) x [] hx (fun y hy => f_is_name y [] hy) (by simp [List.lookup, this])]
def tupN (x : PyData) (n : Int) : Bool := match x with | .tuple xs => decide ((xs.length : Int) = n) | _ => false
theorem f_is_tuple_of (x : PyData) (n : Int) (h : List PO) (hx : oddD x = false) : F_is_tuple_of ad [.d x, .d (.int n)] h = .ok (.d (.bool (tupN x n))) h := by
  cases x <;> simp [F_is_tuple_of, fnS, B_is_tuple_of, hx, isaAny, isa, isaN, tyN, tupN]
def isSign : PyData → Bool | .tuple [l, m] => isName l && within m 0 2 | _ => false
theorem f_is_sign {n : Nat} (x : PyData) (h : List PO) (hx : gd n x = true) : F_is_sign ad [.d x] h = .ok (.d (.bool (isSign x))) h := by
  have ho := gd_odd hx
  cases hq : tupN x 2 with
  | false =>
    have : isSign x = false := by
      cases x with
      | tuple xs =>
        match xs with
        | [a, b] => simp [tupN] at hq
        | [] => rfl
        | [_] => rfl
        | _ :: _ :: _ :: _ => rfl
      | _ => rfl
    simp [F_is_sign, fnS, B_is_sign, f_is_tuple_of x 2 [] ho, hq, this]
  | true =>
    cases x with
    | tuple xs =>
      match xs with
      | [] => simp [tupN] at hq
      | [_] => simp [tupN] at hq
      | _ :: _ :: _ :: _ => simp [tupN] at hq; omega
      | [a, b] =>
        cases n with
        | zero => simp [gd] at hx
        | succ n =>
          have ha := (gd_tup.mp hx).2 a (by simp)
          have hb := (gd_tup.mp hx).2 b (by simp)
          simp [F_is_sign, fnS, B_is_sign, f_is_tuple_of (.tuple [a, b]) 2 [] ho, hq, f_is_name a [] ha, f_is_within b 0 2 [] (gd_odd hb), isSign]
          cases isName a <;> simp
    | _ => simp [tupN] at hq
/-- texts, one greater than the other -/
def up : List PyData → Bool
  | .str a :: .str b :: r => decide (a.cps.toList < b.cps.toList) && up (.str b :: r)
  | _ => true
def ltS : PyData → PyData → Bool | .str a, .str b => decide (a.cps.toList < b.cps.toList) | _, _ => false
theorem up_zip : ∀ {xs : List PyData}, xs.all isStr = true → ((xs.zip xs.tail).all fun p => ltS p.1 p.2) = up xs
  | [], _ => rfl
  | [a], h => by cases a <;> simp_all [up, isStr]
  | .str a :: .str b :: r, h => by
    have ih := up_zip (xs := .str b :: r) (by simp_all)
    simp only [List.tail_cons] at ih
    simp only [List.tail_cons, List.zip_cons_cons, List.all_cons, up]
    rw [ih]
    rfl
  | .str a :: .none :: r, h => by simp [isStr] at h
  | .str a :: .bool _ :: r, h => by simp [isStr] at h
  | .str a :: .int _ :: r, h => by simp [isStr] at h
  | .str a :: .list _ :: r, h => by simp [isStr] at h
  | .str a :: .tuple _ :: r, h => by simp [isStr] at h
  | .str a :: .dict _ :: r, h => by simp [isStr] at h
  | .none :: _ :: r, h => by simp [isStr] at h
  | .bool _ :: _ :: r, h => by simp [isStr] at h
  | .int _ :: _ :: r, h => by simp [isStr] at h
  | .list _ :: _ :: r, h => by simp [isStr] at h
  | .tuple _ :: _ :: r, h => by simp [isStr] at h
  | .dict _ :: _ :: r, h => by simp [isStr] at h
theorem cut1 (xs : List PyData) : Z.cutD xs (some 1) none = xs.tail := by
  rw [← List.drop_one]
  unfold Z.cutD
  rw [show HT.sIx xs.length 0 (some 1) = min 1 xs.length from HT.sIx_nat xs.length 0 1, HT.sIx_none]
  cases xs with
  | nil => rfl
  | cons x r =>
    rw [show min 1 (x :: r).length = 1 by rw [List.length_cons]; omega]
    show (List.take ((x :: r).length - 1) r) = r
    rw [List.length_cons, Nat.add_sub_cancel]
    exact List.take_length
/-- all([one < other for one, other in zip(xs, xs[1:])]) of texts, in any frame -/
theorem comp_up {st : S} {i j : Nat} {xs : List PyData} (hx : xs.all isStr = true) (hl : xs.length ≤ 1000) (hi : i < st.s.length) (hj : j < st.s.length) (hij : i ≠ j) (hw : st.wipe [i, j] = st) :
    compL [i, j] (tgT [tgN i, tgN j]) tYesZ (eBin opLt (pV i) (pV j)) ((xs.zip xs.tail).map fun p => .tuple [p.1, p.2]) [] st = .ok (.o (.lst ((xs.zip xs.tail).map fun p => .bool (ltS p.1 p.2)))) st := by
  have hs : ∀ p ∈ xs.zip xs.tail, isStr p.1 = true ∧ isStr p.2 = true := fun p hp => by
    have := List.of_mem_zip hp
    exact ⟨List.all_eq_true.mp hx _ this.1, List.all_eq_true.mp hx _ (List.mem_of_mem_tail this.2)⟩
  rw [compL_map (F := fun t => match t with | .tuple [a, b] => .bool (ltS a b) | _ => .none)]
  · simp
  · intro x hx
    obtain ⟨⟨a, b⟩, hp, rfl⟩ := List.mem_map.mp hx
    obtain ⟨ha, hb⟩ := hs _ hp
    have e1 : ((st.s.set i (some (SV.d a))).set j (some (SV.d b)))[i]? = some (some (.d a)) := by
      rw [List.getElem?_set_ne (Ne.symm hij), List.getElem?_set_self hi]
    have e2 : ((st.s.set i (some (SV.d a))).set j (some (SV.d b)))[j]? = some (some (.d b)) := by
      rw [List.getElem?_set_self (by simpa using hj)]
    refine ⟨{ st with s := (st.s.set i (some (.d a))).set j (some (.d b)) }, .d (.bool (ltS a b)), { st with s := (st.s.set i (some (.d a))).set j (some (.d b)) }, by simp, ?_, rfl, ?_⟩
    · cases a with
      | str a =>
        cases b with
        | str b => simp [e1, e2, opLt, ltS]
        | _ => cases hb
      | _ => cases ha
    · have hw' := congrArg S.s hw
      simp only [q_wipe, q_wipeL1, q_wipeL0] at hw' ⊢
      cases st
      simp only at hw' ⊢
      rw [S.mk.injEq]
      refine ⟨?_, rfl⟩
      conv => rhs; rw [← hw']
      refine List.ext_getElem? fun k => ?_
      simp only [List.getElem?_set, List.length_set]
      grind
  · simp only [List.length_nil, List.length_map, List.length_zip]; omega
theorem f_do_rise {n : Nat} (hne : ad.is_integer ≠ ad.is_name) (xs : List PyData) (h : List PO) (hx : gd n (.tuple xs) = true) (hn : xs.all isName = true) : F_do_rise ad [.d (.tuple xs)] h = .ok (.d (.bool (up xs))) h := by
  have hs : xs.all isStr = true := by
    rw [List.all_eq_true] at hn ⊢
    intro x hx
    have := hn x hx
    cases x <;> simp_all [isName, isStr]
  have hl : xs.length ≤ 1000 := by
    cases n with
    | zero => simp [gd] at hx
    | succ n => exact (gd_tup.mp hx).1
  have hn' : tupAll isName (.tuple xs) = true := hn
  have ec := comp_up (st := ⟨[some (.d (.tuple xs)), none, none], h⟩) (i := 1) (j := 2) hs hl (by simp) (by simp) (by decide) rfl
  cases hi : tupAll isInt (.tuple xs)
  · simp [F_do_rise, fnS, B_do_rise, f_are_integers (.tuple xs) [] hx, f_are_names hne (.tuple xs) [] hx, hn', hi, cut1, zipOf, couples, ec, opAll_map, up_zip hs]
  · simp [F_do_rise, fnS, B_do_rise, f_are_integers (.tuple xs) [] hx, f_are_names hne (.tuple xs) [] hx, hn', hi, cut1, zipOf, couples, ec, opAll_map, up_zip hs]
end K05

set_option maxRecDepth 100000
set_option maxHeartbeats 1000000
namespace K05
open PySem PySem.Spec PyProof.Rows L2 Z
variable {ad : Ad}
def lab : PyData → PyData | .tuple [l, _] => l | _ => .none
def mny : PyData → PyData | .tuple [_, m] => m | _ => .none
def hasZ (ms : List PyData) : Bool := ms.any fun z => PyData.eqv z (.int 0)
def isSigns : PyData → Bool | .tuple xs => decide (1 ≤ xs.length) && decide (xs.length ≤ 8) && xs.all isSign && up (xs.map lab) && hasZ (xs.map mny) | _ => false
theorem sign_shape {x : PyData} (h : isSign x = true) : ∃ l m, x = .tuple [.str l, .int m] ∧ nameOk l = true ∧ 0 ≤ m ∧ m ≤ 2 := by
  unfold isSign at h
  split at h
  · rename_i a b
    rw [Bool.and_eq_true] at h
    cases a with
    | str l =>
      cases b with
      | int m =>
        simp [isName, within] at h
        exact ⟨l, m, rfl, h.1, h.2.1, h.2.2⟩
      | _ => simp [within] at h
    | _ => simp [isName] at h
  · cases h
theorem comp_col {st : S} {i j c : Nat} {xs : List PyData} (col : PyData → PyData) (hx : ∀ x ∈ xs, ∃ a b, x = .tuple [a, b] ∧ col x = (if c = i then a else b)) (hl : xs.length ≤ 1000) (hi : i < st.s.length) (hj : j < st.s.length) (hij : i ≠ j) (hc : c = i ∨ c = j) (hw : st.wipe [i, j] = st) :
    compL [i, j] (tgT [tgN i, tgN j]) tYesZ (eV c) xs [] st = .ok (.o (.lst (xs.map col))) st := by
  rw [compL_map (F := col)]
  · simp
  · intro x hx'
    obtain ⟨a, b, rfl, hcol⟩ := hx x hx'
    have e1 : ((st.s.set i (some (SV.d a))).set j (some (SV.d b)))[i]? = some (some (.d a)) := by
      rw [List.getElem?_set_ne (Ne.symm hij), List.getElem?_set_self hi]
    have e2 : ((st.s.set i (some (SV.d a))).set j (some (SV.d b)))[j]? = some (some (.d b)) := by
      rw [List.getElem?_set_self (by simpa using hj)]
    refine ⟨{ st with s := (st.s.set i (some (.d a))).set j (some (.d b)) }, .d (col (.tuple [a, b])), { st with s := (st.s.set i (some (.d a))).set j (some (.d b)) }, by simp, ?_, rfl, ?_⟩
    · rw [hcol]
      rcases hc with rfl | rfl
      · simp [e1]
      · rw [if_neg (Ne.symm hij)]
        simp [e2]
    · have hw' := congrArg S.s hw
      simp only [q_wipe, q_wipeL1, q_wipeL0] at hw' ⊢
      cases st
      simp only at hw' ⊢
      rw [S.mk.injEq]
      refine ⟨?_, rfl⟩
      conv => rhs; rw [← hw']
      refine List.ext_getElem? fun k => ?_
      simp only [List.getElem?_set, List.length_set]
      grind
  · simp only [List.length_nil]; omega
theorem f_is_signs {n : Nat} (x : PyData) (h : List PO) (hx : gd n x = true) (hn : n ≤ 60) : F_is_signs ad [.d x] h = .ok (.d (.bool (isSigns x))) h := by
  have ho := gd_odd hx
  cases x with
  | tuple xs =>
    have hm : ∀ y ∈ xs, gd n y = true := fun y hy => by
      cases n with
      | zero => simp [gd] at hx
      | succ n => exact gd_succ ((gd_tup.mp hx).2 y hy)
    have hlen : xs.length ≤ 1000 := by
      cases n with
      | zero => simp [gd] at hx
      | succ n => exact (gd_tup.mp hx).1
    have ec : compL [4] (tgN 4) tYesZ (ePure (F_is_sign ad) [pV 4]) xs [] ⟨[some (.d (.tuple xs)), none, none, none, none, none], h⟩ = .ok (.o (.lst (xs.map fun y => .bool (isSign y)))) ⟨[some (.d (.tuple xs)), none, none, none, none, none], h⟩ := by
      rw [compL_map (F := fun y => .bool (isSign y))]
      · rfl
      · intro y hy
        exact ⟨_, _, _, rfl, by simp [f_is_sign y [] (hm y hy)]; exact ⟨rfl, rfl⟩, rfl, rfl⟩
      · simp only [List.length_nil]; omega
    by_cases a : (1 : Int) ≤ xs.length
    · by_cases b : (xs.length : Int) ≤ 8
      · have a' : 1 ≤ xs.length := by omega
        have b' : xs.length ≤ 8 := by omega
        cases hs : xs.all isSign with
        | false => simp [F_is_signs, fnS, B_is_signs, ho, isaAny, isa, isaN, tyN, a, b, a', b', ec, opAll_map, hs, isSigns]
        | true =>
          have hs' : ∀ x ∈ xs, isSign x = true := List.all_eq_true.mp hs
          have ec2 := comp_col (st := ⟨[some (.d (.tuple xs)), none, none, none, none, none], h⟩) (i := 2) (j := 3) (c := 2) lab (fun x hx => by
            obtain ⟨l, m, rfl, _⟩ := sign_shape (hs' x hx)
            exact ⟨_, _, rfl, rfl⟩) hlen (by simp) (by simp) (by decide) (.inl rfl) rfl
          have ec3 := comp_up (st := ⟨[some (.d (.tuple xs)), some (.d (.list (xs.map lab))), none, none, none, none], h⟩) (i := 4) (j := 5) (xs := xs.map lab) (by
            rw [List.all_eq_true]
            intro y hy
            obtain ⟨x, hx, rfl⟩ := List.mem_map.mp hy
            obtain ⟨l, m, rfl, _⟩ := sign_shape (hs' x hx)
            rfl) (by simpa using hlen) (by simp) (by simp) (by decide) rfl
          have ec4 := comp_col (st := ⟨[some (.d (.tuple xs)), some (.d (.list (xs.map lab))), none, none, none, none], h⟩) (i := 2) (j := 3) (c := 3) mny (fun x hx => by
            obtain ⟨l, m, rfl, _⟩ := sign_shape (hs' x hx)
            exact ⟨_, _, rfl, rfl⟩) hlen (by simp) (by simp) (by decide) (.inr rfl) rfl
          have e5 : opIn (.int 0) (.list (xs.map mny)) = some (.d (.bool (hasZ (xs.map mny)))) := by
            have : SeqAt.shaped (.list (xs.map mny)) = true := gd_shaped (n := n + 1) (gd_lst.mpr ⟨by simpa using hlen, fun y hy => by
              obtain ⟨x, hx, rfl⟩ := List.mem_map.mp hy
              obtain ⟨l, m, rfl, _⟩ := sign_shape (hs' x hx)
              cases n <;> rfl⟩)
            show (if (SeqAt.shaped (.int 0) && SeqAt.shaped (.list (xs.map mny))) = true then _ else _) = _
            rw [this]
            simp [hasZ]
            rfl
          have hst : (xs.map lab).all isStr = true := by
            rw [List.all_eq_true]
            intro y hy
            obtain ⟨x, hx, rfl⟩ := List.mem_map.mp hy
            obtain ⟨l, m, rfl, _⟩ := sign_shape (hs' x hx)
            rfl
          have hup := up_zip hst
          cases hu : up (xs.map lab) <;> rw [hu] at hup <;> simp [F_is_signs, fnS, B_is_signs, ho, isaAny, isa, isaN, tyN, a, b, a', b', ec, opAll_map, hs, isSigns, ec2, cut1, zipOf, couples, ec3, ec4, e5, hu, hup]
      · have b' : ¬ xs.length ≤ 8 := by omega
        simp [F_is_signs, fnS, B_is_signs, ho, isaAny, isa, isaN, tyN, a, b, b', isSigns]
    · have a' : xs.length = 0 := by omega
      simp [F_is_signs, fnS, B_is_signs, ho, isaAny, isa, isaN, tyN, a, a', isSigns]
  | _ => simp [F_is_signs, fnS, B_is_signs, ho, isaAny, isa, isaN, tyN, isSigns]
end K05

set_option maxRecDepth 100000
set_option maxHeartbeats 1000000
namespace K05
open PySem PySem.Spec PyProof.Rows L2 Z
variable {ad : Ad}
/-! ### signs as a dict -/
def kd1 : PyData → L2.Key × PyData | .tuple [.str l, m] => (.inr l, m) | x => (.inl 0, x)
theorem kdOf_signs : ∀ {xs : List PyData}, (∀ x ∈ xs, isSign x = true) → kdOf xs = some (xs.map kd1)
  | [], _ => rfl
  | x :: xs, h => by
    obtain ⟨l, m, rfl, _⟩ := sign_shape (h x List.mem_cons_self)
    have ih := kdOf_signs (xs := xs) fun y hy => h y (List.mem_cons_of_mem _ hy)
    show ((some (Sum.inr l) : Option L2.Key).bind fun k => (kdOf xs).map ((k, PyData.int m) :: ·)) = _
    rw [ih]
    rfl
theorem lt_trans' {a b c : List Nat} (h1 : a < b) (h2 : b < c) : a < c := List.lt_trans h1 h2
/-- ascending texts are unlike -/
theorem up_lt : ∀ {l : List Str}, up (l.map .str) = true → l.Pairwise fun a b => a.cps.toList < b.cps.toList
  | [], _ => .nil
  | [a], _ => List.pairwise_singleton _ _
  | a :: b :: r, h => by
    simp only [List.map_cons, up, Bool.and_eq_true, decide_eq_true_eq] at h
    have ih := up_lt (l := b :: r) (by simpa using h.2)
    refine List.pairwise_cons.mpr ⟨fun c hc => ?_, ih⟩
    rcases List.mem_cons.mp hc with rfl | hc
    · exact h.1
    · exact lt_trans' h.1 ((List.pairwise_cons.mp ih).1 c hc)
theorem up_nodup {l : List Str} (h : up (l.map .str) = true) : l.Nodup := (up_lt h).imp fun {a b} q e => by subst e; exact List.lt_irrefl _ q
/-- how many children a label has, none if there is no such -/
def manyOf (xs : List PyData) : PyData → PyData
  | .str z => (((xs.map kd1).find? fun p => decide (p.1 = .inr z)).map (·.2)).getD .none
  | _ => .none
def labs (xs : List PyData) : List Str := xs.map fun | .tuple [.str l, _] => l | _ => ⟨#[]⟩
theorem labs_is {xs : List PyData} (h : ∀ x ∈ xs, isSign x = true) : xs.map lab = (labs xs).map .str ∧ (xs.map kd1).map (·.1) = (labs xs).map .inr := by
  induction xs with
  | nil => exact ⟨rfl, rfl⟩
  | cons x xs ih =>
    obtain ⟨l, m, rfl, _⟩ := sign_shape (h x List.mem_cons_self)
    have := ih fun y hy => h y (List.mem_cons_of_mem _ hy)
    exact ⟨by simp [labs, lab] at *; exact this.1, by simp [labs, kd1] at *; exact this.2⟩
theorem isSigns_parts {xs : List PyData} (h : isSigns (.tuple xs) = true) : 1 ≤ xs.length ∧ xs.length ≤ 8 ∧ (∀ x ∈ xs, isSign x = true) ∧ up (xs.map lab) = true := by
  simp only [isSigns, Bool.and_eq_true, decide_eq_true_eq, List.all_eq_true] at h
  exact ⟨h.1.1.1.1, h.1.1.1.2, h.1.1.2, h.1.2⟩
theorem find_map {α β : Type} (f : α → β) (p : β → Bool) (l : List α) : (l.map f).find? p = (l.find? fun a => p (f a)).map f := by
  induction l with
  | nil => rfl
  | cons a l ih =>
    simp only [List.map_cons, List.find?_cons]
    cases p (f a) <;> simp [ih]
theorem many_cases {xs : List PyData} (h : ∀ x ∈ xs, isSign x = true) (l : PyData) : manyOf xs l = .none ∨ ∃ m, manyOf xs l = .int m ∧ 0 ≤ m ∧ m ≤ 2 := by
  cases l with
  | str z =>
    cases e : (xs.map kd1).find? fun p => decide (p.1 = .inr z) with
    | none => exact .inl (by show (((xs.map kd1).find? fun p => decide (p.1 = .inr z)).map (·.2)).getD .none = _; rw [e]; rfl)
    | some p =>
      right
      obtain ⟨x, hx, rfl⟩ := List.mem_map.mp (List.mem_of_find?_eq_some e)
      obtain ⟨l, m, rfl, _, h1, h2⟩ := sign_shape (h x hx)
      exact ⟨m, by show (((xs.map kd1).find? fun p => decide (p.1 = .inr z)).map (·.2)).getD .none = _; rw [e]; rfl, h1, h2⟩
  | _ => exact .inl rfl
theorem f_many_of {xs : List PyData} (h : isSigns (.tuple xs) = true) (l : PyData) (hl : oddD l = false) : F_many_of ad [.d (.tuple xs), .d l] [] = .ok (.d (manyOf xs l)) [] := by
  obtain ⟨h1, h2, h3, h4⟩ := isSigns_parts h
  have ek := kdOf_signs h3
  have hp : pairy xs = true := by
    have : ∀ d ∈ xs, (match d with | .tuple [_, _] => true | _ => false) = true := fun d hd => by
      obtain ⟨l, m, rfl, _⟩ := sign_shape (h3 d hd)
      rfl
    cases xs with
    | nil => simp at h1
    | cons x xs => exact List.all_eq_true.mpr this
  have nd : (xs.map kd1).map (·.1) |>.Nodup := by
    obtain ⟨a, b⟩ := labs_is h3
    rw [b]
    rw [a] at h4
    exact List.pairwise_map.mpr ((up_nodup h4).imp fun {a b} q e => q (Sum.inr.inj e))
  have em : mergeD [] (xs.map kd1) = xs.map kd1 := merge_nodup (by simpa using nd)
  have ed : opDict [.tuple xs] = some (.o (.dk (xs.map kd1))) := by
    show (if pairy xs = true then (kdOf xs).map (fun kds => SV.o (.dk (mergeD [] kds))) else none) = _
    rw [if_pos hp, ek, Option.map_some, em]
  cases l with
  | str z =>
    have e1 : ∃ p r, xs.map kd1 = p :: r := by
      cases xs with
      | nil => simp at h1
      | cons x xs => exact ⟨_, _, rfl⟩
    obtain ⟨p, r, e1⟩ := e1
    have eo : odd ((xs.map kd1).map fun p => (keyD p.1, p.2)) = false := by
      rw [e1]
      obtain ⟨k, v⟩ := p
      cases k <;> rfl
    have ef : dFind ((xs.map kd1).map fun p => (keyD p.1, p.2)) (.str z) = some (((xs.map kd1).find? fun p => decide (p.1 = .inr z)).map (·.2)) := by
      have : ∀ l : List (L2.Key × PyData), ((l.map fun p => (keyD p.1, p.2)).find? fun q => kEq q.1 (.str z)).map (·.2) = (l.find? fun p => decide (p.1 = .inr z)).map (·.2) := fun l => by
        rw [find_map]
        have : (fun a : L2.Key × PyData => kEq (keyD a.1) (.str z)) = fun p => decide (p.1 = .inr z) := by
          funext a
          exact kEq_keyD a.1 (.inr z)
        simp only [this, Option.map_map]
        rfl
      rw [← this, e1]
      show (if ((keyOf (keyD p.1)).isSome && _) = true then _ else _) = _
      obtain ⟨k, v⟩ := p
      cases k <;> rfl
    have em2 : manyOf xs (.str z) = (((xs.map kd1).find? fun p => decide (p.1 = .inr z)).map (·.2)).getD .none := rfl
    generalize xs.map kd1 = kv at *
    rw [em2]
    simp [F_many_of, fnS, B_many_of, f_is_string (.str z) [] rfl, isStr, eGet, ed, eo, ef]
  | _ => simp [F_many_of, fnS, B_many_of, f_is_string _ [] hl, isStr, manyOf]
/-! ### rules -/
def ruleForm : PyData → Bool | .tuple [k, l, ks] => isName k && isStr l && tupAll isName ks | _ => false
theorem f_is_rule_form {n : Nat} (hne : ad.is_integer ≠ ad.is_name) (x : PyData) (h : List PO) (hx : gd n x = true) : F_is_rule_form ad [.d x] h = .ok (.d (.bool (ruleForm x))) h := by
  have ho := gd_odd hx
  cases hq : tupN x 3 with
  | false =>
    have : ruleForm x = false := by
      cases x with
      | tuple xs =>
        match xs with
        | [a, b, c] => simp [tupN] at hq
        | [] => rfl
        | [_] => rfl
        | [_, _] => rfl
        | _ :: _ :: _ :: _ :: _ => rfl
      | _ => rfl
    simp [F_is_rule_form, fnS, B_is_rule_form, f_is_tuple_of x 3 [] ho, hq, this]
  | true =>
    cases x with
    | tuple xs =>
      match xs with
      | [] => simp [tupN] at hq
      | [_] => simp [tupN] at hq
      | [_, _] => simp [tupN] at hq
      | _ :: _ :: _ :: _ :: _ => simp [tupN] at hq; omega
      | [a, b, c] =>
        cases n with
        | zero => simp [gd] at hx
        | succ n =>
          have ha := (gd_tup.mp hx).2 a (by simp)
          have hb := (gd_tup.mp hx).2 b (by simp)
          have hc := (gd_tup.mp hx).2 c (by simp)
          simp [F_is_rule_form, fnS, B_is_rule_form, f_is_tuple_of (.tuple [a, b, c]) 3 [] ho, hq, f_is_name a [] ha, f_is_string b [] (gd_odd hb), f_are_names hne c [] hc, ruleForm]
          cases isName a <;> simp
          cases isStr b <;> simp
    | _ => simp [tupN] at hq
/-- the fault of a rule behind others -/
def ruleFault (xs pre : List PyData) (r : PyData) : PyData := if ruleForm r = true then (match r with
  | .tuple [_, l, .tuple ks] => (match manyOf xs l with
    | .int m => if m = ks.length then (if (pre.any fun z => PyData.eqv z r) = true then .str "twice" else .none) else .str "many"
    | _ => .str "label")
  | _ => .none) else .str "form"
theorem ruleForm_shape {r : PyData} (h : ruleForm r = true) : ∃ (k l : Str) (ks : List Str), r = .tuple [.str k, .str l, .tuple (ks.map .str)] ∧ nameOk k = true ∧ ∀ z ∈ ks, nameOk z = true := by
  unfold ruleForm at h
  split at h
  · rename_i a b c
    simp only [Bool.and_eq_true] at h
    cases a with
    | str k =>
      cases b with
      | str l =>
        cases c with
        | tuple ks =>
          have hk : ∀ x ∈ ks, isName x = true := by simpa [tupAll] using h.2
          refine ⟨k, l, ks.map fun | .str z => z | _ => ⟨#[]⟩, ?_, h.1.1, fun z hz => ?_⟩
          · have : ks = (ks.map fun | .str z => z | _ => ⟨#[]⟩).map PyData.str := by
              rw [List.map_map]
              refine (List.map_id _).symm.trans (List.map_congr_left fun x hx => ?_)
              have := hk x hx
              cases x <;> simp_all [isName]
            rw [← this]
          · obtain ⟨x, hx, rfl⟩ := List.mem_map.mp hz
            have := hk x hx
            cases x <;> simp_all [isName]
        | _ => simp [tupAll] at h
      | _ => simp [isStr] at h
    | _ => simp [isName] at h
  · cases h
theorem cutN (xs : List PyData) (i : Nat) (h : i ≤ xs.length) : Z.cutD xs none (some (i : Int)) = xs.take i := by
  unfold Z.cutD
  rw [HT.sIx_none, show HT.sIx xs.length xs.length (some (i : Int)) = min i xs.length from HT.sIx_nat _ _ _, Nat.min_eq_left h]
  simp
theorem f_rule_fault {n : Nat} (hne : ad.is_integer ≠ ad.is_name) {xs rs : List PyData} (hs : isSigns (.tuple xs) = true) (hr : gd n (.tuple rs) = true) (hn : n ≤ 60) {i : Nat} {r : PyData} (hi : rs[i]? = some r) :
    F_rule_fault ad [.d (.tuple xs), .d (.tuple rs), .d (.int i)] [] = .ok (.d (ruleFault xs (rs.take i) r)) [] := by
  have hil : i < rs.length := (List.getElem?_eq_some_iff.mp hi).1
  have hgr : gd n r = true := by
    cases n with
    | zero => simp [gd] at hr
    | succ n => exact gd_succ ((gd_tup.mp hr).2 r (List.mem_of_getElem? hi))
  have hgp : gd n (.tuple (rs.take i)) = true := by
    cases n with
    | zero => simp [gd] at hr
    | succ n =>
      have := gd_tup.mp hr
      exact gd_tup.mpr ⟨by rw [List.length_take]; omega, fun y hy => this.2 y (List.mem_of_mem_take hy)⟩
  cases hf : ruleForm r with
  | false => simp [F_rule_fault, fnS, B_rule_fault, hi, f_is_rule_form hne r [] hgr, hf, ruleFault]
  | true =>
    obtain ⟨k, l, ks, rfl, _⟩ := ruleForm_shape hf
    have em := f_many_of (ad := ad) hs (.str l) rfl
    have e1 : opIn (.tuple [.str k, .str l, .tuple (ks.map .str)]) (.tuple (rs.take i)) = some (.d (.bool ((rs.take i).any fun z => PyData.eqv z (.tuple [.str k, .str l, .tuple (ks.map .str)])))) := by
      show (if (SeqAt.shaped _ && SeqAt.shaped _) = true then _ else _) = _
      rw [gd_shaped hgr, gd_shaped hgp]
      simp
    rcases many_cases (isSigns_parts hs).2.2.1 (.str l) with e2 | ⟨m, e2, _⟩
    · simp [F_rule_fault, fnS, B_rule_fault, hi, f_is_rule_form hne _ [] hgr, hf, ruleFault, em, e2, isNone]
    · by_cases hm : m = (ks.length : Int)
      · subst hm
        have e3 : ruleFault xs (rs.take i) (.tuple [.str k, .str l, .tuple (ks.map .str)]) = if ((rs.take i).any fun z => PyData.eqv z (.tuple [.str k, .str l, .tuple (ks.map .str)])) = true then .str "twice" else .none := by
          unfold ruleFault
          rw [if_pos hf]
          simp only [e2]
          rw [if_pos (by simp)]
        rw [e3]
        generalize ((rs.take i).any fun z => PyData.eqv z (.tuple [.str k, .str l, .tuple (ks.map .str)])) = b at e1
        cases b <;> simp [F_rule_fault, fnS, B_rule_fault, hi, f_is_rule_form hne _ [] hgr, hf, em, e2, isNone, cutN rs i (Nat.le_of_lt hil), e1]
      · simp [F_rule_fault, fnS, B_rule_fault, hi, f_is_rule_form hne _ [] hgr, hf, ruleFault, em, e2, isNone, hm]
end K05

set_option maxRecDepth 100000
set_option maxHeartbeats 1000000
namespace K05
open PySem PySem.Spec PyProof.Rows L2 Z
variable {ad : Ad}
def rk : PyData → PyData | .tuple [k, _, _] => k | _ => .none
def rks : PyData → List PyData | .tuple [_, _, .tuple ks] => ks | _ => []
def kindsL (ts rs : List PyData) : List PyData := (ts ++ rs.map rk) ++ rs.flatMap rks
theorem rule_lens {n : Nat} {r : PyData} (hr : gd n r = true) (hf : ruleForm r = true) : (rks r).length ≤ 1000 := by
  obtain ⟨k, l, ks, rfl, _⟩ := ruleForm_shape hf
  cases n with
  | zero => simp [gd] at hr
  | succ n =>
    have := (gd_tup.mp hr).2 (.tuple (ks.map .str)) (by simp)
    cases n with
    | zero => simp [gd] at this
    | succ n => exact (gd_tup.mp this).1
theorem flat_len {α β : Type} {f : α → List β} {k : Nat} : ∀ {l : List α}, (∀ a ∈ l, (f a).length ≤ k) → (l.flatMap f).length ≤ l.length * k
  | [], _ => by simp
  | a :: l, h => by
    have := flat_len (l := l) fun b hb => h b (List.mem_cons_of_mem _ hb)
    have := h a List.mem_cons_self
    simp only [List.flatMap_cons, List.length_append, List.length_cons, Nat.succ_mul]
    omega
theorem kinds_str {ts rs : List PyData} (ht : ∀ x ∈ ts, isStr x = true) (hr : ∀ r ∈ rs, ruleForm r = true) : ∀ x ∈ kindsL ts rs, isS x = true := by
  have up : ∀ x, isStr x = true → isS x = true := fun x h => by cases x <;> simp_all [isStr, isS]
  intro x hx
  rcases List.mem_append.mp hx with hx | hx
  · rcases List.mem_append.mp hx with hx | hx
    · exact up x (ht x hx)
    · obtain ⟨r, hr', rfl⟩ := List.mem_map.mp hx
      obtain ⟨k, l, ks, rfl, _⟩ := ruleForm_shape (hr r hr')
      rfl
  · obtain ⟨r, hr', hx⟩ := List.mem_flatMap.mp hx
    obtain ⟨k, l, ks, rfl, _⟩ := ruleForm_shape (hr r hr')
    obtain ⟨z, _, rfl⟩ := List.mem_map.mp hx
    rfl
theorem f_kinds_among {n : Nat} {ts rs : List PyData} (ht : ∀ x ∈ ts, isStr x = true) (htl : ts.length ≤ 1000) (hg : ∀ r ∈ rs, gd n r = true) (hr : ∀ r ∈ rs, ruleForm r = true) (hl : rs.length ≤ 100) (hk : ∀ r ∈ rs, (rks r).length ≤ 10) :
    F_kinds_among ad [.d (.tuple ts), .d (.tuple rs)] [] = .ok (.d (.tuple ((upS (strsOf (kindsL ts rs))).map .str))) [] := by
  have ec : compL [4, 5, 6] (tgT [tgN 4, tgN 5, tgN 6]) tYesZ (eV 4) rs [] ⟨[some (.d (.tuple ts)), some (.d (.tuple rs)), none, none, none, none, none], []⟩ = .ok (.o (.lst (rs.map rk))) ⟨[some (.d (.tuple ts)), some (.d (.tuple rs)), none, none, none, none, none], []⟩ := by
    rw [compL_map (F := rk)]
    · rfl
    · intro x hx
      obtain ⟨k, l, ks, rfl, _⟩ := ruleForm_shape (hr x hx)
      exact ⟨_, _, _, rfl, rfl, rfl, rfl⟩
    · simp only [List.length_nil]; omega
  have hfl : (rs.flatMap rks).length ≤ 1000 := by
    have := flat_len (f := rks) (k := 10) (l := rs) hk
    omega
  have ec2 := comp2_run (k := 0) (vs := [4, 5, 6, 3]) (vs1 := [3]) (g := tgT [tgN 4, tgN 5, tgN 6]) (g1 := tgN 3) (it1 := iOf anyOf (eV 6)) (f := eV 3) (sl := [some (.d (.tuple ts)), some (.d (.tuple rs)), some (.o (.lst (ts ++ rs.map rk))), none, none, none, none]) (h := []) (F := id) (G := rks) rfl (xs := rs) (acc := []) (fun x hx => by
    obtain ⟨k, l, ks, rfl, _⟩ := ruleForm_shape (hr x hx)
    refine ⟨_, _, _, fun H => rfl, fun H => rfl, rfl, rfl, fun y hy H => ?_⟩
    exact ⟨_, _, _, rfl, rfl, rfl, rfl⟩) (by simp only [List.length_nil]; omega)
  simp only [List.nil_append, List.map_id] at ec2
  have ef := comp2F_ok [some (.d (.tuple ts)), some (.d (.tuple rs)), some (.o (.lst (ts ++ rs.map rk))), none, none, none, none] [] (rs.flatMap rks) rfl
  simp only [List.nil_append, List.length_nil] at ef
  have e1 : opSortSet (.list (ts ++ rs.map rk ++ rs.flatMap rks)) = some (.o (.lst ((upS (strsOf (kindsL ts rs))).map .str))) := opSortSet_ok (kinds_str ht hr) (by simp only [List.length_append, List.length_map]; omega)
  have f1 : fits (ts.length + rs.length) = true := fits_of (by omega)
  have f2 : fits (ts.length + rs.length + (rs.flatMap rks).length) = true := fits_of (by omega)
  simp at e1 ec2 ef f2
  simp [F_kinds_among, fnS, B_kinds_among, ec, ec2, ef, f1, f2, e1]
end K05

set_option maxRecDepth 100000
set_option maxHeartbeats 1000000
namespace K05
open PySem PySem.Spec PyProof.Rows L2 Z
variable {ad : Ad}
theorem ruleFault_kind (xs pre : List PyData) (r : PyData) : ruleFault xs pre r = .none ∨ ∃ z, ruleFault xs pre r = .str z := by
  unfold ruleFault
  repeat' split
  all_goals first | exact .inl rfl | exact .inr ⟨_, rfl⟩
theorem ruleFault_none {xs pre : List PyData} {r : PyData} (h3 : ∀ x ∈ xs, isSign x = true) (h : ruleFault xs pre r = .none) : ruleForm r = true ∧ (rks r).length ≤ 10 := by
  unfold ruleFault at h
  split at h
  · rename_i hf
    refine ⟨hf, ?_⟩
    obtain ⟨k, l, ks, rfl, _⟩ := ruleForm_shape hf
    simp only at h
    rcases many_cases h3 (.str l) with e | ⟨m, e, h0, h2⟩
    · rw [e] at h; cases h
    · rw [e] at h
      simp only at h
      split at h
      · rename_i hm
        show (ks.map PyData.str).length ≤ 10
        omega
      · cases h
  · cases h
theorem rules_loop {n : Nat} (hne : ad.is_integer ≠ ad.is_name) {xs rs : List PyData} {tp : PyData} (hs : isSigns (.tuple xs) = true) (hr : gd n (.tuple rs) = true) (hn : n ≤ 60) : ∀ (k i : Nat) (a b : Option SV), i + k = rs.length →
    (∃ j r f s, rs[j]? = some r ∧ ruleFault xs (rs.take j) r = .str f ∧ forL (tgN 3) (sSeq (sSet 4 (ePure (F_rule_fault ad) [(pV 0), (pV 2), (pV 3)]))
      (sIf (tOf (eBin opIsNot (pV 4) (pE (eC .none))))
      (sRet (eTup [(eTup [(eC (.str "rules")), (eV 3)]), (eV 4)]))
      sNil)) (nums i k) ⟨[some (.d (.tuple xs)), some (.d tp), some (.d (.tuple rs)), a, b], []⟩ = .rt (.d (.tuple [.tuple [.str "rules", .int (j : Nat)], .str f])) ⟨s, []⟩) ∨
    ((∀ j r, i ≤ j → rs[j]? = some r → ruleFault xs (rs.take j) r = .none) ∧ ∃ a' b', forL (tgN 3) (sSeq (sSet 4 (ePure (F_rule_fault ad) [(pV 0), (pV 2), (pV 3)]))
      (sIf (tOf (eBin opIsNot (pV 4) (pE (eC .none))))
      (sRet (eTup [(eTup [(eC (.str "rules")), (eV 3)]), (eV 4)]))
      sNil)) (nums i k) ⟨[some (.d (.tuple xs)), some (.d tp), some (.d (.tuple rs)), a, b], []⟩ = .nx ⟨[some (.d (.tuple xs)), some (.d tp), some (.d (.tuple rs)), a', b'], []⟩)
  | 0, i, a, b, h => by
    right
    refine ⟨fun j r hj e => ?_, a, b, by simp [forL]⟩
    have := (List.getElem?_eq_some_iff.mp e).1
    omega
  | k + 1, i, a, b, h => by
    have hi : i < rs.length := by omega
    have e0 : rs[i]? = some rs[i] := List.getElem?_eq_getElem hi
    have ef := f_rule_fault (ad := ad) hne hs hr hn e0
    have ih := rules_loop (tp := tp) hne hs hr hn k (i + 1) (some (.d (.int (i : Nat)))) (some (.d .none)) (by omega)
    rw [nums_succ]
    rcases ruleFault_kind xs (rs.take i) rs[i] with e | ⟨z, e⟩
    · rw [e] at ef
      have st : ∀ g, forL (tgN 3) (sSeq (sSet 4 (ePure (F_rule_fault ad) [(pV 0), (pV 2), (pV 3)]))
          (sIf (tOf (eBin opIsNot (pV 4) (pE (eC .none))))
          (sRet (eTup [(eTup [(eC (.str "rules")), (eV 3)]), (eV 4)]))
          sNil)) (.int (i : Nat) :: g) ⟨[some (.d (.tuple xs)), some (.d tp), some (.d (.tuple rs)), a, b], []⟩ = forL (tgN 3) (sSeq (sSet 4 (ePure (F_rule_fault ad) [(pV 0), (pV 2), (pV 3)]))
          (sIf (tOf (eBin opIsNot (pV 4) (pE (eC .none))))
          (sRet (eTup [(eTup [(eC (.str "rules")), (eV 3)]), (eV 4)]))
          sNil)) g ⟨[some (.d (.tuple xs)), some (.d tp), some (.d (.tuple rs)), some (.d (.int (i : Nat))), some (.d .none)], []⟩ := fun g => by
        conv => lhs; unfold forL
        simp [ef, isNone]
      rw [st]
      rcases ih with ih | ⟨h1, h2⟩
      · exact .inl ih
      · refine .inr ⟨fun j r hj er => ?_, h2⟩
        by_cases q : j = i
        · subst q
          rw [e0] at er
          cases er
          exact e
        · exact h1 j r (by omega) er
    · left
      rw [e] at ef
      refine ⟨i, rs[i], z, [some (.d (.tuple xs)), some (.d tp), some (.d (.tuple rs)), some (.d (.int (i : Nat))), some (.d (.str z))], e0, e, ?_⟩
      unfold forL
      simp [ef, isNone]
/-- the fault of rules: told, or none -/
def FaultOr (r : PyData) : Prop := r = .none ∨ ∃ a i f, r = .tuple [.tuple [.str a, .int i], .str f]
theorem f_rules_fault {n : Nat} (hne : ad.is_integer ≠ ad.is_name) {xs ts : List PyData} {x : PyData} (hs : isSigns (.tuple xs) = true) (ht : ∀ x ∈ ts, isStr x = true) (htl : ts.length ≤ 1000) (hx : gd n x = true) (hn : n ≤ 60) :
    ∃ r, F_rules_fault ad [.d (.tuple xs), .d (.tuple ts), .d x] [] = .ok (.d r) [] ∧ FaultOr r ∧ (r = .none → ∃ rs, x = .tuple rs ∧ 1 ≤ rs.length ∧ rs.length ≤ 24) ∧
      (∀ rs, x = .tuple rs → 1 ≤ rs.length → rs.length ≤ 24 → (∀ i r, rs[i]? = some r → ruleFault xs (rs.take i) r = .none) → (upS (strsOf (kindsL ts rs))).length ≤ 8 → r = .none) := by
  have ho := gd_odd hx
  cases x with
  | tuple rs =>
    by_cases a : (1 : Int) ≤ rs.length
    · by_cases b : (rs.length : Int) ≤ 24
      · have sm : small62 (rs.length : Int) = true := small62_nat (by omega)
        have lp := rules_loop (ad := ad) (tp := .tuple ts) hne hs hx hn rs.length 0 none none (by omega)
        rcases lp with ⟨j, r, f, s, er, ef, lp⟩ | ⟨h1, a', b', lp⟩
        · refine ⟨.tuple [.tuple [.str "rules", .int (j : Nat)], .str f], ?_, .inr ⟨_, _, _, rfl⟩, fun e => by (cases e), fun rs' e _ _ h _ => ?_⟩
          · simp [F_rules_fault, fnS, B_rules_fault, ho, isaAny, isa, isaN, tyN, a, b, sm, rangeD_nat, lp]
          · cases e
            rw [h j r er] at ef
            cases ef
        · have hg : ∀ r ∈ rs, gd n r = true := fun r hr => by
            cases n with
            | zero => simp [gd] at hx
            | succ n => exact gd_succ ((gd_tup.mp hx).2 r hr)
          have hall : ∀ r ∈ rs, ruleForm r = true ∧ (rks r).length ≤ 10 := fun r hr => by
            obtain ⟨i, hi⟩ := List.getElem?_of_mem hr
            exact ruleFault_none (isSigns_parts hs).2.2.1 (h1 i r (Nat.zero_le _) hi)
          have ek := f_kinds_among (ad := ad) (ts := ts) (rs := rs) ht htl hg (fun r h => (hall r h).1) (by omega) fun r h => (hall r h).2
          by_cases c : (upS (strsOf (kindsL ts rs))).length ≤ 8
          · have c' : ¬ (8 : Int) < ((upS (strsOf (kindsL ts rs))).length : Int) := by omega
            refine ⟨.none, ?_, .inl rfl, fun _ => ⟨rs, rfl, by omega, by omega⟩, fun _ _ _ _ _ _ => rfl⟩
            simp [F_rules_fault, fnS, B_rules_fault, ho, isaAny, isa, isaN, tyN, a, b, sm, rangeD_nat, lp, ek, c']
          · have c' : (8 : Int) < ((upS (strsOf (kindsL ts rs))).length : Int) := by omega
            refine ⟨.tuple [.tuple [.str "rules", .int (-1)], .str "kinds"], ?_, .inr ⟨_, _, _, rfl⟩, fun e => by (cases e), fun rs' e _ _ _ h => by cases e; exact absurd h c⟩
            simp [F_rules_fault, fnS, B_rules_fault, ho, isaAny, isa, isaN, tyN, a, b, sm, rangeD_nat, lp, ek, c']
      · refine ⟨.tuple [.tuple [.str "rules", .int (-1)], .str "form"], ?_, .inr ⟨_, _, _, rfl⟩, fun e => by (cases e), fun rs' e _ h _ _ => by cases e; omega⟩
        simp [F_rules_fault, fnS, B_rules_fault, ho, isaAny, isa, isaN, tyN, a, b]
    · have a' : rs.length = 0 := by omega
      refine ⟨.tuple [.tuple [.str "rules", .int (-1)], .str "form"], ?_, .inr ⟨_, _, _, rfl⟩, fun e => by (cases e), fun rs' e h _ _ _ => by cases e; omega⟩
      simp [F_rules_fault, fnS, B_rules_fault, ho, isaAny, isa, isaN, tyN, a']
  | _ =>
    refine ⟨.tuple [.tuple [.str "rules", .int (-1)], .str "form"], ?_, .inr ⟨_, _, _, rfl⟩, fun e => by (cases e), fun rs' e => by (cases e)⟩
    simp [F_rules_fault, fnS, B_rules_fault, ho, isaAny, isa, isaN, tyN]
end K05

set_option maxRecDepth 100000
set_option maxHeartbeats 1000000
namespace K05
open PySem PySem.Spec PyProof.Rows L2 Z
variable {ad : Ad}
structure FineB (nm : PyData) (xs ts rs : List PyData) : Prop where
  name : isName nm = true
  signs : isSigns (.tuple xs) = true
  tops : ts.all isName = true
  rise : up ts = true
  t1 : 1 ≤ ts.length
  t6 : ts.length ≤ 6
  r1 : 1 ≤ rs.length
  r24 : rs.length ≤ 24
  rules : ∀ i r, rs[i]? = some r → ruleFault xs (rs.take i) r = .none
  kinds : (upS (strsOf (kindsL ts rs))).length ≤ 8
theorem f_book_fault {n : Nat} (hne : ad.is_integer ≠ ad.is_name) (x : PyData) (hx : gd n x = true) (hn : n ≤ 60) :
    ∃ r, F_book_fault ad [.d x] [] = .ok (.d r) [] ∧ FaultOr r ∧ (r = .none → ∃ nm sg ts rs, x = .tuple [nm, sg, ts, .tuple rs] ∧ 1 ≤ rs.length ∧ rs.length ≤ 24) ∧
      (∀ nm xs ts rs, x = .tuple [nm, .tuple xs, .tuple ts, .tuple rs] → FineB nm xs ts rs → r = .none) := by
  have ho := gd_odd hx
  cases hq : tupN x 4 with
  | false =>
    refine ⟨.tuple [.tuple [.str "book", .int (-1)], .str "form"], ?_, .inr ⟨_, _, _, rfl⟩, fun e => by (cases e), fun nm xs ts rs e => by subst e; simp [tupN] at hq⟩
    simp [F_book_fault, fnS, B_book_fault, f_is_tuple_of x 4 [] ho, hq]
  | true =>
    obtain ⟨a, b, c, d, rfl⟩ : ∃ a b c d, x = .tuple [a, b, c, d] := by
      cases x with
      | tuple ys =>
        match ys with
        | [a, b, c, d] => exact ⟨a, b, c, d, rfl⟩
        | [] => simp [tupN] at hq
        | [_] => simp [tupN] at hq
        | [_, _] => simp [tupN] at hq
        | [_, _, _] => simp [tupN] at hq
        | _ :: _ :: _ :: _ :: _ :: _ => simp [tupN] at hq; omega
      | _ => simp [tupN] at hq
    have hparts : gd n a = true ∧ gd n b = true ∧ gd n c = true ∧ gd n d = true := by
      cases n with
      | zero => simp [gd] at hx
      | succ n =>
        have := (gd_tup.mp hx).2
        exact ⟨gd_succ (this a (by simp)), gd_succ (this b (by simp)), gd_succ (this c (by simp)), gd_succ (this d (by simp))⟩
    obtain ⟨ga, gb, gc, gdd⟩ := hparts
    have e1 := f_is_tuple_of (ad := ad) (.tuple [a, b, c, d]) 4 [] ho
    rw [hq] at e1
    have e2 := f_is_name (ad := ad) a [] ga
    have e3 := f_is_signs (ad := ad) b [] gb hn
    have e4 := f_are_names (ad := ad) hne c [] gc
    cases ha : isName a with
    | false =>
      rw [ha] at e2
      refine ⟨.tuple [.tuple [.str "name", .int (-1)], .str "form"], ?_, .inr ⟨_, _, _, rfl⟩, fun e => by (cases e), fun nm xs ts rs e f => ?_⟩
      · simp [F_book_fault, fnS, B_book_fault, e1, e2]
      · cases e
        rw [f.name] at ha
        cases ha
    | true =>
    rw [ha] at e2
    cases hb : isSigns b with
    | false =>
      rw [hb] at e3
      refine ⟨.tuple [.tuple [.str "signs", .int (-1)], .str "form"], ?_, .inr ⟨_, _, _, rfl⟩, fun e => by (cases e), fun nm xs ts rs e f => ?_⟩
      · simp [F_book_fault, fnS, B_book_fault, e1, e2, e3]
      · cases e
        rw [f.signs] at hb
        cases hb
    | true =>
    rw [hb] at e3
    cases hc : tupAll isName c with
    | false =>
      rw [hc] at e4
      refine ⟨.tuple [.tuple [.str "tops", .int (-1)], .str "form"], ?_, .inr ⟨_, _, _, rfl⟩, fun e => by (cases e), fun nm xs ts rs e f => ?_⟩
      · simp [F_book_fault, fnS, B_book_fault, e1, e2, e3, e4]
      · cases e
        have := f.tops
        rw [show tupAll isName (.tuple ts) = ts.all isName from rfl, this] at hc
        cases hc
    | true =>
    rw [hc] at e4
    obtain ⟨xs, rfl⟩ : ∃ xs, b = .tuple xs := by cases b <;> first | exact ⟨_, rfl⟩ | simp [isSigns] at hb
    obtain ⟨ts, rfl⟩ : ∃ ts, c = .tuple ts := by cases c <;> first | exact ⟨_, rfl⟩ | simp [tupAll] at hc
    have hc' : ts.all isName = true := hc
    have e5 := f_do_rise (ad := ad) hne ts [] gc hc'
    have hst : ∀ x ∈ ts, isStr x = true := fun x hx => by
      have := List.all_eq_true.mp hc' x hx
      cases x <;> simp_all [isName, isStr]
    have htl : ts.length ≤ 1000 := by
      cases n with
      | zero => simp [gd] at gc
      | succ n => exact (gd_tup.mp gc).1
    cases hu : up ts with
    | false =>
      rw [hu] at e5
      refine ⟨.tuple [.tuple [.str "tops", .int (-1)], .str "form"], ?_, .inr ⟨_, _, _, rfl⟩, fun e => by (cases e), fun nm xs ts rs e f => ?_⟩
      · simp [F_book_fault, fnS, B_book_fault, e1, e2, e3, e4, e5]
      · cases e
        rw [f.rise] at hu
        cases hu
    | true =>
    rw [hu] at e5
    by_cases l1 : (1 : Int) ≤ ts.length
    · by_cases l2 : (ts.length : Int) ≤ 6
      · obtain ⟨r, er, fo, h1, h2⟩ := f_rules_fault (ad := ad) (x := d) hne hb hst htl gdd hn
        refine ⟨r, ?_, fo, fun e => ?_, fun nm xs ts rs e f => ?_⟩
        · simp [F_book_fault, fnS, B_book_fault, e1, e2, e3, e4, e5, l1, l2, er]
        · obtain ⟨rs, rfl, q⟩ := h1 e
          exact ⟨_, _, _, rs, rfl, q⟩
        · cases e
          exact h2 rs rfl f.r1 f.r24 f.rules f.kinds
      · refine ⟨.tuple [.tuple [.str "tops", .int (-1)], .str "form"], ?_, .inr ⟨_, _, _, rfl⟩, fun e => by (cases e), fun nm xs ts rs e f => ?_⟩
        · simp [F_book_fault, fnS, B_book_fault, e1, e2, e3, e4, e5, l1, l2]
        · cases e
          have := f.t6
          omega
    · refine ⟨.tuple [.tuple [.str "tops", .int (-1)], .str "form"], ?_, .inr ⟨_, _, _, rfl⟩, fun e => by (cases e), fun nm xs ts rs e f => ?_⟩
      · have l0 : ts.length = 0 := by omega
        simp [F_book_fault, fnS, B_book_fault, e1, e2, e3, e4, e5, l0]
      · cases e
        have := f.t1
        omega
/-- the fault of any data -/
noncomputable def bf (ad : Ad) (x : PyData) : PyData := match F_book_fault ad [.d x] [] with | .ok (.d r) _ => r | _ => .none
theorem bf_is {n : Nat} (hne : ad.is_integer ≠ ad.is_name) (x : PyData) (hx : gd n x = true) (hn : n ≤ 60) : F_book_fault ad [.d x] [] = .ok (.d (bf ad x)) [] ∧ FaultOr (bf ad x) ∧ (bf ad x = .none → ∃ nm sg ts rs, x = .tuple [nm, sg, ts, .tuple rs] ∧ 1 ≤ rs.length ∧ rs.length ≤ 24) ∧
      (∀ nm xs ts rs, x = .tuple [nm, .tuple xs, .tuple ts, .tuple rs] → FineB nm xs ts rs → bf ad x = .none) := by
  obtain ⟨r, e, h⟩ := f_book_fault (ad := ad) hne x hx hn
  have : bf ad x = r := by unfold bf; rw [e]
  rw [this]
  exact ⟨e, h⟩
theorem f_is_book {n : Nat} (hne : ad.is_integer ≠ ad.is_name) (x : PyData) (hx : gd n x = true) (hn : n ≤ 60) : F_is_book ad [.d x] [] = .ok (.d (.bool (isNone (bf ad x)))) [] := by
  simp [F_is_book, fnS, B_is_book, (bf_is hne x hx hn).1]
/-- what checked_book does with data -/
theorem f_checked {n : Nat} (hne : ad.is_integer ≠ ad.is_name) (x : PyData) (hx : gd n x = true) (hn : n ≤ 60) :
    (bf ad x = .none → F_checked_book ad [.d x] [] = .ok (.d x) []) ∧ (bf ad x ≠ .none → ∃ p q, F_checked_book ad [.d x] [] = .ex ⟨"BadBook", [("fault", .str q), ("at", p)]⟩ [] ∧ noL p = true) := by
  have e := (bf_is hne x hx hn).1
  refine ⟨fun h => ?_, fun h => ?_⟩
  · rw [h] at e
    simp [F_checked_book, fnS, B_checked_book, e, isNone]
  · rcases (bf_is hne x hx hn).2.1 with z | ⟨a, i, f, z⟩
    · exact absurd z h
    · rw [z] at e
      exact ⟨.tuple [.str a, .int i], f, by simp [F_checked_book, fnS, B_checked_book, e, isNone], rfl⟩
end K05

set_option maxRecDepth 100000
set_option maxHeartbeats 2000000
namespace K05
open PySem PySem.Spec PyProof.Rows L2 Z
variable {ad : Ad}
/-! ### changes -/
theorem cutF (xs : List PyData) (i : Nat) (h : i ≤ xs.length) : Z.cutD xs (some (i : Int)) none = xs.drop i := by
  unfold Z.cutD
  rw [HT.sIx_none, show HT.sIx xs.length 0 (some (i : Int)) = min i xs.length from HT.sIx_nat _ _ _, Nat.min_eq_left h]
  exact List.take_of_length_le (by simp)
theorem cut3 (a b c d : PyData) : Z.cutD [a, b, c, d] none (some 3) = [a, b, c] := cutN [a, b, c, d] 3 (by simp)
theorem cut2 (a b c d : PyData) : Z.cutD [a, b, c, d] none (some 2) = [a, b] := cutN [a, b, c, d] 2 (by simp)
inductive Ch where
  | rule (at_ R : PyData)
  | unrule (at_ : PyData)
  | tops (T : PyData)
  | book (X : PyData)
def Ch.d : Ch → PyData
  | .rule a R => .tuple [.str "rule", a, R]
  | .unrule a => .tuple [.str "unrule", a]
  | .tops T => .tuple [.str "tops", T]
  | .book X => .tuple [.str "book", X]
/-- what comes of a change, none: refused -/
def later (n s t : PyData) (rs : List PyData) : Ch → Option PyData
  | .book X => some X
  | .tops T => some (.tuple [n, s, T, .tuple rs])
  | .rule (.int i) R => if 0 ≤ i ∧ i ≤ rs.length then some (.tuple [n, s, t, .tuple (rs.take i.toNat ++ R :: rs.drop i.toNat)]) else none
  | .unrule (.int i) => if 0 ≤ i ∧ i < rs.length then some (.tuple [n, s, t, .tuple (rs.take i.toNat ++ rs.drop (i.toNat + 1))]) else none
  | _ => none
/-- a place: no list, no tuple, no dict -/
def atom : PyData → Bool | .none => true | .bool _ => true | .int _ => true | .str z => PyData.strOk z | _ => false
def Ch.ok : Ch → Prop
  | .rule a R => atom a = true ∧ gd 2 R = true
  | .unrule a => atom a = true
  | .tops T => gd 3 T = true
  | .book X => gd 4 X = true ∧ isStr X = false
theorem f_with_rules (n s t : PyData) (r r' : PyData) : F_with_rules ad [.d (.tuple [n, s, t, r]), .d r'] [] = .ok (.d (.tuple [n, s, t, r'])) [] := by
  simp [F_with_rules, fnS, B_with_rules, cut3]
theorem f_turned (n s t : PyData) (rs : List PyData) (hl : rs.length ≤ 1000) (c : Ch) (hc : c.ok) :
    F_turned_by ad [.d (.tuple [n, s, t, .tuple rs]), .d c.d] [] = match later n s t rs c with | some y => .ok (.d y) [] | none => .ex ⟨"Refused", [("why", .str "index")]⟩ [] := by
  cases c with
  | book X => simp [F_turned_by, fnS, B_turned_by, Ch.d, later]
  | tops T => simp [F_turned_by, fnS, B_turned_by, Ch.d, later, cut2]
  | rule a R =>
    obtain ⟨h1, h2⟩ := hc
    have ho : oddD a = false := by cases a <;> simp_all [atom, oddD]
    have ew := f_is_within (ad := ad) a 0 rs.length [] ho
    cases a with
    | int i =>
      by_cases q : 0 ≤ i ∧ i ≤ rs.length
      · obtain ⟨k, rfl⟩ := Int.eq_ofNat_of_zero_le q.1
        have hk : k ≤ rs.length := by omega
        have ew : F_is_within ad [.d (.int (k : Int)), .d (.int 0), .d (.int (rs.length : Int))] [] = .ok (.d (.bool true)) [] := by
          rw [ew]; simp [within]; omega
        have f1 : fits (k + (rs.length - k + 1)) = true := fits_of (by omega)
        simp [F_turned_by, fnS, B_turned_by, Ch.d, later, ew, cutN rs k hk, cutF rs k hk, f_with_rules, q, f1, hk]
      · have ew : F_is_within ad [.d (.int i), .d (.int 0), .d (.int (rs.length : Int))] [] = .ok (.d (.bool false)) [] := by
          rw [ew]; simp [within]; omega
        simp [F_turned_by, fnS, B_turned_by, Ch.d, later, ew, q]
    | _ =>
      simp [within] at ew
      simp [F_turned_by, fnS, B_turned_by, Ch.d, later, ew]
  | unrule a =>
    have ho : oddD a = false := by cases a <;> simp_all [atom, oddD, Ch.ok]
    have ew := f_is_within (ad := ad) a 0 ((rs.length : Int) - 1) [] ho
    cases a with
    | int i =>
      by_cases q : 0 ≤ i ∧ i < rs.length
      · obtain ⟨k, rfl⟩ := Int.eq_ofNat_of_zero_le q.1
        have hk : k < rs.length := by omega
        have ew : F_is_within ad [.d (.int (k : Int)), .d (.int 0), .d (.int ((rs.length : Int) - 1))] [] = .ok (.d (.bool true)) [] := by
          rw [ew]; simp [within]; omega
        have f1 : fits (min k rs.length + (rs.length - (k + 1))) = true := fits_of (by omega)
        have f2 : fits (k + (rs.length - (k + 1))) = true := fits_of (by omega)
        have ck : Z.cutD rs (some ((k : Int) + 1)) none = rs.drop (k + 1) := by
          have := cutF rs (k + 1) (by omega)
          rw [← this]
          simp
        have hk' : min k rs.length = k := by omega
        simp [F_turned_by, fnS, B_turned_by, Ch.d, later, ew, cutN rs k (Nat.le_of_lt hk), ck, f_with_rules, q, f1, f2, hk, hk']
      · have ew : F_is_within ad [.d (.int i), .d (.int 0), .d (.int ((rs.length : Int) - 1))] [] = .ok (.d (.bool false)) [] := by
          rw [ew]; simp [within]; omega
        simp [F_turned_by, fnS, B_turned_by, Ch.d, later, ew, q]
    | _ =>
      simp [within] at ew
      simp [F_turned_by, fnS, B_turned_by, Ch.d, later, ew]
theorem f_behind (n s t : PyData) (rs : List PyData) (hl : rs.length ≤ 1000) (c : Ch) (hc : c.ok) :
    F__law_behind ad [.d (.tuple [n, s, t, .tuple rs]), .d c.d] [] = .ok (.d ((later n s t rs c).getD (.str "index"))) [] := by
  cases c with
  | book X => simp [F__law_behind, fnS, B__law_behind, Ch.d, later]
  | tops T => simp [F__law_behind, fnS, B__law_behind, Ch.d, later]
  | rule a R =>
    cases a with
    | int i =>
      by_cases q0 : 0 ≤ i
      · obtain ⟨k, rfl⟩ := Int.eq_ofNat_of_zero_le q0
        by_cases q1 : (k : Int) < (rs.length : Int) + 1
        · have hk : k ≤ rs.length := by omega
          have f1 : fits (k + 1) = true := fits_of (by omega)
          have f2 : fits (k + 1 + (rs.length - k)) = true := fits_of (by omega)
          simp [F__law_behind, fnS, B__law_behind, Ch.d, later, isaAny, isa, isaN, tyN, oddD, q1, cutN rs k hk, cutF rs k hk, hk, f1, f2, opLt]
        · have hk : ¬ k ≤ rs.length := by omega
          simp [F__law_behind, fnS, B__law_behind, Ch.d, later, isaAny, isa, isaN, tyN, oddD, q1, hk, opLt]
      · simp [F__law_behind, fnS, B__law_behind, Ch.d, later, isaAny, isa, isaN, tyN, oddD, q0]
    | list xs => simp [Ch.ok, atom] at hc
    | tuple xs => simp [Ch.ok, atom] at hc
    | dict xs => simp [Ch.ok, atom] at hc
    | _ => simp [F__law_behind, fnS, B__law_behind, Ch.d, later, isaAny, isa, isaN, tyN, oddD]
  | unrule a =>
    cases a with
    | int i =>
      by_cases q0 : 0 ≤ i
      · obtain ⟨k, rfl⟩ := Int.eq_ofNat_of_zero_le q0
        by_cases q1 : (k : Int) < (rs.length : Int)
        · have hk : k < rs.length := by omega
          have ck : Z.cutD rs (some ((k : Int) + 1)) none = rs.drop (k + 1) := by
            have := cutF rs (k + 1) (by omega)
            rw [← this]
            simp
          have hk' : min k rs.length = k := by omega
          have f2 : fits (k + (rs.length - (k + 1))) = true := fits_of (by omega)
          simp [F__law_behind, fnS, B__law_behind, Ch.d, later, isaAny, isa, isaN, tyN, oddD, q1, cutN rs k (Nat.le_of_lt hk), ck, hk, hk', f2, opLt]
        · have hk : ¬ k < rs.length := by omega
          simp [F__law_behind, fnS, B__law_behind, Ch.d, later, isaAny, isa, isaN, tyN, oddD, q1, hk, opLt]
      · simp [F__law_behind, fnS, B__law_behind, Ch.d, later, isaAny, isa, isaN, tyN, oddD, q0]
    | list xs => simp [Ch.ok, atom] at hc
    | tuple xs => simp [Ch.ok, atom] at hc
    | dict xs => simp [Ch.ok, atom] at hc
    | _ => simp [F__law_behind, fnS, B__law_behind, Ch.d, later, isaAny, isa, isaN, tyN, oddD]
end K05

set_option maxRecDepth 100000
set_option maxHeartbeats 2000000
namespace K05
open PySem PySem.Spec PyProof.Rows L2 Z
variable {ad : Ad}
/-- a book's parts, of a bounded kind -/
structure Parts (n s t : PyData) (rs : List PyData) : Prop where
  gn : gd 3 n = true
  gs : gd 3 s = true
  gt : gd 3 t = true
  gr : ∀ r ∈ rs, gd 2 r = true
  len : rs.length ≤ 100
theorem Parts.gd {n s t : PyData} {rs : List PyData} (p : Parts n s t rs) : gd 4 (.tuple [n, s, t, .tuple rs]) = true := by
  refine gd_tup.mpr ⟨by simp, fun x hx => ?_⟩
  simp only [List.mem_cons, List.not_mem_nil, or_false] at hx
  rcases hx with rfl | rfl | rfl | rfl
  · exact p.gn
  · exact p.gs
  · exact p.gt
  · exact gd_tup.mpr ⟨by have := p.len; omega, p.gr⟩
theorem later_gd {n s t : PyData} {rs : List PyData} (p : Parts n s t rs) {c : Ch} (hc : c.ok) {y : PyData} (h : later n s t rs c = some y) : gd 4 y = true ∧ isStr y = false := by
  have build : ∀ (n s t : PyData) (rs : List PyData), gd 3 n = true → gd 3 s = true → gd 3 t = true → (∀ r ∈ rs, gd 2 r = true) → rs.length ≤ 1000 → gd 4 (.tuple [n, s, t, .tuple rs]) = true := fun n s t rs a b c d e => by
    refine gd_tup.mpr ⟨by simp, fun x hx => ?_⟩
    simp only [List.mem_cons, List.not_mem_nil, or_false] at hx
    rcases hx with rfl | rfl | rfl | rfl
    · exact a
    · exact b
    · exact c
    · exact gd_tup.mpr ⟨e, d⟩
  have hl := p.len
  cases c with
  | book X => cases h; exact hc
  | tops T => cases h; exact ⟨build _ _ _ _ p.gn p.gs hc p.gr (by omega), rfl⟩
  | rule a R =>
    cases a with
    | int i =>
      simp only [later] at h
      split at h
      · cases h
        refine ⟨build _ _ _ _ p.gn p.gs p.gt (fun r hr => ?_) (by simp only [List.length_append, List.length_cons, List.length_take, List.length_drop]; omega), rfl⟩
        rcases List.mem_append.mp hr with hr | hr
        · exact p.gr r (List.mem_of_mem_take hr)
        · rcases List.mem_cons.mp hr with rfl | hr
          · exact hc.2
          · exact p.gr r (List.mem_of_mem_drop hr)
      · cases h
    | _ => cases h
  | unrule a =>
    cases a with
    | int i =>
      simp only [later] at h
      split at h
      · cases h
        refine ⟨build _ _ _ _ p.gn p.gs p.gt (fun r hr => ?_) (by simp only [List.length_append, List.length_take, List.length_drop]; omega), rfl⟩
        rcases List.mem_append.mp hr with hr | hr
        · exact p.gr r (List.mem_of_mem_take hr)
        · exact p.gr r (List.mem_of_mem_drop hr)
      · cases h
    | _ => cases h
theorem f_due (hne : ad.is_integer ≠ ad.is_name) {n s t : PyData} {rs : List PyData} (p : Parts n s t rs) {c : Ch} (hc : c.ok) :
    F__law_due ad [.d (.tuple [n, s, t, .tuple rs]), .d c.d] [] = match later n s t rs c with
      | none => .ok (.o (.lst [.str "refused", .str "index"])) []
      | some y => if isNone (bf ad y) = true then .ok (.d y) [] else .ok (.o (.lst [.str "bad"])) [] := by
  have eb := f_behind (ad := ad) n s t rs (by have := p.len; omega) c hc
  cases e : later n s t rs c with
  | none =>
    rw [e] at eb
    simp [F__law_due, fnS, B__law_due, eb]
  | some y =>
    rw [e] at eb
    obtain ⟨g, ns⟩ := later_gd p hc e
    have e1 : opEq y (.str "index") = some (.d (.bool false)) := by
      have : opEq y (.str "index") = if eqOk y (.str "index") = true then some (.d (.bool (PyData.eqv y (.str "index")))) else none := rfl
      rw [this, if_pos]
      · cases y <;> simp_all [isStr, PyData.eqv]
      · have h1 := gd_shaped g
        have h2 : SeqAt.shaped (.str "index") = true := by decide +kernel
        cases y <;> simp_all [eqOk]
    have e2 := f_is_book (ad := ad) hne y g (by decide)
    simp only [Option.getD_some] at eb
    cases q : isNone (bf ad y) <;> rw [q] at e2 <;> simp [F__law_due, fnS, B__law_due, eb, e1, e2, q]
theorem atom_gd {a : PyData} {n : Nat} (h : atom a = true) (hz : ∀ z, a = .str z → z.length ≤ 100) : gd n a = true := by
  cases a with
  | str z => cases n <;> simp_all [atom, gd]
  | list _ => simp [atom] at h
  | tuple _ => simp [atom] at h
  | dict _ => simp [atom] at h
  | _ => cases n <;> rfl
/-- a place is short -/
def short : PyData → Bool | .str z => decide (z.length ≤ 100) | _ => true
structure Ch.Ok (c : Ch) : Prop where
  ok : c.ok
  gd : gd 5 c.d = true
theorem eq_empty {xs : List PyData} (h : gd 5 (.tuple xs) = true) (hx : xs ≠ []) : opEq (.tuple xs) (.tuple []) = some (.d (.bool false)) := by
  have : opEq (.tuple xs) (.tuple []) = if eqOk (.tuple xs) (.tuple []) = true then some (.d (.bool (PyData.eqv (.tuple xs) (.tuple [])))) else none := rfl
  rw [this, if_pos]
  · cases xs with
    | nil => exact absurd rfl hx
    | cons x xs => rfl
  · show (SeqAt.shaped (.tuple xs) && SeqAt.shaped (.tuple [])) = true
    rw [gd_shaped h]
    decide +kernel
theorem kget (z : Str) : opKGet tab_LONG (.str z) = some (.d ((tab_LONG.lookup z).getD .none)) := rfl
theorem f_is_change (c : Ch) (hc : c.Ok) : F_is_change ad [.d c.d] [] = .ok (.d (.bool true)) [] := by
  have hg := hc.gd
  have l1 : tab_LONG.lookup ("rule" : Str) = some (PyData.int 3) := by simp [tab_LONG, List.lookup_cons]
  have l2 : tab_LONG.lookup ("unrule" : Str) = some (PyData.int 2) := by simp [tab_LONG, List.lookup_cons]
  have l3 : tab_LONG.lookup ("tops" : Str) = some (PyData.int 2) := by simp [tab_LONG, List.lookup_cons]
  have l4 : tab_LONG.lookup ("book" : Str) = some (PyData.int 2) := by simp [tab_LONG, List.lookup_cons]
  cases c with
  | rule a R =>
    have e := eq_empty (xs := [.str "rule", a, R]) hg (by simp)
    simp [F_is_change, fnS, B_is_change, Ch.d, isaAny, isa, isaN, tyN, oddD, e, kget, l1]
  | unrule a =>
    have e := eq_empty (xs := [.str "unrule", a]) hg (by simp)
    simp [F_is_change, fnS, B_is_change, Ch.d, isaAny, isa, isaN, tyN, oddD, e, kget, l2]
  | tops a =>
    have e := eq_empty (xs := [.str "tops", a]) hg (by simp)
    simp [F_is_change, fnS, B_is_change, Ch.d, isaAny, isa, isaN, tyN, oddD, e, kget, l3]
  | book a =>
    have e := eq_empty (xs := [.str "book", a]) hg (by simp)
    simp [F_is_change, fnS, B_is_change, Ch.d, isaAny, isa, isaN, tyN, oddD, e, kget, l4]
/-- what a change does -/
theorem f_after (hne : ad.is_integer ≠ ad.is_name) {n s t : PyData} {rs : List PyData} (p : Parts n s t rs) {c : Ch} (hc : c.Ok) :
    (later n s t rs c = none → F_after_change ad [.d (.tuple [n, s, t, .tuple rs]), .d c.d] [] = .ex ⟨"Refused", [("why", .str "index")]⟩ []) ∧
    (∀ y, later n s t rs c = some y → bf ad y = .none → F_after_change ad [.d (.tuple [n, s, t, .tuple rs]), .d c.d] [] = .ok (.d y) []) ∧
    (∀ y, later n s t rs c = some y → bf ad y ≠ .none → ∃ p q, F_after_change ad [.d (.tuple [n, s, t, .tuple rs]), .d c.d] [] = .ex ⟨"BadBook", [("fault", .str q), ("at", p)]⟩ []) := by
  have ec := f_is_change (ad := ad) c hc
  have et := f_turned (ad := ad) n s t rs (by have := p.len; omega) c hc.ok
  refine ⟨fun h => ?_, fun y h hb => ?_, fun y h hb => ?_⟩
  · rw [h] at et
    simp [F_after_change, fnS, B_after_change, ec, et]
  · rw [h] at et
    have ek := (f_checked (ad := ad) hne y (later_gd p hc.ok h).1 (by decide)).1 hb
    simp [F_after_change, fnS, B_after_change, ec, et, ek]
  · rw [h] at et
    obtain ⟨p', q', ek, _⟩ := (f_checked (ad := ad) hne y (later_gd p hc.ok h).1 (by decide)).2 hb
    exact ⟨p', q', by simp [F_after_change, fnS, B_after_change, ec, et, ek]⟩
/-- the way back -/
def backC (n s t : PyData) (rs : List PyData) : Ch → Ch
  | .book _ => .book (.tuple [n, s, t, .tuple rs])
  | .tops _ => .tops t
  | .rule a _ => .unrule a
  | .unrule (.int i) => .rule (.int i) ((rs[i.toNat]?).getD .none)
  | .unrule a => .rule a .none
theorem f_back (n s t : PyData) (rs : List PyData) (c : Ch) (y : PyData) (h : later n s t rs c = some y) : F_back_of ad [.d (.tuple [n, s, t, .tuple rs]), .d c.d] [] = .ok (.d (backC n s t rs c).d) [] := by
  cases c with
  | book X => simp [F_back_of, fnS, B_back_of, Ch.d, backC]
  | tops T => simp [F_back_of, fnS, B_back_of, Ch.d, backC]
  | rule a R => simp [F_back_of, fnS, B_back_of, Ch.d, backC]
  | unrule a =>
    cases a with
    | int i =>
      simp only [later] at h
      split at h
      · rename_i q
        obtain ⟨k, rfl⟩ := Int.eq_ofNat_of_zero_le q.1
        have hk : k < rs.length := by omega
        simp [F_back_of, fnS, B_back_of, Ch.d, backC, hk]
      · cases h
    | _ => cases h
theorem back_later {n s t : PyData} {rs : List PyData} (p : Parts n s t rs) {c : Ch} (hc : c.Ok) {n' s' t' : PyData} {rs' : List PyData} (h : later n s t rs c = some (.tuple [n', s', t', .tuple rs'])) :
    later n' s' t' rs' (backC n s t rs c) = some (.tuple [n, s, t, .tuple rs]) ∧ (backC n s t rs c).Ok := by
  have g5 : ∀ xs : List PyData, xs.length ≤ 10 → (∀ x ∈ xs, gd 4 x = true) → gd 5 (.tuple xs) = true := fun xs hl h => gd_tup.mpr ⟨by omega, h⟩
  have gs : ∀ z : String, (Str.ofString z).length ≤ 100 → PyData.strOk z = true → gd 4 (.str z) = true := fun z h1 h2 => by simp [gd, h1, h2]
  cases c with
  | book X =>
    refine ⟨rfl, ⟨p.gd, rfl⟩, g5 _ (by simp) fun x hx => ?_⟩
    simp only [List.mem_cons, List.not_mem_nil, or_false] at hx
    rcases hx with rfl | rfl
    · exact gs _ (by decide +kernel) (by decide +kernel)
    · exact p.gd
  | tops T =>
    simp only [later, Option.some.injEq, PyData.tuple.injEq, List.cons.injEq, and_true] at h
    obtain ⟨rfl, rfl, rfl, rfl⟩ := h
    refine ⟨rfl, p.gt, g5 _ (by simp) fun x hx => ?_⟩
    simp only [List.mem_cons, List.not_mem_nil, or_false] at hx
    rcases hx with rfl | rfl
    · exact gs _ (by decide +kernel) (by decide +kernel)
    · exact gd_succ p.gt
  | rule a R =>
    cases a with
    | int i =>
      simp only [later] at h
      split at h
      · rename_i q
        simp only [Option.some.injEq, PyData.tuple.injEq, List.cons.injEq, and_true] at h
        obtain ⟨rfl, rfl, rfl, rfl⟩ := h
        obtain ⟨k, rfl⟩ := Int.eq_ofNat_of_zero_le q.1
        have hk : k ≤ rs.length := by omega
        refine ⟨?_, rfl, g5 _ (by simp) fun x hx => ?_⟩
        · simp only [backC, later]
          rw [if_pos ⟨q.1, by simp; omega⟩]
          have e : (rs.take k ++ R :: rs.drop k).take k ++ (rs.take k ++ R :: rs.drop k).drop (k + 1) = rs := by
            have hl : (rs.take k).length = k := by simp; omega
            rw [List.take_append_of_le_length (by omega), List.take_take, Nat.min_self, List.drop_append, hl, List.drop_eq_nil_of_le (by omega)]
            simp
          simp only [Int.toNat_natCast, e]
        · simp only [List.mem_cons, List.not_mem_nil, or_false] at hx
          rcases hx with rfl | rfl
          · exact gs _ (by decide +kernel) (by decide +kernel)
          · rfl
      · cases h
    | _ => cases h
  | unrule a =>
    cases a with
    | int i =>
      simp only [later] at h
      split at h
      · rename_i q
        simp only [Option.some.injEq, PyData.tuple.injEq, List.cons.injEq, and_true] at h
        obtain ⟨rfl, rfl, rfl, rfl⟩ := h
        obtain ⟨k, rfl⟩ := Int.eq_ofNat_of_zero_le q.1
        have hk : k < rs.length := by omega
        have hr : rs[k]? = some rs[k] := List.getElem?_eq_getElem hk
        have hg : gd 2 rs[k] = true := p.gr _ (List.getElem_mem hk)
        refine ⟨?_, ⟨rfl, by simp [hr, hg]⟩, g5 _ (by simp) fun x hx => ?_⟩
        · simp only [backC, later]
          rw [if_pos ⟨q.1, by simp; omega⟩]
          have e : (rs.take k ++ rs.drop (k + 1)).take k ++ (rs[k]?).getD .none :: (rs.take k ++ rs.drop (k + 1)).drop k = rs := by
            have hl : (rs.take k).length = k := by simp; omega
            rw [List.take_append_of_le_length (by omega), List.take_take, Nat.min_self, List.drop_append, hl, List.drop_eq_nil_of_le (by omega), hr]
            simp
          simp only [Int.toNat_natCast, e]
        · simp only [List.mem_cons, List.not_mem_nil, or_false] at hx
          rcases hx with rfl | rfl | rfl
          · exact gs _ (by decide +kernel) (by decide +kernel)
          · rfl
          · simp [hr]; exact gd_succ (gd_succ hg)
      · cases h
    | _ => cases h
end K05

set_option maxRecDepth 100000
set_option maxHeartbeats 2000000
namespace K05
open PySem PySem.Spec PyProof.Rows L2 Z
variable {ad : Ad}
/-! ### rows of changes -/
inductive Aft (ad : Ad) : PyData → List PyData → FR → Prop
  | nil (b : PyData) : Aft ad b [] (.ok (.d b) [])
  | go {b b' c : PyData} {cs : List PyData} {r : FR} : F_after_change ad [.d b, .d c] [] = .ok (.d b') [] → Aft ad b' cs r → Aft ad b (c :: cs) r
  | ex {b c : PyData} {cs : List PyData} {x : Ex} : F_after_change ad [.d b, .d c] [] = .ex x [] → Aft ad b (c :: cs) (.ex x [])
theorem Aft.append {b m : PyData} {cs ds : List PyData} {r : FR} (h : Aft ad b cs (.ok (.d m) [])) (k : Aft ad m ds r) : Aft ad b (cs ++ ds) r := by
  generalize e : FR.ok (.d m) [] = q at h
  induction h with
  | nil b => cases e; exact k
  | go h1 _ ih => exact .go h1 (ih e)
  | ex h1 => cases e
theorem after_loop {b : PyData} {cs : List PyData} {r : FR} (h : Aft ad b cs r) (y : PyData) : ∀ (z : Option SV),
    (∃ b' z', r = .ok (.d b') [] ∧ forL (tgN 2) (sSet 0 (ePure (F_after_change ad) [(pV 0), (pV 2)])) cs ⟨[some (.d b), some (.d y), z], []⟩ = .nx ⟨[some (.d b'), some (.d y), z'], []⟩) ∨
    (∃ x s, r = .ex x [] ∧ forL (tgN 2) (sSet 0 (ePure (F_after_change ad) [(pV 0), (pV 2)])) cs ⟨[some (.d b), some (.d y), z], []⟩ = .ex x ⟨s, []⟩) := by
  induction h with
  | nil b => exact fun z => .inl ⟨b, z, rfl, by simp [forL]⟩
  | @go b b' c cs r h1 _ ih =>
    intro z
    have e : forL (tgN 2) (sSet 0 (ePure (F_after_change ad) [(pV 0), (pV 2)])) (c :: cs) ⟨[some (.d b), some (.d y), z], []⟩ = forL (tgN 2) (sSet 0 (ePure (F_after_change ad) [(pV 0), (pV 2)])) cs ⟨[some (.d b'), some (.d y), some (.d c)], []⟩ := by
      conv => lhs; unfold forL
      simp [h1]
    rw [e]
    exact ih _
  | @ex b c cs x h1 =>
    intro z
    refine .inr ⟨x, [some (.d b), some (.d y), some (.d c)], rfl, ?_⟩
    unfold forL
    simp [h1]
theorem f_after_all {b : PyData} {cs : List PyData} {r : FR} (h : Aft ad b cs r) : F_after_all ad [.d b, .d (.tuple cs)] [] = r := by
  rcases after_loop h (.tuple cs) none with ⟨b', z', rfl, e⟩ | ⟨x, s, rfl, e⟩
  · simp [F_after_all, fnS, B_after_all, e]
  · simp [F_after_all, fnS, B_after_all, e]
/-- led from bk by a row of changes to here; the ways back -/
inductive Led (ad : Ad) (bk : PyData) : List PyData → PyData → List PyData → Prop
  | nil : Led ad bk [] bk []
  | step {row bs : List PyData} {h h' c b : PyData} : Led ad bk row h bs → F_after_change ad [.d h, .d c] [] = .ok (.d h') [] → F_back_of ad [.d h, .d c] [] = .ok (.d b) [] → F_after_change ad [.d h', .d b] [] = .ok (.d h) [] → Led ad bk (row ++ [c]) h' (bs ++ [b])
theorem Led.aft {bk here : PyData} {row bs : List PyData} (l : Led ad bk row here bs) : Aft ad bk row (.ok (.d here) []) := by
  induction l with
  | nil => exact .nil _
  | step _ h1 _ _ ih => exact ih.append (.go h1 (.nil _))
theorem Led.back {bk here : PyData} {row bs : List PyData} (l : Led ad bk row here bs) : Aft ad here bs.reverse (.ok (.d bk) []) := by
  induction l with
  | nil => exact .nil _
  | step _ _ _ h3 ih => rw [List.reverse_append]; exact .go h3 ih
theorem Led.lens {bk here : PyData} {row bs : List PyData} (l : Led ad bk row here bs) : bs.length = row.length := by
  induction l with
  | nil => rfl
  | step _ _ _ _ ih => simp [ih]
/-- a row gone along, with its ways back -/
inductive Bks (ad : Ad) : PyData → List PyData → List PyData → PyData → Prop
  | nil (b : PyData) : Bks ad b [] [] b
  | go {b b' c k e : PyData} {cs ks : List PyData} : F_back_of ad [.d b, .d c] [] = .ok (.d k) [] → F_after_change ad [.d b, .d c] [] = .ok (.d b') [] → Bks ad b' cs ks e → Bks ad b (c :: cs) (k :: ks) e
theorem Bks.snoc {b e c k e' : PyData} {cs ks : List PyData} (h : Bks ad b cs ks e) (h1 : F_back_of ad [.d e, .d c] [] = .ok (.d k) []) (h2 : F_after_change ad [.d e, .d c] [] = .ok (.d e') []) : Bks ad b (cs ++ [c]) (ks ++ [k]) e' := by
  induction h with
  | nil b => exact .go h1 h2 (.nil _)
  | go a1 a2 _ ih => exact .go a1 a2 (ih h1 h2)
theorem Led.bks {bk here : PyData} {row bs : List PyData} (l : Led ad bk row here bs) : Bks ad bk row bs here := by
  induction l with
  | nil => exact .nil _
  | step _ h1 h2 _ ih => exact ih.snoc h2 h1
theorem backs_loop {b e : PyData} {cs ks : List PyData} (h : Bks ad b cs ks e) (y : PyData) : ∀ (z : Option SV) (acc : List PyData), acc.length + cs.length ≤ 1000 →
    ∃ z', forL (tgN 3) (sSeq (sExpr (eMut "list" muAppend (pV 2) [(ePure (F_back_of ad) [(pV 0), (pV 3)])]))
      (sSet 0 (ePure (F_after_change ad) [(pV 0), (pV 3)]))) cs ⟨[some (.d b), some (.d y), some (.o (.lst acc)), z], []⟩ = .nx ⟨[some (.d e), some (.d y), some (.o (.lst (acc ++ ks))), z'], []⟩ := by
  induction h with
  | nil b => exact fun z acc _ => ⟨z, by simp [forL]⟩
  | @go b b' c k e cs ks h1 h2 _ ih =>
    intro z acc hl
    simp only [List.length_cons] at hl
    have f : fits (acc.length + 1) = true := fits_of (by omega)
    have e : forL (tgN 3) (sSeq (sExpr (eMut "list" muAppend (pV 2) [(ePure (F_back_of ad) [(pV 0), (pV 3)])]))
        (sSet 0 (ePure (F_after_change ad) [(pV 0), (pV 3)]))) (c :: cs) ⟨[some (.d b), some (.d y), some (.o (.lst acc)), z], []⟩ = forL (tgN 3) (sSeq (sExpr (eMut "list" muAppend (pV 2) [(ePure (F_back_of ad) [(pV 0), (pV 3)])]))
        (sSet 0 (ePure (F_after_change ad) [(pV 0), (pV 3)]))) cs ⟨[some (.d b'), some (.d y), some (.o (.lst (acc ++ [k]))), some (.d c)], []⟩ := by
      conv => lhs; unfold forL
      simp [h1, h2, f]
    rw [e]
    obtain ⟨z', q⟩ := ih (some (.d c)) (acc ++ [k]) (by simp only [List.length_append, List.length_singleton]; omega)
    exact ⟨z', by rw [q]; simp⟩
theorem opRevL_l (xs : List PyData) : opRevL (.list xs) = some (.o (.lst xs.reverse)) := rfl
theorem f_backs {b e : PyData} {cs ks : List PyData} (h : Bks ad b cs ks e) (hl : cs.length ≤ 1000) : F_backs ad [.d b, .d (.tuple cs)] [] = .ok (.d (.tuple ks.reverse)) [] := by
  obtain ⟨z', q⟩ := backs_loop h (.tuple cs) none [] (by simp only [List.length_nil]; omega)
  simp at q
  simp [F_backs, fnS, B_backs, q, opRevL_l]
end K05

set_option maxRecDepth 100000
set_option maxHeartbeats 2000000
namespace K05
open PySem PySem.Spec PyProof.Rows L2 Z
variable {ad : Ad}
/-! ### data is like itself -/
def alT : S → Res Bool := tOf (eBin opLt (pV 3) (pE (eCallB opLen [(pV 2)])))
def alB (ad : Ad) : SS := (sSeq (sTg (tgT [(tgN 4), (tgN 5)]) (eBin opIxS (pV 2) (pV 3)))
  (sSeq (sAug 3 opIadd (pE (eC (.int 1))))
  (sSeq (sIf (tOr (tOf (eBin opNe (pE (eIsi ["bool"] (pV 4))) (pE (eIsi ["bool"] (pV 5))))) (tOf (eBin opNe (pE (eIsi ["str"] (pV 4))) (pE (eIsi ["str"] (pV 5))))))
  (sRet (eC (.bool false)))
  sNil)
  (sSeq (sIf (tOf (eBin opNe (pE (eIsi ["tuple", "list"] (pV 4))) (pE (eIsi ["tuple", "list"] (pV 5)))))
  (sRet (eC (.bool false)))
  sNil)
  (sIf (tOf (eIsi ["tuple", "list"] (pV 4)))
  (sSeq (sIf (tOr (tOf (eBin opNe (pE (eIsi ["tuple"] (pV 4))) (pE (eIsi ["tuple"] (pV 5))))) (tOf (eBin opNe (pE (eCallB opLen [(pV 4)])) (pE (eCallB opLen [(pV 5)])))))
  (sRet (eC (.bool false)))
  sNil)
  (sExpr (eMutR "list" muExtend (pV 2) [(pE (eZipL [(eV 4), (eV 5)]))])))
  (sIf (tOf (eBin opNe (pV 4) (pV 5)))
  (sRet (eC (.bool false)))
  sNil))))))
def tw (y : PyData) : PyData := .tuple [y, y]
theorem zip_tw (cs : List PyData) : ((cs.zip cs).map fun p => PyData.tuple [p.1, p.2]) = cs.map tw := by
  induction cs with
  | nil => rfl
  | cons c cs ih => simp only [List.zip_cons_cons, List.map_cons, ih, tw]
theorem al_step {n : Nat} (hn : n ≤ 60) {ps : List PyData} {i : Nat} {y : PyData} (hy : gd n y = true) (hi : ps[i]? = some (tw y)) (hl : ps.length + sz y ≤ 1000000) (a b : SV) (v4 v5 : Option SV) :
    ∃ cs, szs cs + 1 = sz y ∧ (∀ c ∈ cs, gd n c = true) ∧ alB ad ⟨[some a, some b, some (.o (.lst ps)), some (.d (.int (i : Nat))), v4, v5], []⟩ = .nx ⟨[some a, some b, some (.o (.lst (ps ++ cs.map tw))), some (.d (.int ((i + 1 : Nat) : Int))), some (.d y), some (.d y)], []⟩ := by
  have ho := gd_odd hy
  have tw_ : tw y = .tuple [y, y] := rfl
  have ht : L2.atI ps (i : Int) = some (.tuple [y, y]) := by rw [q_atI, hi, tw_]
  have hne := opNe_refl hy hn
  have hc : ∀ cs, (y = .tuple cs ∨ y = .list cs) → ∀ c ∈ cs, gd n c = true := fun cs h c hc => by
    rcases h with rfl | rfl
    · cases n with
      | zero => simp [gd] at hy
      | succ n => exact gd_succ ((gd_tup.mp hy).2 c hc)
    · cases n with
      | zero => simp [gd] at hy
      | succ n => exact gd_succ ((gd_lst.mp hy).2 c hc)
  cases y with
  | tuple cs =>
    have hlen := len_szs cs
    have f : fits (ps.length + cs.length) = true := fits_of (by simp [sz] at hl; omega)
    refine ⟨cs, rfl, hc cs (.inl rfl), ?_⟩
    have hi' : i < ps.length := (List.getElem?_eq_some_iff.mp hi).1
    have hg : ps[i] = .tuple [.tuple cs, .tuple cs] := by
      have := hi
      rw [List.getElem?_eq_getElem hi'] at this
      exact Option.some.inj this
    simp [alB, hg, hi', ho, isaAny, isa, isaN, tyN, f, zip_tw]
  | list cs =>
    have hlen := len_szs cs
    have f : fits (ps.length + cs.length) = true := fits_of (by simp [sz] at hl; omega)
    refine ⟨cs, rfl, hc cs (.inr rfl), ?_⟩
    have hi' : i < ps.length := (List.getElem?_eq_some_iff.mp hi).1
    have hg : ps[i] = .tuple [.list cs, .list cs] := by
      have := hi
      rw [List.getElem?_eq_getElem hi'] at this
      exact Option.some.inj this
    simp [alB, hg, hi', ho, isaAny, isa, isaN, tyN, f, zip_tw]
  | dict _ => simp [oddD] at ho; cases n <;> simp [gd] at hy
  | _ =>
    refine ⟨[], rfl, fun c h => absurd h List.not_mem_nil, ?_⟩
    have hi' : i < ps.length := (List.getElem?_eq_some_iff.mp hi).1
    have hg := hi
    rw [List.getElem?_eq_getElem hi'] at hg
    have hg := Option.some.inj hg
    simp only [tw] at hg
    simp [alB, hg, hi', ho, isaAny, isa, isaN, tyN, hne]
theorem al_loop {n : Nat} (hn : n ≤ 60) : ∀ (r : Nat) {ys ps : List PyData} {i : Nat} (k : Nat) (v4 v5 : Option SV) (a b : SV), szs ys = r → ps.drop i = ys.map tw → i ≤ ps.length → (∀ y ∈ ys, gd n y = true) → i + r ≤ 450000 → r < k →
    ∃ s, whileL alT (alB ad) k ⟨[some a, some b, some (.o (.lst ps)), some (.d (.int (i : Nat))), v4, v5], []⟩ = .nx ⟨s, []⟩ := by
  intro r
  induction r with
  | zero =>
    intro ys ps i k v4 v5 a b hr hd hi hy hl hk
    have : ys = [] := by
      cases ys with
      | nil => rfl
      | cons y ys => have := sz_pos y; simp [szs] at hr; omega
    subst this
    obtain ⟨k, rfl⟩ : ∃ k', k = k' + 1 := ⟨k - 1, by omega⟩
    have : ps.length ≤ i := by simpa using hd
    have c : ¬ ((i : Int) < (ps.length : Int)) := by omega
    refine ⟨[some a, some b, some (.o (.lst ps)), some (.d (.int (i : Nat))), v4, v5], ?_⟩
    unfold whileL
    simp [alT, c]
  | succ r ih =>
    intro ys ps i k v4 v5 a b hr hd hi hy hl hk
    obtain ⟨k, rfl⟩ : ∃ k', k = k' + 1 := ⟨k - 1, by omega⟩
    cases ys with
    | nil => simp [szs] at hr
    | cons y ys =>
      have hi' : ps[i]? = some (tw y) := by
        have := congrArg (fun l : List PyData => l[0]?) hd
        simpa [List.getElem?_drop] using this
      have hlt : i < ps.length := (List.getElem?_eq_some_iff.mp hi').1
      have hszs : sz y + szs ys = r + 1 := hr
      have hpl : ps.length = i + (ys.length + 1) := by
        have := congrArg List.length hd
        simp at this
        omega
      have hly := len_szs ys
      have hpy := sz_pos y
      obtain ⟨cs, e1, e2, e3⟩ := al_step (ad := ad) hn (hy y List.mem_cons_self) hi' (by omega) a b v4 v5
      have c : ((i : Int) < (ps.length : Int)) := by omega
      have hd' : (ps ++ cs.map tw).drop (i + 1) = (ys ++ cs).map tw := by
        rw [List.drop_append_of_le_length (by omega), List.map_append]
        congr 1
        have := congrArg (List.drop 1) hd
        rw [List.drop_drop] at this
        rw [Nat.add_comm] at this
        simpa [Nat.add_comm] using this
      have hlc := len_szs cs
      obtain ⟨s, es⟩ := ih (ys := ys ++ cs) (ps := ps ++ cs.map tw) (i := i + 1) k (some (.d y)) (some (.d y)) a b (by rw [szs_append]; omega) hd' (by simp; omega) (fun z hz => (List.mem_append.mp hz).elim (fun h => hy z (List.mem_cons_of_mem _ h)) (e2 z)) (by omega) (by omega)
      refine ⟨s, ?_⟩
      unfold whileL
      have : alT ⟨[some a, some b, some (.o (.lst ps)), some (.d (.int (i : Nat))), v4, v5], []⟩ = .ok true ⟨[some a, some b, some (.o (.lst ps)), some (.d (.int (i : Nat))), v4, v5], []⟩ := by simp [alT, c]
      rw [this]
      simp only [Res.flow_ok]
      rw [if_pos trivial, e3]
      exact es
theorem f_alike {n : Nat} (hn : n ≤ 60) {x : PyData} (hx : gd n x = true) (hl : sz x ≤ 400000) : F__law_alike ad [.d x, .d x] [] = .ok (.d (.bool true)) [] := by
  obtain ⟨s, e⟩ := al_loop (ad := ad) hn (sz x) (ys := [x]) (ps := [tw x]) (i := 0) bigN none none (.d x) (.d x) (by simp [szs]) (by rfl) (by simp) (by simpa using hx) (by simp; omega) (by simp [bigN]; omega)
  unfold alT alB tw at e
  simp at e
  simp [F__law_alike, fnS, B__law_alike, e]
end K05

set_option maxRecDepth 100000
set_option maxHeartbeats 2000000
namespace K05
open PySem PySem.Spec PyProof.Rows L2 Z
variable {ad : Ad}
/-! ### draws -/
def bagO (a b c : Int) (cells : List Int) : PO := .lst [.int a, .int b, .int c, .list (cells.map PyData.int)]
/-- the small heap: a table, the bag -/
def Bag (t : PO) (h : List PO) : Prop := ∃ a b c cells, h = [t, bagO a b c cells] ∧ 0 ≤ a ∧ 0 ≤ c ∧ (∀ z ∈ cells, 0 ≤ z) ∧ cells.length ≤ 63
theorem cut_mem {xs : List PyData} {lo hi : Option Int} {x : PyData} (h : x ∈ Z.cutD xs lo hi) : x ∈ xs := List.mem_of_mem_drop (List.mem_of_mem_take h)
theorem cut_len (xs : List PyData) (lo hi : Option Int) : (Z.cutD xs lo hi).length ≤ xs.length := by
  unfold Z.cutD
  simp only [List.length_take, List.length_drop]
  omega
def tk1 : SS := (sIf (tOf (eBin opEq (pE (eBin opIxS (pV 0) (pE (eC (.int 0))))) (pE (eC (.int 0)))))
  (sSeq (sSet 4 (eBin opIxS (pE (eBin opAdd (pE (eSl opSl (pE (eBin opIxS (pV 0) (pE (eC (.int 3))))) (oSome (eBin opIxS (pV 0) (pE (eC (.int 2))))) oNone)) (pE (eLst [(eC (.int 0))])))) (pE (eC (.int 0)))))
  (sSeq (sAugIx gtL opIadd stL (pV 0) (pE (eC (.int 2))) (pE (eC (.int 1))))
  (sSeq (sIf (tOf (eBin opGe (pV 4) (pE (eBin opPow (pE (eC (.int 10))) (pE (eC (.int 18)))))))
  (sIx stL (pV 0) (pE (eC (.int 0))) (eV 4))
  sNil)
  (sSeq (sSet 5 (eBin opAdd (pE (eBin opAdd (pE (eBin opMul (pE (eBin opIxS (pV 0) (pE (eC (.int 1))))) (pE (eC (.int 48271))))) (pE (eBin opMod (pE (eCallB opInt [(pV 4)])) (pE (eC (.int 2147483647))))))) (pE (eBin opMul (pE (eC (.int 7919))) (pE (eBin opIxS (pV 0) (pE (eC (.int 2)))))))))
  (sIx stL (pV 0) (pE (eC (.int 1))) (eBin opMod (pE (eCallB opInt [(pV 5)])) (pE (eC (.int 2147483647)))))))))
  sNil)
def tk2 : SS := (sSeq (sIf (tOf (eBin opGt (pE (eBin opIxS (pV 0) (pE (eC (.int 0))))) (pE (eC (.int 0)))))
  (sSeq (sSet 6 (eBin opMod (pE (eCallB opInt [(pE (eBin opIxS (pV 0) (pE (eC (.int 0)))))])) (pV 1)))
  (sSeq (sIx stL (pV 0) (pE (eC (.int 0))) (eBin opDiv (pE (eCallB opInt [(pE (eBin opIxS (pV 0) (pE (eC (.int 0)))))])) (pV 1)))
  (sRet (eM 6))))
  sNil)
  (sSeq (sSet 2 (eBin opMod (pE (eCallB opInt [(pE (eBin opMul (pE (eBin opAdd (pE (eBin opIxS (pV 0) (pE (eC (.int 1))))) (pE (eC (.int 1))))) (pE (eC (.int 39373)))))])) (pE (eC (.int 1000000007)))))
  (sSeq (sSet 3 (eBin opMod (pE (eCallB opInt [(pE (eBin opMul (pE (eBin opMod (pE (eCallB opInt [(pE (eBin opMul (pV 2) (pV 2)))])) (pE (eC (.int 998244353))))) (pE (eC (.int 30011)))))])) (pE (eC (.int 998244353)))))
  (sRet (eBin opMod (pE (eCallB opInt [(pE (eBin opDiv (pV 3) (pE (eC (.int 7)))))])) (pV 1))))))
theorem take_is : B__law_take ad = sSeq tk1 tk2 := rfl
theorem pow18 : opPow (.int 10) (.int 18) = some (.d (.int 1000000000000000000)) := by rfl
theorem s64a : small64 48271 = true := by decide
theorem s64b : small64 7919 = true := by decide
theorem s64c : small64 39373 = true := by decide
theorem s64d : small64 30011 = true := by decide
def gAI2 (st : PO → PyData → PyData → Option PO) (p r : Pl) (s : S) : Option SV → Fl
  | some (.d z) => gIx st z p r s
  | _ => .no
def gAI1 (op : PyData → PyData → Option SV) (st : PO → PyData → PyData → Option PO) (fe : SPl) (p r : Pl) (s : S) : Option SV → Fl
  | some (.d x) => (fe s).flow fun q s => gAI2 st p r s ((ld s q).bind fun y => op x y)
  | _ => .no
@[simp] theorem gAI2_s (st : PO → PyData → PyData → Option PO) (p r : Pl) (s : S) (z : PyData) : gAI2 st p r s (some (.d z)) = gIx st z p r s := rfl
@[simp] theorem gAI1_s (op : PyData → PyData → Option SV) (st : PO → PyData → PyData → Option PO) (fe : SPl) (p r : Pl) (s : S) (x : PyData) : gAI1 op st fe p r s (some (.d x)) = (fe s).flow fun q s => gAI2 st p r s ((ld s q).bind fun y => op x y) := rfl
theorem gAI2_is (st : PO → PyData → PyData → Option PO) (p r : Pl) (s : S) (o : Option SV) : gAI2 st p r s o = (match o with
    | some (.d z) => (match (ld s r).bind fun i => (obj s p).bind fun b => st b i z with
      | some b' => .nx (put s b' p)
      | none => .no)
    | _ => .no) := by
  rcases o with _ | v
  · rfl
  · cases v <;> rfl
theorem q_sAugIx (get : PyData → PyData → Option SV) (op : PyData → PyData → Option SV) (st : PO → PyData → PyData → Option PO) (fo fi fe : SPl) (s : S) : sAugIx get op st fo fi fe s = (fo s).flow fun p s => (fi s).flow fun r s => gAI1 op st fe p r s ((ld s r).bind fun i => (ld s p).bind fun b => get b i) := by
  unfold sAugIx
  congr 1
theorem tk1_ok {t : PO} {h : List PO} (hb : Bag t h) (m : Int) : ∃ s4 s5 h', Bag t h' ∧ tk1 ⟨[some (.r 1), some (.d (.int m)), none, none, none, none, none], h⟩ = .nx ⟨[some (.r 1), some (.d (.int m)), none, none, s4, s5, none], h'⟩ := by
  obtain ⟨a, b, c, cells, rfl, ha, hc, hz, hl⟩ := hb
  by_cases h0 : a = 0
  · subst h0
    have hcut : ∃ z, 0 ≤ z ∧ L2.atI (Z.cutD (cells.map PyData.int) (some c) none ++ [.int 0]) 0 = some (.int z) := by
      rw [q_atI0]
      cases e : Z.cutD (cells.map PyData.int) (some c) none with
      | nil => exact ⟨0, by decide, rfl⟩
      | cons x xs =>
        have := cut_mem (x := x) (by rw [e]; exact List.mem_cons_self)
        obtain ⟨z, hz', rfl⟩ := List.mem_map.mp this
        exact ⟨z, hz z hz', rfl⟩
    obtain ⟨z, z0, ez⟩ := hcut
    have f : fits ((Z.cutD (cells.map PyData.int) (some c) none).length + 1) = true := fits_of (by have := cut_len (cells.map PyData.int) (some c) none; simp at this; omega)
    have ei : L2.ixN 4 2 = some 2 := by decide
    have ei0 : L2.ixN 4 0 = some 0 := by decide
    have ei1 : L2.ixN 4 1 = some 1 := by decide
    let st := b * 48271 + z.fmod 2147483647 + 7919 * (c + 1)
    by_cases hbig : (1000000000000000000 : Int) ≤ z
    · refine ⟨some (.d (.int z)), some (.d (.int st)), [t, bagO z (st.fmod 2147483647) (c + 1) cells], ⟨z, _, _, cells, rfl, z0, by omega, hz, hl⟩, ?_⟩
      simp [tk1, q_sAugIx, bagO, ez, f, ei, ei0, ei1, pow18, hbig, s64a, s64b, st]
    · refine ⟨some (.d (.int z)), some (.d (.int st)), [t, bagO 0 (st.fmod 2147483647) (c + 1) cells], ⟨0, _, _, cells, rfl, by decide, by omega, hz, hl⟩, ?_⟩
      simp [tk1, q_sAugIx, bagO, ez, f, ei, ei0, ei1, pow18, hbig, s64a, s64b, st]
  · refine ⟨none, none, _, ⟨a, b, c, cells, rfl, ha, hc, hz, hl⟩, ?_⟩
    simp [tk1, bagO, h0]
/-- what is taken lies under what was asked -/
theorem f_take {t : PO} {h : List PO} (hb : Bag t h) {m : Int} (m1 : 1 ≤ m) (m2 : m < 1073741824) : ∃ v h', Bag t h' ∧ 0 ≤ v ∧ v < m ∧ F__law_take ad [.r 1, .d (.int m)] h = .ok (.d (.int v)) h' := by
  obtain ⟨s4, s5, h1, hb1, e1⟩ := tk1_ok hb m
  obtain ⟨a, b, c, cells, rfl, ha, hc, hz, hl⟩ := hb1
  have ei0 : L2.ixN 4 0 = some 0 := by decide
  have hm : decide (m.natAbs < 1073741824) = true := by simp; omega
  by_cases h0 : (0 : Int) < a
  · refine ⟨a.fmod m, [t, bagO (a.fdiv m) b c cells], ⟨_, _, _, cells, rfl, Int.fdiv_nonneg (by omega) (by omega), hc, hz, hl⟩, Int.fmod_nonneg_of_pos _ (by omega), Int.fmod_lt_of_pos _ (by omega), ?_⟩
    have m0 : m ≠ 0 := by omega
    simp [F__law_take, fnS, take_is, e1, tk2, bagO, ei0, h0, m0]
    simp at hm
    simp [hm, ei0]
  · have m0 : m ≠ 0 := by omega
    have s5 : ∀ x : Int, Z.small64 (x.fmod 1000000007) = true := fun x => by
      have := Int.fmod_nonneg_of_pos x (b := 1000000007) (by decide)
      have := Int.fmod_lt_of_pos x (b := 1000000007) (by decide)
      unfold Z.small64
      simp
      omega
    let be := ((b + 1) * 39373).fmod 1000000007
    let se := ((be * be).fmod 998244353 * 30011).fmod 998244353
    refine ⟨(se.fdiv 7).fmod m, [t, bagO a b c cells], ⟨_, _, _, cells, rfl, ha, hc, hz, hl⟩, Int.fmod_nonneg_of_pos _ (by omega), Int.fmod_lt_of_pos _ (by omega), ?_⟩
    simp [F__law_take, fnS, take_is, e1, tk2, bagO, ei0, h0, m0, s64c, s64d, s5, se, be]
end K05

set_option maxRecDepth 100000
set_option maxHeartbeats 2000000
namespace K05
open PySem PySem.Spec PyProof.Rows L2 Z
variable {ad : Ad}
theorem f_some {t : PO} {h : List PO} (hb : Bag t h) (xs : List PyData) (h1 : xs ≠ []) (h2 : xs.length ≤ 1000) : ∃ x h', Bag t h' ∧ x ∈ xs ∧ F__law_some ad [.r 1, .d (.list xs)] h = .ok (.d x) h' := by
  have hp : 0 < xs.length := by cases xs <;> simp_all
  obtain ⟨v, h', hb', v0, v1, e⟩ := f_take (ad := ad) hb (m := (xs.length : Int)) (by omega) (by omega)
  obtain ⟨k, rfl⟩ := Int.eq_ofNat_of_zero_le v0
  have hk : k < xs.length := by omega
  refine ⟨xs[k], h', hb', List.getElem_mem hk, ?_⟩
  simp [F__law_some, fnS, B__law_some, e, hk]
def mxB (ad : Ad) : SS := (sExpr (eMut "list" muInsert (pV 2) [(eCall (F__law_take ad) [(eV 0), (eBin opAdd (pE (eCallB opLen [(pV 2)])) (pE (eC (.int 1))))]), (eV 3)]))
theorem mixed_loop (t : PO) (y : SV) : ∀ (xs acc : List PyData) (h : List PO) (z : Option SV), Bag t h → acc.length + xs.length ≤ 1000 →
    ∃ acc' h' z', Bag t h' ∧ acc'.Perm (acc ++ xs) ∧ forL (tgN 3) (mxB ad) xs ⟨[some (.r 1), some y, some (.o (.lst acc)), z], h⟩ = .nx ⟨[some (.r 1), some y, some (.o (.lst acc')), z'], h'⟩
  | [], acc, h, z, hb, hl => ⟨acc, h, z, hb, by simp, by simp [forL]⟩
  | x :: xs, acc, h, z, hb, hl => by
    simp at hl
    obtain ⟨v, h', hb', v0, v1, e⟩ := f_take (ad := ad) hb (m := (acc.length : Int) + 1) (by omega) (by omega)
    obtain ⟨k, rfl⟩ := Int.eq_ofNat_of_zero_le v0
    have f : fits (acc.length + 1) = true := fits_of (by omega)
    have s63 : small63 (k : Int) = true := by unfold small63; simp; omega
    have st : mxB ad ⟨[some (.r 1), some y, some (.o (.lst acc)), some (.d x)], h⟩ = .nx ⟨[some (.r 1), some y, some (.o (.lst (acc.take k ++ [x] ++ acc.drop k))), some (.d x)], h'⟩ := by
      simp [mxB, e, f, s63]
    obtain ⟨acc', h2, z', hb2, hp, e2⟩ := mixed_loop t y xs (acc.take k ++ [x] ++ acc.drop k) h' (some (.d x)) hb' (by simp; omega)
    refine ⟨acc', h2, z', hb2, hp.trans ?_, ?_⟩
    · have : (acc.take k ++ [x] ++ acc.drop k).Perm (acc ++ [x]) := by
        have h1 : (acc.take k ++ [x] ++ acc.drop k).Perm (acc.take k ++ (acc.drop k ++ [x])) := by
          rw [List.append_assoc]
          exact List.perm_append_comm.append_left _
        rw [← List.append_assoc, List.take_append_drop] at h1
        exact h1
      have := this.append_right xs
      simpa using this
    · rw [← e2]
      conv => lhs; unfold forL
      simp [st]
theorem f_mixed {t : PO} {h : List PO} (hb : Bag t h) (xs : List PyData) (h2 : xs.length ≤ 1000) : ∃ ys h', Bag t h' ∧ ys.Perm xs ∧ F__law_mixed ad [.r 1, .d (.list xs)] h = .ok (.o (.lst ys)) h' := by
  obtain ⟨ys, h', z', hb', hp, e⟩ := mixed_loop (ad := ad) t (.d (.list xs)) xs [] h none hb (by simpa using h2)
  refine ⟨ys, h', hb', by simpa using hp, ?_⟩
  have : B__law_mixed ad = sSeq (sSet 2 (eLst [])) (sSeq (sFor (iOf anyOf (eV 1)) (tgN 3) (mxB ad)) (sRet (eM 2))) := rfl
  simp [F__law_mixed, fnS, this, e]
/-! ### signs -/
def sg (z : Str) (m : Int) : PyData := .tuple [.str z, .int m]
def pick : List PyData → List Bool → List PyData
  | x :: xs, true :: bs => x :: pick xs bs
  | _ :: xs, false :: bs => pick xs bs
  | _, _ => []
def SGB : List PyData := [sg "a" 0, sg "p" 2]
def SGX : List PyData := [sg "ab" 0, sg "pq" 2, sg "s" 1, sg "st" 1, sg "abd" 0]
def SgOkB (xs : List PyData) : Bool := isSigns (.tuple xs) && (xs.all fun x => match x with | .tuple [.str l, .int m] => (match manyOf xs (.str l) with | .int k => decide (k = m) | _ => false) && PyData.strOk l && decide (l.length ≤ 100) && decide (0 ≤ m) && decide (m ≤ 2) | _ => false)
structure SgOk (xs : List PyData) : Prop where
  ok : isSigns (.tuple xs) = true
  each : ∀ x ∈ xs, ∃ l m, x = sg l m ∧ manyOf xs (.str l) = .int m ∧ PyData.strOk l = true ∧ l.length ≤ 100 ∧ 0 ≤ m ∧ m ≤ 2
theorem SgOk.of {xs : List PyData} (h : SgOkB xs = true) : SgOk xs := by
  unfold SgOkB at h
  rw [Bool.and_eq_true, List.all_eq_true] at h
  refine ⟨h.1, fun x hx => ?_⟩
  have := h.2 x hx
  split at this
  · rename_i l m
    simp only [Bool.and_eq_true, decide_eq_true_eq] at this
    obtain ⟨⟨⟨⟨a, b⟩, c⟩, d⟩, e⟩ := this
    split at a
    · rename_i k ek
      simp at a
      subst a
      exact ⟨l, k, rfl, ek, b, c, d, e⟩
    · cases a
  · cases this
theorem sg_all : ∀ b1 b2 b3 b4 b5 : Bool, sortOk (SGB ++ pick SGX [b1, b2, b3, b4, b5]) = true ∧ SgOkB (msF (PySem.W.dataLe false id) ((SGB ++ pick SGX [b1, b2, b3, b4, b5]).length + 1) (SGB ++ pick SGX [b1, b2, b3, b4, b5])) = true := by decide +kernel
def snB (ad : Ad) : SS := (sIf (tOf (eBin opEq (pE (eCall (F__law_take ad) [(eV 0), (eV 3)])) (pE (eC (.int 0)))))
  (sExpr (eMut "list" muAppend (pV 1) [(eV 2)]))
  sNil)
theorem signs_loop (t : PO) : ∀ (xs : List (PyData × Int)) (acc : List PyData) (h : List PO) (z2 z3 : Option SV), Bag t h → acc.length + xs.length ≤ 1000 → (∀ p ∈ xs, 1 ≤ p.2 ∧ p.2 < 1000) →
    ∃ bs h' z2' z3', Bag t h' ∧ bs.length = xs.length ∧ forL (tgT [(tgN 2), (tgN 3)]) (snB ad) (xs.map fun p => .tuple [p.1, .int p.2]) ⟨[some (.r 1), some (.o (.lst acc)), z2, z3], h⟩ = .nx ⟨[some (.r 1), some (.o (.lst (acc ++ pick (xs.map (·.1)) bs))), z2', z3'], h'⟩
  | [], acc, h, z2, z3, hb, hl, _ => ⟨[], h, z2, z3, hb, rfl, by simp [forL, pick]⟩
  | (x, m) :: xs, acc, h, z2, z3, hb, hl, hm => by
    simp at hl
    have hm1 := hm (x, m) List.mem_cons_self
    obtain ⟨v, h', hb', v0, v1, e⟩ := f_take (ad := ad) hb (m := m) hm1.1 (by have := hm1.2; omega)
    have f : fits (acc.length + 1) = true := fits_of (by omega)
    by_cases hv : v = 0
    · subst hv
      obtain ⟨bs, h2, a, b, hb2, hl2, e2⟩ := signs_loop t xs (acc ++ [x]) h' (some (.d x)) (some (.d (.int m))) hb' (by simp; omega) (fun p hp => hm p (List.mem_cons_of_mem _ hp))
      refine ⟨true :: bs, h2, a, b, hb2, by simp [hl2], ?_⟩
      rw [show acc ++ pick (((x, m) :: xs).map (·.1)) (true :: bs) = acc ++ [x] ++ pick (xs.map (·.1)) bs by simp [pick], ← e2]
      have st : snB ad ⟨[some (.r 1), some (.o (.lst acc)), some (.d x), some (.d (.int m))], h⟩ = .nx ⟨[some (.r 1), some (.o (.lst (acc ++ [x]))), some (.d x), some (.d (.int m))], h'⟩ := by
        simp [snB, e, f]
      conv => lhs; simp only [List.map_cons]; unfold forL
      simp [st]
    · obtain ⟨bs, h2, a, b, hb2, hl2, e2⟩ := signs_loop t xs acc h' (some (.d x)) (some (.d (.int m))) hb' (by omega) (fun p hp => hm p (List.mem_cons_of_mem _ hp))
      refine ⟨false :: bs, h2, a, b, hb2, by simp [hl2], ?_⟩
      rw [show acc ++ pick (((x, m) :: xs).map (·.1)) (false :: bs) = acc ++ pick (xs.map (·.1)) bs by simp [pick], ← e2]
      have st : snB ad ⟨[some (.r 1), some (.o (.lst acc)), some (.d x), some (.d (.int m))], h⟩ = .nx ⟨[some (.r 1), some (.o (.lst acc)), some (.d x), some (.d (.int m))], h'⟩ := by
        simp [snB, e, hv]
      conv => lhs; simp only [List.map_cons]; unfold forL
      simp [st]
@[simp] theorem q_sorted (xs : List PyData) : opSorted [.list xs] = if sortOk xs = true then some (.o (.lst (inOrder xs))) else none := (rfl)
theorem f_signs {t : PO} {h : List PO} (hb : Bag t h) : ∃ xs h', Bag t h' ∧ SgOk xs ∧ F__law_signs ad [.r 1] h = .ok (.d (.tuple xs)) h' := by
  obtain ⟨bs, h', a, b, hb', hl, e⟩ := signs_loop (ad := ad) t [(sg "ab" 0, 2), (sg "pq" 2, 2), (sg "s" 1, 2), (sg "st" 1, 4), (sg "abd" 0, 4)] SGB h none none hb (by decide) (by simp)
  have hs : sortOk (SGB ++ pick SGX bs) = true ∧ SgOkB (inOrder (SGB ++ pick SGX bs)) = true := by
    match bs, hl with
    | [b1, b2, b3, b4, b5], _ =>
      rw [inOrder_is]
      exact sg_all b1 b2 b3 b4 b5
  refine ⟨inOrder (SGB ++ pick SGX bs), h', hb', .of hs.2, ?_⟩
  have : B__law_signs ad = sSeq (sSet 1 (eLst [(eTup [(eC (.str "a")), (eC (.int 0))]), (eTup [(eC (.str "p")), (eC (.int 2))])])) (sSeq (sFor (iOf anyOf (eLst [(eTup [(eTup [(eC (.str "ab")), (eC (.int 0))]), (eC (.int 2))]), (eTup [(eTup [(eC (.str "pq")), (eC (.int 2))]), (eC (.int 2))]), (eTup [(eTup [(eC (.str "s")), (eC (.int 1))]), (eC (.int 2))]), (eTup [(eTup [(eC (.str "st")), (eC (.int 1))]), (eC (.int 4))]), (eTup [(eTup [(eC (.str "abd")), (eC (.int 0))]), (eC (.int 4))])])) (tgT [(tgN 2), (tgN 3)]) (snB ad)) (sRet (eCallB opTuple [(pE (eCallB opSorted [(pV 1)]))]))) := rfl
  simp [sg, SGB] at e
  simp [SGX, sg, SGB] at hs
  simp [F__law_signs, fnS, this, e, hs.1, SGX, sg, SGB]
end K05

set_option maxRecDepth 100000
set_option maxHeartbeats 2000000
namespace K05
open PySem PySem.Spec PyProof.Rows L2 Z
variable {ad : Ad}
def KMN : List PyData := [.str "k", .str "m", .str "n"]
theorem kmn {x : PyData} (h : x ∈ KMN) : isName x = true ∧ gd 0 x = true ∧ sz x = 1 := by
  simp only [KMN, List.mem_cons, List.not_mem_nil, or_false] at h
  rcases h with rfl | rfl | rfl <;> decide +kernel
/-- a rule as drawn -/
structure DrR (xs : List PyData) (r : PyData) : Prop where
  ex : ∃ (k : PyData) (l : Str) (ys : List PyData), r = .tuple [k, .str l, .tuple ys] ∧ k ∈ KMN ∧ (∀ y ∈ ys, y ∈ KMN) ∧ manyOf xs (.str l) = .int ys.length ∧ ys.length ≤ 2 ∧ PyData.strOk l = true ∧ l.length ≤ 100
theorem DrR.fault {xs : List PyData} {r : PyData} (h : DrR xs r) (pre : List PyData) : ruleFault xs pre r = if (pre.any fun z => PyData.eqv z r) = true then .str "twice" else .none := by
  obtain ⟨k, l, ys, rfl, hk, hy, hm, h2, hl, h1⟩ := h
  have hf : ruleForm (.tuple [k, .str l, .tuple ys]) = true := by
    simp only [ruleForm, isStr, tupAll, (kmn hk).1, Bool.true_and, List.all_eq_true]
    exact fun y h => (kmn (hy y h)).1
  unfold ruleFault
  rw [if_pos hf]
  simp only [hm]
  rw [if_pos trivial]
theorem DrR.gd {xs : List PyData} {r : PyData} (h : DrR xs r) : gd 2 r = true := by
  obtain ⟨k, l, ys, rfl, hk, hy, hm, h2, hl, h1⟩ := h
  refine gd_tup.mpr ⟨by simp, fun x hx => ?_⟩
  simp only [List.mem_cons, List.not_mem_nil, or_false] at hx
  rcases hx with rfl | rfl | rfl
  · exact gd_succ (kmn hk).2.1
  · simp [Z.gd, hl, h1]
  · exact gd_tup.mpr ⟨by omega, fun y h => (kmn (hy y h)).2.1⟩
theorem DrR.sz {xs : List PyData} {r : PyData} (h : DrR xs r) : sz r ≤ 20 := by
  obtain ⟨k, l, ys, rfl, hk, hy, hm, h2, hl, h1⟩ := h
  match ys, h2, hy with
  | [], _, _ => simp [Z.sz, szs, (kmn hk).2.2]
  | [a], _, hy => simp [Z.sz, szs, (kmn hk).2.2, (kmn (hy a (by simp))).2.2]
  | [a, b], _, hy => simp [Z.sz, szs, (kmn hk).2.2, (kmn (hy a (by simp))).2.2, (kmn (hy b (by simp))).2.2]
theorem some_loop {t : PO} {ks : List PyData} (k1 : ks ≠ []) (k2 : ks.length ≤ 1000) (a1 a3 a4 : SV) : ∀ (its acc : List PyData) (h : List PO), Bag t h → acc.length + its.length ≤ 1000 →
    ∃ ys h', Bag t h' ∧ ys.length = its.length ∧ (∀ y ∈ ys, y ∈ ks) ∧ compL [6] (tgN 6) tYesZ (eCall (F__law_some ad) [(eV 0), (eV 2)]) its acc ⟨[some (.r 1), some a1, some (.d (.list ks)), some a3, some a4, none, none], h⟩ = .ok (.o (.lst (acc ++ ys))) ⟨[some (.r 1), some a1, some (.d (.list ks)), some a3, some a4, none, none], h'⟩
  | [], acc, h, hb, hl => ⟨[], h, hb, rfl, by simp, by simp [compL]⟩
  | x :: its, acc, h, hb, hl => by
    simp at hl
    obtain ⟨y, h', hb', hy, e⟩ := f_some (ad := ad) hb ks k1 k2
    obtain ⟨ys, h2, hb2, hl2, hy2, e2⟩ := some_loop k1 k2 a1 a3 a4 its (acc ++ [y]) h' hb' (by simp; omega)
    have f : fits (acc.length + 1) = true := fits_of (by omega)
    refine ⟨y :: ys, h2, hb2, by simp [hl2], fun z hz => ?_, ?_⟩
    · rcases List.mem_cons.mp hz with rfl | hz
      · exact hy
      · exact hy2 z hz
    · rw [show acc ++ y :: ys = acc ++ [y] ++ ys by simp, ← e2]
      conv => lhs; unfold compL
      simp [e, f]
theorem rangeD_len (n : Nat) : (rangeD 0 (n : Int)).length = n := by simp [rangeD]
theorem f_a_rule {t : PO} {h : List PO} (hb : Bag t h) {xs ks : List PyData} (hs : SgOk xs) (k1 : ks ≠ []) (k2 : ∀ k ∈ ks, k ∈ KMN) (k3 : ks.length ≤ 3) :
    ∃ r h', Bag t h' ∧ DrR xs r ∧ F__law_a_rule ad [.r 1, .d (.tuple xs), .d (.list ks)] h = .ok (.d r) h' := by
  obtain ⟨p1, p2, p3, p4⟩ := isSigns_parts hs.ok
  have ec : compL [5] (tgN 5) (tOf (eBin opGt (pE (eBin opIxS (pV 5) (pE (eC (.int 1))))) (pE (eC (.int 0))))) (eV 5) xs [] ⟨[some (.r 1), some (.d (.tuple xs)), some (.d (.list ks)), none, none, none, none], h⟩ = .ok (.o (.lst ([] ++ (xs.filter fun x => match x with | .tuple [_, .int m] => decide (0 < m) | _ => false).map id))) ⟨[some (.r 1), some (.d (.tuple xs)), some (.d (.list ks)), none, none, none, none], h⟩ := by
    refine compL_fm (fun x hx => ?_) (by simp; omega)
    obtain ⟨l, m, rfl, _⟩ := hs.each x hx
    by_cases hm : 0 < m
    · simp [sg, hm]
      exact ⟨_, _, ⟨rfl, rfl⟩, rfl, rfl, rfl⟩
    · simp [sg, hm]
  obtain ⟨x, h1, hb1, hx, e1⟩ := f_some (ad := ad) hb (xs ++ (xs.filter fun x => match x with | .tuple [_, .int m] => decide (0 < m) | _ => false)) (by cases xs <;> simp_all) (by
    have := List.length_filter_le (fun x => match x with | PyData.tuple [_, .int m] => decide (0 < m) | _ => false) xs
    simp only [List.length_append]
    omega)
  have hx : x ∈ xs := by
    rcases List.mem_append.mp hx with h | h
    · exact h
    · exact (List.mem_filter.mp h).1
  obtain ⟨l, m, rfl, em, so, sl, m0, m2⟩ := hs.each x hx
  obtain ⟨n, rfl⟩ := Int.eq_ofNat_of_zero_le m0
  obtain ⟨k, h2, hb2, hk, e2⟩ := f_some (ad := ad) hb1 ks k1 (by omega)
  obtain ⟨ys, h3, hb3, yl, yk, e3⟩ := some_loop (ad := ad) k1 (by omega) (.d (.tuple xs)) (.d (.str l)) (.d (.int (n : Int))) (rangeD 0 (n : Int)) [] h2 hb2 (by rw [rangeD_len]; simp; omega)
  rw [rangeD_len] at yl
  refine ⟨.tuple [k, .str l, .tuple ys], h3, hb3, ⟨k, l, ys, rfl, k2 k hk, fun y hy => k2 y (yk y hy), by rw [em, yl], by omega, so, sl⟩, ?_⟩
  have f1 : fits (xs.length + (xs.filter fun x => match x with | PyData.tuple [_, .int m] => decide (0 < m) | _ => false).length) = true := fits_of (by
    have := List.length_filter_le (fun x => match x with | PyData.tuple [_, .int m] => decide (0 < m) | _ => false) xs
    omega)
  have s62 : small62 (n : Int) = true := by unfold small62; simp; omega
  simp at ec
  simp [sg] at e1
  simp [F__law_a_rule, fnS, B__law_a_rule, ec, f1, e1, e2, e3, s62, sg]
end K05

set_option maxRecDepth 100000
set_option maxHeartbeats 2000000
namespace K05
open PySem PySem.Spec PyProof.Rows L2 Z
variable {ad : Ad}
def Df (a b : PyData) : Prop := PyData.eqv a b = false
theorem Df.symm {a b : PyData} (h : Df a b) : Df b a := by unfold Df at *; rw [PySem.W.eqv_comm]; exact h
theorem notin_is {xs : List PyData} {r : PyData} {rs : List PyData} (dr : DrR xs r) (hs : ∀ z ∈ rs, gd 2 z = true) (hl : rs.length ≤ 1000) : opNotIn r (.list rs) = some (.d (.bool (!(rs.any fun y => PyData.eqv y r)))) := by
  have hr := dr.gd
  obtain ⟨k, l, ys, rfl, _⟩ := dr
  have g : gd 3 (.list rs) = true := gd_lst.mpr ⟨hl, hs⟩
  show (if (SeqAt.shaped _ && SeqAt.shaped (.list rs)) = true then _ else _) = _
  rw [gd_shaped hr, gd_shaped g]
  simp
def bkB (ad : Ad) : SS := (sSeq (sSet 6 (eCall (F__law_a_rule ad) [(eV 0), (eV 1), (eV 2)]))
  (sIf (tOf (eBin opNotIn (pV 6) (pV 3)))
  (sExpr (eMut "list" muAppend (pV 3) [(eV 6)]))
  sNil))
theorem drules_loop {t : PO} {xs ks : List PyData} (hs : SgOk xs) (k1 : ks ≠ []) (k2 : ∀ k ∈ ks, k ∈ KMN) (k3 : ks.length ≤ 3) : ∀ (its acc : List PyData) (h : List PO) (z4 z6 : Option SV), Bag t h → acc.length + its.length ≤ 20 → (∀ r ∈ acc, DrR xs r) → acc.Pairwise Df →
    ∃ acc' h' z4' z6', Bag t h' ∧ acc'.length ≤ acc.length + its.length ∧ acc.length ≤ acc'.length ∧ (∀ r ∈ acc', DrR xs r) ∧ acc'.Pairwise Df ∧ forL (tgN 4) (bkB ad) its ⟨[some (.r 1), some (.d (.tuple xs)), some (.d (.list ks)), some (.o (.lst acc)), z4, none, z6, none, none], h⟩ = .nx ⟨[some (.r 1), some (.d (.tuple xs)), some (.d (.list ks)), some (.o (.lst acc')), z4', none, z6', none, none], h'⟩
  | [], acc, h, z4, z6, hb, hl, hr, hp => ⟨acc, h, z4, z6, hb, by simp, by simp, hr, hp, by simp [forL]⟩
  | x :: its, acc, h, z4, z6, hb, hl, hr, hp => by
    simp at hl
    obtain ⟨r, h1, hb1, dr, e⟩ := f_a_rule (ad := ad) hb hs k1 k2 k3
    have ni := notin_is dr (fun z hz => (hr z hz).gd) (by omega : acc.length ≤ 1000)
    have f : fits (acc.length + 1) = true := fits_of (by omega)
    cases hn : (acc.any fun y => PyData.eqv y r) with
    | true =>
      obtain ⟨acc', h2, a, b, hb2, l1, l2, hr2, hp2, e2⟩ := drules_loop hs k1 k2 k3 its acc h1 (some (.d x)) (some (.d r)) hb1 (by omega) hr hp
      refine ⟨acc', h2, a, b, hb2, by simp; omega, l2, hr2, hp2, ?_⟩
      rw [← e2]
      rw [hn] at ni
      have st : bkB ad ⟨[some (.r 1), some (.d (.tuple xs)), some (.d (.list ks)), some (.o (.lst acc)), some (.d x), none, z6, none, none], h⟩ = .nx ⟨[some (.r 1), some (.d (.tuple xs)), some (.d (.list ks)), some (.o (.lst acc)), some (.d x), none, some (.d r), none, none], h1⟩ := by
        simp [bkB, e, ni]
      conv => lhs; unfold forL
      simp [st]
    | false =>
      obtain ⟨acc', h2, a, b, hb2, l1, l2, hr2, hp2, e2⟩ := drules_loop hs k1 k2 k3 its (acc ++ [r]) h1 (some (.d x)) (some (.d r)) hb1 (by simp; omega) (fun z hz => by
        rcases List.mem_append.mp hz with hz | hz
        · exact hr z hz
        · rw [List.mem_singleton.mp hz]; exact dr) (List.pairwise_append.mpr ⟨hp, List.pairwise_singleton _ _, fun a ha b hb => by
          rw [List.mem_singleton.mp hb]
          have := List.any_eq_false.mp hn a ha
          unfold Df
          simpa using this⟩)
      refine ⟨acc', h2, a, b, hb2, by simp at l1 ⊢; omega, by simp at l2; omega, hr2, hp2, ?_⟩
      rw [← e2]
      rw [hn] at ni
      have st : bkB ad ⟨[some (.r 1), some (.d (.tuple xs)), some (.d (.list ks)), some (.o (.lst acc)), some (.d x), none, z6, none, none], h⟩ = .nx ⟨[some (.r 1), some (.d (.tuple xs)), some (.d (.list ks)), some (.o (.lst (acc ++ [r]))), some (.d x), none, some (.d r), none, none], h1⟩ := by
        simp [bkB, e, ni, f]
      conv => lhs; unfold forL
      simp [st]
/-- a drawn book -/
structure DrB (xs ts rs : List PyData) : Prop where
  signs : SgOk xs
  t1 : 1 ≤ ts.length
  t2 : ts.length ≤ 2
  tk : ∀ k ∈ ts, k ∈ KMN
  rise : up ts = true
  r1 : 1 ≤ rs.length
  r2 : rs.length ≤ 24
  rules : ∀ r ∈ rs, DrR xs r
  dist : rs.Pairwise Df
theorem DrB.fine {xs ts rs : List PyData} (h : DrB xs ts rs) : FineB (.str "drawn") xs ts rs where
  name := by decide +kernel
  signs := h.signs.ok
  tops := List.all_eq_true.mpr fun k hk => (kmn (h.tk k hk)).1
  rise := h.rise
  t1 := h.t1
  t6 := by have := h.t2; omega
  r1 := h.r1
  r24 := h.r2
  rules := fun i r e => by
    have hr : r ∈ rs := List.mem_of_getElem? e
    rw [(h.rules r hr).fault]
    have : ((rs.take i).any fun z => PyData.eqv z r) = false := by
      rw [List.any_eq_false]
      intro z hz
      obtain ⟨j, hj, ej⟩ := List.getElem_of_mem hz
      simp at hj ej
      have hi : i < rs.length := (List.getElem?_eq_some_iff.mp e).1
      have hp := List.pairwise_iff_getElem.mp h.dist j i (by omega) hi (by omega)
      rw [ej, (List.getElem?_eq_some_iff.mp e).2] at hp
      unfold Df at hp
      simp [hp]
    rw [this]
    rfl
  kinds := by
    have sub : ∀ x ∈ kindsL ts rs, x ∈ KMN := fun x hx => by
      rcases List.mem_append.mp hx with hx | hx
      · rcases List.mem_append.mp hx with hx | hx
        · exact h.tk x hx
        · obtain ⟨r, hr, rfl⟩ := List.mem_map.mp hx
          obtain ⟨k, l, ys, rfl, hk, _⟩ := h.rules r hr
          exact hk
      · obtain ⟨r, hr, hx⟩ := List.mem_flatMap.mp hx
        obtain ⟨k, l, ys, rfl, hk, hy, _⟩ := h.rules r hr
        exact hy x hx
    have : (upS (strsOf (kindsL ts rs))).length ≤ ([("k" : Str), "m", "n"] : List Str).length := by
      refine List.Nodup.length_le_of_subset (upS_nodup _) fun z hz => ?_
      have := sub _ (mem_strsOf.mp (mem_upS.mp hz))
      simp only [KMN, List.mem_cons, List.not_mem_nil, or_false, PyData.str.injEq] at this
      simpa using this
    simp at this
    omega
theorem DrB.parts {xs ts rs : List PyData} (h : DrB xs ts rs) : Parts (.str "drawn") (.tuple xs) (.tuple ts) rs where
  gn := by decide +kernel
  gs := by
    obtain ⟨p1, p2, p3, p4⟩ := isSigns_parts h.signs.ok
    refine gd_tup.mpr ⟨by omega, fun x hx => ?_⟩
    obtain ⟨l, m, rfl, _, so, sl, _⟩ := h.signs.each x hx
    refine gd_tup.mpr ⟨by simp, fun y hy => ?_⟩
    simp only [List.mem_cons, List.not_mem_nil, or_false] at hy
    rcases hy with rfl | rfl
    · simp [Z.gd, so, sl]
    · rfl
  gt := gd_tup.mpr ⟨by have := h.t2; omega, fun k hk => gd_succ (gd_succ (kmn (h.tk k hk)).2.1)⟩
  gr := fun r hr => (h.rules r hr).gd
  len := by have := h.r2; omega
end K05

set_option maxRecDepth 100000
set_option maxHeartbeats 2000000
namespace K05
open PySem PySem.Spec PyProof.Rows L2 Z
variable {ad : Ad}
theorem inOrder_perm (zs : List PyData) : (inOrder zs).Perm zs := List.mergeSort_perm _ _
theorem srt {zs : List PyData} (h : ∀ z ∈ zs, z ∈ KMN) (nd : zs.Nodup) (l1 : 1 ≤ zs.length) (l2 : zs.length ≤ 2) : sortOk zs = true ∧ up (inOrder zs) = true := by
  match zs, l1, l2, h, nd with
  | [a], _, _, h, _ =>
    have ha := h a (by simp)
    simp only [KMN, List.mem_cons, List.not_mem_nil, or_false] at ha
    rw [inOrder_is]
    rcases ha with rfl | rfl | rfl <;> decide +kernel
  | [a, b], _, _, h, nd =>
    have ha := h a (by simp)
    have hb := h b (by simp)
    simp only [KMN, List.mem_cons, List.not_mem_nil, or_false] at ha hb
    rw [inOrder_is]
    rcases ha with rfl | rfl | rfl <;> rcases hb with rfl | rfl | rfl <;> first | decide +kernel | simp at nd
def zm : PyData → Bool | .tuple [_, .int m] => decide (m = 0) | _ => false
theorem kmn_nodup : KMN.Nodup := by simp [KMN]
theorem f_book_of {t : PO} {h : List PO} (hb : Bag t h) {xs : List PyData} (hs : SgOk xs) :
    ∃ ts rs h', Bag t h' ∧ DrB xs ts rs ∧ F__law_book_of ad [.r 1, .d (.tuple xs)] h = .ok (.d (.tuple [.str "drawn", .tuple xs, .tuple ts, .tuple rs])) h' := by
  obtain ⟨p1, p2, p3, p4⟩ := isSigns_parts hs.ok
  obtain ⟨v, h1, hb1, v0, v1, e1⟩ := f_take (ad := ad) hb (m := 3) (by decide) (by decide)
  obtain ⟨v, rfl⟩ := Int.eq_ofNat_of_zero_le v0
  have hv : v ≤ 2 := by omega
  have kne : KMN.take (v + 1) ≠ [] := by simp [KMN]
  have kl : (KMN.take (v + 1)).length = v + 1 := by simp [KMN]; omega
  have ksub : ∀ k ∈ KMN.take (v + 1), k ∈ KMN := fun k hk => List.mem_of_mem_take hk
  have knd : (KMN.take (v + 1)).Nodup := kmn_nodup.sublist (List.take_sublist _ _)
  generalize hks : KMN.take (v + 1) = ks at kne kl ksub knd
  have ck : Z.cutD KMN none (some (1 + (v : Int))) = ks := by
    rw [show (1 : Int) + (v : Int) = ((v + 1 : Nat) : Int) by omega, cutN KMN (v + 1) (by simp [KMN]; omega), hks]
  obtain ⟨k, h2, hb2, hk, e2⟩ := f_some (ad := ad) hb1 ks kne (by omega)
  have ec : compL [7, 8] (tgT [tgN 7, tgN 8]) (tOf (eBin opEq (pV 8) (pE (eC (.int 0))))) (eV 7) xs [] ⟨[some (.r 1), some (.d (.tuple xs)), some (.d (.list ks)), none, none, none, none, none, none], h2⟩ = .ok (.o (.lst ([] ++ (xs.filter zm).map lab))) ⟨[some (.r 1), some (.d (.tuple xs)), some (.d (.list ks)), none, none, none, none, none, none], h2⟩ := by
    refine compL_fm (fun x hx => ?_) (by simp; omega)
    obtain ⟨l, m, rfl, _⟩ := hs.each x hx
    by_cases hm : m = 0
    · simp [sg, hm, zm]
      exact ⟨_, _, ⟨rfl, rfl⟩, rfl, rfl, rfl⟩
    · simp [sg, hm, zm]
  have hz : (xs.filter zm) ≠ [] := by
    have := hs.ok
    simp only [isSigns, Bool.and_eq_true, hasZ, List.any_eq_true] at this
    obtain ⟨m, hm, em⟩ := this.2
    obtain ⟨x, hx, rfl⟩ := List.mem_map.mp hm
    obtain ⟨l, m, rfl, _⟩ := hs.each x hx
    have : m = 0 := by simpa [mny, sg, PyData.eqv] using em
    intro e
    have := List.mem_filter.mpr ⟨hx, (by simp [sg, this, zm] : zm (sg l m) = true)⟩
    rw [e] at this
    cases this
  generalize hls : (xs.filter zm) = ls at ec hz
  have lsub : ∀ x ∈ ls, ∃ l, x = sg l 0 ∧ manyOf xs (.str l) = .int 0 ∧ PyData.strOk l = true ∧ l.length ≤ 100 := fun x hx => by
    rw [← hls] at hx
    obtain ⟨h1, h2⟩ := List.mem_filter.mp hx
    obtain ⟨l, m, rfl, em, so, sl, _⟩ := hs.each x h1
    have : m = 0 := by simpa [sg, zm] using h2
    subst this
    exact ⟨l, rfl, em, so, sl⟩
  have lsl : ls.length ≤ 8 := by
    rw [← hls]
    exact Nat.le_trans (List.length_filter_le _ _) p2
  obtain ⟨y, h3, hb3, hy, e3⟩ := f_some (ad := ad) hb2 (ls.map lab) (by simpa using hz) (by simp; omega)
  obtain ⟨x, hx, rfl⟩ := List.mem_map.mp hy
  obtain ⟨l, rfl, em, so, sl⟩ := lsub x hx
  have dr0 : DrR xs (.tuple [k, .str l, .tuple []]) := ⟨k, l, [], rfl, ksub k hk, by simp, by simpa using em, by simp, so, sl⟩
  obtain ⟨w, h4, hb4, w0, w1, e4⟩ := f_take (ad := ad) hb3 (m := 7) (by decide) (by decide)
  obtain ⟨w, rfl⟩ := Int.eq_ofNat_of_zero_le w0
  obtain ⟨rs, h5, z4, z6, hb5, rl1, rl2, hrs, hdf, e5⟩ := drules_loop (ad := ad) hs kne ksub (by omega) (rangeD 0 ((w + 2 : Nat) : Int)) [.tuple [k, .str l, .tuple []]] h4 none none hb4 (by rw [rangeD_len]; simp; omega) (fun r hr => by rw [List.mem_singleton.mp hr]; exact dr0) (List.pairwise_singleton _ _)
  rw [rangeD_len] at rl1
  simp at rl1 rl2
  obtain ⟨ms, h6, hb6, pm, e6⟩ := f_mixed (ad := ad) hb5 ks (by omega)
  obtain ⟨u, h7, hb7, u0, u1, e7⟩ := f_take (ad := ad) hb6 (m := 2) (by decide) (by decide)
  obtain ⟨u, rfl⟩ := Int.eq_ofNat_of_zero_le u0
  have ml : ms.length = v + 1 := by rw [pm.length_eq, kl]
  have cm : ∃ zs, Z.cutD ms none (some (1 + (u : Int))) = zs ∧ (∀ z ∈ zs, z ∈ KMN) ∧ zs.Nodup ∧ 1 ≤ zs.length ∧ zs.length ≤ 2 := by
    have sub : ∀ zs : List PyData, zs.Sublist ms → (∀ z ∈ zs, z ∈ KMN) ∧ zs.Nodup := fun zs s => ⟨fun z hz => ksub z (pm.mem_iff.mp (s.subset hz)), (pm.nodup_iff.mpr knd).sublist s⟩
    by_cases q : u + 1 ≤ ms.length
    · refine ⟨_, by rw [show (1 : Int) + (u : Int) = ((u + 1 : Nat) : Int) by omega, cutN ms (u + 1) q], (sub _ (List.take_sublist _ _)).1, (sub _ (List.take_sublist _ _)).2, by simp; omega, by simp; omega⟩
    · have : Z.cutD ms none (some (1 + (u : Int))) = ms := by
        have hm1 : ms.length = 1 := by omega
        have hu1 : u = 1 := by omega
        subst hu1
        match ms, hm1 with
        | [a], _ => rfl
      exact ⟨ms, this, (sub _ (List.Sublist.refl _)).1, (sub _ (List.Sublist.refl _)).2, by omega, by omega⟩
  obtain ⟨zs, cz, zk, znd, z1, z2⟩ := cm
  obtain ⟨so1, so2⟩ := srt zk znd z1 z2
  obtain ⟨rs', h8, hb8, pr, e8⟩ := f_mixed (ad := ad) hb7 rs (by omega)
  refine ⟨inOrder zs, rs', h8, hb8, ⟨hs, ?_, ?_, ?_, so2, ?_, ?_, ?_, ?_⟩, ?_⟩
  · rw [(inOrder_perm zs).length_eq]; exact z1
  · rw [(inOrder_perm zs).length_eq]; exact z2
  · exact fun z hz => zk z ((inOrder_perm zs).mem_iff.mp hz)
  · rw [pr.length_eq]; omega
  · rw [pr.length_eq]; omega
  · exact fun r hr => hrs r (pr.mem_iff.mp hr)
  · exact pr.symm.pairwise hdf (fun h => h.symm)
  · have hB : B__law_book_of ad = sSeq (sSet 2 (eSl opSl (pE (eLst [(eC (.str "k")), (eC (.str "m")), (eC (.str "n"))])) oNone (oSome (eBin opAdd (pE (eC (.int 1))) (pE (eCall (F__law_take ad) [(eV 0), (eC (.int 3))]))))))
      (sSeq (sSet 3 (eLst [(eTup [(eCall (F__law_some ad) [(eV 0), (eV 2)]), (eCall (F__law_some ad) [(eV 0), (eComp (iOf anyOf (eV 1)) [7, 8] (.t [7, 8]) (tOf (eBin opEq (pV 8) (pE (eC (.int 0))))) (eV 7))]), (eTup [])])]))
      (sSeq (sFor (iPl rg1 [(pE (eBin opAdd (pE (eC (.int 2))) (pE (eCall (F__law_take ad) [(eV 0), (eC (.int 7))]))))]) (tgN 4) (bkB ad))
      (sSeq (sSet 5 (eCallB opTuple [(pE (eCallB opSorted [(pE (eSl opSl (pE (eCall (F__law_mixed ad) [(eV 0), (eV 2)])) oNone (oSome (eBin opAdd (pE (eC (.int 1))) (pE (eCall (F__law_take ad) [(eV 0), (eC (.int 2))]))))))]))]))
      (sRet (eTup [(eC (.str "drawn")), (eV 1), (eV 5), (eCallB opTuple [(pE (eCall (F__law_mixed ad) [(eV 0), (eV 3)]))])]))))) := rfl
    have s62 : small62 (2 + (w : Int)) = true := by unfold small62; simp; omega
    have ew : ((w + 2 : Nat) : Int) = 2 + (w : Int) := by omega
    rw [ew] at e5
    simp only [KMN] at ck
    simp at ec
    simp [lab, sg] at e3
    simp [F__law_book_of, fnS, hB, e1, ck, e2, ec, e3, e4, s62, e5, e6, e7, cz, so1, e8]
end K05

set_option maxRecDepth 100000
set_option maxHeartbeats 4000000
namespace K05
open PySem PySem.Spec PyProof.Rows L2 Z
variable {ad : Ad}
theorem f_book {t : PO} {h : List PO} (hb : Bag t h) :
    ∃ xs ts rs h', Bag t h' ∧ DrB xs ts rs ∧ F__law_book ad [.r 1] h = .ok (.d (.tuple [.str "drawn", .tuple xs, .tuple ts, .tuple rs])) h' := by
  obtain ⟨xs, h1, hb1, hs, e1⟩ := f_signs (ad := ad) hb
  obtain ⟨ts, rs, h2, hb2, d, e2⟩ := f_book_of (ad := ad) hb1 hs
  refine ⟨xs, ts, rs, h2, hb2, d, ?_⟩
  simp [F__law_book, fnS, B__law_book, e1, e2]
/-- a small book's parts -/
structure BkP (n : PyData) (xs : List PyData) (tp : PyData) (rs : List PyData) : Prop where
  signs : SgOk xs
  parts : Parts n (.tuple xs) tp rs
  zn : sz n ≤ 1
  zx : sz (.tuple xs) ≤ 100
  zt : sz tp ≤ 20
  zr : ∀ r ∈ rs, sz r ≤ 20
theorem szs_le : ∀ {xs : List PyData} {k : Nat}, (∀ x ∈ xs, sz x ≤ k) → szs xs ≤ xs.length * k
  | [], k, _ => by simp [szs]
  | x :: xs, k, h => by
    have := szs_le (xs := xs) (k := k) fun y hy => h y (List.mem_cons_of_mem _ hy)
    have := h x List.mem_cons_self
    simp only [szs, List.length_cons, Nat.add_mul]
    omega
theorem DrB.bkp {xs ts rs : List PyData} (h : DrB xs ts rs) : BkP (.str "drawn") xs (.tuple ts) rs where
  signs := h.signs
  parts := h.parts
  zn := by simp [sz]
  zx := by
    obtain ⟨p1, p2, p3, p4⟩ := isSigns_parts h.signs.ok
    have := szs_le (xs := xs) (k := 3) fun x hx => by
      obtain ⟨l, m, rfl, _⟩ := h.signs.each x hx
      simp [sg, sz, szs]
    simp only [sz]
    omega
  zt := by
    have := szs_le (xs := ts) (k := 1) fun x hx => by rw [(kmn (h.tk x hx)).2.2]; omega
    have := h.t2
    simp only [sz]
    omega
  zr := fun r hr => (h.rules r hr).sz
theorem BkP.sz {n : PyData} {xs : List PyData} {tp : PyData} {rs : List PyData} (h : BkP n xs tp rs) : sz (.tuple [n, .tuple xs, tp, .tuple rs]) ≤ 10000 := by
  have h1 := h.zn
  have h2 := h.zx
  have h3 := h.zt
  have h4 := szs_le h.zr
  have h5 := h.parts.len
  simp only [Z.sz, szs] at h2 ⊢
  omega
def isBk (x : PyData) : Prop := ∃ n xs tp rs, x = .tuple [n, .tuple xs, tp, .tuple rs] ∧ BkP n xs tp rs
/-- what a change leads to is small when it is a book -/
def Leads (ad : Ad) (n s t : PyData) (rs : List PyData) (c : Ch) : Prop := ∀ y, later n s t rs c = some y → bf ad y = .none → isBk y
theorem f_drawn_change (hne : ad.is_integer ≠ ad.is_name) {t : PO} {h : List PO} (hb : Bag t h) {n : PyData} {xs : List PyData} {tp : PyData} {rs : List PyData} (p : BkP n xs tp rs) (r1 : 1 ≤ rs.length) (r2 : rs.length ≤ 24) :
    ∃ c h', Bag t h' ∧ c.Ok ∧ Leads ad n (.tuple xs) tp rs c ∧ F__law_drawn_change ad [.r 1, .d (.tuple [n, .tuple xs, tp, .tuple rs])] h = .ok (.d c.d) h' := by
  obtain ⟨w, h1, hb1, w0, w1, e1⟩ := f_take (ad := ad) hb (m := 6) (by decide) (by decide)
  let ats : List PyData := [.int 0, .int 0, .int ((rs.length : Int) - 1), .int rs.length, .int ((rs.length : Int) + 1), .int (-1), .bool true, .none, .str "0"]
  obtain ⟨a, h2, hb2, ha, e2⟩ := f_some (ad := ad) hb1 ats (by simp [ats]) (by simp [ats])
  have aa : atom a = true ∧ ∀ k, gd k a = true := by
    simp only [ats, List.mem_cons, List.not_mem_nil, or_false] at ha
    rcases ha with rfl | rfl | rfl | rfl | rfl | rfl | rfl | rfl | rfl
    all_goals refine ⟨by first | rfl | decide +kernel, fun k => ?_⟩
    all_goals first | (cases k <;> rfl) | (cases k <;> simp [gd] <;> decide +kernel)
  have ps := p.parts
  have chg : ∀ (z : Str) (us : List PyData), PyData.strOk z = true → z.length ≤ 100 → us.length ≤ 100 → (∀ u ∈ us, gd 4 u = true) → gd 5 (.tuple (.str z :: us)) = true := fun z us h1 h2 h3 h4 => gd_tup.mpr ⟨by simp; omega, fun x hx => by
    rcases List.mem_cons.mp hx with rfl | hx
    · simp [gd, h1, h2]
    · exact h4 x hx⟩
  by_cases w2 : w < 2
  · obtain ⟨r, h3, hb3, dr, e3⟩ := f_a_rule (ad := ad) hb2 p.signs (ks := KMN) (by simp [KMN]) (fun k hk => hk) (by simp [KMN])
    obtain ⟨q, rs', rfl⟩ : ∃ q rs', rs = q :: rs' := by cases rs with | nil => simp at r1 | cons q rs' => exact ⟨q, rs', rfl⟩
    obtain ⟨R, h4, hb4, hR, e4⟩ := f_some (ad := ad) hb3 [r, r, r, q, .tuple [.str "k", .str "zz", .tuple []], .tuple [.str "k", .str "a", .tuple [.str "k"]], .none] (by simp) (by simp)
    have gR : gd 2 R = true ∧ sz R ≤ 20 := by
      simp only [List.mem_cons, List.not_mem_nil, or_false] at hR
      rcases hR with rfl | rfl | rfl | rfl | rfl | rfl | rfl
      · exact ⟨dr.gd, dr.sz⟩
      · exact ⟨dr.gd, dr.sz⟩
      · exact ⟨dr.gd, dr.sz⟩
      · exact ⟨ps.gr R (by simp), p.zr R (by simp)⟩
      · decide +kernel
      · decide +kernel
      · decide +kernel
    refine ⟨.rule a R, h4, hb4, ⟨⟨aa.1, gR.1⟩, chg "rule" [a, R] (by decide +kernel) (by decide +kernel) (by simp) (fun u hu => ?_)⟩, fun y hy _ => ?_, ?_⟩
    · simp only [List.mem_cons, List.not_mem_nil, or_false] at hu
      rcases hu with rfl | rfl
      · exact aa.2 4
      · exact gd_succ (gd_succ gR.1)
    · cases a with
      | int i =>
        simp only [later] at hy
        split at hy
        · cases hy
          have hm : ∀ z ∈ List.take i.toNat (q :: rs') ++ R :: List.drop i.toNat (q :: rs'), z = R ∨ z ∈ q :: rs' := fun z hz => by
            rcases List.mem_append.mp hz with hz | hz
            · exact .inr (List.mem_of_mem_take hz)
            · rcases List.mem_cons.mp hz with rfl | hz
              · exact .inl rfl
              · exact .inr (List.mem_of_mem_drop hz)
          refine ⟨n, xs, tp, _, rfl, p.signs, ⟨ps.gn, ps.gs, ps.gt, fun z hz => ?_, ?_⟩, p.zn, p.zx, p.zt, fun z hz => ?_⟩
          · rcases hm z hz with rfl | hz
            · exact gR.1
            · exact ps.gr z hz
          · simp only [List.length_append, List.length_cons, List.length_take, List.length_drop] at r2 ⊢
            omega
          · rcases hm z hz with rfl | hz
            · exact gR.2
            · exact p.zr z hz
        · cases hy
      | _ => cases hy
    · simp [ats] at e2
      simp [KMN] at e3
      simp [F__law_drawn_change, fnS, B__law_drawn_change, e1, e2, w2, e3, e4, Ch.d]
  · by_cases w4 : w < 4
    · refine ⟨.unrule a, h2, hb2, ⟨aa.1, chg "unrule" [a] (by decide +kernel) (by decide +kernel) (by simp) (fun u hu => by rw [List.mem_singleton.mp hu]; exact aa.2 4)⟩, fun y hy _ => ?_, ?_⟩
      · cases a with
        | int i =>
          simp only [later] at hy
          split at hy
          · cases hy
            have hm : ∀ z ∈ List.take i.toNat rs ++ List.drop (i.toNat + 1) rs, z ∈ rs := fun z hz => by
              rcases List.mem_append.mp hz with hz | hz
              · exact List.mem_of_mem_take hz
              · exact List.mem_of_mem_drop hz
            refine ⟨n, xs, tp, _, rfl, p.signs, ⟨ps.gn, ps.gs, ps.gt, fun z hz => ps.gr z (hm z hz), ?_⟩, p.zn, p.zx, p.zt, fun z hz => p.zr z (hm z hz)⟩
            simp only [List.length_append, List.length_take, List.length_drop]
            omega
          · cases hy
        | _ => cases hy
      · simp [ats] at e2
        simp [F__law_drawn_change, fnS, B__law_drawn_change, e1, e2, w2, w4, Ch.d]
    · by_cases w5 : w = 4
      · let tops : List PyData := [.tuple [.str "k"], .tuple [.str "k", .str "m"], .tuple [.str "m", .str "n"], .tuple [], .tuple [.str "m", .str "k"], .list [.str "k"], .tuple [.str "Kk"], .none]
        obtain ⟨T, h3, hb3, hT, e3⟩ := f_some (ad := ad) hb2 tops (by simp [tops]) (by simp [tops])
        have gT : gd 3 T = true ∧ sz T ≤ 20 := by
          simp only [tops, List.mem_cons, List.not_mem_nil, or_false] at hT
          rcases hT with rfl | rfl | rfl | rfl | rfl | rfl | rfl | rfl <;> decide +kernel
        refine ⟨.tops T, h3, hb3, ⟨gT.1, chg "tops" [T] (by decide +kernel) (by decide +kernel) (by simp) (fun u hu => by rw [List.mem_singleton.mp hu]; exact gd_succ gT.1)⟩, fun y hy _ => ?_, ?_⟩
        · cases hy
          exact ⟨n, xs, T, rs, rfl, p.signs, ⟨ps.gn, ps.gs, gT.1, ps.gr, ps.len⟩, p.zn, p.zx, gT.2, p.zr⟩
        · simp [ats] at e2
          simp [tops] at e3
          simp [F__law_drawn_change, fnS, B__law_drawn_change, e1, e2, w2, w4, w5, e3, Ch.d]
      · obtain ⟨ts1, rs1, h3, hb3, d1, e3⟩ := f_book_of (ad := ad) hb2 p.signs
        obtain ⟨xs2, ts2, rs2, h4, hb4, d2, e4⟩ := f_book (ad := ad) hb3
        obtain ⟨X, h5, hb5, hX, e5⟩ := f_some (ad := ad) hb4 [.tuple [.str "drawn", .tuple xs, .tuple ts1, .tuple rs1], .tuple [.str "drawn", .tuple xs2, .tuple ts2, .tuple rs2], .tuple [n, .tuple xs, tp], .none, .int 5] (by simp) (by simp)
        have gX : gd 4 X = true ∧ isStr X = false := by
          simp only [List.mem_cons, List.not_mem_nil, or_false] at hX
          rcases hX with rfl | rfl | rfl | rfl | rfl
          · exact ⟨d1.parts.gd, rfl⟩
          · exact ⟨d2.parts.gd, rfl⟩
          · refine ⟨gd_tup.mpr ⟨by simp, fun x hx => ?_⟩, rfl⟩
            simp only [List.mem_cons, List.not_mem_nil, or_false] at hx
            rcases hx with rfl | rfl | rfl
            · exact ps.gn
            · exact ps.gs
            · exact ps.gt
          · exact ⟨rfl, rfl⟩
          · exact ⟨rfl, rfl⟩
        refine ⟨.book X, h5, hb5, ⟨gX, chg "book" [X] (by decide +kernel) (by decide +kernel) (by simp) (fun u hu => by rw [List.mem_singleton.mp hu]; exact gX.1)⟩, fun y hy hbf => ?_, ?_⟩
        · cases hy
          obtain ⟨n', sg', ts', rs', eX, _⟩ := (bf_is hne X gX.1 (by decide)).2.2.1 hbf
          simp only [List.mem_cons, List.not_mem_nil, or_false] at hX
          rcases hX with rfl | rfl | rfl | rfl | rfl
          · exact ⟨_, _, _, _, rfl, d1.bkp⟩
          · exact ⟨_, _, _, _, rfl, d2.bkp⟩
          · simp at eX
          · cases eX
          · cases eX
        · simp [ats] at e2
          simp [F__law_drawn_change, fnS, B__law_drawn_change, e1, e2, w2, w4, w5, e3, e4, cut3, e5, Ch.d]
end K05

set_option maxRecDepth 100000
set_option maxHeartbeats 4000000
namespace K05
open PySem PySem.Spec PyProof.Rows L2 Z
variable {ad : Ad}
/-! ### what is caught -/
def gCame (isX : Str → Str → Option Bool) (l : CL) : Res SV → Res SV
  | .ok sv s' => .ok sv s'
  | .ex x s' => if x.fs.isEmpty = true then .no else match catchL isX l x ⟨[some (.d anyD), none], s'.h⟩ with
    | .rt sv s2 => .ok sv { s' with h := s2.h }
    | _ => .no
  | .no => .no
theorem q_came {k P : Nat} {q : Str} {isX : Str → Str → Option Bool} {l : CL} {fb : SE} {s : S} (h : s.h[k]? = some (.tb P q)) : eCame k P q isX l fb s = gCame isX l (fb s) := by
  unfold eCame
  rw [h]
  simp only [and_self, if_true]
  cases fb s <;> rfl
@[simp] theorem gCame_ok {isX : Str → Str → Option Bool} {l : CL} {sv : SV} {s : S} : gCame isX l (.ok sv s) = .ok sv s := rfl
theorem isX1 : isX "Refused" "Refused" = some true := by decide +kernel
theorem isX2 : isX "BadBook" "Refused" = some false := by decide +kernel
theorem isX3 : isX "BadBook" "BadBook" = some true := by decide +kernel
@[simp] theorem gCame_ref {z : PyData} {s : S} : gCame isX cl__law_came (.ex ⟨"Refused", [("why", z)]⟩ s) = .ok (.o (.lst [.str "refused", z])) s := by
  simp only [gCame, cl__law_came, catchL, isX1, rLp]
  rfl
@[simp] theorem gCame_bad {x y : PyData} {s : S} : gCame isX cl__law_came (.ex ⟨"BadBook", [("fault", x), ("at", y)]⟩ s) = .ok (.o (.lst [.str "bad"])) s := by
  simp only [gCame, cl__law_came, catchL, isX2, isX3, rLp]
  rfl
/-! ### the bag -/
theorem f_bag (ns : List Int) : ∃ cells, (∀ z ∈ cells, 0 ≤ z) ∧ cells.length ≤ 63 ∧ F__law_bag ad [.d (.dict [(.none, .list (ns.map .int))])] [] = .ok (.o (bagO 0 1234567891 0 cells)) [] := by
  obtain ⟨ms, em, lm⟩ : ∃ ms : List Int, Z.cutD (ns.map PyData.int) none (some 63) = ms.map .int ∧ ms.length ≤ 63 := by
    refine ⟨ns.take (min 63 ns.length), ?_, by simp; omega⟩
    unfold Z.cutD
    have : HT.sIx (ns.map PyData.int).length (ns.map PyData.int).length (some (63 : Int)) = min 63 (ns.map PyData.int).length := HT.sIx_nat _ _ 63
    rw [HT.sIx_none, this]
    simp [List.map_take]
  have ec : compL [1] (tgN 1) tYesZ (eCallB opAbs [(pV 1)]) (ms.map PyData.int) [] ⟨[some (.d (.dict [(.none, .list (ns.map PyData.int))])), none], []⟩ = .ok (.o (.lst ([] ++ (ms.map PyData.int).map fun x => match x with | .int i => .int (if i < 0 then -i else i) | _ => .none))) ⟨[some (.d (.dict [(.none, .list (ns.map PyData.int))])), none], []⟩ := by
    refine compL_map (fun x hx => ?_) (by simp; omega)
    obtain ⟨i, _, rfl⟩ := List.mem_map.mp hx
    exact ⟨_, _, _, rfl, rfl, rfl, rfl⟩
  refine ⟨ms.map fun i => if i < 0 then -i else i, fun z hz => ?_, by simpa using lm, ?_⟩
  · obtain ⟨i, _, rfl⟩ := List.mem_map.mp hz
    split <;> omega
  · simp at ec
    have : opSl (.dict [(.none, .list (ns.map PyData.int))]) none (some 63) = some (.o (.lst (ms.map PyData.int))) := by rw [← em]; rfl
    simp [F__law_bag, fnS, B__law_bag, this, ec, bagO]
end K05

set_option maxRecDepth 100000
set_option maxHeartbeats 4000000
namespace K05
open PySem PySem.Spec PyProof.Rows L2 Z
variable {ad : Ad}
/-- where a row of changes stands -/
structure Good (ad : Ad) (x : PyData) : Prop where
  ex : ∃ n xs tp rs, x = .tuple [n, .tuple xs, tp, .tuple rs] ∧ BkP n xs tp rs ∧ 1 ≤ rs.length ∧ rs.length ≤ 24
  fine : bf ad x = .none
theorem Good.gd {x : PyData} (g : Good ad x) : gd 4 x = true ∧ sz x ≤ 10000 := by
  obtain ⟨⟨n, xs, tp, rs, rfl, p, _⟩, _⟩ := g
  exact ⟨p.parts.gd, p.sz⟩
def lwB (ad : Ad) (Pt : Nat) : SS := (sSeq (sSet 10 (eCall (F__law_drawn_change ad) [(eV 1), (eV 8)]))
  (sSeq (sSet 11 (ePure (F__law_due ad) [(pV 8), (pV 10)]))
  (sSeq (sIf (tOr (tOf (eBin opIsNot (pE (ePure (F_is_change ad) [(pV 10)])) (pE (eC (.bool true))))) (tNot (tOf (ePure (F__law_alike ad) [(pE (eCame 0 Pt q_law isX cl__law_came (ePure (F_after_change ad) [(pV 8), (pV 10)]))), (pV 11)]))))
  (sRet (eC (.bool false)))
  sNil)
  (sSeq (sSet 12 (eCame 0 Pt q_law isX cl__law_came (ePure (F_after_all ad) [(pV 3), (pE (eBin opAdd (pV 9) (pE (eTup [(eV 10), (eTup [(eC (.str "unrule")), (eC (.int 99))])]))))])))
  (sSeq (sIf (tNot (tOf (ePure (F__law_alike ad) [(pV 12), (pE (eIf (tOf (eIsi ["list"] (pV 11))) (eV 11) (eLst [(eC (.str "refused")), (eC (.str "index"))])))])))
  (sRet (eC (.bool false)))
  sNil)
  (sSeq (sIf (tOf (eIsi ["list"] (pV 11)))
  sCont
  sNil)
  (sSeq (sSet 13 (ePure (F_back_of ad) [(pV 8), (pV 10)]))
  (sSeq (sIf (tOr (tOf (eBin opIsNot (pE (ePure (F_is_change ad) [(pV 13)])) (pE (eC (.bool true))))) (tNot (tOf (ePure (F__law_alike ad) [(pE (ePure (F_after_change ad) [(pV 11), (pV 13)])), (pV 8)]))))
  (sRet (eC (.bool false)))
  sNil)
  (sPar [8, 9] [(eV 11), (eBin opAdd (pV 9) (pE (eTup [(eV 10)])))])))))))))
theorem Bag.at0 {t : PO} {h : List PO} (hb : Bag t h) : h[0]? = some t := by
  obtain ⟨a, b, c, cells, rfl, _⟩ := hb
  rfl
theorem unr99 : (Ch.unrule (.int 99)).Ok := ⟨rfl, by decide +kernel⟩
theorem law_step (hne : ad.is_integer ≠ ad.is_name) {Pt : Nat} {h : List PO} (hb : Bag (.tb Pt q_law) h) {bk here : PyData} {row bs : List PyData} (l : Led ad bk row here bs) (g : Good ad here) (gb : Good ad bk) (hr : row.length ≤ 10)
    (z0 : SV) (z2 z4 z5 z6 z7 z10 z11 z12 z13 : Option SV) :
    ∃ fl here' row' bs' h' y10 y11 y12 y13, Bag (.tb Pt q_law) h' ∧ Led ad bk row' here' bs' ∧ Good ad here' ∧ row'.length ≤ row.length + 1 ∧ (fl = Fl.nx ∨ fl = Fl.ct) ∧
      lwB ad Pt ⟨[some z0, some (.r 1), z2, some (.d bk), z4, z5, z6, z7, some (.d here), some (.d (.tuple row)), z10, z11, z12, z13], h⟩ = fl ⟨[some z0, some (.r 1), z2, some (.d bk), z4, z5, z6, z7, some (.d here'), some (.d (.tuple row')), y10, y11, y12, y13], h'⟩ := by
  have gh := g
  obtain ⟨⟨n, xs, tp, rs, rfl, p, r1, r2⟩, hfine⟩ := g
  obtain ⟨c, h1, hb1, hc, ld, e1⟩ := f_drawn_change (ad := ad) hne hb p r1 r2
  have hT := hb1.at0
  have e2 := f_due (ad := ad) hne p.parts hc.ok
  have e3 := f_is_change (ad := ad) c hc
  obtain ⟨a1, a2, a3⟩ := f_after (ad := ad) hne p.parts hc
  have fr : fits (row.length + 2) = true := fits_of (by omega)
  have fr1 : fits (row.length + 1) = true := fits_of (by omega)
  have al1 : F__law_alike ad [.d (.list [.str "refused", .str "index"]), .d (.list [.str "refused", .str "index"])] [] = .ok (.d (.bool true)) [] := f_alike (n := 3) (by decide) (by decide +kernel) (by decide)
  have al2 : F__law_alike ad [.d (.list [.str "bad"]), .d (.list [.str "bad"])] [] = .ok (.d (.bool true)) [] := f_alike (n := 3) (by decide) (by decide +kernel) (by decide)
  have cu : (PyData.tuple [.str "unrule", .int 99]) = (Ch.unrule (.int 99)).d := rfl
  cases el : later n (.tuple xs) tp rs c with
  | none =>
    rw [el] at e2
    simp only at e2
    have e4 := a1 el
    have e5 : F_after_all ad [.d bk, .d (.tuple (row ++ [c.d, .tuple [.str "unrule", .int 99]]))] [] = .ex ⟨"Refused", [("why", .str "index")]⟩ [] := f_after_all (l.aft.append (.ex e4))
    refine ⟨Fl.ct, _, row, bs, h1, some (.d c.d), some (.d (.list [.str "refused", .str "index"])), some (.o (.lst [.str "refused", .str "index"])), z13, hb1, l, gh, by omega, .inr rfl, ?_⟩
    simp [lwB, e1, e2, e3, e4, q_came, hT, al1, fr, e5, isaAny, isa, isaN, tyN, oddD]
  | some y =>
    rw [el] at e2
    simp only at e2
    by_cases hbf : bf ad y = .none
    · obtain ⟨n', xs', tp', rs', ey, p'⟩ := ld y el hbf
      obtain ⟨_, _, _, rs'', ey', l1, l2⟩ := (bf_is hne y (later_gd p.parts hc.ok el).1 (by decide)).2.2.1 hbf
      subst ey
      cases ey'
      rw [hbf] at e2
      have gy : Good ad (.tuple [n', .tuple xs', tp', .tuple rs']) := ⟨⟨n', xs', tp', rs', rfl, p', l1, l2⟩, hbf⟩
      have e4 := a2 _ el hbf
      have lu : later n' (.tuple xs') tp' rs' (.unrule (.int 99)) = none := by
        simp only [later]
        rw [if_neg]
        omega
      have e6 := (f_after (ad := ad) hne p'.parts unr99).1 lu
      have e5 : F_after_all ad [.d bk, .d (.tuple (row ++ [c.d, .tuple [.str "unrule", .int 99]]))] [] = .ex ⟨"Refused", [("why", .str "index")]⟩ [] := f_after_all (l.aft.append (.go e4 (.ex e6)))
      have e7 := f_back (ad := ad) n (.tuple xs) tp rs c _ el
      obtain ⟨bl, bo⟩ := back_later p.parts hc el
      have e8 := f_is_change (ad := ad) _ bo
      have e9 := (f_after (ad := ad) hne p'.parts bo).2.1 _ bl hfine
      have al3 := f_alike (ad := ad) (n := 4) (by decide) gy.gd.1 (by have := gy.gd.2; omega)
      have al4 := f_alike (ad := ad) (n := 4) (by decide) gh.gd.1 (by have := gh.gd.2; omega)
      refine ⟨Fl.nx, _, row ++ [c.d], bs ++ [(backC n (.tuple xs) tp rs c).d], h1, some (.d c.d), some (.d (.tuple [n', .tuple xs', tp', .tuple rs'])), some (.o (.lst [.str "refused", .str "index"])), some (.d (backC n (.tuple xs) tp rs c).d), hb1, .step l e4 e7 e9, gy, by simp, .inl rfl, ?_⟩
      simp [isNone] at e2
      simp [lwB, e1, e2, e3, e4, q_came, hT, al1, al3, al4, fr, fr1, e5, e7, e8, e9, isaAny, isa, isaN, tyN, oddD]
    · obtain ⟨p', q', e4⟩ := a3 y el hbf
      have hnn : isNone (bf ad y) = false := by cases hq : bf ad y <;> simp_all [isNone]
      rw [hnn] at e2
      have e5 : F_after_all ad [.d bk, .d (.tuple (row ++ [c.d, .tuple [.str "unrule", .int 99]]))] [] = .ex ⟨"BadBook", [("fault", .str q'), ("at", p')]⟩ [] := f_after_all (l.aft.append (.ex e4))
      refine ⟨Fl.ct, _, row, bs, h1, some (.d c.d), some (.d (.list [.str "bad"])), some (.o (.lst [.str "bad"])), z13, hb1, l, gh, by omega, .inr rfl, ?_⟩
      simp at e2
      simp [lwB, e1, e2, e3, e4, q_came, hT, al2, fr, e5, isaAny, isa, isaN, tyN, oddD]
end K05

set_option maxRecDepth 100000
set_option maxHeartbeats 4000000
namespace K05
open PySem PySem.Spec PyProof.Rows L2 Z
variable {ad : Ad}
def BADS : List PyData := [.none, .tuple [], .tuple [.str "rule", .int 0], .tuple [.str "unrule", .int 0, .int 1], .list [.str "unrule", .int 0], .tuple [.str "fly", .int 0], .tuple [.int 3, .int 3], .str "tops", .tuple [.str "book"]]
theorem bad_is (b : PyData) (hb : b ∈ BADS) : F_is_change ad [.d b] [] = .ok (.d (.bool false)) [] := by
  have gen : ∀ (z : Str) (us : List PyData) (v : PyData), gd 5 (.tuple (.str z :: us)) = true → (tab_LONG.lookup z).getD .none = v → opEq v (.int ((us.length : Int) + 1)) = some (.d (.bool false)) → F_is_change ad [.d (.tuple (.str z :: us))] [] = .ok (.d (.bool false)) [] := fun z us v hg hv he => by
    have e := eq_empty hg (by simp)
    simp [F_is_change, fnS, B_is_change, isaAny, isa, isaN, tyN, oddD, e, kget, hv, he]
  have l1 : tab_LONG.lookup ("rule" : Str) = some (PyData.int 3) := by simp [tab_LONG, List.lookup_cons]
  have l2 : tab_LONG.lookup ("unrule" : Str) = some (PyData.int 2) := by simp [tab_LONG, List.lookup_cons]
  have l4 : tab_LONG.lookup ("book" : Str) = some (PyData.int 2) := by simp [tab_LONG, List.lookup_cons]
  have l5 : tab_LONG.lookup ("fly" : Str) = none := by simp [tab_LONG, List.lookup_cons]
  simp only [BADS, List.mem_cons, List.not_mem_nil, or_false] at hb
  rcases hb with rfl | rfl | rfl | rfl | rfl | rfl | rfl | rfl | rfl
  · rfl
  · rfl
  · exact gen "rule" [.int 0] (.int 3) (by decide +kernel) (by rw [l1]; rfl) (by rfl)
  · exact gen "unrule" [.int 0, .int 1] (.int 2) (by decide +kernel) (by rw [l2]; rfl) (by rfl)
  · rfl
  · exact gen "fly" [.int 0] .none (by decide +kernel) (by rw [l5]; rfl) (by rfl)
  · rfl
  · rfl
  · exact gen "book" [] (.int 2) (by decide +kernel) (by rw [l4]; rfl) (by rfl)
theorem bad_after (x b : PyData) (hb : b ∈ BADS) : F_after_change ad [.d x, .d b] [] = .ex ⟨"Refused", [("why", .str "change")]⟩ [] := by
  simp [F_after_change, fnS, B_after_change, bad_is b hb]
def bdB (ad : Ad) (Pt : Nat) : SS := (sIf (tOr (tOf (eBin opIsNot (pE (ePure (F_is_change ad) [(pV 7)])) (pE (eC (.bool false))))) (tOf (eBin opNe (pE (eCame 0 Pt q_law isX cl__law_came (ePure (F_after_change ad) [(pV 3), (pV 7)]))) (pE (eLst [(eC (.str "refused")), (eC (.str "change"))])))))
  (sRet (eC (.bool false)))
  sNil)
theorem ne_same : opNe (.list [.str "refused", .str "change"]) (.list [.str "refused", .str "change"]) = some (.d (.bool false)) := opNe_refl (n := 3) (by decide +kernel) (by decide)
theorem bads_loop {Pt : Nat} {h : List PO} (hb : Bag (.tb Pt q_law) h) (s0 s2 s4 s5 s6 s8 s9 s10 s11 s12 s13 : Option SV) (bk : PyData) : ∀ (bs : List PyData), (∀ b ∈ bs, b ∈ BADS) → ∀ z7 : Option SV,
    ∃ y7, forL (tgN 7) (bdB ad Pt) bs ⟨[s0, some (.r 1), s2, some (.d bk), s4, s5, s6, z7, s8, s9, s10, s11, s12, s13], h⟩ = .nx ⟨[s0, some (.r 1), s2, some (.d bk), s4, s5, s6, y7, s8, s9, s10, s11, s12, s13], h⟩
  | [], _, z7 => ⟨z7, by simp [forL]⟩
  | b :: bs, hbs, z7 => by
    obtain ⟨y7, e⟩ := bads_loop hb s0 s2 s4 s5 s6 s8 s9 s10 s11 s12 s13 bk bs (fun x hx => hbs x (List.mem_cons_of_mem _ hx)) (some (.d b))
    have hT := hb.at0
    have e1 := bad_is (ad := ad) b (hbs b List.mem_cons_self)
    have e2 := bad_after (ad := ad) bk b (hbs b List.mem_cons_self)
    refine ⟨y7, ?_⟩
    rw [← e]
    have st : bdB ad Pt ⟨[s0, some (.r 1), s2, some (.d bk), s4, s5, s6, some (.d b), s8, s9, s10, s11, s12, s13], h⟩ = .nx ⟨[s0, some (.r 1), s2, some (.d bk), s4, s5, s6, some (.d b), s8, s9, s10, s11, s12, s13], h⟩ := by
      simp [bdB, e1, q_came, hT, e2, ne_same]
    conv => lhs; unfold forL
    simp [st]
end K05

set_option maxRecDepth 100000
set_option maxHeartbeats 4000000
namespace K05
open PySem PySem.Spec PyProof.Rows L2 Z
variable {ad : Ad}
theorem row_loop (hne : ad.is_integer ≠ ad.is_name) {Pt : Nat} {bk : PyData} (gb : Good ad bk) (z0 : SV) (z2 z5 z6 z7 : Option SV) : ∀ (its : List PyData) (h : List PO) (here : PyData) (row bs : List PyData) (z4 z10 z11 z12 z13 : Option SV),
    Bag (.tb Pt q_law) h → Led ad bk row here bs → Good ad here → row.length + its.length ≤ 10 →
    ∃ here' row' bs' h' y4 y10 y11 y12 y13, Bag (.tb Pt q_law) h' ∧ Led ad bk row' here' bs' ∧ Good ad here' ∧ row'.length ≤ 10 ∧
      forL (tgN 4) (lwB ad Pt) its ⟨[some z0, some (.r 1), z2, some (.d bk), z4, z5, z6, z7, some (.d here), some (.d (.tuple row)), z10, z11, z12, z13], h⟩ = .nx ⟨[some z0, some (.r 1), z2, some (.d bk), y4, z5, z6, z7, some (.d here'), some (.d (.tuple row')), y10, y11, y12, y13], h'⟩
  | [], h, here, row, bs, z4, z10, z11, z12, z13, hb, l, g, hl => ⟨here, row, bs, h, z4, z10, z11, z12, z13, hb, l, g, by simpa using hl, by simp [forL]⟩
  | x :: its, h, here, row, bs, z4, z10, z11, z12, z13, hb, l, g, hl => by
    simp at hl
    obtain ⟨fl, here1, row1, bs1, h1, a, b, c, d, hb1, l1, g1, hr1, hfl, e1⟩ := law_step hne hb l g gb (by omega) z0 z2 (some (.d x)) z5 z6 z7 z10 z11 z12 z13
    obtain ⟨here2, row2, bs2, h2, a4, a10, a11, a12, a13, hb2, l2, g2, hr2, e2⟩ := row_loop hne gb z0 z2 z5 z6 z7 its h1 here1 row1 bs1 (some (.d x)) a b c d hb1 l1 g1 (by omega)
    refine ⟨here2, row2, bs2, h2, a4, a10, a11, a12, a13, hb2, l2, g2, hr2, ?_⟩
    rw [← e2]
    conv => lhs; unfold forL
    rcases hfl with rfl | rfl <;> simp [e1]
def tnB (ad : Ad) (Pt : Nat) : SS := (sSeq (sSet 3 (eCall (F__law_book ad) [(eV 1)]))
  (sSeq (sPar [8, 9] [(eV 3), (eTup [])])
  (sSeq (sFor (iPl rg1 [(pE (eC (.int 10)))]) (tgN 4) (lwB ad Pt))
  (sSeq (sSet 5 (ePure (F_backs ad) [(pV 3), (pV 9)]))
  (sSeq (sSet 6 (eLst [(ePure (F_after_all ad) [(pV 3), (pV 9)]), (ePure (F_after_all ad) [(pV 8), (pV 5)]), (eCallB opLen [(pV 5)]), (ePure (F_after_all ad) [(pV 3), (pE (eTup []))]), (ePure (F_backs ad) [(pV 3), (pE (eTup []))])]))
  (sSeq (sIf (tNot (tOf (ePure (F__law_alike ad) [(pV 6), (pE (eLst [(eV 8), (eV 3), (eCallB opLen [(pV 9)]), (eV 3), (eTup [])]))])))
  (sRet (eC (.bool false)))
  sNil)
  (sFor (iOf anyOf (eTup [(eC .none), (eTup []), (eTup [(eC (.str "rule")), (eC (.int 0))]), (eTup [(eC (.str "unrule")), (eC (.int 0)), (eC (.int 1))]), (eLst [(eC (.str "unrule")), (eC (.int 0))]), (eTup [(eC (.str "fly")), (eC (.int 0))]), (eTup [(eC (.int 3)), (eC (.int 3))]), (eC (.str "tops")), (eTup [(eC (.str "book"))])])) (tgN 7) (bdB ad Pt))))))))
theorem law_is (Pt : Nat) : B_law ad Pt = sSeq (sSet 1 (eBox (ePure (F__law_bag ad) [(pV 0)]))) (sSeq (sFor (iPl rg1 [(pE (eC (.int 3)))]) (tgN 2) (tnB ad Pt)) (sRet (eC (.bool true)))) := rfl
theorem law_turn (hne : ad.is_integer ≠ ad.is_name) {Pt : Nat} {h : List PO} (hb : Bag (.tb Pt q_law) h) (z0 : SV) (z2 z3 z4 z5 z6 z7 z8 z9 z10 z11 z12 z13 : Option SV) :
    ∃ h' y3 y4 y5 y6 y7 y8 y9 y10 y11 y12 y13, Bag (.tb Pt q_law) h' ∧
      tnB ad Pt ⟨[some z0, some (.r 1), z2, z3, z4, z5, z6, z7, z8, z9, z10, z11, z12, z13], h⟩ = .nx ⟨[some z0, some (.r 1), z2, y3, y4, y5, y6, y7, y8, y9, y10, y11, y12, y13], h'⟩ := by
  obtain ⟨xs, ts, rs, h1, hb1, d, e1⟩ := f_book (ad := ad) hb
  have hbf : bf ad (.tuple [.str "drawn", .tuple xs, .tuple ts, .tuple rs]) = .none := (bf_is hne _ d.parts.gd (by decide)).2.2.2 _ _ _ _ rfl d.fine
  have gb : Good ad (.tuple [.str "drawn", .tuple xs, .tuple ts, .tuple rs]) := ⟨⟨_, _, _, _, rfl, d.bkp, d.r1, d.r2⟩, hbf⟩
  generalize hbk : PyData.tuple [.str "drawn", .tuple xs, .tuple ts, .tuple rs] = bk at e1 gb
  obtain ⟨here, row, bs, h2, y4, y10, y11, y12, y13, hb2, l, g, hr, e2⟩ := row_loop hne gb z0 z2 z5 z6 z7 (rangeD 0 ((10 : Nat) : Int)) h1 bk [] [] z4 z10 z11 z12 z13 hb1 .nil gb (by rw [rangeD_len]; simp)
  have e3 := f_backs (ad := ad) l.bks (by omega)
  have e4 := f_after_all l.aft
  have e5 := f_after_all l.back
  have e6 : F_after_all ad [.d bk, .d (.tuple [])] [] = .ok (.d bk) [] := f_after_all (.nil _)
  have e7 : F_backs ad [.d bk, .d (.tuple [])] [] = .ok (.d (.tuple [])) [] := f_backs (ad := ad) (.nil bk) (by simp)
  have hl := l.lens
  have al : F__law_alike ad [.d (.list [here, bk, .int row.length, bk, .tuple []]), .d (.list [here, bk, .int row.length, bk, .tuple []])] [] = .ok (.d (.bool true)) [] := by
    refine f_alike (n := 5) (by decide) (gd_lst.mpr ⟨by simp, fun x hx => ?_⟩) ?_
    · simp only [List.mem_cons, List.not_mem_nil, or_false] at hx
      rcases hx with rfl | rfl | rfl | rfl | rfl
      · exact g.gd.1
      · exact gb.gd.1
      · rfl
      · exact gb.gd.1
      · rfl
    · have := g.gd.2
      have := gb.gd.2
      simp [sz, szs]
      omega
  obtain ⟨y7, e8⟩ := bads_loop (ad := ad) hb2 (some z0) z2 y4 (some (.d (.tuple bs.reverse))) (some (.o (.lst [here, bk, .int row.length, bk, .tuple []]))) (some (.d here)) (some (.d (.tuple row))) y10 y11 y12 y13 bk BADS (fun b hb => hb) z7
  refine ⟨h2, some (.d bk), y4, some (.d (.tuple bs.reverse)), some (.o (.lst [here, bk, .int row.length, bk, .tuple []])), y7, some (.d here), some (.d (.tuple row)), y10, y11, y12, y13, hb2, ?_⟩
  have s62 : small62 10 = true := by decide
  simp at e2
  simp [BADS] at e8
  simp [tnB, e1, s62, e2, e3, e4, e5, e6, e7, hl, al, e8]
theorem turns_loop (hne : ad.is_integer ≠ ad.is_name) {Pt : Nat} (z0 : SV) : ∀ (its : List PyData) (h : List PO) (z2 z3 z4 z5 z6 z7 z8 z9 z10 z11 z12 z13 : Option SV), Bag (.tb Pt q_law) h →
    ∃ h' y2 y3 y4 y5 y6 y7 y8 y9 y10 y11 y12 y13, Bag (.tb Pt q_law) h' ∧
      forL (tgN 2) (tnB ad Pt) its ⟨[some z0, some (.r 1), z2, z3, z4, z5, z6, z7, z8, z9, z10, z11, z12, z13], h⟩ = .nx ⟨[some z0, some (.r 1), y2, y3, y4, y5, y6, y7, y8, y9, y10, y11, y12, y13], h'⟩
  | [], h, z2, z3, z4, z5, z6, z7, z8, z9, z10, z11, z12, z13, hb => ⟨h, _, _, _, _, _, _, _, _, _, _, _, _, hb, by simp [forL]; exact ⟨rfl, rfl, rfl, rfl, rfl, rfl, rfl, rfl, rfl, rfl, rfl, rfl⟩⟩
  | x :: its, h, z2, z3, z4, z5, z6, z7, z8, z9, z10, z11, z12, z13, hb => by
    obtain ⟨h1, y3, y4, y5, y6, y7, y8, y9, y10, y11, y12, y13, hb1, e1⟩ := law_turn hne hb z0 (some (.d x)) z3 z4 z5 z6 z7 z8 z9 z10 z11 z12 z13
    obtain ⟨h2, x2, x3, x4, x5, x6, x7, x8, x9, x10, x11, x12, x13, hb2, e2⟩ := turns_loop hne z0 its h1 (some (.d x)) y3 y4 y5 y6 y7 y8 y9 y10 y11 y12 y13 hb1
    refine ⟨h2, x2, x3, x4, x5, x6, x7, x8, x9, x10, x11, x12, x13, hb2, ?_⟩
    rw [← e2]
    conv => lhs; unfold forL
    simp [e1]
theorem f_law (hne : ad.is_integer ≠ ad.is_name) (Pt : Nat) (ns : List Int) : ∃ h', F_law ad Pt [.d (.dict [(.none, .list (ns.map .int))])] [.tb Pt q_law] = .ok (.d (.bool true)) h' := by
  obtain ⟨cells, c0, c1, e1⟩ := f_bag (ad := ad) ns
  obtain ⟨h', y2, y3, y4, y5, y6, y7, y8, y9, y10, y11, y12, y13, hb, e2⟩ := turns_loop (ad := ad) hne (Pt := Pt) (.d (.dict [(.none, .list (ns.map .int))])) (rangeD 0 3) [.tb Pt q_law, bagO 0 1234567891 0 cells] none none none none none none none none none none none none ⟨0, 1234567891, 0, cells, rfl, by decide, by decide, c0, c1⟩
  have s62 : small62 3 = true := by decide
  refine ⟨h', ?_⟩
  simp [F_law, fnS, law_is, e1, s62, e2]
end K05

set_option maxRecDepth 100000
set_option maxHeartbeats 4000000
namespace K05
open PySem PySem.Spec PyProof.Rows L2 Z
def iS_BadBook : Scope := { kind := .function, names := [(PySem.Str.ofString "self", .local), (PySem.Str.ofString "at", .local), (PySem.Str.ofString "fault", .local), (PySem.Str.ofString "__class__", .free), (PySem.Str.ofString "super", .globalImplicit)], isGenerator := false, isCoroutine := false, more := [] }
theorem sS_BadBook : SupScope ["self", "at", "fault"] ["self", "at", "fault"] iS_BadBook := ⟨rfl, rfl, rfl, by decide +kernel, rfl, by decide +kernel, by decide +kernel, by decide +kernel⟩
theorem mkX_BadBook {K : PySem.W.Frag} {h : Heap} {mg : Str → Option Value} {C fI cda cc N : Addr} {nm q : Str} {bs bm : List Value} {sn : List Str} {sub : List Value} {ab : Bool} {col : Option Bool} {dd od an cdd ccd : Option Addr} {k0 k1 k2 k3 k5 : Option Value} {oc kV doc pm ct ccl ccc : Value} {osl ccs ccsl : Array (Option Value)} {fv : Array Value} {tf : Tok} {cdC : ClassData} {a0 a1 a2 p0 p1 p4 e0 u0 v0 w0 x0 e1 u1 v1 w1 x1 : Pos} (X : K.In h) (G : h.Ns mainGlobals mg)
    (hC : PySem.W.nsIn K mainGlobals "BadBook" = some (some (.ref C)))
    (xL : K.lookup C = some (excClassObj nm q C N bs bm true sn sub ab col dd k0 k1 k2 k3 k5 "ValueError.__new__")) (rb : PySem.HandSPX.refsVE bm = true)
    (sa : PySem.W.findIn K (.ref C) "__setattr__" = some (some (.builtin "object.__setattr__"))) (exC : PySem.W.subIn K (.ref C) (.type "BaseException") = some true) (tyC : PySem.W.typeIn K (.ref C) = some (.type "type")) (kC : PySem.W.keepIn K (.ref C) = true)
    (iC : PySem.W.findIn K (.ref C) "__init__" = some (some (.ref fI))) (tI : PySem.W.typeIn K (.ref fI) = some (.type "function")) (nf0 : PySem.W.findIn K (.ref C) "at" = some none) (nf1 : PySem.W.findIn K (.ref C) "fault" = some none)
    (lk : K.lookup fI = some ⟨oc, od, .func (PySem.W.ksFn "__init__" "BadBook.__init__" { posonlyargs := [], args := [{ arg := "self", annotation := none, pos := a0 }, { arg := "at", annotation := none, pos := a1 }, { arg := "fault", annotation := none, pos := a2 }], vararg := none, kwonlyargs := [], kw_defaults := [], kwarg := none, defaults := [] } (.Expr (.Call (.Attribute (.Call (.Name "super" p0) [] [] p1) "__init__" ⟨12, 8, 12, 24⟩) [.Name "at" e0, .Name "fault" e1] [] ⟨12, 8, 12, 35⟩) p4 :: [.Assign [.Attribute (.Name "self" u0) "at" v0] (.Name "at" w0) x0, .Assign [.Attribute (.Name "self" u1) "fault" v1] (.Name "fault" w1) x1]) iS_BadBook .none kV doc pm an (.ref cda) ct cc), osl⟩)
    (hcd : PySem.W.codeIn K (.ref cda) "BadBook.__init__" = true) (hcode : K.lookup cda = some ⟨ccl, cdd, .fields fv, ccs⟩) (hvs : fv[2]? = some (.str "/claim/cut.py" tf))
    (hcell : K.lookup cc = some ⟨ccc, ccd, .cell (some (.ref C)), ccsl⟩) (hD : PySem.W.clsIn K C = some cdC) (hsub : PySem.W.mroIn K C (.ref C) = some true)
    (hsup : PySem.W.ks_superIn K C C "__init__" = some (some (.builtin "ValueError.__init__"))) (hB : PySem.W.subIn K (.ref C) (.type "ValueError") = some true) (ho : PySem.W.nsIn K cStatics "thirdparty.any" = some none)
    (hmS : PySem.W.nsIn K mainGlobals "super" = some none) : ∃ E : Exc2 K mg "BadBook" "at" "fault", E.C = C := by
  have oex : OexC K C := ⟨⟨nm, q, N, bs, bm, sn, sub, ab, col, dd, k0, k1, k2, k3, k5, xL, rb⟩, sa, exC, tyC, kC⟩
  refine ⟨⟨C, fI, (PySem.W.ksFn "__init__" "BadBook.__init__" { posonlyargs := [], args := [{ arg := "self", annotation := none, pos := a0 }, { arg := "at", annotation := none, pos := a1 }, { arg := "fault", annotation := none, pos := a2 }], vararg := none, kwonlyargs := [], kw_defaults := [], kwarg := none, defaults := [] } (.Expr (.Call (.Attribute (.Call (.Name "super" p0) [] [] p1) "__init__" ⟨12, 8, 12, 24⟩) [.Name "at" e0, .Name "fault" e1] [] ⟨12, 8, 12, 35⟩) p4 :: [.Assign [.Attribute (.Name "self" u0) "at" v0] (.Name "at" w0) x0, .Assign [.Attribute (.Name "self" u1) "fault" v1] (.Name "fault" w1) x1]) iS_BadBook .none kV doc pm an (.ref cda) ct cc), ["self", "at", "fault"], oex, iC, tI, fun P w base hP => ?_, rfl, nf0, nf1, .all fun us hl => ?_, PySem.W.mg_of X G hC⟩, rfl⟩
  · refine sup_ok (k := 0) (N := ["self", "at", "fault"]) (ps := ["self", "at", "fault"]) oex lk hcd hcode hvs hP.2 hcell hD hsub hsup hB ho (free_mk X G hmS) hP.1 rfl rfl rfl rfl rfl sS_BadBook (fun A outer s H E => pa_cons (pv 1) (pa_cons (pv 2) (pa_nil))) (fun A outer s H E => pss_cons (ps_ost (pv 0) (pv 1)) (pss_one (ps_ost (pv 0) (pv 2)))) (fun env => rfl) (fun env => rfl) (fun env => do return (← importBound (.Call (.Name "super" p0) [] [] p1) env).getD true) (fun env => rfl) (fun env => rfl)
  · match us, hl with
    | [_, _, _], _ => rfl
def iS_Refused : Scope := { kind := .function, names := [(PySem.Str.ofString "self", .local), (PySem.Str.ofString "why", .local), (PySem.Str.ofString "__class__", .free), (PySem.Str.ofString "super", .globalImplicit)], isGenerator := false, isCoroutine := false, more := [] }
theorem sS_Refused : SupScope ["self", "why"] ["self", "why"] iS_Refused := ⟨rfl, rfl, rfl, by decide +kernel, rfl, by decide +kernel, by decide +kernel, by decide +kernel⟩
theorem mkX_Refused {K : PySem.W.Frag} {h : Heap} {mg : Str → Option Value} {C fI cda cc N : Addr} {nm q : Str} {bs bm : List Value} {sn : List Str} {sub : List Value} {ab : Bool} {col : Option Bool} {dd od an cdd ccd : Option Addr} {k0 k1 k2 k3 k5 : Option Value} {oc kV doc pm ct ccl ccc : Value} {osl ccs ccsl : Array (Option Value)} {fv : Array Value} {tf : Tok} {cdC : ClassData} {a0 a1 p0 p1 p4 e0 u0 v0 w0 x0 : Pos} (X : K.In h) (G : h.Ns mainGlobals mg)
    (hC : PySem.W.nsIn K mainGlobals "Refused" = some (some (.ref C)))
    (xL : K.lookup C = some (excClassObj nm q C N bs bm true sn sub ab col dd k0 k1 k2 k3 k5 "ValueError.__new__")) (rb : PySem.HandSPX.refsVE bm = true)
    (sa : PySem.W.findIn K (.ref C) "__setattr__" = some (some (.builtin "object.__setattr__"))) (exC : PySem.W.subIn K (.ref C) (.type "BaseException") = some true) (tyC : PySem.W.typeIn K (.ref C) = some (.type "type")) (kC : PySem.W.keepIn K (.ref C) = true)
    (iC : PySem.W.findIn K (.ref C) "__init__" = some (some (.ref fI))) (tI : PySem.W.typeIn K (.ref fI) = some (.type "function")) (nf0 : PySem.W.findIn K (.ref C) "why" = some none)
    (lk : K.lookup fI = some ⟨oc, od, .func (PySem.W.ksFn "__init__" "Refused.__init__" { posonlyargs := [], args := [{ arg := "self", annotation := none, pos := a0 }, { arg := "why", annotation := none, pos := a1 }], vararg := none, kwonlyargs := [], kw_defaults := [], kwarg := none, defaults := [] } (.Expr (.Call (.Attribute (.Call (.Name "super" p0) [] [] p1) "__init__" ⟨18, 8, 18, 24⟩) [.Name "why" e0] [] ⟨18, 8, 18, 29⟩) p4 :: [.Assign [.Attribute (.Name "self" u0) "why" v0] (.Name "why" w0) x0]) iS_Refused .none kV doc pm an (.ref cda) ct cc), osl⟩)
    (hcd : PySem.W.codeIn K (.ref cda) "Refused.__init__" = true) (hcode : K.lookup cda = some ⟨ccl, cdd, .fields fv, ccs⟩) (hvs : fv[2]? = some (.str "/claim/cut.py" tf))
    (hcell : K.lookup cc = some ⟨ccc, ccd, .cell (some (.ref C)), ccsl⟩) (hD : PySem.W.clsIn K C = some cdC) (hsub : PySem.W.mroIn K C (.ref C) = some true)
    (hsup : PySem.W.ks_superIn K C C "__init__" = some (some (.builtin "ValueError.__init__"))) (hB : PySem.W.subIn K (.ref C) (.type "ValueError") = some true) (ho : PySem.W.nsIn K cStatics "thirdparty.any" = some none)
    (hmS : PySem.W.nsIn K mainGlobals "super" = some none) : ∃ E : Exc1 K mg "Refused" "why", E.C = C := by
  have oex : OexC K C := ⟨⟨nm, q, N, bs, bm, sn, sub, ab, col, dd, k0, k1, k2, k3, k5, xL, rb⟩, sa, exC, tyC, kC⟩
  refine ⟨⟨C, fI, (PySem.W.ksFn "__init__" "Refused.__init__" { posonlyargs := [], args := [{ arg := "self", annotation := none, pos := a0 }, { arg := "why", annotation := none, pos := a1 }], vararg := none, kwonlyargs := [], kw_defaults := [], kwarg := none, defaults := [] } (.Expr (.Call (.Attribute (.Call (.Name "super" p0) [] [] p1) "__init__" ⟨18, 8, 18, 24⟩) [.Name "why" e0] [] ⟨18, 8, 18, 29⟩) p4 :: [.Assign [.Attribute (.Name "self" u0) "why" v0] (.Name "why" w0) x0]) iS_Refused .none kV doc pm an (.ref cda) ct cc), ["self", "why"], oex, iC, tI, fun P w base hP => ?_, rfl, nf0, .all fun us hl => ?_, PySem.W.mg_of X G hC⟩, rfl⟩
  · refine sup_ok (k := 0) (N := ["self", "why"]) (ps := ["self", "why"]) oex lk hcd hcode hvs hP.2 hcell hD hsub hsup hB ho (free_mk X G hmS) hP.1 rfl rfl rfl rfl rfl sS_Refused (fun A outer s H E => pa_cons (pv 1) (pa_nil)) (fun A outer s H E => pss_one (ps_ost (pv 0) (pv 1))) (fun env => rfl) (fun env => rfl) (fun env => do return (← importBound (.Call (.Name "super" p0) [] [] p1) env).getD true) (fun env => rfl) (fun env => rfl)
  · match us, hl with
    | [_, _], _ => rfl
theorem all_mk {l : PySem.W.OpenLaw} {w : World} {K : PySem.W.Frag} {h : Heap} {mg : Str → Option Value} {fa fL c Pt : Addr} {C_BadBook C_Refused : Addr} {ocL kVL dcL pmL ctL : Value} {odL anL dc : Option Addr} {slL sc : Array (Option Value)} {vc : Array Value} {file : Str} {tf tg tt : Tok} {flags text : Int} {inF : Bool}
    (X : K.In h) (G : h.Ns mainGlobals mg) (hfa : mg "law" = some (.ref fa)) (own : LamX.OwnTab K fa h) (hP : SupP l.prog)
    (aL : PySem.W.nsIn K mainGlobals "law" = some (some (.ref fL))) (lL : K.lookup fL = some ⟨ocL, odL, .func (PySem.W.fnOf "law" "law" (defArgs s_law) (defBody s_law) (defScope s_law) .none kVL dcL pmL anL (.ref c) ctL), slL⟩) (cL : PySem.W.codeIn K (.ref c) "law" = true) (kL : PySem.W.keepIn K (.ref fL) = true)
    (lc : K.lookup c = some ⟨.type "code", dc, .fields vc, sc⟩) (v1 : vc[11]? = some (.ref Pt)) (v2 : vc.getD 11 .none = .ref Pt) (v3 : vc.getD 18 .none = .str file tf) (v4 : vc.getD 7 .none = .int flags tg) (v5 : vc.getD 9 .none = .bool inF) (v6 : vc.getD 10 .none = .int text tt) (v7 : c ≠ Pt) (nP : K.lookup Pt = none)
    (e_BadBook : ∃ E : Exc2 K mg "BadBook" "at" "fault", E.C = C_BadBook)
    (y_BadBook : XfC K C_BadBook)
    (e_Refused : ∃ E : Exc1 K mg "Refused" "why", E.C = C_Refused)
    (y_Refused : XfC K C_Refused)
    (m_BadBook_Refused : PySem.W.exmOne K (.ref C_BadBook) (.ref C_Refused) = some false)
    (m_Refused_Refused : PySem.W.exmOne K (.ref C_Refused) (.ref C_Refused) = some true)
    (m_BadBook_BadBook : PySem.W.exmOne K (.ref C_BadBook) (.ref C_BadBook) = some true)
    (m_Refused_BadBook : PySem.W.exmOne K (.ref C_Refused) (.ref C_BadBook) = some false)
    (d_is_integer : DefAt K mg "is_integer" s_is_integer)
    (d_is_within : DefAt K mg "is_within" s_is_within)
    (d_is_string : DefAt K mg "is_string" s_is_string)
    (d_is_name : DefAt K mg "is_name" s_is_name)
    (d_are_all : DefAt K mg "are_all" s_are_all)
    (d_are_integers : DefAt K mg "are_integers" s_are_integers)
    (d_are_names : DefAt K mg "are_names" s_are_names)
    (d_is_tuple_of : DefAt K mg "is_tuple_of" s_is_tuple_of)
    (d_do_rise : DefAt K mg "do_rise" s_do_rise)
    (d_is_sign : DefAt K mg "is_sign" s_is_sign)
    (d_is_signs : DefAt K mg "is_signs" s_is_signs)
    (d_many_of : DefAt K mg "many_of" s_many_of)
    (d_is_rule_form : DefAt K mg "is_rule_form" s_is_rule_form)
    (d_rule_fault : DefAt K mg "rule_fault" s_rule_fault)
    (d_kinds_among : DefAt K mg "kinds_among" s_kinds_among)
    (d_rules_fault : DefAt K mg "rules_fault" s_rules_fault)
    (d_book_fault : DefAt K mg "book_fault" s_book_fault)
    (d_is_book : DefAt K mg "is_book" s_is_book)
    (d_checked_book : DefAt K mg "checked_book" s_checked_book)
    (d_is_change : DefAt K mg "is_change" s_is_change)
    (d_with_rules : DefAt K mg "with_rules" s_with_rules)
    (d_turned_by : DefAt K mg "turned_by" s_turned_by)
    (d_after_change : DefAt K mg "after_change" s_after_change)
    (d_back_of : DefAt K mg "back_of" s_back_of)
    (d_after_all : DefAt K mg "after_all" s_after_all)
    (d_backs : DefAt K mg "backs" s_backs)
    (d__law_bag : DefAt K mg "_law_bag" s__law_bag)
    (d__law_take : DefAt K mg "_law_take" s__law_take)
    (d__law_some : DefAt K mg "_law_some" s__law_some)
    (d__law_mixed : DefAt K mg "_law_mixed" s__law_mixed)
    (d__law_alike : DefAt K mg "_law_alike" s__law_alike)
    (d__law_signs : DefAt K mg "_law_signs" s__law_signs)
    (d__law_a_rule : DefAt K mg "_law_a_rule" s__law_a_rule)
    (d__law_book_of : DefAt K mg "_law_book_of" s__law_book_of)
    (d__law_book : DefAt K mg "_law_book" s__law_book)
    (d__law_drawn_change : DefAt K mg "_law_drawn_change" s__law_drawn_change)
    (d__law_behind : DefAt K mg "_law_behind" s__law_behind)
    (d__law_due : DefAt K mg "_law_due" s__law_due)
    (d__law_came : DefAt K mg "_law_came" s__law_came)
    (z_abs : mg "abs" = none)
    (z_all : mg "all" = none)
    (z_bool : mg "bool" = none)
    (z_dict : mg "dict" = none)
    (z_int : mg "int" = none)
    (z_isinstance : mg "isinstance" = none)
    (z_len : mg "len" = none)
    (z_list : mg "list" = none)
    (z_range : mg "range" = none)
    (z_set : mg "set" = none)
    (z_sorted : mg "sorted" = none)
    (z_str : mg "str" = none)
    (z_tuple : mg "tuple" = none)
    (z_zip : mg "zip" = none)
    (g_LONG : gDict w K mg "LONG" tab_LONG)
    (c_MOST_CHILDREN : gInt mg "MOST_CHILDREN" (.int 2))
    (c_MOST_KINDS : gInt mg "MOST_KINDS" (.int 8))
    (c_MOST_LABELS : gInt mg "MOST_LABELS" (.int 8))
    (c_MOST_LETTERS : gInt mg "MOST_LETTERS" (.int 8))
    (c_MOST_RULES : gInt mg "MOST_RULES" (.int 24))
    (c_MOST_TOPS : gInt mg "MOST_TOPS" (.int 6))
    (c_RULES : gInt mg "RULES" (.int 3))
    (c_TOPS : gInt mg "TOPS" (.int 2))
    (c_LETTERS : gStr mg "LETTERS" (.str "abcdefghijklmnopqrstuvwxyz"))
    (c_KEYS : gTup K mg "KEYS" (.tuple [.str "book", .str "label", .str "top", .str "rule", .str "program", .str "start", .str "turn", .str "is", .str "of"]))
    : LamX.LawAtS l w K (L2.CX l.prog w) 15 63 "script" mg fa h := by
  have e := hfa.symm.trans (PySem.W.mg_of X G aL)
  cases e
  have FL := fun_mk (st := s_law) lL cL kL
  obtain ⟨e_BadBook, q⟩ := e_BadBook
  subst q
  obtain ⟨e_Refused, q⟩ := e_Refused
  subst q
  obtain ⟨f_is_integer, d_is_integer, F_is_integer, g_is_integer⟩ := d_is_integer
  obtain ⟨f_is_within, d_is_within, F_is_within, g_is_within⟩ := d_is_within
  obtain ⟨f_is_string, d_is_string, F_is_string, g_is_string⟩ := d_is_string
  obtain ⟨f_is_name, d_is_name, F_is_name, g_is_name⟩ := d_is_name
  obtain ⟨f_are_all, d_are_all, F_are_all, g_are_all⟩ := d_are_all
  obtain ⟨f_are_integers, d_are_integers, F_are_integers, g_are_integers⟩ := d_are_integers
  obtain ⟨f_are_names, d_are_names, F_are_names, g_are_names⟩ := d_are_names
  obtain ⟨f_is_tuple_of, d_is_tuple_of, F_is_tuple_of, g_is_tuple_of⟩ := d_is_tuple_of
  obtain ⟨f_do_rise, d_do_rise, F_do_rise, g_do_rise⟩ := d_do_rise
  obtain ⟨f_is_sign, d_is_sign, F_is_sign, g_is_sign⟩ := d_is_sign
  obtain ⟨f_is_signs, d_is_signs, F_is_signs, g_is_signs⟩ := d_is_signs
  obtain ⟨f_many_of, d_many_of, F_many_of, g_many_of⟩ := d_many_of
  obtain ⟨f_is_rule_form, d_is_rule_form, F_is_rule_form, g_is_rule_form⟩ := d_is_rule_form
  obtain ⟨f_rule_fault, d_rule_fault, F_rule_fault, g_rule_fault⟩ := d_rule_fault
  obtain ⟨f_kinds_among, d_kinds_among, F_kinds_among, g_kinds_among⟩ := d_kinds_among
  obtain ⟨f_rules_fault, d_rules_fault, F_rules_fault, g_rules_fault⟩ := d_rules_fault
  obtain ⟨f_book_fault, d_book_fault, F_book_fault, g_book_fault⟩ := d_book_fault
  obtain ⟨f_is_book, d_is_book, F_is_book, g_is_book⟩ := d_is_book
  obtain ⟨f_checked_book, d_checked_book, F_checked_book, g_checked_book⟩ := d_checked_book
  obtain ⟨f_is_change, d_is_change, F_is_change, g_is_change⟩ := d_is_change
  obtain ⟨f_with_rules, d_with_rules, F_with_rules, g_with_rules⟩ := d_with_rules
  obtain ⟨f_turned_by, d_turned_by, F_turned_by, g_turned_by⟩ := d_turned_by
  obtain ⟨f_after_change, d_after_change, F_after_change, g_after_change⟩ := d_after_change
  obtain ⟨f_back_of, d_back_of, F_back_of, g_back_of⟩ := d_back_of
  obtain ⟨f_after_all, d_after_all, F_after_all, g_after_all⟩ := d_after_all
  obtain ⟨f_backs, d_backs, F_backs, g_backs⟩ := d_backs
  obtain ⟨f__law_bag, d__law_bag, F__law_bag, g__law_bag⟩ := d__law_bag
  obtain ⟨f__law_take, d__law_take, F__law_take, g__law_take⟩ := d__law_take
  obtain ⟨f__law_some, d__law_some, F__law_some, g__law_some⟩ := d__law_some
  obtain ⟨f__law_mixed, d__law_mixed, F__law_mixed, g__law_mixed⟩ := d__law_mixed
  obtain ⟨f__law_alike, d__law_alike, F__law_alike, g__law_alike⟩ := d__law_alike
  obtain ⟨f__law_signs, d__law_signs, F__law_signs, g__law_signs⟩ := d__law_signs
  obtain ⟨f__law_a_rule, d__law_a_rule, F__law_a_rule, g__law_a_rule⟩ := d__law_a_rule
  obtain ⟨f__law_book_of, d__law_book_of, F__law_book_of, g__law_book_of⟩ := d__law_book_of
  obtain ⟨f__law_book, d__law_book, F__law_book, g__law_book⟩ := d__law_book
  obtain ⟨f__law_drawn_change, d__law_drawn_change, F__law_drawn_change, g__law_drawn_change⟩ := d__law_drawn_change
  obtain ⟨f__law_behind, d__law_behind, F__law_behind, g__law_behind⟩ := d__law_behind
  obtain ⟨f__law_due, d__law_due, F__law_due, g__law_due⟩ := d__law_due
  obtain ⟨f__law_came, d__law_came, F__law_came, g__law_came⟩ := d__law_came
  obtain ⟨T, t1, t2⟩ : ∃ T : Txt w K mg ⟨f_is_integer, f_is_name⟩, T.a_law = fa ∧ T.d_law = (PySem.W.fnOf "law" "law" (defArgs s_law) (defBody s_law) (defScope s_law) .none kVL dcL pmL anL (.ref c) ctL) := ⟨
    { 
      d_is_integer := d_is_integer, F_is_integer := F_is_integer, m_is_integer := g_is_integer, b_is_integer := (F_is_integer.binds (ps := ["thing"]) fun _ _ _ _ _ _ us hl => match us, hl with | [_], _ => rfl),
      a_is_within := f_is_within,
      d_is_within := d_is_within, F_is_within := F_is_within, m_is_within := g_is_within, b_is_within := (F_is_within.binds (ps := ["thing", "least", "most"]) fun _ _ _ _ _ _ us hl => match us, hl with | [_, _, _], _ => rfl),
      a_is_string := f_is_string,
      d_is_string := d_is_string, F_is_string := F_is_string, m_is_string := g_is_string, b_is_string := (F_is_string.binds (ps := ["thing"]) fun _ _ _ _ _ _ us hl => match us, hl with | [_], _ => rfl),
      d_is_name := d_is_name, F_is_name := F_is_name, m_is_name := g_is_name, b_is_name := (F_is_name.binds (ps := ["thing"]) fun _ _ _ _ _ _ us hl => match us, hl with | [_], _ => rfl),
      a_are_all := f_are_all,
      d_are_all := d_are_all, F_are_all := F_are_all, m_are_all := g_are_all, b_are_all := (F_are_all.binds (ps := ["thing", "fits"]) fun _ _ _ _ _ _ us hl => match us, hl with | [_, _], _ => rfl),
      a_are_integers := f_are_integers,
      d_are_integers := d_are_integers, F_are_integers := F_are_integers, m_are_integers := g_are_integers, b_are_integers := (F_are_integers.binds (ps := ["thing"]) fun _ _ _ _ _ _ us hl => match us, hl with | [_], _ => rfl),
      a_are_names := f_are_names,
      d_are_names := d_are_names, F_are_names := F_are_names, m_are_names := g_are_names, b_are_names := (F_are_names.binds (ps := ["thing"]) fun _ _ _ _ _ _ us hl => match us, hl with | [_], _ => rfl),
      a_is_tuple_of := f_is_tuple_of,
      d_is_tuple_of := d_is_tuple_of, F_is_tuple_of := F_is_tuple_of, m_is_tuple_of := g_is_tuple_of, b_is_tuple_of := (F_is_tuple_of.binds (ps := ["thing", "many"]) fun _ _ _ _ _ _ us hl => match us, hl with | [_, _], _ => rfl),
      a_do_rise := f_do_rise,
      d_do_rise := d_do_rise, F_do_rise := F_do_rise, m_do_rise := g_do_rise, b_do_rise := (F_do_rise.binds (ps := ["thing"]) fun _ _ _ _ _ _ us hl => match us, hl with | [_], _ => rfl),
      a_is_sign := f_is_sign,
      d_is_sign := d_is_sign, F_is_sign := F_is_sign, m_is_sign := g_is_sign, b_is_sign := (F_is_sign.binds (ps := ["thing"]) fun _ _ _ _ _ _ us hl => match us, hl with | [_], _ => rfl),
      a_is_signs := f_is_signs,
      d_is_signs := d_is_signs, F_is_signs := F_is_signs, m_is_signs := g_is_signs, b_is_signs := (F_is_signs.binds (ps := ["thing"]) fun _ _ _ _ _ _ us hl => match us, hl with | [_], _ => rfl),
      a_many_of := f_many_of,
      d_many_of := d_many_of, F_many_of := F_many_of, m_many_of := g_many_of, b_many_of := (F_many_of.binds (ps := ["signs", "label"]) fun _ _ _ _ _ _ us hl => match us, hl with | [_, _], _ => rfl),
      a_is_rule_form := f_is_rule_form,
      d_is_rule_form := d_is_rule_form, F_is_rule_form := F_is_rule_form, m_is_rule_form := g_is_rule_form, b_is_rule_form := (F_is_rule_form.binds (ps := ["thing"]) fun _ _ _ _ _ _ us hl => match us, hl with | [_], _ => rfl),
      a_rule_fault := f_rule_fault,
      d_rule_fault := d_rule_fault, F_rule_fault := F_rule_fault, m_rule_fault := g_rule_fault, b_rule_fault := (F_rule_fault.binds (ps := ["signs", "rules", "index"]) fun _ _ _ _ _ _ us hl => match us, hl with | [_, _, _], _ => rfl),
      a_kinds_among := f_kinds_among,
      d_kinds_among := d_kinds_among, F_kinds_among := F_kinds_among, m_kinds_among := g_kinds_among, b_kinds_among := (F_kinds_among.binds (ps := ["tops", "rules"]) fun _ _ _ _ _ _ us hl => match us, hl with | [_, _], _ => rfl),
      a_rules_fault := f_rules_fault,
      d_rules_fault := d_rules_fault, F_rules_fault := F_rules_fault, m_rules_fault := g_rules_fault, b_rules_fault := (F_rules_fault.binds (ps := ["signs", "tops", "rules"]) fun _ _ _ _ _ _ us hl => match us, hl with | [_, _, _], _ => rfl),
      a_book_fault := f_book_fault,
      d_book_fault := d_book_fault, F_book_fault := F_book_fault, m_book_fault := g_book_fault, b_book_fault := (F_book_fault.binds (ps := ["thing"]) fun _ _ _ _ _ _ us hl => match us, hl with | [_], _ => rfl),
      a_is_book := f_is_book,
      d_is_book := d_is_book, F_is_book := F_is_book, m_is_book := g_is_book, b_is_book := (F_is_book.binds (ps := ["thing"]) fun _ _ _ _ _ _ us hl => match us, hl with | [_], _ => rfl),
      a_checked_book := f_checked_book,
      d_checked_book := d_checked_book, F_checked_book := F_checked_book, m_checked_book := g_checked_book, b_checked_book := (F_checked_book.binds (ps := ["thing"]) fun _ _ _ _ _ _ us hl => match us, hl with | [_], _ => rfl),
      a_is_change := f_is_change,
      d_is_change := d_is_change, F_is_change := F_is_change, m_is_change := g_is_change, b_is_change := (F_is_change.binds (ps := ["thing"]) fun _ _ _ _ _ _ us hl => match us, hl with | [_], _ => rfl),
      a_with_rules := f_with_rules,
      d_with_rules := d_with_rules, F_with_rules := F_with_rules, m_with_rules := g_with_rules, b_with_rules := (F_with_rules.binds (ps := ["book", "rules"]) fun _ _ _ _ _ _ us hl => match us, hl with | [_, _], _ => rfl),
      a_turned_by := f_turned_by,
      d_turned_by := d_turned_by, F_turned_by := F_turned_by, m_turned_by := g_turned_by, b_turned_by := (F_turned_by.binds (ps := ["book", "change"]) fun _ _ _ _ _ _ us hl => match us, hl with | [_, _], _ => rfl),
      a_after_change := f_after_change,
      d_after_change := d_after_change, F_after_change := F_after_change, m_after_change := g_after_change, b_after_change := (F_after_change.binds (ps := ["book", "change"]) fun _ _ _ _ _ _ us hl => match us, hl with | [_, _], _ => rfl),
      a_back_of := f_back_of,
      d_back_of := d_back_of, F_back_of := F_back_of, m_back_of := g_back_of, b_back_of := (F_back_of.binds (ps := ["book", "change"]) fun _ _ _ _ _ _ us hl => match us, hl with | [_, _], _ => rfl),
      a_after_all := f_after_all,
      d_after_all := d_after_all, F_after_all := F_after_all, m_after_all := g_after_all, b_after_all := (F_after_all.binds (ps := ["book", "changes"]) fun _ _ _ _ _ _ us hl => match us, hl with | [_, _], _ => rfl),
      a_backs := f_backs,
      d_backs := d_backs, F_backs := F_backs, m_backs := g_backs, b_backs := (F_backs.binds (ps := ["book", "changes"]) fun _ _ _ _ _ _ us hl => match us, hl with | [_, _], _ => rfl),
      a__law_bag := f__law_bag,
      d__law_bag := d__law_bag, F__law_bag := F__law_bag, m__law_bag := g__law_bag, b__law_bag := (F__law_bag.binds (ps := ["script"]) fun _ _ _ _ _ _ us hl => match us, hl with | [_], _ => rfl),
      a__law_take := f__law_take,
      d__law_take := d__law_take, F__law_take := F__law_take, m__law_take := g__law_take, b__law_take := (F__law_take.binds (ps := ["bag", "many"]) fun _ _ _ _ _ _ us hl => match us, hl with | [_, _], _ => rfl),
      a__law_some := f__law_some,
      d__law_some := d__law_some, F__law_some := F__law_some, m__law_some := g__law_some, b__law_some := (F__law_some.binds (ps := ["bag", "things"]) fun _ _ _ _ _ _ us hl => match us, hl with | [_, _], _ => rfl),
      a__law_mixed := f__law_mixed,
      d__law_mixed := d__law_mixed, F__law_mixed := F__law_mixed, m__law_mixed := g__law_mixed, b__law_mixed := (F__law_mixed.binds (ps := ["bag", "things"]) fun _ _ _ _ _ _ us hl => match us, hl with | [_, _], _ => rfl),
      a__law_alike := f__law_alike,
      d__law_alike := d__law_alike, F__law_alike := F__law_alike, m__law_alike := g__law_alike, b__law_alike := (F__law_alike.binds (ps := ["found", "due"]) fun _ _ _ _ _ _ us hl => match us, hl with | [_, _], _ => rfl),
      a__law_signs := f__law_signs,
      d__law_signs := d__law_signs, F__law_signs := F__law_signs, m__law_signs := g__law_signs, b__law_signs := (F__law_signs.binds (ps := ["bag"]) fun _ _ _ _ _ _ us hl => match us, hl with | [_], _ => rfl),
      a__law_a_rule := f__law_a_rule,
      d__law_a_rule := d__law_a_rule, F__law_a_rule := F__law_a_rule, m__law_a_rule := g__law_a_rule, b__law_a_rule := (F__law_a_rule.binds (ps := ["bag", "signs", "kinds"]) fun _ _ _ _ _ _ us hl => match us, hl with | [_, _, _], _ => rfl),
      a__law_book_of := f__law_book_of,
      d__law_book_of := d__law_book_of, F__law_book_of := F__law_book_of, m__law_book_of := g__law_book_of, b__law_book_of := (F__law_book_of.binds (ps := ["bag", "signs"]) fun _ _ _ _ _ _ us hl => match us, hl with | [_, _], _ => rfl),
      a__law_book := f__law_book,
      d__law_book := d__law_book, F__law_book := F__law_book, m__law_book := g__law_book, b__law_book := (F__law_book.binds (ps := ["bag"]) fun _ _ _ _ _ _ us hl => match us, hl with | [_], _ => rfl),
      a__law_drawn_change := f__law_drawn_change,
      d__law_drawn_change := d__law_drawn_change, F__law_drawn_change := F__law_drawn_change, m__law_drawn_change := g__law_drawn_change, b__law_drawn_change := (F__law_drawn_change.binds (ps := ["bag", "book"]) fun _ _ _ _ _ _ us hl => match us, hl with | [_, _], _ => rfl),
      a__law_behind := f__law_behind,
      d__law_behind := d__law_behind, F__law_behind := F__law_behind, m__law_behind := g__law_behind, b__law_behind := (F__law_behind.binds (ps := ["book", "change"]) fun _ _ _ _ _ _ us hl => match us, hl with | [_, _], _ => rfl),
      a__law_due := f__law_due,
      d__law_due := d__law_due, F__law_due := F__law_due, m__law_due := g__law_due, b__law_due := (F__law_due.binds (ps := ["book", "change"]) fun _ _ _ _ _ _ us hl => match us, hl with | [_, _], _ => rfl),
      a_law := fa, d_law := _, F_law := FL, m_law := hfa, b_law := (FL.binds (ps := ["script"]) fun _ _ _ _ _ _ us hl => match us, hl with | [_], _ => rfl),
      a__law_came := f__law_came,
      d__law_came := d__law_came, F__law_came := F__law_came, m__law_came := g__law_came, b__law_came := (F__law_came.binds (ps := ["deed"]) fun _ _ _ _ _ _ us hl => match us, hl with | [_], _ => rfl),
      z_abs := z_abs,
      z_all := z_all,
      z_bool := z_bool,
      z_dict := z_dict,
      z_int := z_int,
      z_isinstance := z_isinstance,
      z_len := z_len,
      z_list := z_list,
      z_range := z_range,
      z_set := z_set,
      z_sorted := z_sorted,
      z_str := z_str,
      z_tuple := z_tuple,
      z_zip := z_zip,
      D_LONG := g_LONG,
      X_BadBook := e_BadBook, Y_BadBook := y_BadBook,
      X_Refused := e_Refused, Y_Refused := y_Refused,
      E_BadBook_Refused := m_BadBook_Refused,
      E_Refused_Refused := m_Refused_Refused,
      E_BadBook_BadBook := m_BadBook_BadBook,
      E_Refused_BadBook := m_Refused_BadBook,
      MOST_CHILDREN := c_MOST_CHILDREN, MOST_KINDS := c_MOST_KINDS, MOST_LABELS := c_MOST_LABELS, MOST_LETTERS := c_MOST_LETTERS, MOST_RULES := c_MOST_RULES, MOST_TOPS := c_MOST_TOPS, RULES := c_RULES, TOPS := c_TOPS, LETTERS := c_LETTERS, KEYS := c_KEYS }, rfl, rfl⟩
  have hT : h.get? Pt = some { cls := .none, data := .fields #[] } := own c Pt _ _ _ _ _ _ lL rfl rfl lc v1
  have hc : PySem.W.CodeHd h c Pt := ⟨_, vc, file, tf, flags, tg, inF, text, tt, X _ _ lc, rfl, rfl, v1, v2, v3, v4, v5, v6, v7⟩
  refine ⟨(PySem.W.fnOf "law" "law" (defArgs s_law) (defBody s_law) (defScope s_law) .none kVL dcL pmL anL (.ref c) ctL), [(c, Pt)], spF K mg (F_law ⟨f_is_integer, f_is_name⟩ Pt) 1, ?_, ?_, ?_, ?_, ?_, ?_⟩
  · intro p hp
    rw [List.mem_singleton.mp hp]
    exact hT
  · intro p hp
    rw [List.mem_singleton.mp hp]
    exact nP
  · intro p hp
    rw [List.mem_singleton.mp hp]
    exact hc
  · exact fun s u => .of_eq rfl
  · exact fun H a ns _ _ hH hS => spF_law (hH (c, Pt) (List.mem_singleton.mpr rfl)) hS (f_law (fun_ne F_is_integer F_is_name (by decide +kernel)) Pt ns)
  · intro base _ _ hB
    have k := ok_law (base := base) (c := c) (Pt := Pt) T hP (hB (c, Pt) (List.mem_singleton.mpr rfl)) (by rw [t2])
    rw [t1, t2] at k
    exact k
end K05

open PySem PySem.W PyProof.Rows
set_option maxRecDepth 100000 in
set_option maxHeartbeats 0 in
theorem PySem.Challenge.cw_kindboughs_k05_books_amended_and_put_bac_holds : PySem.Challenge.rw_kindboughs_k05_books_amended_and_put_bac.Holds := by
  w_on; o_law; k_head; (case hw => w_witness2)
  k_fill
  refine LamX.walk_ofOwn (l := PySem.Challenge.rw_kindboughs_k05_books_amended_and_put_bac) (n := 63) (k := 15) (x := "script") (CX := fun w => L2.CX (PySem.Challenge.rw_kindboughs_k05_books_amended_and_put_bac).prog w) rfl (by decide) rfl ⟨rfl, by decide, by decide⟩ (by kernel_rfl) (fun w h Y => (by first | exact PySem.W.km_in_of Y | exact PySem.W.kIn_of Y)) ?F (fun _ _ _ _ _ h => Z.noCX h)
  case F =>
    intro w mg fa h Y KX G hmg own
    refine' K05.all_mk   KX G hmg own ⟨by decide +kernel, by decide +kernel⟩ ?aL ?lL ?cL ?kL ?lc ?v1 ?v2 ?v3 ?v4 ?v5 ?v6 ?v7 ?nP ?e_BadBook ?y_BadBook ?e_Refused ?y_Refused ?m_BadBook_Refused ?m_Refused_Refused ?m_BadBook_BadBook ?m_Refused_BadBook ?d_is_integer ?d_is_within ?d_is_string ?d_is_name ?d_are_all ?d_are_integers ?d_are_names ?d_is_tuple_of ?d_do_rise ?d_is_sign ?d_is_signs ?d_many_of ?d_is_rule_form ?d_rule_fault ?d_kinds_among ?d_rules_fault ?d_book_fault ?d_is_book ?d_checked_book ?d_is_change ?d_with_rules ?d_turned_by ?d_after_change ?d_back_of ?d_after_all ?d_backs ?d__law_bag ?d__law_take ?d__law_some ?d__law_mixed ?d__law_alike ?d__law_signs ?d__law_a_rule ?d__law_book_of ?d__law_book ?d__law_drawn_change ?d__law_behind ?d__law_due ?d__law_came ?z_abs ?z_all ?z_bool ?z_dict ?z_int ?z_isinstance ?z_len ?z_list ?z_range ?z_set ?z_sorted ?z_str ?z_tuple ?z_zip ?g_LONG ?c_MOST_CHILDREN ?c_MOST_KINDS ?c_MOST_LABELS ?c_MOST_LETTERS ?c_MOST_RULES ?c_MOST_TOPS ?c_RULES ?c_TOPS ?c_LETTERS ?c_KEYS
    (case aL => k_is); (case lL => k_is); (case cL => k_is); (case kL => k_is); (case lc => k_is); (case v1 => rfl); (case v2 => rfl); (case v3 => rfl); (case v4 => rfl); (case v5 => rfl); (case v6 => rfl); (case v7 => decide); (case nP => kernel_rfl)
    case e_BadBook =>
      refine' K05.mkX_BadBook KX G ?hC ?xL ?rb ?sa ?exC ?tyC ?kC ?iC ?tI ?nf0 ?nf1 ?lk ?hcd ?hcode ?hvs ?hcell ?hD ?hsub ?hsup ?hB ?ho ?hmS
      (case hC => k_is)
      (case xL => k_is)
      (case rb => rfl)
      (case sa => k_is)
      (case exC => k_is)
      (case tyC => k_is)
      (case kC => k_is)
      (case iC => k_is)
      (case tI => k_is)
      (case nf0 => k_is)
      (case nf1 => k_is)
      (case lk => k_is)
      (case hcd => k_is)
      (case hcode => k_is)
      (case hvs => rfl)
      (case hcell => k_is)
      (case hD => k_is)
      (case hsub => k_is)
      (case hsup => kernel_rfl)
      (case hB => k_is)
      (case ho => k_is)
      (case hmS => k_is)
    case e_Refused =>
      refine' K05.mkX_Refused KX G ?hC ?xL ?rb ?sa ?exC ?tyC ?kC ?iC ?tI ?nf0 ?lk ?hcd ?hcode ?hvs ?hcell ?hD ?hsub ?hsup ?hB ?ho ?hmS
      (case hC => k_is)
      (case xL => k_is)
      (case rb => rfl)
      (case sa => k_is)
      (case exC => k_is)
      (case tyC => k_is)
      (case kC => k_is)
      (case iC => k_is)
      (case tI => k_is)
      (case nf0 => k_is)
      (case lk => k_is)
      (case hcd => k_is)
      (case hcode => k_is)
      (case hvs => rfl)
      (case hcell => k_is)
      (case hD => k_is)
      (case hsub => k_is)
      (case hsup => kernel_rfl)
      (case hB => k_is)
      (case ho => k_is)
      (case hmS => k_is)
    (case y_BadBook => (refine' ⟨?ga, ?gg, ?ex, ?hd⟩; (case ga => k_is); (case gg => k_is); (case ex => k_is); (case hd => k_is)))
    (case y_Refused => (refine' ⟨?ga, ?gg, ?ex, ?hd⟩; (case ga => k_is); (case gg => k_is); (case ex => k_is); (case hd => k_is)))
    (case m_BadBook_Refused => kernel_rfl)
    (case m_Refused_Refused => kernel_rfl)
    (case m_BadBook_BadBook => kernel_rfl)
    (case m_Refused_BadBook => kernel_rfl)
    (case d_is_integer => (refine' Z.mkF KX G ?a ?l ?c ?k; (case a => k_is); (case l => k_is); (case c => k_is); (case k => k_is)))
    (case d_is_within => (refine' Z.mkF KX G ?a ?l ?c ?k; (case a => k_is); (case l => k_is); (case c => k_is); (case k => k_is)))
    (case d_is_string => (refine' Z.mkF KX G ?a ?l ?c ?k; (case a => k_is); (case l => k_is); (case c => k_is); (case k => k_is)))
    (case d_is_name => (refine' Z.mkF KX G ?a ?l ?c ?k; (case a => k_is); (case l => k_is); (case c => k_is); (case k => k_is)))
    (case d_are_all => (refine' Z.mkF KX G ?a ?l ?c ?k; (case a => k_is); (case l => k_is); (case c => k_is); (case k => k_is)))
    (case d_are_integers => (refine' Z.mkF KX G ?a ?l ?c ?k; (case a => k_is); (case l => k_is); (case c => k_is); (case k => k_is)))
    (case d_are_names => (refine' Z.mkF KX G ?a ?l ?c ?k; (case a => k_is); (case l => k_is); (case c => k_is); (case k => k_is)))
    (case d_is_tuple_of => (refine' Z.mkF KX G ?a ?l ?c ?k; (case a => k_is); (case l => k_is); (case c => k_is); (case k => k_is)))
    (case d_do_rise => (refine' Z.mkF KX G ?a ?l ?c ?k; (case a => k_is); (case l => k_is); (case c => k_is); (case k => k_is)))
    (case d_is_sign => (refine' Z.mkF KX G ?a ?l ?c ?k; (case a => k_is); (case l => k_is); (case c => k_is); (case k => k_is)))
    (case d_is_signs => (refine' Z.mkF KX G ?a ?l ?c ?k; (case a => k_is); (case l => k_is); (case c => k_is); (case k => k_is)))
    (case d_many_of => (refine' Z.mkF KX G ?a ?l ?c ?k; (case a => k_is); (case l => k_is); (case c => k_is); (case k => k_is)))
    (case d_is_rule_form => (refine' Z.mkF KX G ?a ?l ?c ?k; (case a => k_is); (case l => k_is); (case c => k_is); (case k => k_is)))
    (case d_rule_fault => (refine' Z.mkF KX G ?a ?l ?c ?k; (case a => k_is); (case l => k_is); (case c => k_is); (case k => k_is)))
    (case d_kinds_among => (refine' Z.mkF KX G ?a ?l ?c ?k; (case a => k_is); (case l => k_is); (case c => k_is); (case k => k_is)))
    (case d_rules_fault => (refine' Z.mkF KX G ?a ?l ?c ?k; (case a => k_is); (case l => k_is); (case c => k_is); (case k => k_is)))
    (case d_book_fault => (refine' Z.mkF KX G ?a ?l ?c ?k; (case a => k_is); (case l => k_is); (case c => k_is); (case k => k_is)))
    (case d_is_book => (refine' Z.mkF KX G ?a ?l ?c ?k; (case a => k_is); (case l => k_is); (case c => k_is); (case k => k_is)))
    (case d_checked_book => (refine' Z.mkF KX G ?a ?l ?c ?k; (case a => k_is); (case l => k_is); (case c => k_is); (case k => k_is)))
    (case d_is_change => (refine' Z.mkF KX G ?a ?l ?c ?k; (case a => k_is); (case l => k_is); (case c => k_is); (case k => k_is)))
    (case d_with_rules => (refine' Z.mkF KX G ?a ?l ?c ?k; (case a => k_is); (case l => k_is); (case c => k_is); (case k => k_is)))
    (case d_turned_by => (refine' Z.mkF KX G ?a ?l ?c ?k; (case a => k_is); (case l => k_is); (case c => k_is); (case k => k_is)))
    (case d_after_change => (refine' Z.mkF KX G ?a ?l ?c ?k; (case a => k_is); (case l => k_is); (case c => k_is); (case k => k_is)))
    (case d_back_of => (refine' Z.mkF KX G ?a ?l ?c ?k; (case a => k_is); (case l => k_is); (case c => k_is); (case k => k_is)))
    (case d_after_all => (refine' Z.mkF KX G ?a ?l ?c ?k; (case a => k_is); (case l => k_is); (case c => k_is); (case k => k_is)))
    (case d_backs => (refine' Z.mkF KX G ?a ?l ?c ?k; (case a => k_is); (case l => k_is); (case c => k_is); (case k => k_is)))
    (case d__law_bag => (refine' Z.mkF KX G ?a ?l ?c ?k; (case a => k_is); (case l => k_is); (case c => k_is); (case k => k_is)))
    (case d__law_take => (refine' Z.mkF KX G ?a ?l ?c ?k; (case a => k_is); (case l => k_is); (case c => k_is); (case k => k_is)))
    (case d__law_some => (refine' Z.mkF KX G ?a ?l ?c ?k; (case a => k_is); (case l => k_is); (case c => k_is); (case k => k_is)))
    (case d__law_mixed => (refine' Z.mkF KX G ?a ?l ?c ?k; (case a => k_is); (case l => k_is); (case c => k_is); (case k => k_is)))
    (case d__law_alike => (refine' Z.mkF KX G ?a ?l ?c ?k; (case a => k_is); (case l => k_is); (case c => k_is); (case k => k_is)))
    (case d__law_signs => (refine' Z.mkF KX G ?a ?l ?c ?k; (case a => k_is); (case l => k_is); (case c => k_is); (case k => k_is)))
    (case d__law_a_rule => (refine' Z.mkF KX G ?a ?l ?c ?k; (case a => k_is); (case l => k_is); (case c => k_is); (case k => k_is)))
    (case d__law_book_of => (refine' Z.mkF KX G ?a ?l ?c ?k; (case a => k_is); (case l => k_is); (case c => k_is); (case k => k_is)))
    (case d__law_book => (refine' Z.mkF KX G ?a ?l ?c ?k; (case a => k_is); (case l => k_is); (case c => k_is); (case k => k_is)))
    (case d__law_drawn_change => (refine' Z.mkF KX G ?a ?l ?c ?k; (case a => k_is); (case l => k_is); (case c => k_is); (case k => k_is)))
    (case d__law_behind => (refine' Z.mkF KX G ?a ?l ?c ?k; (case a => k_is); (case l => k_is); (case c => k_is); (case k => k_is)))
    (case d__law_due => (refine' Z.mkF KX G ?a ?l ?c ?k; (case a => k_is); (case l => k_is); (case c => k_is); (case k => k_is)))
    (case d__law_came => (refine' Z.mkF KX G ?a ?l ?c ?k; (case a => k_is); (case l => k_is); (case c => k_is); (case k => k_is)))
    (case z_abs => (refine' Z.free_mk KX G ?a; (case a => k_is)))
    (case z_all => (refine' Z.free_mk KX G ?a; (case a => k_is)))
    (case z_bool => (refine' Z.free_mk KX G ?a; (case a => k_is)))
    (case z_dict => (refine' Z.free_mk KX G ?a; (case a => k_is)))
    (case z_int => (refine' Z.free_mk KX G ?a; (case a => k_is)))
    (case z_isinstance => (refine' Z.free_mk KX G ?a; (case a => k_is)))
    (case z_len => (refine' Z.free_mk KX G ?a; (case a => k_is)))
    (case z_list => (refine' Z.free_mk KX G ?a; (case a => k_is)))
    (case z_range => (refine' Z.free_mk KX G ?a; (case a => k_is)))
    (case z_set => (refine' Z.free_mk KX G ?a; (case a => k_is)))
    (case z_sorted => (refine' Z.free_mk KX G ?a; (case a => k_is)))
    (case z_str => (refine' Z.free_mk KX G ?a; (case a => k_is)))
    (case z_tuple => (refine' Z.free_mk KX G ?a; (case a => k_is)))
    (case z_zip => (refine' Z.free_mk KX G ?a; (case a => k_is)))
    (case g_LONG => (refine' Z.gDict_mk KX G ?a ?l ?k ?lo ?t; (case a => k_is); (case l => k_is); (case k => k_keys); (case lo => decide); (case t => exact .cons (v := .int 3) rfl ⟨_, rfl⟩ (fun _ _ => .int _) (.cons (v := .int 2) rfl ⟨_, rfl⟩ (fun _ _ => .int _) (.cons (v := .int 2) rfl ⟨_, rfl⟩ (fun _ _ => .int _) (.cons (v := .int 2) rfl ⟨_, rfl⟩ (fun _ _ => .int _) (.nil)))))))
    (case c_MOST_CHILDREN => (refine' Z.gInt_mk KX G ?a; (case a => k_is)))
    (case c_MOST_KINDS => (refine' Z.gInt_mk KX G ?a; (case a => k_is)))
    (case c_MOST_LABELS => (refine' Z.gInt_mk KX G ?a; (case a => k_is)))
    (case c_MOST_LETTERS => (refine' Z.gInt_mk KX G ?a; (case a => k_is)))
    (case c_MOST_RULES => (refine' Z.gInt_mk KX G ?a; (case a => k_is)))
    (case c_MOST_TOPS => (refine' Z.gInt_mk KX G ?a; (case a => k_is)))
    (case c_RULES => (refine' Z.gInt_mk KX G ?a; (case a => k_is)))
    (case c_TOPS => (refine' Z.gInt_mk KX G ?a; (case a => k_is)))
    (case c_LETTERS => (refine' Z.gStr_mk KX G ?a; (case a => k_is)))
    (case c_KEYS => (refine' Z.gTup_mk (xs := [.str "book", .str "label", .str "top", .str "rule", .str "program", .str "start", .str "turn", .str "is", .str "of"]) KX G ?a ?l ?r ?s ?v; (case a => k_is); (case l => k_is); (case r => exact fun _ _ => .cons (.str _) (.cons (.str _) (.cons (.str _) (.cons (.str _) (.cons (.str _) (.cons (.str _) (.cons (.str _) (.cons (.str _) (.cons (.str _) (.nil)))))))))); (case s => decide); (case v => exact .cons ⟨_, rfl⟩ (.cons ⟨_, rfl⟩ (.cons ⟨_, rfl⟩ (.cons ⟨_, rfl⟩ (.cons ⟨_, rfl⟩ (.cons ⟨_, rfl⟩ (.cons ⟨_, rfl⟩ (.cons ⟨_, rfl⟩ (.cons ⟨_, rfl⟩ (.nil))))))))))))
