import PyProof.Rows.All
import Wide.All
import OpenK.AllK
import Wide.FinOn
import HandS.ForMost
import HandS.ForExc
import HandS.TupAny
import HandS.IsInst
import KE.KeyNested
import HandS.Zip
import HandS.Flow
import HandS.Conv
import HandS.DictTup
import KE.SortData
import KE.DataMinMax
import KE.DataFind
import KE.KDictPairs
import KE.KDictKeyed
import HandS.HeadHook1
import HandS.HeadHook3
import HandS.Deep
import KE.GoesMore
import KE.KDictCopyH
import PyProof.EnumMake
import PyProof.Rows.StrRev
import HandS.Style
import HandS.TryOnly
import HandS.CallLocal
import HandS.ExcOwn
import HandS.DictEq
import HandS.Dict
import PyProof.DictMoreH
import PyProof.SumWalkG
import HandS.HeadEnd
import HandS.Head2
import PySem.Challenge.RW_antstrails_k77_across_sides_reflected
set_option Elab.async false
set_option linter.all false
set_option maxRecDepth 100000
set_option maxHeartbeats 0
/-! DL: values without the heap for tuples (D), a store of what may change (MH), readings over them. -/
namespace DL
open PySem PySem.Spec PyProof.Rows L2

/-- a value as data: a tuple is its items (tup: tracked, may be a key; ftup: its object is known; kon: written by the top); scl: a list that is read only; what may change is its address -/
inductive D where
  | non | bl (b : Bool) | int (i : Int) | str (x : Str) | ty (n : String) | tup (xs : List D) | ftup (xs : List D) | kon (xs : List D) | scl (xs : List D) | obj (a : Addr)

/-- a tuple that the top has written -/
def KTup (K : PySem.W.Frag) (a : Addr) (xs : List V) : Prop :=
  ∃ (o : Obj) (its : Array Value) (n : Nat), K.lookup a = some o ∧ o.cls = .type "tuple" ∧ o.data = .seq its n ∧ its.size ≤ sizeLine ∧ Vals xs its.toList

/-- a list that is read only: locked for good, or written by the top -/
def RdL (K : PySem.W.Frag) (H : Hp) (a : Addr) (xs : List V) : Prop := (∃ o, H a = some (.frz o (.lst xs))) ∨
  ∃ (o : Obj) (its : Array Value) (n : Nat), K.lookup a = some o ∧ o.cls = .type "list" ∧ o.dict = none ∧ o.data = .seq its n ∧ its.size ≤ sizeLine ∧ Vals xs its.toList
theorem RdL.sq {K : PySem.W.Frag} {H : Hp} {a : Addr} {xs : List V} (h : RdL K H a xs) : SqL K H a xs := h.elim (fun h => .inl (.inr h)) .inr

mutual
inductive Dn (K : PySem.W.Frag) (H : Hp) : V → D → Prop
  | non : Dn K H .non .non
  | bl (b : Bool) : Dn K H (.bl b) (.bl b)
  | int (i : Int) : Dn K H (.int i) (.int i)
  | str (x : Str) : Dn K H (.str x) (.str x)
  | ty (n : String) : Dn K H (.ty n) (.ty n)
  | obj (a : Addr) : Dn K H (.ref a) (.obj a)
  | tup {a : Addr} {xs : List V} {ds : List D} : H a = some (.tup xs) → DnL K H xs ds → Dn K H (.ref a) (.tup ds)
  | ftup {a : Addr} {o : Obj} {xs : List V} {ds : List D} : H a = some (.frz o (.tup xs)) → o.dict = none → DnL K H xs ds → Dn K H (.ref a) (.ftup ds)
  | kon {a : Addr} {xs : List V} {ds : List D} : KTup K a xs → DnL K H xs ds → Dn K H (.ref a) (.kon ds)
  | scl {a : Addr} {xs : List V} {ds : List D} : RdL K H a xs → DnL K H xs ds → Dn K H (.ref a) (.scl ds)
inductive DnL (K : PySem.W.Frag) (H : Hp) : List V → List D → Prop
  | nil : DnL K H [] []
  | cons {v : V} {vs : List V} {d : D} {ds : List D} : Dn K H v d → DnL K H vs ds → DnL K H (v :: vs) (d :: ds)
end

/-- tuples stand, and what is locked for good -/
structure Ext (H H' : Hp) : Prop where
  tup : ∀ a xs, H a = some (.tup xs) → H' a = some (.tup xs)
  frz : ∀ a o xs, H a = some (.frz o (.lst xs)) → H' a = some (.frz o (.lst xs))
  ftup : ∀ a o xs, H a = some (.frz o (.tup xs)) → H' a = some (.frz o (.tup xs))
theorem Ext.refl (H : Hp) : Ext H H := ⟨fun _ _ h => h, fun _ _ _ h => h, fun _ _ _ h => h⟩
theorem Ext.trans {H H1 H2 : Hp} (a : Ext H H1) (b : Ext H1 H2) : Ext H H2 := ⟨fun c xs h => b.tup c xs (a.tup c xs h), fun c o xs h => b.frz c o xs (a.frz c o xs h), fun c o xs h => b.ftup c o xs (a.ftup c o xs h)⟩
theorem Ext.new {H : Hp} {p : Addr} {o : HO} (h : H p = none) : Ext H (upd H p o) :=
  ⟨fun a xs e => by rw [upd_ne (ne_of_none e h)]; exact e, fun a u xs e => by rw [upd_ne (ne_of_none e h)]; exact e, fun a u xs e => by rw [upd_ne (ne_of_none e h)]; exact e⟩
/-- what is changed is none of these -/
def Chg : HO → Prop
  | .tup _ => False
  | .frz _ (.lst _) => False
  | .frz _ (.tup _) => False
  | _ => True
theorem Ext.set {H : Hp} {p : Addr} {o u : HO} (h : H p = some u) (c : Chg u) : Ext H (upd H p o) :=
  ⟨fun a xs e => by rw [upd_ne (fun z => by rw [z, h] at e; cases e; exact c)]; exact e, fun a u' xs e => by rw [upd_ne (fun z => by rw [z, h] at e; cases e; exact c)]; exact e,
   fun a u' xs e => by rw [upd_ne (fun z => by rw [z, h] at e; cases e; exact c)]; exact e⟩
theorem RdL.ext {K : PySem.W.Frag} {H H' : Hp} {a : Addr} {xs : List V} (h : RdL K H a xs) (e : Ext H H') : RdL K H' a xs := h.elim (fun ⟨o, h⟩ => .inl ⟨o, e.frz _ _ _ h⟩) .inr

section
variable {K : PySem.W.Frag} {H H' : Hp}
mutual
theorem Dn.ext (e : Ext H H') : ∀ (d : D) (v : V), Dn K H v d → Dn K H' v d
  | _, _, .non => .non
  | _, _, .bl b => .bl b
  | _, _, .int i => .int i
  | _, _, .str x => .str x
  | _, _, .ty n => .ty n
  | _, _, .obj a => .obj a
  | .tup ds, _, .tup h hs => .tup (e.tup _ _ h) (DnL.ext e ds _ hs)
  | .ftup ds, _, .ftup h ho hs => .ftup (e.ftup _ _ _ h) ho (DnL.ext e ds _ hs)
  | .kon ds, _, .kon h hs => .kon h (DnL.ext e ds _ hs)
  | .scl ds, _, .scl h hs => .scl (h.ext e) (DnL.ext e ds _ hs)
theorem DnL.ext (e : Ext H H') : ∀ (ds : List D) (vs : List V), DnL K H vs ds → DnL K H' vs ds
  | _, _, .nil => .nil
  | d :: ds, _, .cons h hs => .cons (Dn.ext e d _ h) (DnL.ext e ds _ hs)
end
theorem Dn.tup_inv {v : V} {ds : List D} (h : Dn K H v (.tup ds)) : ∃ a xs, v = .ref a ∧ H a = some (.tup xs) ∧ DnL K H xs ds := by
  cases h with
  | tup h hs => exact ⟨_, _, rfl, h, hs⟩
theorem Dn.ftup_inv {v : V} {ds : List D} (h : Dn K H v (.ftup ds)) : ∃ a o xs, v = .ref a ∧ H a = some (.frz o (.tup xs)) ∧ o.dict = none ∧ DnL K H xs ds := by
  cases h with
  | ftup h ho hs => exact ⟨_, _, _, rfl, h, ho, hs⟩
theorem Dn.kon_inv {v : V} {ds : List D} (h : Dn K H v (.kon ds)) : ∃ a xs, v = .ref a ∧ KTup K a xs ∧ DnL K H xs ds := by
  cases h with
  | kon h hs => exact ⟨_, _, rfl, h, hs⟩
theorem Dn.scl_inv {v : V} {ds : List D} (h : Dn K H v (.scl ds)) : ∃ a xs, v = .ref a ∧ RdL K H a xs ∧ DnL K H xs ds := by
  cases h with
  | scl h hs => exact ⟨_, _, rfl, h, hs⟩
theorem Dn.int_inv {v : V} {i : Int} (h : Dn K H v (.int i)) : v = .int i := by cases h; rfl
theorem Dn.bl_inv {v : V} {i : Bool} (h : Dn K H v (.bl i)) : v = .bl i := by cases h; rfl
theorem Dn.str_inv {v : V} {i : Str} (h : Dn K H v (.str i)) : v = .str i := by cases h; rfl
theorem Dn.obj_inv {v : V} {a : Addr} (h : Dn K H v (.obj a)) : v = .ref a := by cases h; rfl
theorem Dn.non_inv {v : V} (h : Dn K H v .non) : v = .non := by cases h; rfl
theorem Dn.ty_inv {v : V} {n : String} (h : Dn K H v (.ty n)) : v = .ty n := by cases h; rfl
theorem DnL.length : ∀ {vs : List V} {ds : List D}, DnL K H vs ds → vs.length = ds.length
  | _, _, .nil => rfl
  | _, _, .cons _ h => by simp [DnL.length h]
theorem DnL.get : ∀ {vs : List V} {ds : List D} {i : Nat} {d : D}, DnL K H vs ds → ds[i]? = some d → ∃ v, vs[i]? = some v ∧ Dn K H v d
  | _, _, i, d, .nil, e => by simp at e
  | _, _, 0, d, .cons h _, e => by simp at e; subst e; exact ⟨_, rfl, h⟩
  | _, _, i + 1, d, .cons _ hs, e => by
    obtain ⟨v, h1, h2⟩ := DnL.get (i := i) (d := d) hs (by simpa using e)
    exact ⟨v, by simpa using h1, h2⟩
theorem DnL.getV : ∀ {vs : List V} {ds : List D} {i : Nat} {v : V}, DnL K H vs ds → vs[i]? = some v → ∃ d, ds[i]? = some d ∧ Dn K H v d
  | _, _, i, d, .nil, e => by simp at e
  | _, _, 0, d, .cons h _, e => by simp at e; subst e; exact ⟨_, rfl, h⟩
  | _, _, i + 1, d, .cons _ hs, e => by
    obtain ⟨v, h1, h2⟩ := DnL.getV (i := i) (v := d) hs (by simpa using e)
    exact ⟨v, by simpa using h1, h2⟩
theorem DnL.append : ∀ {vs ws : List V} {ds es : List D}, DnL K H vs ds → DnL K H ws es → DnL K H (vs ++ ws) (ds ++ es)
  | _, _, _, _, .nil, h => h
  | _, _, _, _, .cons h hs, h' => .cons h (DnL.append hs h')
theorem DnL.take : ∀ {vs : List V} {ds : List D} (n : Nat), DnL K H vs ds → DnL K H (vs.take n) (ds.take n)
  | _, _, 0, _ => .nil
  | _, _, _ + 1, .nil => .nil
  | _, _, n + 1, .cons h hs => .cons h (DnL.take n hs)
theorem DnL.drop : ∀ {vs : List V} {ds : List D} (n : Nat), DnL K H vs ds → DnL K H (vs.drop n) (ds.drop n)
  | _, _, 0, h => h
  | _, _, _ + 1, .nil => .nil
  | _, _, n + 1, .cons _ hs => DnL.drop n hs
theorem DnL.set {v : V} {d : D} (h : Dn K H v d) : ∀ {vs : List V} {ds : List D} (i : Nat), DnL K H vs ds → DnL K H (vs.set i v) (ds.set i d)
  | _, _, _, .nil => .nil
  | _, _, 0, .cons _ hs => .cons h hs
  | _, _, i + 1, .cons h' hs => .cons h' (DnL.set h i hs)
theorem DnL.eraseIdx : ∀ {vs : List V} {ds : List D} (i : Nat), DnL K H vs ds → DnL K H (vs.eraseIdx i) (ds.eraseIdx i)
  | _, _, _, .nil => .nil
  | _, _, 0, .cons _ hs => hs
  | _, _, i + 1, .cons h' hs => .cons h' (DnL.eraseIdx i hs)
theorem DnL.dropLast {vs : List V} {ds : List D} (h : DnL K H vs ds) : DnL K H vs.dropLast ds.dropLast := by
  rw [List.dropLast_eq_take, List.dropLast_eq_take, h.length]; exact h.take _
theorem DnL.reverse : ∀ {vs : List V} {ds : List D}, DnL K H vs ds → DnL K H vs.reverse ds.reverse
  | _, _, .nil => .nil
  | _, _, .cons h hs => by
    rw [List.reverse_cons, List.reverse_cons]; exact (DnL.reverse hs).append (.cons h .nil)
theorem DnL.mem : ∀ {vs : List V} {ds : List D} {v : V}, DnL K H vs ds → v ∈ vs → ∃ d ∈ ds, Dn K H v d
  | _, _, v, .nil, e => by simp at e
  | _, _, v, .cons h hs, e => by
    rcases List.mem_cons.mp e with rfl | e
    · exact ⟨_, List.mem_cons_self, h⟩
    · obtain ⟨d, h1, h2⟩ := DnL.mem hs e
      exact ⟨d, List.mem_cons_of_mem _ h1, h2⟩
theorem DnL.ints : ∀ {vs : List V} {ns : List Int}, DnL K H vs (ns.map D.int) → vs = ns.map V.int
  | _, [], .nil => rfl
  | _, n :: ns, .cons h hs => by cases h; rw [DnL.ints hs]; rfl
theorem DnL.bls : ∀ {vs : List V} {ns : List Bool}, DnL K H vs (ns.map D.bl) → vs = ns.map V.bl
  | _, [], .nil => rfl
  | _, n :: ns, .cons h hs => by cases h; rw [DnL.bls hs]; rfl
theorem DnL.strs : ∀ {vs : List V} {ns : List Str}, DnL K H vs (ns.map D.str) → vs = ns.map V.str
  | _, [], .nil => rfl
  | _, n :: ns, .cons h hs => by cases h; rw [DnL.strs hs]; rfl
theorem DnL.of_ints : ∀ (ns : List Int), DnL K H (ns.map V.int) (ns.map D.int)
  | [] => .nil
  | n :: ns => .cons (.int n) (DnL.of_ints ns)
theorem DnL.of_strs : ∀ (ns : List Str), DnL K H (ns.map V.str) (ns.map D.str)
  | [] => .nil
  | n :: ns => .cons (.str n) (DnL.of_strs ns)
end

/-! dicts whose keys are pairs of cells -/
abbrev NK := (Int × Int) × (Int × Int)
def nkey (k : NK) : NestedKey := .tup [.tup [.num k.1.1, .num k.1.2], .tup [.num k.2.1, .num k.2.2]]
def nHash (k : NK) : Int := reduceHash (Builtin.Tuple.tupleHashOf [reduceHash (Builtin.Tuple.tupleHashOf [hashInt k.1.1, hashInt k.1.2]), reduceHash (Builtin.Tuple.tupleHashOf [hashInt k.2.1, hashInt k.2.2])])
theorem nHash_is (w : World) (k : NK) : (nkey k).hash w = nHash k := by simp [nkey, nHash, NestedKey.hash, NestedKey.hashes]
theorem nkey_inj {a b : NK} (h : nkey a = nkey b) : a = b := by
  unfold nkey at h
  simp only [NestedKey.tup.injEq, List.cons.injEq, NestedKey.num.injEq, and_true] at h
  exact Prod.ext (Prod.ext h.1.1 h.1.2) (Prod.ext h.2.1 h.2.2)
def nEnt (x : NK × Addr × Value) : DictEntry := ⟨nHash x.1, .ref x.2.1, x.2.2⟩
def nX (x : NK × Addr × Value) : NestedKey × Addr × Value := (nkey x.1, x.2.1, x.2.2)
abbrev NVs (ks : List (NK × Addr × V)) (xs : List (NK × Addr × Value)) : Prop := Paired (fun p q => p.1 = q.1 ∧ p.2.1 = q.2.1 ∧ RelV p.2.2 q.2.2) ks xs
/-- at a stands such a dict -/
def NDph (a : Addr) (ks : List (NK × Addr × V)) (h : Heap) : Prop := (a == sysModules) = false ∧ ks.length ≤ sizeLine ∧ (ks.map (·.1)).Nodup ∧
  ∃ o es ep xs, h.get? a = some o ∧ o.ExactDict ∧ o.data = .dict es ep ∧ es.toList = xs.map nEnt ∧ NVs ks xs
def nDict (a : Addr) (ks : List (NK × Addr × V)) : HO := .ext (NDph a ks)
/-- at b stands the key k -/
def NAt (H : Hp) (k : NK) (b : Addr) : Prop := ∃ b1 b2, H b = some (.tup [.ref b1, .ref b2]) ∧ H b1 = some (.tup [.int k.1.1, .int k.1.2]) ∧ H b2 = some (.tup [.int k.2.1, .int k.2.2])
def NKV (K : PySem.W.Frag) (H : Hp) : List (NK × Addr × V) → List (NK × D) → Prop := Paired fun p q => p.1 = q.1 ∧ NAt H p.1 p.2.1 ∧ Dn K H p.2.2 q.2
theorem NAt.ext {H H' : Hp} {k : NK} {b : Addr} (h : NAt H k b) (e : Ext H H') : NAt H' k b := let ⟨b1, b2, x, y, z⟩ := h; ⟨b1, b2, e.tup _ _ x, e.tup _ _ y, e.tup _ _ z⟩
theorem NKV.ext {K : PySem.W.Frag} {H H' : Hp} {ks : List (NK × Addr × V)} {kvs : List (NK × D)} (r : NKV K H ks kvs) (e : Ext H H') : NKV K H' ks kvs := Paired.mapP r fun _ _ z => ⟨z.1, z.2.1.ext e, z.2.2.ext e⟩
/-- what may change -/
inductive MO where
  | lst (ds : List D)
  | dT (kvs : List (List Key × D))
  | dK (kvs : List (Key × D))
  /-- the same while they are walked -/
  | rT (o : Obj) (ks : List (List Key × V)) (kvs : List (List Key × D))
  | rK (o : Obj) (ks : List (Key × V)) (kvs : List (Key × D))
  | dN (kvs : List (NK × D))
  | rN (o : Obj) (ks : List (NK × Addr × V)) (kvs : List (NK × D))
abbrev MH := Addr → Option MO
def put (M : MH) (a : Addr) (o : MO) : MH := fun b => if b = a then some o else M b
theorem put_same {M : MH} {a : Addr} {o : MO} : put M a o a = some o := by unfold put; rw [if_pos rfl]
theorem put_ne {M : MH} {a b : Addr} {o : MO} (h : b ≠ a) : put M a o b = M b := by unfold put; rw [if_neg h]
theorem put_put {M : MH} {a : Addr} {o u : MO} : put (put M a o) a u = put M a u := by
  funext b; unfold put; split <;> rfl
theorem put_comm {M : MH} {a b : Addr} {o u : MO} (h : a ≠ b) : put (put M a o) b u = put (put M b u) a o := by
  funext c; unfold put; split <;> split <;> first | rfl | (rename_i h1 h2; exact absurd (h2.symm.trans h1) h)
theorem put_eta {M : MH} {a : Addr} {o : MO} (h : M a = some o) : put M a o = M := by
  funext c; unfold put; split
  · rename_i e; rw [e, h]
  · rfl
theorem ne_of_free {M : MH} {a b : Addr} {o : MO} (h : M a = some o) (h' : M b = none) : a ≠ b := by
  intro e; subst e; rw [h] at h'; cases h'

def DnKV {κ : Type} (K : PySem.W.Frag) (H : Hp) : List (κ × V) → List (κ × D) → Prop := Paired fun p q => p.1 = q.1 ∧ Dn K H p.2 q.2
def RepO (K : PySem.W.Frag) (H : Hp) (a : Addr) : MO → Prop
  | .lst ds => ∃ vs, H a = some (.lst vs) ∧ DnL K H vs ds
  | .dT kvs => ∃ ks, H a = some (.dT ks) ∧ DnKV K H ks kvs
  | .dK kvs => ∃ ks, H a = some (.dK ks) ∧ DnKV K H ks kvs
  | .rT o ks kvs => H a = some (.frz o (.dT ks)) ∧ DnKV K H ks kvs
  | .rK o ks kvs => H a = some (.frz o (.dK ks)) ∧ DnKV K H ks kvs
  | .dN kvs => ∃ ks, H a = some (nDict a ks) ∧ NKV K H ks kvs
  | .rN o ks kvs => H a = some (.frz o (nDict a ks)) ∧ NKV K H ks kvs
def Rep (K : PySem.W.Frag) (H : Hp) (M : MH) : Prop := ∀ a o, M a = some o → RepO K H a o
/-- less is known -/
def Sub (M M' : MH) : Prop := ∀ a o, M a = some o → M' a = some o
theorem Sub.refl (M : MH) : Sub M M := fun _ _ h => h
theorem Sub.trans {M M1 M2 : MH} (a : Sub M M1) (b : Sub M1 M2) : Sub M M2 := fun c o h => b c o (a c o h)
theorem sub_put {M M' : MH} {p : Addr} {o : MO} (s : Sub M M') (h : M p = none) : Sub M (put M' p o) := fun a u e => by
  rw [put_ne (ne_of_free e h)]; exact s a u e
theorem sub_new {M : MH} {p : Addr} {o : MO} (h : M p = none) : Sub M (put M p o) := sub_put (Sub.refl M) h
theorem Sub.put {M M' : MH} {p : Addr} {o : MO} (s : Sub M M') : Sub (put M p o) (put M' p o) := fun a u e => by
  by_cases h : a = p
  · subst h; rw [put_same] at e ⊢; exact e
  · rw [put_ne h] at e ⊢; exact s a u e
theorem Sub.free {M M' : MH} (s : Sub M M') {p : Addr} (h : M' p = none) : M p = none := by
  cases e : M p with
  | none => rfl
  | some o => rw [s p o e] at h; cases h
theorem Rep.sub {K : PySem.W.Frag} {H : Hp} {M M0 : MH} (r : Rep K H M) (s : Sub M0 M) : Rep K H M0 := fun a o e => r a o (s a o e)

section
variable {K : PySem.W.Frag} {H H' H2 : Hp} {M M' M2 : MH}
theorem DnKV.ext {κ : Type} (e : Ext H H') {ks : List (κ × V)} {kvs : List (κ × D)} (r : DnKV K H ks kvs) : DnKV K H' ks kvs := Paired.mapP r fun _ _ z => ⟨z.1, z.2.ext e⟩
/-- tuples stand; what M does not know is as it was, and not known behind -/
structure Fr (M : MH) (H : Hp) (M' : MH) (H' : Hp) : Prop where
  ext : Ext H H'
  fr : ∀ a o, M a = none → H a = some o → H' a = some o ∧ M' a = none
  there : ∀ a, H' a = none → H a = none
theorem Fr.refl : Fr M H M H := ⟨Ext.refl _, fun _ _ a b => ⟨b, a⟩, fun _ h => h⟩
theorem Fr.trans (a : Fr M H M' H') (b : Fr M' H' M2 H2) : Fr M H M2 H2 := ⟨a.ext.trans b.ext, fun c o h1 h2 => b.fr c o (a.fr c o h1 h2).2 (a.fr c o h1 h2).1, fun c h => a.there c (b.there c h)⟩
theorem Fr.sub {M0 : MH} (a : Fr M H M' H') (s : Sub M0 M') : Fr M H M0 H' := ⟨a.ext, fun c o h1 h2 => ⟨(a.fr c o h1 h2).1, s.free (a.fr c o h1 h2).2⟩, a.there⟩
theorem upd_there {p a : Addr} {o : HO} (h : upd H p o a = none) : H a = none := by
  by_cases z : a = p
  · subst z; rw [upd_same] at h; cases h
  · rw [upd_ne z] at h; exact h
theorem Rep.free {a : Addr} (r : Rep K H M) (h : H a = none) : M a = none := by
  cases e : M a with
  | none => rfl
  | some u =>
    have q := r a u e
    cases u with
    | lst ds => obtain ⟨vs, q, _⟩ := q; rw [h] at q; cases q
    | dT ds => obtain ⟨vs, q, _⟩ := q; rw [h] at q; cases q
    | dK ds => obtain ⟨vs, q, _⟩ := q; rw [h] at q; cases q
    | rT o ks ds => obtain ⟨q, _⟩ := q; rw [h] at q; cases q
    | rK o ks ds => obtain ⟨q, _⟩ := q; rw [h] at q; cases q
    | dN ds => obtain ⟨vs, q, _⟩ := q; rw [h] at q; cases q
    | rN o ks ds => obtain ⟨q, _⟩ := q; rw [h] at q; cases q
end
end DL
/-! DL: the readings over data, and the expressions' rules. -/
namespace DL
open PySem PySem.Spec PyProof.Rows L2

abbrev DSt := List (Option D)
abbrev DK := D → MH → Prop
abbrev DTE := DSt → MH → DK → Prop
abbrev DTT := DSt → MH → (Bool → MH → Prop) → Prop
abbrev DTA := DSt → MH → (List D → MH → Prop) → Prop
/-- what is wanted of an exception (of the one class that is spoken of): the store -/
abbrev DXK := MH → Prop

structure EnvC (K : PySem.W.Frag) (H : Hp) (σ : L2.St) (δ : DSt) : Prop where
  len : σ.length = δ.length
  at_ : ∀ (i : Nat) (d : D), δ[i]? = some (some d) → ∃ v, σ[i]? = some (some v) ∧ Dn K H v d
section
variable {K : PySem.W.Frag} {H H' : Hp} {σ : L2.St} {δ : DSt} {M M' : MH}
theorem EnvC.ext (r : EnvC K H σ δ) (e : Ext H H') : EnvC K H' σ δ := ⟨r.len, fun i d h => let ⟨v, h1, h2⟩ := r.at_ i d h; ⟨v, h1, h2.ext e⟩⟩
theorem EnvC.set {i : Nat} {v : V} {d : D} (r : EnvC K H σ δ) (h : Dn K H v d) : EnvC K H (σ.set i (some v)) (δ.set i (some d)) := by
  refine ⟨by simp [r.len], fun j d' e => ?_⟩
  by_cases hj : j = i
  · subst hj
    have hl : j < δ.length := by
      have := (List.getElem?_eq_some_iff.mp e).1
      simpa using this
    rw [List.getElem?_set_self hl] at e
    cases e
    exact ⟨v, List.getElem?_set_self (by rw [r.len]; exact hl), h⟩
  · rw [List.getElem?_set_ne (Ne.symm hj)] at e ⊢
    exact r.at_ j d' e
/-- forgetting -/
theorem EnvC.weak {δ' : DSt} (r : EnvC K H σ δ) (hl : δ'.length = δ.length) (w : ∀ (i : Nat) d, δ'[i]? = some (some d) → δ[i]? = some (some d)) : EnvC K H σ δ' :=
  ⟨r.len.trans hl.symm, fun i d h => r.at_ i d (w i d h)⟩
theorem EnvC.setNone {i : Nat} (r : EnvC K H σ δ) : EnvC K H (σ.set i none) (δ.set i none) := by
  refine ⟨by simp [r.len], fun j d' e => ?_⟩
  by_cases hj : j = i
  · subst hj
    have hl : j < δ.length := by
      have := (List.getElem?_eq_some_iff.mp e).1
      simpa using this
    rw [List.getElem?_set_self hl] at e
    cases e
  · rw [List.getElem?_set_ne (Ne.symm hj)] at e ⊢
    exact r.at_ j d' e
end

/-- exceptions: the class that is spoken of, what the context wants of one, what the reading offers: the slots and the store -/
structure XW where
  C : Addr
  W : WX
  ex : DSt → MH → Prop
def XOk (K : PySem.W.Frag) (w : XW) (M : MH) (H : Hp) : Prop := ∀ M' d σ' δ' H', w.ex δ' M' → EnvC K H' σ' δ' → Fr M H M' H' → Rep K H' M' → w.W (.ref w.C) d σ' H'
structure EnvD (K : PySem.W.Frag) (w : XW) (M : MH) (H : Hp) (σ : L2.St) (δ : DSt) : Prop where
  env : EnvC K H σ δ
  xok : XOk K w M H
section
variable {K : PySem.W.Frag} {w : XW} {H H' : Hp} {σ : L2.St} {δ : DSt} {M M' : MH}
theorem XOk.on (x : XOk K w M H) (f : Fr M H M' H') : XOk K w M' H' := fun M2 d σ' δ' H2 h e f2 r => x M2 d σ' δ' H2 h e (f.trans f2) r
theorem EnvD.on (r : EnvD K w M H σ δ) (f : Fr M H M' H') : EnvD K w M' H' σ δ := ⟨r.env.ext f.ext, r.xok.on f⟩
theorem EnvD.at_ (r : EnvD K w M H σ δ) (i : Nat) (d : D) (h : δ[i]? = some (some d)) : ∃ v, σ[i]? = some (some v) ∧ Dn K H v d := r.env.at_ i d h
theorem EnvD.set {i : Nat} {v : V} {d : D} (r : EnvD K w M H σ δ) (h : Dn K H v d) : EnvD K w M H (σ.set i (some v)) (δ.set i (some d)) := ⟨r.env.set h, r.xok⟩
theorem EnvD.setNone {i : Nat} (r : EnvD K w M H σ δ) : EnvD K w M H (σ.set i none) (δ.set i none) := ⟨r.env.setNone, r.xok⟩
theorem EnvD.sub {M0 : MH} (r : EnvD K w M H σ δ) (s : Sub M0 M) : EnvD K w M0 H σ δ := ⟨r.env, r.xok.on (Fr.refl.sub s)⟩
end
/-- no exception is spoken of -/
def w0 : XW := ⟨0, fun _ _ _ _ => False, fun _ _ => False⟩
theorem EnvD.no {K : PySem.W.Frag} {w : XW} {H : Hp} {σ : L2.St} {δ : DSt} {M : MH} (r : EnvD K w M H σ δ) : EnvD K w0 M H σ δ := ⟨r.env, fun _ _ _ _ _ h => h.elim⟩

/-- the want k of data, as a want of values -/
def Cont (K : PySem.W.Frag) (M : MH) (H : Hp) (k : DK) (Q : VK) : Prop := ∀ d M' v H', k d M' → Fr M H M' H' → Rep K H' M' → Dn K H' v d → Q v H'
def up (K : PySem.W.Frag) (w : XW) (t : DTE) : TE := fun σ H Q => ∃ δ M k, EnvD K w M H σ δ ∧ Rep K H M ∧ t δ M k ∧ Cont K M H k Q
def ContL (K : PySem.W.Frag) (M : MH) (H : Hp) (k : List D → MH → Prop) (Q : List V → Hp → Prop) : Prop := ∀ ds M' vs H', k ds M' → Fr M H M' H' → Rep K H' M' → DnL K H' vs ds → Q vs H'
def upA (K : PySem.W.Frag) (w : XW) (t : DTA) : TA := fun σ H Q => ∃ δ M k, EnvD K w M H σ δ ∧ Rep K H M ∧ t δ M k ∧ ContL K M H k Q
def ContT (K : PySem.W.Frag) (M : MH) (H : Hp) (k : Bool → MH → Prop) (Q : Bool → Hp → Prop) : Prop := ∀ b M' H', k b M' → Fr M H M' H' → Rep K H' M' → Q b H'
def upT (K : PySem.W.Frag) (w : XW) (t : DTT) : TT := fun σ H Q => ∃ δ M k, EnvD K w M H σ δ ∧ Rep K H M ∧ t δ M k ∧ ContT K M H k Q
abbrev DE (X : Cx) (w : XW) (e : Expr) (t : DTE) : Prop := PE X e (up X.K w t)
abbrev DT (X : Cx) (w : XW) (e : Expr) (t : DTT) : Prop := PT X e (upT X.K w t)
abbrev DW (X : Cx) (w : XW) (e : Expr) (t : DTT) : Prop := PW X e (upT X.K w t)
abbrev DA (X : Cx) (w : XW) (es : List Expr) (t : DTA) : Prop := PA X es (upA X.K w t)
section
variable {K : PySem.W.Frag} {M M' : MH} {H H' : Hp}
theorem Cont.at {k k' : DK} {Q : VK} (c : Cont K M H k Q) (f : Fr M H M' H') (h : ∀ d M2, k' d M2 → k d M2) : Cont K M' H' k' Q := fun d M2 v H2 q f2 r n => c d M2 v H2 (h d M2 q) (f.trans f2) r n
theorem Cont.on {k : DK} {Q : VK} (c : Cont K M H k Q) (f : Fr M H M' H') : Cont K M' H' k Q := fun d M2 v H2 q f2 r n => c d M2 v H2 q (f.trans f2) r n
theorem ContT.on {k : Bool → MH → Prop} {Q : Bool → Hp → Prop} (c : ContT K M H k Q) (f : Fr M H M' H') : ContT K M' H' k Q := fun d M2 H2 q f2 r => c d M2 H2 q (f.trans f2) r
theorem Cont.here {k : DK} {Q : VK} {d : D} {v : V} (c : Cont K M H k Q) (h : k d M) (r : Rep K H M) (n : Dn K H v d) : Q v H := c d M v H h Fr.refl r n
theorem Cont.sub {k : DK} {Q : VK} {M0 : MH} (c : Cont K M H k Q) (s : Sub M0 M) : Cont K M0 H k Q := fun d M2 v H2 q f2 r n => c d M2 v H2 q ((Fr.refl.sub s).trans f2) r n
end

/-! ### weakening -/
theorem PE.imp {X : Cx} {e : Expr} {t t' : TE} (h : PE X e t) (i : ∀ σ H Q, t' σ H Q → t σ H Q) : PE X e t' := ⟨fun pins s σ H Q I q => h.run pins s σ H Q I (i σ H Q q)⟩
theorem PT.imp {X : Cx} {e : Expr} {t t' : TT} (h : PT X e t) (i : ∀ σ H Q, t' σ H Q → t σ H Q) : PT X e t' := ⟨fun pins s σ H Q I q => h.run pins s σ H Q I (i σ H Q q)⟩
theorem PW.imp {X : Cx} {e : Expr} {t t' : TT} (h : PW X e t) (i : ∀ σ H Q, t' σ H Q → t σ H Q) : PW X e t' := ⟨fun wh pins s σ H Q I q => h.run wh pins s σ H Q I (i σ H Q q)⟩
theorem PA.imp {X : Cx} {e : List Expr} {t t' : TA} (h : PA X e t) (i : ∀ σ H Q, t' σ H Q → t σ H Q) : PA X e t' := ⟨fun p pins s σ H Q I q => h.run p pins s σ H Q I (i σ H Q q)⟩
theorem PS.imp {X : Cx} {e : Stmt} {t t' : TS} (h : PS X e t) (i : ∀ E σ H, t' E σ H → t E σ H) : PS X e t' := ⟨fun pins s σ H D I q => h.run pins s σ H D I (i D σ H q)⟩
theorem PSs.imp {X : Cx} {e : List Stmt} {t t' : TS} (h : PSs X e t) (i : ∀ E σ H, t' E σ H → t E σ H) : PSs X e t' := ⟨fun pins s σ H D I q => h.run pins s σ H D I (i D σ H q)⟩
theorem PI.imp {X : Cx} {tg e : Expr} {t t' : TI} (h : PI X tg e t) (i : ∀ σ H Q, t' σ H Q → t σ H Q) : PI X tg e t' := ⟨fun pins s σ H Q I q => h.run pins s σ H Q I (i σ H Q q)⟩

/-! ### names and constants -/
section
variable {X : Cx} {w : XW} {a b c e : Expr} {ta tb tc te : DTE} {pos : Pos} {es : List Expr} {t : DTA}
def dVar (i : Nat) : DTE := fun δ M k => match δ[i]? with
  | some (some d) => k d M
  | _ => False
def dC (d : D) : DTE := fun _ M k => k d M
theorem de_var {i : Nat} {x : Str} (h : PE X (.Name x pos) (tVar i)) : DE X w (.Name x pos) (dVar i) := PE.imp h fun σ H Q ⟨δ, M, k, r, rp, h, c⟩ => by
  unfold dVar at h
  split at h
  · rename_i d e
    obtain ⟨v, e1, n⟩ := r.at_ i d e
    exact ⟨v, e1, c.here h rp n⟩
  · exact h.elim
theorem de_const {v : V} {d : D} (h : PE X e (tC v)) (n : ∀ H, Dn X.K H v d) : DE X w e (dC d) := PE.imp h fun σ H Q ⟨δ, M, k, r, rp, h, c⟩ => c.here h rp (n H)
theorem de_int {i j pos} : DE X w (.Constant (.int i) j pos) (dC (.int i)) := de_const pe_int fun _ => .int i
theorem de_bl {b j pos} : DE X w (.Constant (.bool b) j pos) (dC (.bl b)) := de_const pe_bl fun _ => .bl b
theorem de_non {j pos} : DE X w (.Constant .none j pos) (dC .non) := de_const pe_non fun _ => .non
theorem de_str {x j pos} : DE X w (.Constant (.str x) j pos) (dC (.str x)) := de_const pe_str fun _ => .str x

/-! ### argument lists, displays -/
def dNil : DTA := fun _ M k => k [] M
def dCons (ta : DTE) (tr : DTA) : DTA := fun δ M k => ta δ M fun x M1 => tr δ M1 fun xs M2 => k (x :: xs) M2
theorem da_nil : DA X w [] dNil := PA.imp pa_nil fun σ H Q ⟨δ, M, k, r, rp, h, c⟩ => c [] M [] H h Fr.refl rp .nil
theorem da_cons (ha : DE X w e te) (hr : DA X w es t) (hs : starEach (e :: es) X.env = (false, eval e X.env) :: starEach es X.env := by rfl) : DA X w (e :: es) (dCons te t) :=
  PA.imp (pa_cons ha hr hs) fun σ H Q ⟨δ, M, k, r, rp, h, c⟩ => ⟨δ, M, _, r, rp, h, fun x M1 v H1 h1 f1 r1 n1 => ⟨δ, M1, _, r.on f1, r1, h1, fun xs M2 vs H2 h2 f2 r2 n2 =>
    c (x :: xs) M2 (v :: vs) H2 h2 (f1.trans f2) r2 (.cons (n1.ext f2.ext) n2)⟩⟩
theorem new_tup {K : PySem.W.Frag} {M : MH} {H : Hp} {k : DK} {Q : VK} {vs : List V} {ds : List D} {p : Addr} (c : Cont K M H k Q) (r : Rep K H M) (hp : H p = none) (n : DnL K H vs ds) (h : k (.tup ds) M) : Q (.ref p) (upd H p (.tup vs)) := by
  have e : Ext H (upd H p (.tup vs)) := Ext.new hp
  refine c (.tup ds) M (.ref p) _ h ⟨e, fun a o m q => ⟨by rw [upd_ne (ne_of_none q hp)]; exact q, m⟩, fun _ z => upd_there z⟩ (fun a o m => ?_) (.tup upd_same (n.ext e))
  have q := r a o m
  have na : a ≠ p := fun z => by
    have := r.free (a := a) (by rw [z]; exact hp)
    rw [m] at this; cases this
  cases o with
  | lst ds => obtain ⟨vs, q, n⟩ := q; exact ⟨vs, by rw [upd_ne na]; exact q, n.ext e⟩
  | dT ds => obtain ⟨vs, q, n⟩ := q; exact ⟨vs, by rw [upd_ne na]; exact q, n.ext e⟩
  | dK ds => obtain ⟨vs, q, n⟩ := q; exact ⟨vs, by rw [upd_ne na]; exact q, n.ext e⟩
  | rT o ks ds => obtain ⟨q, n⟩ := q; exact ⟨by rw [upd_ne na]; exact q, n.ext e⟩
  | rK o ks ds => obtain ⟨q, n⟩ := q; exact ⟨by rw [upd_ne na]; exact q, n.ext e⟩
  | dN ds => obtain ⟨vs, q, n⟩ := q; exact ⟨vs, by rw [upd_ne na]; exact q, NKV.ext n e⟩
  | rN o ks ds => obtain ⟨q, n⟩ := q; exact ⟨by rw [upd_ne na]; exact q, NKV.ext n e⟩
theorem RepO.ext {K : PySem.W.Frag} {H H' : Hp} {a : Addr} {o : MO} (q : RepO K H a o) (e : Ext H H') (ha : ∀ u, H a = some u → H' a = some u) : RepO K H' a o := by
  cases o with
  | lst ds => obtain ⟨vs, q, n⟩ := q; exact ⟨vs, ha _ q, n.ext e⟩
  | dT ds => obtain ⟨vs, q, n⟩ := q; exact ⟨vs, ha _ q, n.ext e⟩
  | dK ds => obtain ⟨vs, q, n⟩ := q; exact ⟨vs, ha _ q, n.ext e⟩
  | rT o ks ds => obtain ⟨q, n⟩ := q; exact ⟨ha _ q, n.ext e⟩
  | rK o ks ds => obtain ⟨q, n⟩ := q; exact ⟨ha _ q, n.ext e⟩
  | dN ds => obtain ⟨vs, q, n⟩ := q; exact ⟨vs, ha _ q, NKV.ext n e⟩
  | rN o ks ds => obtain ⟨q, n⟩ := q; exact ⟨ha _ q, NKV.ext n e⟩
/-- a store's update follows the heap's -/
theorem Rep.put {K : PySem.W.Frag} {H : Hp} {M : MH} {p : Addr} {o : HO} {u : MO} (r : Rep K H M) (e : Ext H (upd H p o)) (q : RepO K (upd H p o) p u) : Rep K (upd H p o) (put M p u) := fun a w m => by
  by_cases h : a = p
  · subst h; rw [put_same] at m; cases m; exact q
  · rw [put_ne h] at m
    exact (r a w m).ext e fun z hz => by rw [upd_ne h]; exact hz
theorem Fr.new {H : Hp} {M : MH} {p : Addr} {o : HO} {u : MO} (h : H p = none) : Fr M H (put M p u) (upd H p o) :=
  ⟨Ext.new h, fun a w m q => ⟨by rw [upd_ne (ne_of_none q h)]; exact q, by rw [put_ne (ne_of_none q h)]; exact m⟩, fun _ z => upd_there z⟩
theorem Fr.set {H : Hp} {M : MH} {p : Addr} {o : HO} {u w : MO} (h : M p = some w) (e : Ext H (upd H p o)) : Fr M H (DL.put M p u) (upd H p o) :=
  ⟨e, fun a z m q => by
    have na : a ≠ p := fun x => by rw [x, h] at m; cases m
    exact ⟨by rw [upd_ne na]; exact q, by rw [put_ne na]; exact m⟩, fun _ z => upd_there z⟩
/-- a heap's object that is not known is laid -/
theorem Fr.laid {H : Hp} {M : MH} {p : Addr} {o : HO} (h : H p = none) : Fr M H M (upd H p o) :=
  ⟨Ext.new h, fun a w m q => ⟨by rw [upd_ne (ne_of_none q h)]; exact q, m⟩, fun _ z => upd_there z⟩
theorem Rep.laid {K : PySem.W.Frag} {H : Hp} {M : MH} {p : Addr} {o : HO} (r : Rep K H M) (h : H p = none) : Rep K (upd H p o) M := fun a u m =>
  (r a u m).ext (Ext.new h) fun z hz => by rw [upd_ne (ne_of_none hz h)]; exact hz
/-- an object laid -/
theorem new_obj {K : PySem.W.Frag} {M : MH} {H : Hp} {k : DK} {Q : VK} {o : HO} {u : MO} {p : Addr} (c : Cont K M H k Q) (r : Rep K H M) (hp : H p = none) (q : RepO K (upd H p o) p u) (h : k (.obj p) (put M p u)) : Q (.ref p) (upd H p o) :=
  c (.obj p) _ (.ref p) _ h (Fr.new hp) (r.put (Ext.new hp) q) (.obj p)
theorem lst_ok {K : PySem.W.Frag} {H : Hp} {p : Addr} {vs : List V} {ds : List D} (e : Ext H (upd H p (.lst vs))) (n : DnL K H vs ds) : RepO K (upd H p (.lst vs)) p (.lst ds) := ⟨vs, upd_same, n.ext e⟩
theorem ext_lst {H : Hp} {p : Addr} {vs : List V} {o : HO} (h : H p = some (.lst vs)) : Ext H (upd H p o) := Ext.set h trivial
theorem ext_dT {H : Hp} {p : Addr} {vs} {o : HO} (h : H p = some (.dT vs)) : Ext H (upd H p o) := Ext.set h trivial
theorem ext_dK {H : Hp} {p : Addr} {vs} {o : HO} (h : H p = some (.dK vs)) : Ext H (upd H p o) := Ext.set h trivial
def dTup (t : DTA) : DTE := fun δ M k => t δ M fun ds M1 => ds.length ≤ sizeLine ∧ k (.tup ds) M1
def dLst (t : DTA) : DTE := fun δ M k => t δ M fun ds M1 => ds.length ≤ sizeLine ∧ ∀ p, M1 p = none → k (.obj p) (put M1 p (.lst ds))
theorem de_tup {x1} (h : DA X w es t) : DE X w (.Tuple es x1 pos) (dTup t) := PE.imp (pe_tup h) fun σ H Q ⟨δ, M, k, r, rp, h, c⟩ => ⟨δ, M, _, r, rp, h, fun ds M1 vs H1 ⟨hl, h1⟩ f1 r1 n1 =>
  ⟨by rw [n1.length]; exact hl, fun p hp => new_tup (c.on f1) r1 hp n1 h1⟩⟩
theorem de_lst (h : DA X w es t) : DE X w (.List es pos) (dLst t) := PE.imp (pe_lst h) fun σ H Q ⟨δ, M, k, r, rp, h, c⟩ => ⟨δ, M, _, r, rp, h, fun ds M1 vs H1 ⟨hl, h1⟩ f1 r1 n1 =>
  ⟨by rw [n1.length]; exact hl, fun p hp => new_obj (c.on f1) r1 hp (lst_ok (Ext.new hp) n1) (h1 p (r1.free hp))⟩⟩

/-! ### two-place operations by values -/
abbrev RD2 := D → D → MH → DK → Prop
def OpD (K : PySem.W.Frag) (r : R2) (rd : RD2) : Prop := ∀ x y dx dy H M k Q, Dn K H x dx → Dn K H y dy → Rep K H M → rd dx dy M k → Cont K M H k Q → r x y H Q
def dOp (rd : RD2) (ta tb : DTE) : DTE := fun δ M k => ta δ M fun x M1 => tb δ M1 fun y M2 => rd x y M2 k
theorem up_op {K : PySem.W.Frag} {r : R2} {rd : RD2} (hd : OpD K r rd) {σ H Q} (h : up K w (dOp rd ta tb) σ H Q) : tOp r (up K w ta) (up K w tb) σ H Q := by
  obtain ⟨δ, M, k, re, rp, h, c⟩ := h
  exact ⟨δ, M, _, re, rp, h, fun x M1 v H1 h1 f1 r1 n1 => ⟨δ, M1, _, re.on f1, r1, h1, fun y M2 u H2 h2 f2 r2 n2 =>
    hd v u x y H2 M2 k Q (n1.ext f2.ext) n2 r2 h2 (c.on (f1.trans f2))⟩⟩
theorem de_op {op : Operator} {r : R2} {rd : RD2} (ho : OpR X (binaryOp op) r) (hd : OpD X.K r rd) (ha : DE X w a ta) (hb : DE X w b tb) : DE X w (.BinOp a op b pos) (dOp rd ta tb) :=
  PE.imp (pe_op ho ha hb) fun σ H Q h => up_op hd h
theorem de_cmp {op : CmpOp} {r : R2} {rd : RD2} (ho : OpR X (compareOp op) r) (hd : OpD X.K r rd) (ha : DE X w a ta) (hb : DE X w b tb) (hm : behindInMarks op b = false) : DE X w (.Compare a [op] [b] pos) (dOp rd ta tb) :=
  PE.imp (pe_cmpR ho ha hb hm) fun σ H Q h => up_op hd h
/-- a truth value as a test -/
def dTest (t : DTE) : DTT := fun δ M k => t δ M fun d M' => match d with
  | .bl b => k b M'
  | _ => False
theorem up_test {K : PySem.W.Frag} {t : DTE} {σ H Q} (h : upT K w (dTest t) σ H Q) : tTest (up K w t) σ H Q := by
  obtain ⟨δ, M, k, re, rp, h, c⟩ := h
  refine ⟨δ, M, _, re, rp, h, fun d M1 v H1 h1 f1 r1 n1 => ?_⟩
  cases d with
  | bl b => cases n1; exact ⟨b, rfl, c b M1 H1 h1 f1 r1⟩
  | _ => exact h1.elim
theorem dt_val {t : DTE} (h : DE X w e t) (he : ∀ whole, isTrue e X.env whole = (do let v ← whole; standAt e.pos; holding [v] (truthy v)) := by intro _; rfl) : DT X w e (dTest t) :=
  PT.imp (pt_val h he) fun σ H Q h => up_test h
theorem tTest_imp {t t' : TE} (i : ∀ σ H Q, t' σ H Q → t σ H Q) {σ H Q} (h : tTest t' σ H Q) : tTest t σ H Q := i _ _ _ h
theorem dt_cmp {op : CmpOp} {r : R2} {rd : RD2} (ho : OpR X (compareOp op) r) (hd : OpD X.K r rd) (ha : DE X w a ta) (hb : DE X w b tb) (hm : behindInMarks op b = false) : DT X w (.Compare a [op] [b] pos) (dTest (dOp rd ta tb)) :=
  PT.imp (pt_cmpR ho ha hb hm) fun σ H Q h => tTest_imp (fun _ _ _ h => up_op hd h) (up_test h)
/-- a op1 b op2 c -/
def dChain (rd rd' : RD2) (ta tb tc : DTE) : DTE := fun δ M k => ta δ M fun x M1 => tb δ M1 fun y M2 => rd x y M2 fun z M3 => match z with
  | .bl q => if q = true then tc δ M3 fun w' M4 => rd' y w' M4 k else k (.bl false) M3
  | _ => False
theorem up_chain {K : PySem.W.Frag} {r r' : R2} {rd rd' : RD2} (hd : OpD K r rd) (hd' : OpD K r' rd') {σ H Q} (h : up K w (dChain rd rd' ta tb tc) σ H Q) : tChain r r' (up K w ta) (up K w tb) (up K w tc) σ H Q := by
  obtain ⟨δ, M, k, re, rp, h, c⟩ := h
  refine ⟨δ, M, _, re, rp, h, fun x M1 v H1 h1 f1 r1 n1 => ⟨δ, M1, _, re.on f1, r1, h1, fun y M2 u H2 h2 f2 r2 n2 => hd v u x y H2 M2 _ _ (n1.ext f2.ext) n2 r2 h2 fun z M3 w H3 h3 f3 r3 n3 => ?_⟩⟩
  have f := (f1.trans f2).trans f3
  cases z with
  | bl q =>
    cases n3
    refine ⟨q, rfl, ?_⟩
    cases q with
    | false => exact iteF (c _ M3 _ H3 h3 f r3 (.bl false))
    | true => exact iteT ⟨δ, M3, _, re.on f, r3, h3, fun w' M4 v4 H4 h4 f4 r4 n4 => hd' u v4 y w' H4 M4 k Q (n2.ext (f3.trans f4).ext) n4 r4 h4 (c.on (f.trans f4))⟩
  | _ => exact h3.elim
theorem de_chain {op op' : CmpOp} {r r' : R2} {rd rd' : RD2} (ho : OpR X (compareOp op) r) (hd : OpD X.K r rd) (ho' : OpR X (compareOp op') r') (hd' : OpD X.K r' rd') (ha : DE X w a ta) (hb : DE X w b tb) (hc : DE X w c tc)
    (hm : lastMarks [op, op'] [b, c] = false := by with_unfolding_all rfl) : DE X w (.Compare a [op, op'] [b, c] pos) (dChain rd rd' ta tb tc) :=
  PE.imp (pe_chain ho ho' ha hb hc hm) fun σ H Q h => up_chain hd hd' h
theorem dt_chain {op op' : CmpOp} {r r' : R2} {rd rd' : RD2} (ho : OpR X (compareOp op) r) (hd : OpD X.K r rd) (ho' : OpR X (compareOp op') r') (hd' : OpD X.K r' rd') (ha : DE X w a ta) (hb : DE X w b tb) (hc : DE X w c tc)
    (hm : lastMarks [op, op'] [b, c] = false := by with_unfolding_all rfl) : DT X w (.Compare a [op, op'] [b, c] pos) (dTest (dChain rd rd' ta tb tc)) :=
  PT.imp (pt_chain ho ho' ha hb hc hm) fun σ H Q h => tTest_imp (fun _ _ _ h => up_chain hd hd' h) (up_test h)

/-! ### one-place operations -/
def UnD (K : PySem.W.Frag) (r : V → Hp → VK → Prop) (rd : D → MH → DK → Prop) : Prop := ∀ x dx H M k Q, Dn K H x dx → Rep K H M → rd dx M k → Cont K M H k Q → r x H Q
def dUn (rd : D → MH → DK → Prop) (ta : DTE) : DTE := fun δ M k => ta δ M fun x M1 => rd x M1 k
theorem de_un {op : UnaryOp} {r : V → Hp → VK → Prop} {rd} (ho : UnR X (unaryOp op) r) (hd : UnD X.K r rd) (ha : DE X w a ta) : DE X w (.UnaryOp op a pos) (dUn rd ta) :=
  PE.imp (pe_un ho ha) fun σ H Q ⟨δ, M, k, re, rp, h, c⟩ => ⟨δ, M, _, re, rp, h, fun x M1 v H1 h1 f1 r1 n1 => hd v x H1 M1 k Q n1 r1 h1 (c.on f1)⟩
def rdNeg : D → MH → DK → Prop
  | .int i, M, k => k (.int (-i)) M
  | _, _, _ => False
theorem de_neg (ha : DE X w a ta) : DE X w (.UnaryOp .USub a pos) (dUn rdNeg ta) := de_un un_neg (fun x dx H M k Q n r h c => by
  cases dx with
  | int i => cases n; exact ⟨i, rfl, c.here h r (.int _)⟩
  | _ => exact h.elim) ha

/-! ### and, or, not, if -/
variable {tA tB' : DTT} {rest : List Expr}
def dAnd (t u : DTT) : DTT := fun δ M k => t δ M fun c M1 => if c = true then u δ M1 k else k false M1
def dOr (t u : DTT) : DTT := fun δ M k => t δ M fun c M1 => if c = true then k true M1 else u δ M1 k
def dNot (t : DTT) : DTT := fun δ M k => t δ M fun c M1 => k (!c) M1
theorem dw_and1 (ha : DT X w a tA) : DW X w (.BoolOp .And [a] pos) tA := pw_and1 ha
theorem dw_or1 (ha : DT X w a tA) : DW X w (.BoolOp .Or [a] pos) tA := pw_or1 ha
theorem dw_and (ha : DT X w a tA) (hb : DW X w (.BoolOp .And (b :: rest) pos) tB') : DW X w (.BoolOp .And (a :: b :: rest) pos) (dAnd tA tB') :=
  PW.imp (pw_and ha hb) fun σ H Q ⟨δ, M, k, re, rp, h, c⟩ => ⟨δ, M, _, re, rp, h, fun b M1 H1 h1 f1 r1 => by
    cases b with
    | true => exact iteT ⟨δ, M1, k, re.on f1, r1, h1, c.on f1⟩
    | false => exact iteF (c false M1 H1 h1 f1 r1)⟩
theorem dw_or (ha : DT X w a tA) (hb : DW X w (.BoolOp .Or (b :: rest) pos) tB') : DW X w (.BoolOp .Or (a :: b :: rest) pos) (dOr tA tB') :=
  PW.imp (pw_or ha hb) fun σ H Q ⟨δ, M, k, re, rp, h, c⟩ => ⟨δ, M, _, re, rp, h, fun b M1 H1 h1 f1 r1 => by
    cases b with
    | false => exact iteF ⟨δ, M1, k, re.on f1, r1, h1, c.on f1⟩
    | true => exact iteT (c true M1 H1 h1 f1 r1)⟩
theorem DW.dt (h : DW X w e tA) : DT X w e tA := PW.pt h
theorem dt_not (ha : DT X w a tA) : DT X w (.UnaryOp .Not a pos) (dNot tA) :=
  PT.imp (pt_not ha) fun σ H Q ⟨δ, M, k, re, rp, h, c⟩ => ⟨δ, M, _, re, rp, h, fun b M1 H1 h1 f1 r1 => c (!b) M1 H1 h1 f1 r1⟩
/-- as values: truth values -/
def dAndV (ta tb : DTE) : DTE := fun δ M k => ta δ M fun x M1 => match x with
  | .bl q => if q = true then tb δ M1 k else k (.bl false) M1
  | _ => False
def dOrV (ta tb : DTE) : DTE := fun δ M k => ta δ M fun x M1 => match x with
  | .bl q => if q = true then k (.bl true) M1 else tb δ M1 k
  | _ => False
def dNotV (ta : DTE) : DTE := fun δ M k => ta δ M fun x M1 => match x with
  | .bl q => k (.bl (!q)) M1
  | _ => False
theorem de_one {op} {t : DTE} (h : DE X w a t) : DE X w (.BoolOp op [a] pos) t := pe_one h
theorem de_and (ha : DE X w a ta) (hb : DE X w (.BoolOp .And (b :: rest) pos) tb) : DE X w (.BoolOp .And (a :: b :: rest) pos) (dAndV ta tb) :=
  PE.imp (pe_and ha hb) fun σ H Q ⟨δ, M, k, re, rp, h, c⟩ => ⟨δ, M, _, re, rp, h, fun d M1 v H1 h1 f1 r1 n1 => by
    cases d with
    | bl b =>
      cases n1
      refine ⟨b, rfl, ?_⟩
      cases b with
      | true => exact iteT ⟨δ, M1, k, re.on f1, r1, h1, c.on f1⟩
      | false => exact iteF (c _ M1 _ H1 h1 f1 r1 (.bl false))
    | _ => exact h1.elim⟩
theorem de_or (ha : DE X w a ta) (hb : DE X w (.BoolOp .Or (b :: rest) pos) tb) : DE X w (.BoolOp .Or (a :: b :: rest) pos) (dOrV ta tb) :=
  PE.imp (pe_or ha hb) fun σ H Q ⟨δ, M, k, re, rp, h, c⟩ => ⟨δ, M, _, re, rp, h, fun d M1 v H1 h1 f1 r1 n1 => by
    cases d with
    | bl b =>
      cases n1
      refine ⟨b, rfl, ?_⟩
      cases b with
      | false => exact iteF ⟨δ, M1, k, re.on f1, r1, h1, c.on f1⟩
      | true => exact iteT (c _ M1 _ H1 h1 f1 r1 (.bl true))
    | _ => exact h1.elim⟩
theorem de_not (ha : DE X w a ta) : DE X w (.UnaryOp .Not a pos) (dNotV ta) :=
  PE.imp (pe_not ha) fun σ H Q ⟨δ, M, k, re, rp, h, c⟩ => ⟨δ, M, _, re, rp, h, fun d M1 v H1 h1 f1 r1 n1 => by
    cases d with
    | bl b => cases n1; exact ⟨b, rfl, c _ M1 _ H1 h1 f1 r1 (.bl _)⟩
    | _ => exact h1.elim⟩
def dIf (t : DTT) (ta tb : DTE) : DTE := fun δ M k => t δ M fun c M1 => if c = true then ta δ M1 k else tb δ M1 k
theorem de_if {c : Expr} (hc : DT X w c tA) (ha : DE X w a ta) (hb : DE X w b tb) : DE X w (.IfExp c a b pos) (dIf tA ta tb) :=
  PE.imp (pe_ifExp hc ha hb) fun σ H Q ⟨δ, M, k, re, rp, h, c⟩ => ⟨δ, M, _, re, rp, h, fun b M1 H1 h1 f1 r1 => by
    cases b with
    | true => exact iteT ⟨δ, M1, k, re.on f1, r1, h1, c.on f1⟩
    | false => exact iteF ⟨δ, M1, k, re.on f1, r1, h1, c.on f1⟩⟩
end
end DL
/-! DL: operations by values. -/
namespace DL
open PySem PySem.Spec PyProof.Rows L2

theorem OpD.or {K : PySem.W.Frag} {r r' : R2} {rd : RD2} (h : OpD K r rd) : OpD K (fun x y H Q => r x y H Q ∨ r' x y H Q) rd := fun x y dx dy H M k Q a b c d e => .inl (h x y dx dy H M k Q a b c d e)

/-! ### whole numbers, texts, tuples -/
def rdAdd : RD2
  | .int i, .int j, M, k => k (.int (i + j)) M
  | .str i, .str j, M, k => i.length + j.length ≤ sizeLine ∧ k (.str (i ++ j)) M
  | .tup xs, .tup ys, M, k => xs.length + ys.length ≤ sizeLine ∧ k (.tup (xs ++ ys)) M
  | _, _, _, _ => False
section
variable {X : Cx} {w : XW}
abbrev rAddA (K : PySem.W.Frag) : R2 := fun x y H Q => (rI0 (fun i j => V.int (i + j)) x y H Q) ∨ ((∃ i j, x = .str i ∧ y = .str j ∧ i.length + j.length ≤ sizeLine ∧ Q (.str (i ++ j)) H) ∨ rCatA K x y H Q)
theorem op_addA : OpR X (binaryOp .Add) (rAddA X.K) := OpR.or op_add (OpR.or op_add_str op_catA)
theorem od_add {K : PySem.W.Frag} : OpD K (rAddA K) rdAdd := fun x y dx dy H M k Q nx ny r h c => by
  cases dx with
  | int i =>
    cases dy with
    | int j => cases nx; cases ny; exact .inl ⟨i, j, rfl, rfl, c.here h r (.int _)⟩
    | _ => exact h.elim
  | str i =>
    cases dy with
    | str j => cases nx; cases ny; exact .inr (.inl ⟨i, j, rfl, rfl, h.1, c.here h.2 r (.str _)⟩)
    | _ => exact h.elim
  | tup xs =>
    cases dy with
    | tup ys =>
      obtain ⟨a, vs, rfl, ha, na⟩ := nx.tup_inv
      obtain ⟨b, ws, rfl, hb, nb⟩ := ny.tup_inv
      refine .inr (.inr ⟨a, b, vs, ws, rfl, rfl, SqT.of ha, SqT.of hb, by rw [na.length, nb.length]; exact h.1, fun e => ?_, fun _ e => ?_, fun _ _ p hp => ?_⟩)
      · subst e
        cases na
        exact c.here h.2 r (.tup hb nb)
      · subst e
        cases nb
        exact c.here h.2 r (.tup ha (by rw [List.append_nil]; exact na))
      · exact new_tup c r hp (na.append nb) h.2
    | _ => exact h.elim
  | _ => exact h.elim
def rdSub : RD2
  | .int i, .int j, M, k => k (.int (i - j)) M
  | _, _, _, _ => False
/-- by one side that is not great -/
def rdMul : RD2
  | .int i, .int j, M, k => CMul i j ∧ k (.int (i * j)) M
  | _, _, _, _ => False
def rdDiv : RD2
  | .int i, .int j, M, k => CDiv i j ∧ k (.int (i / j)) M
  | _, _, _, _ => False
def rdMod : RD2
  | .int i, .int j, M, k => 0 < j ∧ k (.int (i % j)) M
  | _, _, _, _ => False
def rdPow : RD2
  | .int i, .int j, M, k => CPow i j ∧ k (.int (i ^ j.toNat)) M
  | _, _, _, _ => False
theorem od_int {K : PySem.W.Frag} {C : Int → Int → Prop} {g : Int → Int → Int} {rd : RD2} (h1 : ∀ dx dy M k, rd dx dy M k → ∃ i j, dx = .int i ∧ dy = .int j ∧ C i j ∧ k (.int (g i j)) M) : OpD K (rI C fun i j => .int (g i j)) rd := fun x y dx dy H M k Q nx ny r h c => by
  obtain ⟨i, j, rfl, rfl, h2, h3⟩ := h1 _ _ _ _ h
  cases nx; cases ny
  exact ⟨i, j, rfl, rfl, h2, c.here h3 r (.int _)⟩
theorem od_int0 {K : PySem.W.Frag} {g : Int → Int → Int} {rd : RD2} (h1 : ∀ dx dy M k, rd dx dy M k → ∃ i j, dx = .int i ∧ dy = .int j ∧ k (.int (g i j)) M) : OpD K (rI0 fun i j => .int (g i j)) rd := fun x y dx dy H M k Q nx ny r h c => by
  obtain ⟨i, j, rfl, rfl, h3⟩ := h1 _ _ _ _ h
  cases nx; cases ny
  exact ⟨i, j, rfl, rfl, c.here h3 r (.int _)⟩
theorem od_sub {K : PySem.W.Frag} : OpD K (rI0 fun i j => .int (i - j)) rdSub := od_int0 fun dx dy M k h => by
  cases dx with
  | int i => cases dy with
    | int j => exact ⟨i, j, rfl, rfl, h⟩
    | _ => exact h.elim
  | _ => exact h.elim
theorem od_mul {K : PySem.W.Frag} : OpD K (rI CMul fun i j => .int (i * j)) rdMul := od_int fun dx dy M k h => by
  cases dx with
  | int i => cases dy with
    | int j => exact ⟨i, j, rfl, rfl, h⟩
    | _ => exact h.elim
  | _ => exact h.elim
theorem od_div {K : PySem.W.Frag} : OpD K (rI CDiv fun i j => .int (i / j)) rdDiv := od_int fun dx dy M k h => by
  cases dx with
  | int i => cases dy with
    | int j => exact ⟨i, j, rfl, rfl, h⟩
    | _ => exact h.elim
  | _ => exact h.elim
theorem od_mod {K : PySem.W.Frag} : OpD K (rI (fun _ j => 0 < j) fun i j => .int (i % j)) rdMod := od_int fun dx dy M k h => by
  cases dx with
  | int i => cases dy with
    | int j => exact ⟨i, j, rfl, rfl, h⟩
    | _ => exact h.elim
  | _ => exact h.elim
theorem od_pow {K : PySem.W.Frag} : OpD K (rI CPow fun i j => .int (i ^ j.toNat)) rdPow := od_int fun dx dy M k h => by
  cases dx with
  | int i => cases dy with
    | int j => exact ⟨i, j, rfl, rfl, h⟩
    | _ => exact h.elim
  | _ => exact h.elim
variable {a b c e : Expr} {ta tb tc te : DTE} {pos : Pos}
theorem de_add (ha : DE X w a ta) (hb : DE X w b tb) : DE X w (.BinOp a .Add b pos) (dOp rdAdd ta tb) := de_op op_addA od_add ha hb
theorem de_sub (ha : DE X w a ta) (hb : DE X w b tb) : DE X w (.BinOp a .Sub b pos) (dOp rdSub ta tb) := de_op op_sub od_sub ha hb
theorem de_mul (ha : DE X w a ta) (hb : DE X w b tb) : DE X w (.BinOp a .Mult b pos) (dOp rdMul ta tb) := de_op op_mul od_mul ha hb
theorem de_div (ha : DE X w a ta) (hb : DE X w b tb) : DE X w (.BinOp a .FloorDiv b pos) (dOp rdDiv ta tb) := de_op op_fdiv od_div ha hb
theorem de_mod (ha : DE X w a ta) (hb : DE X w b tb) : DE X w (.BinOp a .Mod b pos) (dOp rdMod ta tb) := de_op op_mod od_mod ha hb
theorem de_pow (ha : DE X w a ta) (hb : DE X w b tb) : DE X w (.BinOp a .Pow b pos) (dOp rdPow ta tb) := de_op op_pow od_pow ha hb

/-! ### order -/
def isInts (xs : List D) : Option (List Int) := xs.mapM fun d => match d with
  | .int i => some i
  | _ => none
theorem isInts_some : ∀ {xs : List D} {ns : List Int}, isInts xs = some ns → xs = ns.map D.int
  | [], ns, h => by
    have : ([] : List Int) = ns := by simpa [isInts] using h
    subst this; rfl
  | x :: xs, ns, h => by
    unfold isInts at h
    rw [List.mapM_cons] at h
    cases x with
    | int i =>
      cases q : isInts xs with
      | none => unfold isInts at q; rw [q] at h; cases h
      | some ms =>
        have e := isInts_some q
        unfold isInts at q; rw [q] at h
        have : (i :: ms) = ns := by simpa using h
        subst this
        rw [e]; rfl
    | _ => cases h
theorem isInts_map (ns : List Int) : isInts (ns.map D.int) = some ns := by
  induction ns with
  | nil => rfl
  | cons n ns ih =>
    unfold isInts at ih ⊢
    rw [List.map_cons, List.mapM_cons, ih]; rfl
def rdLt : RD2
  | .int i, .int j, M, k => k (.bl (decide (i < j))) M
  | .tup xs, .tup ys, M, k => ∃ ns ms, isInts xs = some ns ∧ isInts ys = some ms ∧ k (.bl (HT.lexLt ns ms)) M
  | _, _, _, _ => False
abbrev rLtA (K : PySem.W.Frag) : R2 := fun x y H Q => (rI0 (fun i j => V.bl (decide (i < j))) x y H Q) ∨ rLtT K x y H Q
theorem op_ltA (hu : X.A.units < cLine) : OpR X (compareOp .Lt) (rLtA X.K) := OpR.or op_lt (op_ltT hu)
theorem od_lt {K : PySem.W.Frag} : OpD K (rLtA K) rdLt := fun x y dx dy H M k Q nx ny r h c => by
  cases dx with
  | int i => cases dy with
    | int j => cases nx; cases ny; exact .inl ⟨i, j, rfl, rfl, c.here h r (.bl _)⟩
    | _ => exact h.elim
  | tup xs => cases dy with
    | tup ys =>
      obtain ⟨ns, ms, e1, e2, h⟩ := h
      have f1 := isInts_some e1
      have f2 := isInts_some e2
      subst f1; subst f2
      obtain ⟨a, vs, rfl, ha, na⟩ := nx.tup_inv
      obtain ⟨b, ws, rfl, hb, nb⟩ := ny.tup_inv
      rw [na.ints] at ha
      rw [nb.ints] at hb
      exact .inr ⟨a, b, ns, ms, rfl, rfl, SqT.of ha, SqT.of hb, c.here h r (.bl _)⟩
    | _ => exact h.elim
  | _ => exact h.elim
def rdCmpI (p : Int → Int → Bool) : RD2
  | .int i, .int j, M, k => k (.bl (p i j)) M
  | _, _, _, _ => False
theorem od_cmpI {K : PySem.W.Frag} {p : Int → Int → Bool} : OpD K (rI0 fun i j => .bl (p i j)) (rdCmpI p) := fun x y dx dy H M k Q nx ny r h c => by
  cases dx with
  | int i => cases dy with
    | int j => cases nx; cases ny; exact ⟨i, j, rfl, rfl, c.here h r (.bl _)⟩
    | _ => exact h.elim
  | _ => exact h.elim
abbrev rdLe : RD2 := rdCmpI fun i j => decide (i ≤ j)
abbrev rdGt : RD2 := rdCmpI fun i j => decide (j < i)
abbrev rdGe : RD2 := rdCmpI fun i j => decide (j ≤ i)
theorem de_lt (hu : X.A.units < cLine) (ha : DE X w a ta) (hb : DE X w b tb) : DE X w (.Compare a [.Lt] [b] pos) (dOp rdLt ta tb) := de_cmp (op_ltA hu) od_lt ha hb (nomark _)
theorem de_le (ha : DE X w a ta) (hb : DE X w b tb) : DE X w (.Compare a [.LtE] [b] pos) (dOp rdLe ta tb) := de_cmp op_le od_cmpI ha hb (nomark _)
theorem de_gt (ha : DE X w a ta) (hb : DE X w b tb) : DE X w (.Compare a [.Gt] [b] pos) (dOp rdGt ta tb) := de_cmp op_gt od_cmpI ha hb (nomark _)
theorem de_ge (ha : DE X w a ta) (hb : DE X w b tb) : DE X w (.Compare a [.GtE] [b] pos) (dOp rdGe ta tb) := de_cmp op_ge od_cmpI ha hb (nomark _)
theorem dt_lt (hu : X.A.units < cLine) (ha : DE X w a ta) (hb : DE X w b tb) : DT X w (.Compare a [.Lt] [b] pos) (dTest (dOp rdLt ta tb)) := dt_cmp (op_ltA hu) od_lt ha hb (nomark _)
theorem dt_le (ha : DE X w a ta) (hb : DE X w b tb) : DT X w (.Compare a [.LtE] [b] pos) (dTest (dOp rdLe ta tb)) := dt_cmp op_le od_cmpI ha hb (nomark _)
theorem dt_gt (ha : DE X w a ta) (hb : DE X w b tb) : DT X w (.Compare a [.Gt] [b] pos) (dTest (dOp rdGt ta tb)) := dt_cmp op_gt od_cmpI ha hb (nomark _)
theorem dt_ge (ha : DE X w a ta) (hb : DE X w b tb) : DT X w (.Compare a [.GtE] [b] pos) (dTest (dOp rdGe ta tb)) := dt_cmp op_ge od_cmpI ha hb (nomark _)
/-- a <= b <= c, a <= b < c -/
theorem de_lele (ha : DE X w a ta) (hb : DE X w b tb) (hc : DE X w c tc) (hm : lastMarks [.LtE, .LtE] [b, c] = false := by with_unfolding_all rfl) : DE X w (.Compare a [.LtE, .LtE] [b, c] pos) (dChain rdLe rdLe ta tb tc) := de_chain op_le od_cmpI op_le od_cmpI ha hb hc hm
theorem de_lelt (hu : X.A.units < cLine) (ha : DE X w a ta) (hb : DE X w b tb) (hc : DE X w c tc) (hm : lastMarks [.LtE, .Lt] [b, c] = false := by with_unfolding_all rfl) : DE X w (.Compare a [.LtE, .Lt] [b, c] pos) (dChain rdLe rdLt ta tb tc) := de_chain op_le od_cmpI (op_ltA hu) od_lt ha hb hc hm

/-! ### data as PyData -/
mutual
inductive Py (M : MH) : D → PyData → Prop
  | non : Py M .non .none
  | bl (b : Bool) : Py M (.bl b) (.bool b)
  | int (i : Int) : Py M (.int i) (.int i)
  | str (x : Str) : Py M (.str x) (.str x)
  | tup {ds : List D} {ps : List PyData} : PyL M ds ps → Py M (.tup ds) (.tuple ps)
  | ftup {ds : List D} {ps : List PyData} : PyL M ds ps → Py M (.ftup ds) (.tuple ps)
  | kon {ds : List D} {ps : List PyData} : PyL M ds ps → Py M (.kon ds) (.tuple ps)
  | scl {ds : List D} {ps : List PyData} : PyL M ds ps → Py M (.scl ds) (.list ps)
  | lst {a : Addr} {ds : List D} {ps : List PyData} : M a = some (.lst ds) → PyL M ds ps → Py M (.obj a) (.list ps)
inductive PyL (M : MH) : List D → List PyData → Prop
  | nil : PyL M [] []
  | cons {d : D} {ds : List D} {p : PyData} {ps : List PyData} : Py M d p → PyL M ds ps → PyL M (d :: ds) (p :: ps)
end
mutual
theorem Py.dp {K : PySem.W.Frag} {H : Hp} {M : MH} (r : Rep K H M) : ∀ (p : PyData) (d : D) (v : V), Py M d p → Dn K H v d → Dp K H v p
  | _, _, _, .non, n => by cases n; exact .non
  | _, _, _, .bl b, n => by cases n; exact .bl b
  | _, _, _, .int b, n => by cases n; exact .int b
  | _, _, _, .str b, n => by cases n; exact .str b
  | .tuple ps, _, _, .tup h, n => by
    obtain ⟨a, xs, rfl, ha, hs⟩ := n.tup_inv
    exact .tup (SqT.of ha) (PyL.dp r ps _ _ h hs)
  | .tuple ps, _, _, .ftup h, n => by
    obtain ⟨a, o, xs, rfl, ha, _, hs⟩ := n.ftup_inv
    exact .tup (.inl (.inr ⟨o, ha⟩)) (PyL.dp r ps _ _ h hs)
  | .tuple ps, _, _, .kon h, n => by
    obtain ⟨a, xs, rfl, ha, hs⟩ := n.kon_inv
    exact .tup (.inr ha) (PyL.dp r ps _ _ h hs)
  | .list ps, _, _, .scl h, n => by
    obtain ⟨a, xs, rfl, ha, hs⟩ := n.scl_inv
    exact .lst ha.sq (PyL.dp r ps _ _ h hs)
  | .list ps, _, _, .lst e h, n => by
    have q := n.obj_inv
    subst q
    obtain ⟨vs, ha, hs⟩ := r _ _ e
    exact .lst (SqL.of ha) (PyL.dp r ps _ _ h hs)
theorem PyL.dp {K : PySem.W.Frag} {H : Hp} {M : MH} (r : Rep K H M) : ∀ (ps : List PyData) (ds : List D) (vs : List V), PyL M ds ps → DnL K H vs ds → DpAll K H vs ps
  | _, _, _, .nil, n => by cases n; exact .nil
  | p :: ps, _, _, .cons h hs, n => by
    cases n with
    | cons n ns => exact .cons (Py.dp r p _ _ h n) (PyL.dp r ps _ _ hs ns)
end

/-! ### == and != -/
def rdEqN (neg : Bool) : RD2
  | .int i, .int j, M, k => k (.bl (xor neg (decide (i = j)))) M
  | .str i, .str j, M, k => k (.bl (xor neg (decide (i = j)))) M
  | .bl i, .bl j, M, k => k (.bl (xor neg (decide (i = j)))) M
  | x, y, M, k => ∃ p q, Py M x p ∧ Py M y q ∧ SeqAt.shaped p = true ∧ SeqAt.shaped q = true ∧ k (.bl (xor neg (PyData.eqv p q))) M
abbrev rdEq : RD2 := rdEqN false
abbrev rdNe : RD2 := rdEqN true
abbrev rEqA (K : PySem.W.Frag) : R2 := fun x y H Q => rEq x y H Q ∨ rEqD K x y H Q
abbrev rNeA (K : PySem.W.Frag) : R2 := fun x y H Q => rNe x y H Q ∨ rNeD K x y H Q
theorem op_eqA (hu : X.A.units + 64 < cLine) : OpR X (compareOp .Eq) (rEqA X.K) := OpR.or op_eq (op_eqD hu)
theorem op_neA (hu : X.A.units + 64 < cLine) : OpR X (compareOp .NotEq) (rNeA X.K) := OpR.or op_ne (op_neD hu)
theorem xor_false' (b : Bool) : xor false b = b := by cases b <;> rfl
theorem xor_true' (b : Bool) : xor true b = !b := by cases b <;> rfl
theorem dec_inj {α : Type} [DecidableEq α] {f : α → V} (hf : ∀ a b, f a = f b → a = b) (a b : α) : decide (f a = f b) = decide (a = b) := by
  by_cases h : a = b
  · subst h; simp
  · rw [decide_eq_false h, decide_eq_false fun z => h (hf _ _ z)]
theorem od_eq {K : PySem.W.Frag} : OpD K (rEqA K) rdEq := fun x y dx dy H M k Q nx ny r h c => by
  unfold rdEq rdEqN at h
  simp only [xor_false'] at h
  split at h
  · cases nx; cases ny; exact .inl ⟨rfl, by rw [dec_inj fun a b e => by injection e]; exact c.here h r (.bl _)⟩
  · cases nx; cases ny; exact .inl ⟨rfl, by rw [dec_inj fun a b e => by injection e]; exact c.here h r (.bl _)⟩
  · cases nx; cases ny; exact .inl ⟨rfl, by rw [dec_inj fun a b e => by injection e]; exact c.here h r (.bl _)⟩
  · obtain ⟨p, q, h1, h2, h3, h4, h5⟩ := h
    exact .inr ⟨p, q, Py.dp r p _ _ h1 nx, Py.dp r q _ _ h2 ny, h3, h4, c.here h5 r (.bl _)⟩
theorem od_ne {K : PySem.W.Frag} : OpD K (rNeA K) rdNe := fun x y dx dy H M k Q nx ny r h c => by
  unfold rdNe rdEqN at h
  simp only [xor_true'] at h
  split at h
  · cases nx; cases ny; exact .inl ⟨rfl, by rw [dec_inj fun a b e => by injection e]; exact c.here h r (.bl _)⟩
  · cases nx; cases ny; exact .inl ⟨rfl, by rw [dec_inj fun a b e => by injection e]; exact c.here h r (.bl _)⟩
  · cases nx; cases ny; exact .inl ⟨rfl, by rw [dec_inj fun a b e => by injection e]; exact c.here h r (.bl _)⟩
  · obtain ⟨p, q, h1, h2, h3, h4, h5⟩ := h
    exact .inr ⟨p, q, Py.dp r p _ _ h1 nx, Py.dp r q _ _ h2 ny, h3, h4, c.here h5 r (.bl _)⟩
theorem de_eq (hu : X.A.units + 64 < cLine) (ha : DE X w a ta) (hb : DE X w b tb) : DE X w (.Compare a [.Eq] [b] pos) (dOp rdEq ta tb) := de_cmp (op_eqA hu) od_eq ha hb (nomark _)
theorem de_ne (hu : X.A.units + 64 < cLine) (ha : DE X w a ta) (hb : DE X w b tb) : DE X w (.Compare a [.NotEq] [b] pos) (dOp rdNe ta tb) := de_cmp (op_neA hu) od_ne ha hb (nomark _)
theorem dt_eq (hu : X.A.units + 64 < cLine) (ha : DE X w a ta) (hb : DE X w b tb) : DT X w (.Compare a [.Eq] [b] pos) (dTest (dOp rdEq ta tb)) := dt_cmp (op_eqA hu) od_eq ha hb (nomark _)
theorem dt_ne (hu : X.A.units + 64 < cLine) (ha : DE X w a ta) (hb : DE X w b tb) : DT X w (.Compare a [.NotEq] [b] pos) (dTest (dOp rdNe ta tb)) := dt_cmp (op_neA hu) od_ne ha hb (nomark _)
/-- is None -/
def isNon : D → Bool
  | .non => true
  | _ => false
def rdIsN (neg : Bool) : RD2
  | x, .non, M, k => k (.bl (xor neg (isNon x))) M
  | _, _, _, _ => False
theorem isNon_iff {K : PySem.W.Frag} {H : Hp} {x : V} {d : D} (n : Dn K H x d) : decide (x = .non) = isNon d := by cases n <;> rfl
theorem od_isN {K : PySem.W.Frag} : OpD K (fun x y H Q => y = .non ∧ Q (.bl (decide (x = .non))) H) (rdIsN false) := fun x y dx dy H M k Q nx ny r h c => by
  cases dy with
  | non => cases ny; refine ⟨rfl, ?_⟩; rw [isNon_iff nx]; exact c.here (by simpa [rdIsN] using h) r (.bl _)
  | _ => exact h.elim
theorem od_notN {K : PySem.W.Frag} : OpD K (fun x y H Q => y = .non ∧ Q (.bl (!decide (x = .non))) H) (rdIsN true) := fun x y dx dy H M k Q nx ny r h c => by
  cases dy with
  | non => cases ny; refine ⟨rfl, ?_⟩; rw [isNon_iff nx]; exact c.here (by simpa [rdIsN] using h) r (.bl _)
  | _ => exact h.elim
theorem de_isN (ha : DE X w a ta) (hb : DE X w b tb) : DE X w (.Compare a [.Is] [b] pos) (dOp (rdIsN false) ta tb) := de_cmp op_isN od_isN ha hb (nomark _)
theorem dt_isN (ha : DE X w a ta) (hb : DE X w b tb) : DT X w (.Compare a [.Is] [b] pos) (dTest (dOp (rdIsN false) ta tb)) := dt_cmp op_isN od_isN ha hb (nomark _)
theorem de_notN (ha : DE X w a ta) (hb : DE X w b tb) : DE X w (.Compare a [.IsNot] [b] pos) (dOp (rdIsN true) ta tb) := de_cmp op_notN od_notN ha hb (nomark _)
theorem dt_notN (ha : DE X w a ta) (hb : DE X w b tb) : DT X w (.Compare a [.IsNot] [b] pos) (dTest (dOp (rdIsN true) ta tb)) := dt_cmp op_notN od_notN ha hb (nomark _)

/-! ### one sign in a text -/
def rdInS (neg : Bool) : RD2
  | .str x, .str z, M, k => ∃ c, x = ⟨#[c]⟩ ∧ k (.bl (xor neg (decide (c ∈ z.cps.toList)))) M
  | _, _, _, _ => False
theorem od_inS {K : PySem.W.Frag} : OpD K (fun x y H Q => ∃ (c : Nat) (z : Str), x = .str ⟨#[c]⟩ ∧ y = .str z ∧ Q (.bl (decide (c ∈ z.cps.toList))) H) (rdInS false) := fun x y dx dy H M k Q nx ny r h c => by
  cases dx with
  | str i => cases dy with
    | str j => cases nx; cases ny; obtain ⟨s, rfl, h⟩ := h; rw [xor_false'] at h; exact ⟨s, j, rfl, rfl, c.here h r (.bl _)⟩
    | _ => exact h.elim
  | _ => exact h.elim
theorem de_inS (ha : DE X w a ta) (hb : DE X w b tb) (hm : behindInMarks .In b = false) : DE X w (.Compare a [.In] [b] pos) (dOp (rdInS false) ta tb) := de_cmp op_in_sign od_inS ha hb hm
theorem dt_inS (ha : DE X w a ta) (hb : DE X w b tb) (hm : behindInMarks .In b = false) : DT X w (.Compare a [.In] [b] pos) (dTest (dOp (rdInS false) ta tb)) := dt_cmp op_in_sign od_inS ha hb hm
end
end DL
/-! DL: statements, targets, loops, comprehensions, defs. -/
namespace DL
open PySem PySem.Spec PyProof.Rows L2

/-! ### ends of statements -/
structure DEnds where
  nx : DSt → MH → Prop
  rt : DK
  bk : DSt → MH → Prop := fun _ _ => False
  ct : DSt → MH → Prop := fun _ _ => False
abbrev DTS := DEnds → DSt → MH → Prop
def ContN (K : PySem.W.Frag) (w : XW) (M : MH) (H : Hp) (n : DSt → MH → Prop) (N : L2.St → Hp → Prop) : Prop := ∀ δ' M' σ' H', n δ' M' → Fr M H M' H' → EnvD K w M' H' σ' δ' → Rep K H' M' → N σ' H'
structure ContE (K : PySem.W.Frag) (w : XW) (M : MH) (H : Hp) (E : DEnds) (D : Ends) : Prop where
  nx : ContN K w M H E.nx D.nx
  rt : Cont K M H E.rt D.rt
  bk : ContN K w M H E.bk D.bk
  ct : ContN K w M H E.ct D.ct
def upS (K : PySem.W.Frag) (w : XW) (t : DTS) : TS := fun D σ H => ∃ δ M E, EnvD K w M H σ δ ∧ Rep K H M ∧ t E δ M ∧ ContE K w M H E D
abbrev DS (X : Cx) (w : XW) (e : Stmt) (t : DTS) : Prop := PS X e (upS X.K w t)
abbrev DSs (X : Cx) (w : XW) (e : List Stmt) (t : DTS) : Prop := PSs X e (upS X.K w t)
section
variable {K : PySem.W.Frag} {w : XW} {M M' : MH} {H H' : Hp}
theorem ContN.on {n : DSt → MH → Prop} {N : L2.St → Hp → Prop} (c : ContN K w M H n N) (f : Fr M H M' H') : ContN K w M' H' n N := fun δ2 M2 σ2 H2 q f2 r n => c δ2 M2 σ2 H2 q (f.trans f2) r n
theorem ContE.on {E : DEnds} {D : Ends} (c : ContE K w M H E D) (f : Fr M H M' H') : ContE K w M' H' E D := ⟨c.nx.on f, c.rt.on f, c.bk.on f, c.ct.on f⟩
theorem ContN.no {N : L2.St → Hp → Prop} : ContN K w M H (fun _ _ => False) N := fun _ _ _ _ q => q.elim
end

section
variable {X : Cx} {w : XW} {st : Stmt} {rest : List Stmt} {t u : DTS} {e : Expr} {te : DTE} {pos : Pos}
def dNext : DTS := fun E δ M => E.nx δ M
def dSeq (t u : DTS) : DTS := fun E δ M => t { E with nx := u E } δ M
theorem dss_nil : DSs X w [] dNext := PSs.imp pss_nil fun D σ H ⟨δ, M, E, re, rp, h, c⟩ => c.nx δ M σ H h Fr.refl re rp
theorem dss_cons (h1 : DS X w st t) (h2 : DSs X w rest u) : DSs X w (st :: rest) (dSeq t u) := PSs.imp (pss_cons h1 h2) fun D σ H ⟨δ, M, E, re, rp, h, c⟩ =>
  ⟨δ, M, _, re, rp, h, ⟨fun δ' M' σ' H' q f r n => ⟨δ', M', E, r, n, q, c.on f⟩, c.rt, c.bk, c.ct⟩⟩
theorem dss_one (h1 : DS X w st t) : DSs X w [st] t := pss_one h1
def dBreak : DTS := fun E δ M => E.bk δ M
def dCont : DTS := fun E δ M => E.ct δ M
theorem ds_pass : DS X w (.Pass pos) dNext := PS.imp ps_pass fun D σ H ⟨δ, M, E, re, rp, h, c⟩ => c.nx δ M σ H h Fr.refl re rp
theorem ds_break : DS X w (.Break pos) dBreak := PS.imp ps_break fun D σ H ⟨δ, M, E, re, rp, h, c⟩ => c.bk δ M σ H h Fr.refl re rp
theorem ds_continue : DS X w (.Continue pos) dCont := PS.imp ps_continue fun D σ H ⟨δ, M, E, re, rp, h, c⟩ => c.ct δ M σ H h Fr.refl re rp
def dDrop (te : DTE) : DTS := fun E δ M => te δ M fun _ M1 => E.nx δ M1
theorem ds_expr (he : DE X w e te) (hs : swapsWith e none pos.line X.env = pure false := by rfl) : DS X w (.Expr e pos) (dDrop te) := PS.imp (ps_expr he hs) fun D σ H ⟨δ, M, E, re, rp, h, c⟩ =>
  ⟨δ, M, _, re, rp, h, fun d M' v H' q f r n => c.nx δ M' σ H' q f (re.on f) r⟩
def dRet (te : DTE) : DTS := fun E δ M => te δ M E.rt
theorem ds_ret (he : DE X w e te) : DS X w (.Return (some e) pos) (dRet te) := PS.imp (ps_ret he) fun D σ H ⟨δ, M, E, re, rp, h, c⟩ => ⟨δ, M, _, re, rp, h, c.rt⟩
def dIfS (c : DTT) (t u : DTS) : DTS := fun E δ M => c δ M fun b M1 => if b = true then t E δ M1 else u E δ M1
theorem ds_if {c : Expr} {a b : List Stmt} {tc : DTT} (hc : DT X w c tc) (ha : DSs X w a t) (hb : DSs X w b u) : DS X w (.If c a b pos) (dIfS tc t u) := PS.imp (ps_if hc ha hb) fun D σ H ⟨δ, M, E, re, rp, h, c⟩ =>
  ⟨δ, M, _, re, rp, h, fun b M' H' q f r => by
    cases b with
    | true => exact iteT ⟨δ, M', E, re.on f, r, q, c.on f⟩
    | false => exact iteF ⟨δ, M', E, re.on f, r, q, c.on f⟩⟩
def dNever : DTS := fun _ _ _ => False
theorem ds_never : DS X w st dNever := PS.imp ps_never fun D σ H ⟨δ, M, E, re, rp, h, c⟩ => h
theorem dss_never : DSs X w rest dNever := PSs.imp pss_never fun D σ H ⟨δ, M, E, re, rp, h, c⟩ => h
end

/-! ### targets -/
abbrev DTg := D → DSt → Option DSt
/-- vs: the places that the target stores -/
def TgD (K : PySem.W.Frag) (vs : List Nat) (g : TG) (gd : DTg) : Prop := ∀ (d : D) (x : V) (σ : L2.St) (δ δ' : DSt) (H : Hp) (R : L2.St → Hp → Prop), EnvC K H σ δ → Dn K H x d → gd d δ = some δ' → (∀ σ', EnvC K H σ' δ' → wipe σ' vs = wipe σ vs → R σ' H) → g x σ H R
def TgsD (K : PySem.W.Frag) (vs : List Nat) (g : TGs) (gd : List D → DSt → Option DSt) : Prop := ∀ (ds : List D) (xs : List V) (σ : L2.St) (δ δ' : DSt) (H : Hp) (R : L2.St → Hp → Prop), EnvC K H σ δ → DnL K H xs ds → gd ds δ = some δ' → (∀ σ', EnvC K H σ' δ' → wipe σ' vs = wipe σ vs → R σ' H) → g xs σ H R
def dgName (i : Nat) : DTg := fun d δ => some (δ.set i (some d))
def dgNil : List D → DSt → Option DSt
  | [], δ => some δ
  | _, _ => none
def dgCons (g : DTg) (gs : List D → DSt → Option DSt) : List D → DSt → Option DSt
  | d :: ds, δ => (g d δ).bind (gs ds)
  | [], _ => none
def dgTup (n : Nat) (gs : List D → DSt → Option DSt) : DTg
  | .tup ds, δ => if ds.length = n then gs ds δ else none
  | .ftup ds, δ => if ds.length = n then gs ds δ else none
  | .kon ds, δ => if ds.length = n then gs ds δ else none
  | _, _ => none
theorem wipe_get {vs : List Nat} : ∀ {σ : L2.St} {i : Nat}, (wipe σ vs)[i]? = if i ∈ vs then (if i < σ.length then some none else none) else σ[i]? := by
  induction vs with
  | nil => intro σ i; simp [wipe]
  | cons v vs ih =>
    intro σ i
    show ((wipe σ vs).set v none)[i]? = _
    rw [List.getElem?_set, wipe_length]
    by_cases h : v = i
    · subst h
      simp
    · rw [if_neg h, ih]
      have : i ∈ v :: vs ↔ i ∈ vs := by simp [Ne.symm h]
      by_cases hm : i ∈ vs
      · rw [if_pos hm, if_pos (this.mpr hm)]
      · rw [if_neg hm, if_neg fun z => hm (this.mp z)]
theorem wipe_set {vs : List Nat} {σ : L2.St} {i : Nat} {x : Option V} (h : i ∈ vs) : wipe (σ.set i x) vs = wipe σ vs := by
  apply List.ext_getElem?
  intro j
  rw [wipe_get, wipe_get, List.length_set]
  split
  · rfl
  · rename_i hj
    have : i ≠ j := fun z => hj (z ▸ h)
    rw [List.getElem?_set_ne this]
section
variable {K : PySem.W.Frag} {vs : List Nat}
theorem tg_name {i : Nat} (h : i ∈ vs) : TgD K vs (gName i) (dgName i) := fun d x σ δ δ' H R re n e k => by
  cases e
  exact k _ (re.set n) (wipe_set h)
theorem tgs_nil : TgsD K vs gNil dgNil := fun ds xs σ δ δ' H R re n e k => by
  cases n with
  | nil => cases e; exact ⟨rfl, k _ re rfl⟩
  | cons _ _ => cases e
theorem tgs_cons {g : TG} {gs : TGs} {gd gds} (h1 : TgD K vs g gd) (h2 : TgsD K vs gs gds) : TgsD K vs (gCons g gs) (dgCons gd gds) := fun ds xs σ δ δ' H R re n e k => by
  cases n with
  | nil => cases e
  | cons n ns =>
    rename_i v ws d es
    obtain ⟨δ1, e1, e2⟩ := Option.bind_eq_some_iff.mp e
    exact ⟨v, ws, rfl, h1 d v σ δ δ1 H _ re n e1 fun σ1 r1 w1 => h2 es ws σ1 δ1 δ' H R r1 ns e2 fun σ2 r2 w2 => k σ2 r2 (w2.trans w1)⟩
theorem tg_tup {n : Nat} {gs : TGs} {gds} (h : TgsD K vs gs gds) : TgD K vs (gTup K n gs) (dgTup n gds) := fun d x σ δ δ' H R re nn e k => by
  cases d with
  | tup ds =>
    obtain ⟨a, xs, rfl, ha, hs⟩ := nn.tup_inv
    have e : (if ds.length = n then gds ds δ else none) = some δ' := e
    by_cases hl : ds.length = n
    · rw [if_pos hl] at e
      exact ⟨a, xs, rfl, SqT.of ha, hs.length.trans hl, h ds xs σ δ δ' H R re hs e k⟩
    · rw [if_neg hl] at e; cases e
  | ftup ds =>
    obtain ⟨a, o, xs, rfl, ha, _, hs⟩ := nn.ftup_inv
    have e : (if ds.length = n then gds ds δ else none) = some δ' := e
    by_cases hl : ds.length = n
    · rw [if_pos hl] at e
      exact ⟨a, xs, rfl, .inl (.inr ⟨o, ha⟩), hs.length.trans hl, h ds xs σ δ δ' H R re hs e k⟩
    · rw [if_neg hl] at e; cases e
  | kon ds =>
    obtain ⟨a, xs, rfl, ha, hs⟩ := nn.kon_inv
    have e : (if ds.length = n then gds ds δ else none) = some δ' := e
    by_cases hl : ds.length = n
    · rw [if_pos hl] at e
      exact ⟨a, xs, rfl, .inr ha, hs.length.trans hl, h ds xs σ δ δ' H R re hs e k⟩
    · rw [if_neg hl] at e; cases e
  | _ => cases e
end
section
variable {X : Cx} {w : XW} {pos : Pos} {e tg : Expr} {te : DTE}
/-- target = value -/
def dAsg (te : DTE) (g : DTg) : DTS := fun E δ M => te δ M fun d M1 => ∃ δ', g d δ = some δ' ∧ E.nx δ' M1
theorem up_asg {K : PySem.W.Frag} {w : XW} {vs : List Nat} {g : TG} {gd : DTg} (hg : TgD K vs g gd) {D σ H} (h : upS K w (dAsg te gd) D σ H) : tAsg (up K w te) g D σ H := by
  obtain ⟨δ, M, E, re, rp, h, c⟩ := h
  exact ⟨δ, M, _, re, rp, h, fun d M1 v H1 ⟨δ', e1, q⟩ f r n => hg d v σ δ δ' H1 _ (re.on f).env n e1 fun σ' r' _ => c.nx δ' M1 σ' H1 q f ⟨r', (re.on f).xok⟩ r⟩
/-- name = value -/
theorem ds_set {i : Nat} {x : Str} {pos' : Pos} (hN : X.N.Nodup) (hi : X.N[i]? = some x) (hx : Loc X.env.scope x) (he : DE X w e te) (hs : swapsWith e (some (.Name x pos')) pos.line X.env = pure false := by rfl)
    (hf : X.fn x = true ∨ X.env.scope.names.lookup x = some .local := by first | exact .inl rfl | exact .inr rfl | assumption) : DS X w (.Assign [.Name x pos'] e pos) (dAsg te (dgName i)) :=
  PS.imp (ps_set hN hi hx he hs hf) fun D σ H h => up_asg (tg_name (vs := [i]) (by simp)) h
/-- (a, b, ..) = value -/
theorem ds_asg {g : TG} {gd : DTg} {vs : List Nat} (he : DE X w e te) (hg : PG X tg g) (hd : TgD X.K vs g gd) (hs : swapsWithSole [tg] e pos.line X.env = pure false := by rfl) (hw : swappedStores [tg] e X.env = pure none := by rfl)
    (h1 : (assignEach [tg] X.env).map (·.2) = [assign tg X.env] := by rfl) : DS X w (.Assign [tg] e pos) (dAsg te gd) :=
  PS.imp (ps_asg he hg hs hw h1) fun D σ H h => up_asg hd h
/-- a, b = x, y of plain local names -/
def dPar (i j : Nat) (ta : DTA) : DTS := fun E δ M => ta δ M fun ds M1 => match ds with
  | [d, d'] => E.nx ((δ.set i (some d)).set j (some d')) M1
  | _ => False
theorem ds_par {i j : Nat} {x y : Str} {a b : Expr} {ta : DTA} {px py pt : Pos} {kt k2 pt2} (hc : X.calm = true) (hN : X.N.Nodup) (hi : X.N[i]? = some x) (hj : X.N[j]? = some y) (hij : i ≠ j)
    (hx : X.env.scope.names.lookup x = some .local) (hy : X.env.scope.names.lookup y = some .local) (ha : DA X w [a, b] ta)
    (hw : swappedStores [.Tuple [.Name x px, .Name y py] kt pt] (.Tuple [a, b] k2 pt2) X.env = pure (some [x, y]))
    (hs : swapsWithSole [.Tuple [.Name x px, .Name y py] kt pt] (.Tuple [a, b] k2 pt2) pos.line X.env = pure false := by rfl) :
    DS X w (.Assign [.Tuple [.Name x px, .Name y py] kt pt] (.Tuple [a, b] k2 pt2) pos) (dPar i j ta) :=
  PS.imp (ps_par hc hN hi hj hij hx hy ha hw hs) fun D σ H ⟨δ, M, E, re, rp, h, c⟩ => ⟨δ, M, _, re, rp, h, fun ds M1 vs H1 q f r n => by
    match ds, vs, q, n with
    | [d, d'], [v, w], q, .cons n1 (.cons n2 .nil) => exact ⟨v, w, rfl, c.nx _ M1 _ H1 q f (((re.on f).set n1).set n2) r⟩
    | [], _, q, _ => exact q.elim
    | [_], _, q, _ => exact q.elim
    | _ :: _ :: _ :: _, _, q, _ => exact q.elim⟩
end

/-! ### while -/
section
variable {X : Cx} {w : XW} {pos : Pos}
def dWhile (c : DTT) (tb : DTS) : DTS := fun E δ M => ∃ Iv : Nat → DSt → MH → Prop, (∃ m, Iv m δ M) ∧ ∀ m δ M, Iv m δ M → c δ M fun b M1 =>
  if b = true then tb { nx := fun δ' M' => ∃ m' M'', m' < m ∧ Sub M'' M' ∧ Iv m' δ' M'', rt := E.rt, ct := fun δ' M' => ∃ m' M'', m' < m ∧ Sub M'' M' ∧ Iv m' δ' M'', bk := E.nx } δ M1 else E.nx δ M1
theorem ds_while {c : Expr} {body : List Stmt} {tc : DTT} {tb : DTS} (hp : PassesOwn (model X.prog X.w) X.A X.env X.xe) (hc : DT X w c tc) (hb : DSs X w body tb) : DS X w (.While c body [] pos) (dWhile tc tb) :=
  PS.imp (ps_while hp hc hb) fun D σ H0 ⟨δ0, M0, E, re0, rp0, ⟨Iv, ⟨m0, i0⟩, turn⟩, c⟩ => by
    refine ⟨fun m σ H => ∃ δ M, EnvD X.K w M H σ δ ∧ Rep X.K H M ∧ Iv m δ M ∧ Fr M0 H0 M H, ⟨m0, δ0, M0, re0, rp0, i0, Fr.refl⟩, ?_⟩
    rintro m σ1 H1 ⟨δ, M, re, rp, iv, f0⟩
    refine ⟨δ, M, _, re, rp, turn m δ M iv, fun b M1 H2 q f r => ?_⟩
    cases b with
    | false => exact iteF (c.nx δ M1 σ1 H2 q (f0.trans f) (re.on f) r)
    | true =>
      refine iteT ⟨fun σ' H' => ∃ m', m' < m ∧ ∃ δ M, EnvD X.K w M H' σ' δ ∧ Rep X.K H' M ∧ Iv m' δ M ∧ Fr M0 H0 M H', fun σ' H' h => h, δ, M1, _, re.on f, r, q, ?_⟩
      have nxt : ContN X.K w M1 H2 (fun δ' M' => ∃ m' M'', m' < m ∧ Sub M'' M' ∧ Iv m' δ' M'') (fun σ' H' => ∃ m', m' < m ∧ ∃ δ M, EnvD X.K w M H' σ' δ ∧ Rep X.K H' M ∧ Iv m' δ M ∧ Fr M0 H0 M H') :=
        fun δ' M' σ' H' ⟨m', M'', lt, s, iv'⟩ f' re' rp' => ⟨m', lt, δ', M'', re'.sub s, rp'.sub s, iv', ((f0.trans f).trans f').sub s⟩
      exact ⟨nxt, c.rt.on (f0.trans f), c.nx.on (f0.trans f), nxt⟩
end

/-! ### what is walked -/
/-- J yields the items ds while ok holds of the store; it began at M0, H0 -/
def ItOk (K : PySem.W.Frag) (J : It) (ds : List D) (ok : MH → Prop) (M0 : MH) (H0 : Hp) : Prop := ∀ i H M, Fr M0 H0 M H → Rep K H M → ok M →
  (∀ d, ds[i]? = some d → J.go i H ∧ ∀ x H', J.yld i H x H' → Rep K H' M ∧ Fr M H M H' ∧ Dn K H' x d) ∧ (ds.length ≤ i → J.stop i H)
abbrev DTI := DSt → MH → (List D → (MH → Prop) → MH → Prop) → Prop
def upI (K : PySem.W.Frag) (w : XW) (wi : DTI) : TI := fun σ H R => ∃ δ M q, EnvD K w M H σ δ ∧ Rep K H M ∧ wi δ M q ∧ ∀ ds ok M' H', q ds ok M' → Fr M H M' H' → Rep K H' M' → ∀ J, ItOk K J ds ok M' H' → R J H'
abbrev DI (X : Cx) (w : XW) (tg iter : Expr) (wi : DTI) : Prop := PI X tg iter (upI X.K w wi)

/-! ### for -/
section
variable {X : Cx} {w : XW} {pos : Pos}
def dFor (wi : DTI) (gd : DTg) (tb : DTS) : DTS := fun E δ M => wi δ M fun ds ok M1 => ∃ Iv : Nat → DSt → MH → Prop, Iv 0 δ M1 ∧ ∀ i δ M, i ≤ ds.length → Iv i δ M → ok M ∧
  (∀ d, ds[i]? = some d → ∃ δ2, gd d δ = some δ2 ∧ tb { nx := fun δ' M' => ∃ M'', Sub M'' M' ∧ Iv (i + 1) δ' M'', rt := E.rt, ct := fun δ' M' => ∃ M'', Sub M'' M' ∧ Iv (i + 1) δ' M'', bk := E.nx } δ2 M) ∧
  (i = ds.length → E.nx δ M)
theorem ds_for {tg iter : Expr} {body : List Stmt} {wi : DTI} {g : TG} {gd : DTg} {tb : DTS} {vs : List Nat} (hp : PassesOwn (model X.prog X.w) X.A X.env X.xe) (hc : X.calm = true) (hi : DI X w tg iter wi) (hg : PG X tg g) (hd : TgD X.K vs g gd) (hb : DSs X w body tb)
    (hs : ∀ x, foldedSetIterable iter X.env x = pure x := by intro _; rfl) : DS X w (.For tg iter body [] pos) (dFor wi gd tb) :=
  PS.imp (ps_for hp hc hi hg hb hs) fun D σ0 H00 ⟨δ0, M00, E, re0, rp0, h, c⟩ => by
    refine ⟨δ0, M00, _, re0, rp0, h, ?_⟩
    rintro ds ok M0 H0 ⟨Iv, i0, turn⟩ f00 rp00 J hJ
    refine ⟨fun i m σ H => m = ds.length - i ∧ i ≤ ds.length ∧ ∃ δ M, EnvD X.K w M H σ δ ∧ Rep X.K H M ∧ Iv i δ M ∧ Fr M0 H0 M H, ⟨_, rfl, Nat.zero_le _, δ0, M0, re0.on f00, rp00, i0, Fr.refl⟩, ?_⟩
    rintro i m σ H ⟨rfl, hle, δ, M, re, rp, iv, f0⟩
    obtain ⟨hok, hturn, hend⟩ := turn i δ M hle iv
    obtain ⟨j1, j2⟩ := hJ i H M f0 rp hok
    by_cases hlt : i < ds.length
    · obtain ⟨d, hd'⟩ : ∃ d, ds[i]? = some d := ⟨ds[i], List.getElem?_eq_getElem hlt⟩
      obtain ⟨g1, y1⟩ := j1 d hd'
      refine .inr ⟨g1, fun σ' H' => i + 1 ≤ ds.length ∧ ∃ δ M, EnvD X.K w M H' σ' δ ∧ Rep X.K H' M ∧ Iv (i + 1) δ M ∧ Fr M0 H0 M H', fun σ' H' ⟨h1, h2⟩ => ⟨ds.length - (i + 1), by omega, rfl, h1, h2⟩, fun x H' hy => ?_⟩
      obtain ⟨rp', f', n⟩ := y1 x H' hy
      obtain ⟨δ2, e2, hb2⟩ := hturn d hd'
      refine hd d x σ δ δ2 H' _ (re.on f').env n e2 fun σ2 re2 _ => ?_
      have f1 := f0.trans f'
      have nxt : ContN X.K w M H' (fun δ' M' => ∃ M'', Sub M'' M' ∧ Iv (i + 1) δ' M'') (fun σ' H' => i + 1 ≤ ds.length ∧ ∃ δ M, EnvD X.K w M H' σ' δ ∧ Rep X.K H' M ∧ Iv (i + 1) δ M ∧ Fr M0 H0 M H') :=
        fun δ' M' σ' H'' ⟨M'', s, iv'⟩ f2 re' rp2 => ⟨hlt, δ', M'', re'.sub s, rp2.sub s, iv', (f1.trans f2).sub s⟩
      exact ⟨δ2, M, _, ⟨re2, (re.on f').xok⟩, rp', hb2, ⟨nxt, c.rt.on (f00.trans f1), c.nx.on (f00.trans f1), nxt⟩⟩
    · have e : i = ds.length := by omega
      exact .inl ⟨j2 (by omega), c.nx δ M σ H (hend e) (f00.trans f0) re rp⟩
end

/-! ### a list that was just made -/
def upL (K : PySem.W.Frag) (w : XW) (t : DTA) : TE := fun σ H Q => ∃ δ M k, EnvD K w M H σ δ ∧ Rep K H M ∧ t δ M k ∧ ∀ ds M' p vs H', k ds M' → Fr M H M' H' → Rep K H' M' → H p = none → M' p = none → H' p = some (.lst vs) → DnL K H' vs ds → Q (.ref p) H'
abbrev DL1 (X : Cx) (w : XW) (e : Expr) (t : DTA) : Prop := PE X e (upL X.K w t)
def dMade (t : DTA) : DTE := fun δ M k => t δ M fun ds M' => ∀ p, M' p = none → k (.obj p) (put M' p (.lst ds))
section
variable {X : Cx} {w : XW} {pos : Pos} {e : Expr} {t : DTA}
theorem de_made (h : DL1 X w e t) : DE X w e (dMade t) := PE.imp h fun σ H Q ⟨δ, M, k, re, rp, h, c⟩ => ⟨δ, M, _, re, rp, h, fun ds M' p vs H' q f r hp mp hl n =>
  c (.obj p) _ (.ref p) H' (q p mp) ⟨f.ext, fun a o m ha => ⟨(f.fr a o m ha).1, by rw [put_ne (ne_of_none ha hp)]; exact (f.fr a o m ha).2⟩, f.there⟩
    (fun a u m => by
      by_cases z : a = p
      · subst z; rw [put_same] at m; cases m; exact ⟨vs, hl, n⟩
      · rw [put_ne z] at m; exact r a u m) (.obj p)⟩
/-- a list laid, not yet known -/
def ContM (K : PySem.W.Frag) (M : MH) (H : Hp) (k : List D → MH → Prop) (Q : VK) : Prop := ∀ ds M' p vs H', k ds M' → Fr M H M' H' → Rep K H' M' → H p = none → M' p = none → H' p = some (.lst vs) → DnL K H' vs ds → Q (.ref p) H'
theorem ContM.lay {K : PySem.W.Frag} {M M1 : MH} {H H1 : Hp} {k : List D → MH → Prop} {Q : VK} {vs : List V} {ds : List D} {p : Addr} (c : ContM K M H k Q) (f : Fr M H M1 H1) (r : Rep K H1 M1) (hp : H1 p = none) (n : DnL K H1 vs ds) (h : k ds M1) : Q (.ref p) (upd H1 p (.lst vs)) :=
  c ds M1 p vs _ h (f.trans (Fr.laid hp)) (r.laid hp) (f.there p hp) (r.free hp) upd_same (n.ext (Ext.new hp))
def dLstL (t : DTA) : DTA := fun δ M k => t δ M fun ds M1 => ds.length ≤ sizeLine ∧ k ds M1
theorem dl_lst {es : List Expr} {t : DTA} (h : DA X w es t) : DL1 X w (.List es pos) (dLstL t) := PE.imp (pe_lst h) fun σ H Q ⟨δ, M, k, r, rp, h, c⟩ => ⟨δ, M, _, r, rp, h, fun ds M1 vs H1 ⟨hl, h1⟩ f1 r1 n1 =>
  ⟨by rw [n1.length]; exact hl, fun p hp => ContM.lay c f1 r1 hp n1 h1⟩⟩
end

/-! ### comprehensions -/
/-- a clause's tests -/
structure DTs (X : Cx) (w : XW) (ifs : List Expr) (t : DTT) : Prop where
  run : PTs X ifs (upT X.K w t)
def dYes : DTT := fun _ M k => k true M
theorem dts_nil {X : Cx} {w : XW} : DTs X w [] dYes := ⟨⟨fun pins s σ H Q I ⟨δ, M, k, re, rp, h, c⟩ => (pts_nil (X := X)).run pins s σ H Q I (c true M H h Fr.refl rp)⟩⟩
theorem dts_one {X : Cx} {w : XW} {c : Expr} {t : DTT} (h : DT X w c t) : DTs X w [c] t := ⟨pts_one h⟩
def wipeD (δ : DSt) : List Nat → DSt
  | [] => δ
  | v :: vs => (wipeD δ vs).set v none
theorem EnvC.wipe {K : PySem.W.Frag} {H : Hp} {σ : L2.St} {δ : DSt} (r : EnvC K H σ δ) : ∀ vs : List Nat, EnvC K H (L2.wipe σ vs) (wipeD δ vs)
  | [] => r
  | v :: vs => (r.wipe vs).setNone
theorem wipe_wipe {σ : L2.St} {vs : List Nat} : L2.wipe (L2.wipe σ vs) vs = L2.wipe σ vs := by
  apply List.ext_getElem?
  intro j
  rw [wipe_get, wipe_length]
  split
  · rename_i h
    rw [wipe_get, if_pos h]
  · rfl
/-- [elt for target in iter if ..]: Iv by the turn and what is made so far -/
def dLc (wi : DTI) (gd : DTg) (tt : DTT) (te : DTE) (vs : List Nat) : DTA := fun δ M k => wi δ M fun ds ok M1 => ∃ Iv : Nat → List D → MH → Prop, Iv 0 [] M1 ∧ ∀ i acc M, i ≤ ds.length → acc.length ≤ i → Iv i acc M → ok M ∧
  (∀ d, ds[i]? = some d → ∃ δ2, gd d (wipeD δ vs) = some δ2 ∧ tt δ2 M fun b M3 => if b = true then te δ2 M3 fun y M4 => acc.length < sizeLine ∧ ∃ M5, Sub M5 M4 ∧ Iv (i + 1) (acc ++ [y]) M5 else ∃ M5, Sub M5 M3 ∧ Iv (i + 1) acc M5) ∧
  (i = ds.length → k acc M)
theorem up_lc {K : PySem.W.Frag} {w : XW} {wi : DTI} {g : TG} {gd : DTg} {tt : DTT} {te : DTE} {vs : List Nat} (hd : TgD K vs g gd) {σ H Q} (h : upL K w (dLc wi gd tt te vs) σ H Q) : tLc (upI K w wi) g (upT K w0 tt) (up K w0 te) vs σ H Q := by
  obtain ⟨δ0, M00, k, re0, rp0, h, c⟩ := h
  refine ⟨δ0, M00, _, re0, rp0, h, ?_⟩
  rintro ds ok M0 H0 ⟨Iv, i0, turn⟩ f00 rp00 J hJ D hD
  refine ⟨fun i m H => m = ds.length - i ∧ i ≤ ds.length ∧ ∃ acc M accV, acc.length ≤ i ∧ Rep K H M ∧ Iv i acc M ∧ Fr M0 H0 M H ∧ M D = none ∧ H D = some (.lst accV) ∧ DnL K H accV acc,
    ⟨_, rfl, Nat.zero_le _, [], M0, [], Nat.le_refl _, rp00.laid hD, i0, Fr.laid hD, rp00.free hD, upd_same, .nil⟩, ?_⟩
  rintro i m H1 ⟨rfl, hle, acc, M, accV, hacc, rp, iv, f0, mD, hDl, na⟩
  obtain ⟨hok, hturn, hend⟩ := turn i acc M hle hacc iv
  obtain ⟨j1, j2⟩ := hJ i H1 M f0 rp hok
  by_cases hlt : i < ds.length
  · obtain ⟨d, hd'⟩ : ∃ d, ds[i]? = some d := ⟨ds[i], List.getElem?_eq_getElem hlt⟩
    obtain ⟨g1, y1⟩ := j1 d hd'
    refine .inr ⟨g1, fun H' => i + 1 ≤ ds.length ∧ ∃ acc M accV, acc.length ≤ i + 1 ∧ Rep K H' M ∧ Iv (i + 1) acc M ∧ Fr M0 H0 M H' ∧ M D = none ∧ H' D = some (.lst accV) ∧ DnL K H' accV acc,
      fun H' ⟨h1, h2⟩ => ⟨ds.length - (i + 1), by omega, rfl, h1, h2⟩, fun x H' hy => ?_⟩
    obtain ⟨rp', f', n⟩ := y1 x H' hy
    obtain ⟨δ2, e2, ht⟩ := hturn d hd'
    have hD' := f'.fr D _ mD hDl
    refine hd d x _ _ δ2 H' _ ((re0.on ((f00.trans f0).trans f')).env.wipe vs) n e2 fun σ2 re2 w2 => ⟨w2.trans wipe_wipe, δ2, M, _, (⟨re2, fun _ _ _ _ _ h => h.elim⟩ : EnvD K w0 M H' σ2 δ2), rp', ht, fun b M3 H3 q f3 r3 => ?_⟩
    have hD3 := f3.fr D _ hD'.2 hD'.1
    cases b with
    | false =>
      obtain ⟨M5, s5, iv5⟩ := q
      exact iteF ⟨hlt, acc, M5, accV, by omega, r3.sub s5, iv5, ((f0.trans f').trans f3).sub s5, s5.free hD3.2, hD3.1, na.ext (f'.ext.trans f3.ext)⟩
    | true =>
      refine iteT ⟨δ2, M3, _, (⟨re2.ext f3.ext, fun _ _ _ _ _ h => h.elim⟩ : EnvD K w0 M3 H3 σ2 δ2), r3, q, fun y M4 v H4 ⟨hz, M5, s5, iv5⟩ f4 r4 n4 => ?_⟩
      have hD4 := f4.fr D _ hD3.2 hD3.1
      have e4 : Ext H4 (upd H4 D (.lst (accV ++ [v]))) := ext_lst hD4.1
      refine ⟨accV, hD4.1, by rw [na.length]; exact hz, hlt, acc ++ [y], M5, accV ++ [v], by simp; omega, ?_, iv5, ?_, s5.free hD4.2, upd_same, ((na.ext (f'.ext.trans (f3.ext.trans f4.ext))).append (.cons n4 .nil)).ext e4⟩
      · intro a o m
        have na : a ≠ D := fun z => by
          rw [z, s5.free hD4.2] at m; cases m
        exact ((r4.sub s5) a o m).ext e4 fun u hu => by rw [upd_ne na]; exact hu
      · have f5 := ((f0.trans f').trans (f3.trans f4)).sub s5
        refine ⟨f5.ext.trans e4, fun a o m q => ?_, fun a z => f5.there a (upd_there z)⟩
        rw [upd_ne (ne_of_none q hD)]; exact f5.fr a o m q
  · have e : i = ds.length := by omega
    exact .inl ⟨j2 (by omega), c acc M D accV H1 (hend e) (f00.trans f0) rp (f00.there D hD) mD hDl na⟩
section
variable {X : Cx} {w : XW}
theorem dl_lc {elt tg iter : Expr} {ifs : List Expr} {scope : Scope} {own : List (Str × Nat)} {pos : Pos} {wi : DTI} {g : TG} {gd : DTg} {tt : DTT} {te : DTE} (hc : X.calm = true) (hN : X.N.Nodup) (hi : DI X w tg iter wi) (ok : BlkOk X.N X.env.scope scope own)
    (hd : TgD X.K (own.map (·.2)) g gd)
    (hg : ∀ (s : Shared) (H : Hp) (C : Addr) (cl : List (Str × Addr)) (fp : List Addr), PG (X.blk s H scope (compEnvC scope cl C X.env) fp) tg g) (ht : ∀ (s : Shared) (H : Hp) (C : Addr) (cl : List (Str × Addr)) (fp : List Addr), DTs (X.blk s H scope (compEnvC scope cl C X.env) fp) w0 ifs tt)
    (he : ∀ (s : Shared) (H : Hp) (C : Addr) (cl : List (Str × Addr)) (fp : List Addr), DE (X.blk s H scope (compEnvC scope cl C X.env) fp) w0 elt te) (hs : ∀ x, foldedSetIterable iter X.env x = pure x := by intro _; rfl) :
    DL1 X w (.ListComp elt [⟨tg, iter, ifs, 0⟩] scope pos) (dLc wi gd tt te (own.map (·.2))) :=
  PE.imp (pe_lc hc hN hi ok hg (fun s H C cl fp => (ht s H C cl fp).run) he hs) fun σ H Q h => up_lc hd h
/-- name = [..] on one line, the name a local -/
theorem ds_setLc {i : Nat} {y : Str} {py : Pos} {elt tg iter : Expr} {ifs : List Expr} {scope : Scope} {own : List (Str × Nat)} {pos spos : Pos} {wi : DTI} {g : TG} {gd : DTg} {tt : DTT} {te : DTE} (hc : X.calm = true) (hN : X.N.Nodup) (hy : X.N[i]? = some y) (hyl : X.env.scope.names.lookup y = some .local)
    (hsw : swapsWith (.ListComp elt [⟨tg, iter, ifs, 0⟩] scope pos) (some (.Name y py)) spos.line X.env = pure true) (hi : DI X w tg iter wi) (ok : BlkOk X.N X.env.scope scope own)
    (hd : TgD X.K (own.map (·.2)) g gd)
    (hg : ∀ (s : Shared) (H : Hp) (C : Addr) (cl : List (Str × Addr)) (fp : List Addr), PG (X.blk s H scope (compEnvC scope cl C X.env) fp) tg g) (ht : ∀ (s : Shared) (H : Hp) (C : Addr) (cl : List (Str × Addr)) (fp : List Addr), DTs (X.blk s H scope (compEnvC scope cl C X.env) fp) w0 ifs tt)
    (he : ∀ (s : Shared) (H : Hp) (C : Addr) (cl : List (Str × Addr)) (fp : List Addr), DE (X.blk s H scope (compEnvC scope cl C X.env) fp) w0 elt te) (hs : ∀ x, foldedSetIterable iter X.env x = pure x := by intro _; rfl) :
    DS X w (.Assign [.Name y py] (.ListComp elt [⟨tg, iter, ifs, 0⟩] scope pos) spos) (dAsg (dMade (dLc wi gd tt te (own.map (·.2)))) (dgName i)) :=
  PS.imp (ps_setLc hc hN hy hyl hsw hi ok hg (fun s H C cl fp => (ht s H C cl fp).run) he hs) fun D σ H h => by
    have q := up_asg (K := X.K) (te := dMade (dLc wi gd tt te (own.map (·.2)))) (tg_name (K := X.K) (vs := [i]) (i := i) (by simp)) h
    obtain ⟨δ, M, k, re, rp, h1, c⟩ := q
    exact up_lc hd ⟨δ, M, _, re, rp, h1, fun ds M' p vs H' q f r hp mp hl n => c (.obj p) _ (.ref p) H' (q p mp) ⟨f.ext, fun a o m ha => ⟨(f.fr a o m ha).1, by rw [put_ne (ne_of_none ha hp)]; exact (f.fr a o m ha).2⟩, f.there⟩
      (fun a u m => by
        by_cases z : a = p
        · subst z; rw [put_same] at m; cases m; exact ⟨vs, hl, n⟩
        · rw [put_ne z] at m; exact r a u m) (.obj p)⟩
end

/-! ### defs -/
/-- a def's promise over data -/
abbrev DSp := List D → MH → DK → DXK → Prop
def ContX (K : PySem.W.Frag) (C : Addr) (M : MH) (H : Hp) (e : DXK) (E : XK) : Prop := ∀ M' d H', e M' → Fr M H M' H' → Rep K H' M' → E (.ref C) d H'
def upSp (K : PySem.W.Frag) (C : Addr) (sp : DSp) : Sp := fun vs H Q E => ∃ ds M k e, DnL K H vs ds ∧ Rep K H M ∧ sp ds M k e ∧ Cont K M H k Q ∧ ContX K C M H e E
def noX : DXK := fun _ => False
section
variable {X : Cx} {w : XW} {CX : CXT} {C : Addr} {k : Nat} {f : Addr} {fd : FuncData} {ps : List Str} {sp : DSp} {x : Str} {p pos : Pos} {e : Expr} {es : List Expr} {t : DTA}
def dCall (sp : DSp) (t : DTA) : DTE := fun δ M k => t δ M fun ds M1 => sp ds M1 k noX
theorem de_call (F : FnOk X.prog X.w X.K X.mg X.base CX k f fd ps (upSp X.K C sp)) (hr : Room k X.A) (hg : Gl X x) (hm : X.mg x = some (.ref f)) (hk : PySem.W.keepIn X.K (.ref f) = true) (hb : Binds X.K fd ps []) (hx : Passes CX X E0)
    (ha : DA X w (e :: es) t) (hdb : (x == ("__debug__" : Str)) = false := by decide) (he : starEach (e :: es) X.env = (false, eval e X.env) :: starEach es X.env := by rfl) (hpl : (backTo pos (starEach es X.env)).any (·.1) = false := by rfl) :
    DE X w (.Call (.Name x p) (e :: es) [] pos) (dCall sp t) :=
  PE.imp (pe_call F hr hg hm hk hb .nil hx ha hdb he hpl) fun σ H Q ⟨δ, M, k, re, rp, h, c⟩ => ⟨δ, M, _, re, rp, h, fun ds M1 vs H1 q f1 r1 n1 => by
    show upSp X.K C sp (vs ++ []) H1 Q E0
    rw [List.append_nil]
    exact ⟨ds, M1, k, noX, n1, r1, q, c.on f1, fun _ _ _ q => q.elim⟩⟩
/-- a call that may raise -/
def dCallX (ex : DSt → MH → Prop) (sp : DSp) (t : DTA) : DTE := fun δ M k => t δ M fun ds M1 => sp ds M1 k (ex δ)
theorem de_callX (tk : Takes X w.W) (F : FnOk X.prog X.w X.K X.mg X.base (L2.CX X.prog X.w) k f fd ps (upSp X.K w.C sp)) (hr : Room k X.A) (hg : Gl X x) (hm : X.mg x = some (.ref f)) (hk : PySem.W.keepIn X.K (.ref f) = true) (hb : Binds X.K fd ps [])
    (ha : DA X w (e :: es) t) (hdb : (x == ("__debug__" : Str)) = false := by decide) (he : starEach (e :: es) X.env = (false, eval e X.env) :: starEach es X.env := by rfl) (hpl : (backTo pos (starEach es X.env)).any (·.1) = false := by rfl) :
    DE X w (.Call (.Name x p) (e :: es) [] pos) (dCallX w.ex sp t) :=
  PE.imp (pe_callS F hr hg hm hk hb (fun σ => passAt tk σ) ha hdb he hpl) fun σ H Q ⟨δ, M, k, re, rp, h, c⟩ => ⟨δ, M, _, re, rp, h, fun ds M1 vs H1 q f1 r1 n1 =>
    ⟨ds, M1, k, w.ex δ, n1, r1, q, c.on f1, fun M' d H' hx f2 r2 => re.xok M' d σ δ H' hx ((re.on f1).env.ext f2.ext) (f1.trans f2) r2⟩⟩
/-- raise C() -/
def dRaise (ex : DSt → MH → Prop) : DTS := fun _ δ M => ex δ M
theorem ds_raise (hc : X.calm = true) (tk : Takes X w.W) (he : PMk X e (fun _ H Q => Q (.ref w.C) none H)) : DS X w (.Raise (some e) none pos) (dRaise w.ex) :=
  PS.imp (ps_raise hc tk he) fun D σ H ⟨δ, M, E, re, rp, h, c⟩ => re.xok M none σ δ H h re.env Fr.refl rp
end

def fill (n : Nat) (ds : List D) : DSt := ds.map some ++ List.replicate (n - ds.length) none
theorem start_env {K : PySem.W.Frag} {H : Hp} {N : List Str} {vs : List V} {ds : List D} (n : DnL K H vs ds) : EnvC K H (start N vs) (fill N.length ds) := by
  refine ⟨by simp [L2.start, fill, n.length], fun i d e => ?_⟩
  unfold fill at e
  rw [List.getElem?_append] at e
  unfold L2.start
  rw [List.getElem?_append]
  simp only [List.length_map] at e ⊢
  rw [n.length]
  split at e
  · rename_i h
    rw [if_pos h]
    rw [List.getElem?_map] at e ⊢
    cases q : ds[i]? with
    | none => rw [q] at e; cases e
    | some d' =>
      rw [q] at e
      cases e
      obtain ⟨v, h1, h2⟩ := n.get q
      exact ⟨v, by rw [h1]; rfl, h2⟩
  · rename_i h
    rw [List.getElem?_replicate] at e
    split at e <;> cases e
/-- what a def's body is to reach: what was promised, whatever else was made -/
def rtOf (k : DK) : DK := fun d M => ∃ M0, Sub M0 M ∧ k d M0
theorem Cont.rt {K : PySem.W.Frag} {M : MH} {H : Hp} {k : DK} {Q : VK} (c : Cont K M H k Q) : Cont K M H (rtOf k) Q := fun d M' v H' ⟨M0, s, q⟩ f r n => c d M0 v H' q (f.sub s) (r.sub s) n
/-- the ends of a def's body -/
def endsOf (k : DK) : DEnds := { nx := fun _ M' => rtOf k .non M', rt := rtOf k }
section
variable {P : Program} {wd : World} {K : PySem.W.Frag} {mg : Str → Option Value} {base : Heap}
/-- THE RULE for a def that lets no exception out -/
theorem fn_ok {x qual : Str} {st : Stmt} {f : Addr} {fd : FuncData} {N ps : List Str} {k : Nat} {C : Addr} {sp : DSp} (F : Fun K x qual st f fd) (S : FnScope N ps (defScope st)) (t : DTS) (len : ∀ ds M k e, sp ds M k e → ds.length = ps.length)
    (pure : ∀ ds M k e, sp ds M k e → t (endsOf k) (fill N.length ds) M)
    (hbody : ∀ (cdv : Value) (A : Around) (outer : List Env) (s : Shared) (H : Hp) (E : XK), Room k (A.deeper (envOfC qual (defScope st) s.heap.objs.size f cdv)) →
      DSs (cxOf CX0 P wd K mg base N qual (defScope st) f cdv A outer s H E).nox w0 (defBody st) t) : FnOk P wd K mg base CX0 (k + 1) f fd ps (upSp K C sp) := by
  refine F.ok S (fun vs H Q E ⟨ds, M, k, e, n, r, q, _⟩ => n.length.trans (len ds M k e q)) fun cdv A outer s H vs Q E hr ⟨ds, M, k, e, n, r, q, c, _⟩ => ?_
  exact ⟨_, hbody cdv A outer s H E hr, fill N.length ds, M, _, ⟨start_env n, fun _ _ _ _ _ h => h.elim⟩, r, pure ds M k e q, ⟨fun δ' M' σ' H' q f re r => c.rt .non M' .non H' q f r .non, c.rt, ContN.no, ContN.no⟩⟩
/-- for a def that may raise -/
theorem fn_okX {x qual : Str} {st : Stmt} {f : Addr} {fd : FuncData} {N ps : List Str} {k : Nat} {C : Addr} {sp : DSp} (F : Fun K x qual st f fd) (S : FnScope N ps (defScope st)) (t : (DSt → MH → Prop) → DTS) (len : ∀ ds M k e, sp ds M k e → ds.length = ps.length)
    (pure : ∀ ds M k e, sp ds M k e → t (fun _ M' => e M') (endsOf k) (fill N.length ds) M)
    (hbody : ∀ (cdv : Value) (A : Around) (outer : List Env) (s : Shared) (H : Hp) (E : XK) (e : DXK), Room k (A.deeper (envOfC qual (defScope st) s.heap.objs.size f cdv)) →
      DSs (cxOf (L2.CX P wd) P wd K mg base N qual (defScope st) f cdv A outer s H E) ⟨C, fun cls d _ H => E cls d H, fun _ M' => e M'⟩ (defBody st) (t fun _ M' => e M')) : FnOk P wd K mg base (L2.CX P wd) (k + 1) f fd ps (upSp K C sp) := by
  refine F.okX S (fun vs H Q E ⟨ds, M, k, e, n, r, q, _⟩ => n.length.trans (len ds M k e q)) fun cdv A outer s H vs Q E hr ⟨ds, M, k, e, n, r, q, c, x⟩ => ?_
  exact ⟨_, hbody cdv A outer s H E e hr, fill N.length ds, M, _, ⟨start_env n, fun M' d σ' δ' H' h _ f r => x M' d H' h f r⟩, r, pure ds M k e q, ⟨fun δ' M' σ' H' q f re r => c.rt .non M' .non H' q f r .non, c.rt, ContN.no, ContN.no⟩⟩
/-- a promise that asks what never holds -/
theorem fn_no {f : Addr} {fd : FuncData} {ps : List Str} {CX : CXT} {k : Nat} {C : Addr} : FnOk P wd K mg base CX k f fd ps (upSp K C fun _ _ _ _ => False) :=
  ⟨fun vs H Q E ⟨_, _, _, _, _, _, h, _⟩ => h.elim, fun A outer s H args us vs Q E _ _ _ _ ⟨_, _, _, _, _, _, h, _⟩ => h.elim⟩
/-- a weaker promise -/
theorem fn_imp {f : Addr} {fd : FuncData} {ps : List Str} {CX : CXT} {k : Nat} {C : Addr} {sp sp' : DSp} (F : FnOk P wd K mg base CX k f fd ps (upSp K C sp)) (h : ∀ ds M k e, sp' ds M k e → sp ds M k e) : FnOk P wd K mg base CX k f fd ps (upSp K C sp') :=
  F.imp fun vs H Q E ⟨ds, M, k, e, n, r, q, c⟩ => ⟨ds, M, k, e, n, r, h ds M k e q, c⟩
end
end DL
/-! DL: sequences, built-ins, subscripts, slices, lists, what is walked. -/
namespace DL
open PySem PySem.Spec PyProof.Rows L2

/-! ### sequences -/
/-- the items of a list -/
def lstOf (M : MH) : D → Option (List D)
  | .scl xs => some xs
  | .obj a => match M a with
    | some (.lst xs) => some xs
    | _ => none
  | _ => none
def tupOf : D → Option (List D)
  | .tup xs => some xs
  | .ftup xs => some xs
  | .kon xs => some xs
  | _ => none
section
variable {K : PySem.W.Frag} {H : Hp} {M : MH}
theorem lstOf_is {d : D} {v : V} {ds : List D} (r : Rep K H M) (n : Dn K H v d) (h : lstOf M d = some ds) : ∃ a vs, v = .ref a ∧ SqL K H a vs ∧ DnL K H vs ds := by
  cases d with
  | scl xs =>
    cases h
    obtain ⟨a, vs, rfl, ha, hs⟩ := n.scl_inv
    exact ⟨a, vs, rfl, ha.sq, hs⟩
  | obj a =>
    have e := n.obj_inv
    subst e
    have h : (match M a with | some (.lst xs) => some xs | _ => none) = some ds := h
    split at h
    · rename_i xs e
      cases h
      obtain ⟨vs, ha, hs⟩ := r _ _ e
      exact ⟨a, vs, rfl, SqL.of ha, hs⟩
    · cases h
  | _ => cases h
theorem tupOf_is {d : D} {v : V} {ds : List D} (n : Dn K H v d) (h : tupOf d = some ds) : ∃ a vs, v = .ref a ∧ SqT K H a vs ∧ DnL K H vs ds := by
  cases d with
  | tup xs =>
    cases h
    obtain ⟨a, vs, rfl, ha, hs⟩ := n.tup_inv
    exact ⟨a, vs, rfl, SqT.of ha, hs⟩
  | ftup xs =>
    cases h
    obtain ⟨a, o, vs, rfl, ha, _, hs⟩ := n.ftup_inv
    exact ⟨a, vs, rfl, .inl (.inr ⟨o, ha⟩), hs⟩
  | kon xs =>
    cases h
    obtain ⟨a, vs, rfl, ha, hs⟩ := n.kon_inv
    exact ⟨a, vs, rfl, .inr ha, hs⟩
  | _ => cases h
theorem lstOf_obj {a : Addr} {xs : List D} (h : M a = some (.lst xs)) : lstOf M (.obj a) = some xs := by
  show (match M a with | some (.lst xs) => some xs | _ => none) = some xs
  rw [h]
def seqOf (M : MH) (d : D) : Option (List D) := (lstOf M d).or (tupOf d)
theorem seqOf_is {d : D} {v : V} {ds : List D} (r : Rep K H M) (n : Dn K H v d) (h : seqOf M d = some ds) : ∃ a vs, v = .ref a ∧ (SqL K H a vs ∨ SqT K H a vs) ∧ DnL K H vs ds := by
  unfold seqOf at h
  cases q : lstOf M d with
  | some xs =>
    rw [q] at h
    cases h
    obtain ⟨a, vs, e, h1, h2⟩ := lstOf_is r n q
    exact ⟨a, vs, e, .inl h1, h2⟩
  | none =>
    rw [q] at h
    obtain ⟨a, vs, e, h1, h2⟩ := tupOf_is n h
    exact ⟨a, vs, e, .inr h1, h2⟩
end

/-! ### calls of built-ins -/
abbrev RDC := List D → MH → DK → Prop
def CallD (K : PySem.W.Frag) (r : List V → Hp → VK → Prop) (rd : RDC) : Prop := ∀ vs ds H M k Q, DnL K H vs ds → Rep K H M → rd ds M k → Cont K M H k Q → r vs H Q
/-- of one list that was just made -/
def ListD (K : PySem.W.Frag) (r : List V → Hp → VK → Prop) (rd : RDC) : Prop := ∀ p vs ds H M k Q, H p = some (.lst vs) → M p = none → DnL K H vs ds → Rep K H M → rd ds M k → Cont K M H k Q → r [.ref p] H Q
def dCB (rd : RDC) (t : DTA) : DTE := fun δ M k => t δ M fun ds M1 => rd ds M1 k
section
variable {X : Cx} {w : XW} {x : Str} {p pos : Pos} {e : Expr} {es : List Expr} {t : DTA} {id T : String} {r : List V → Hp → VK → Prop} {rd : RDC}
theorem up_cb {K : PySem.W.Frag} (hd : CallD K r rd) {σ H Q} (h : up K w (dCB rd t) σ H Q) : tCB r (upA K w t) σ H Q := by
  obtain ⟨δ, M, k, re, rp, h, c⟩ := h
  exact ⟨δ, M, _, re, rp, h, fun ds M1 vs H1 q f1 r1 n1 => hd vs ds H1 M1 k Q n1 r1 q (c.on f1)⟩
theorem up_cbl {K : PySem.W.Frag} (hd : ListD K r rd) {σ H Q} (h : up K w (dCB rd t) σ H Q) : tCB r (tCons (upL K w t) tNil) σ H Q := by
  obtain ⟨δ, M, k, re, rp, h, c⟩ := h
  exact ⟨δ, M, _, re, rp, h, fun ds M1 p vs H1 q f1 r1 _ mp hp n1 => hd p vs ds H1 M1 k Q hp mp n1 r1 q (c.on f1)⟩
theorem de_callB (hc : CallR X (.builtin id) r) (hd : CallD X.K r rd) (hg : Gl X x) (hm : X.mg x = none) (hv : bootBuiltins x = some (.builtin id)) (ha : DA X w (e :: es) t) (hn : x ≠ "__name__" := by decide) (hdb : (x == ("__debug__" : Str)) = false := by decide)
    (he : starEach (e :: es) X.env = (false, eval e X.env) :: starEach es X.env := by rfl) (hpl : (backTo pos (starEach es X.env)).any (·.1) = false := by rfl) : DE X w (.Call (.Name x p) (e :: es) [] pos) (dCB rd t) :=
  PE.imp (pe_callB hc hg hm hv ha hn hdb he hpl) fun σ H Q h => up_cb hd h
theorem de_callTy (hc : CallR X (.type T) r) (hd : CallD X.K r rd) (hg : Gl X x) (hm : X.mg x = none) (hv : bootBuiltins x = some (.type T)) (ha : DA X w (e :: es) t) (hn : x ≠ "__name__" := by decide) (hdb : (x == ("__debug__" : Str)) = false := by decide)
    (he : starEach (e :: es) X.env = (false, eval e X.env) :: starEach es X.env := by rfl) (hpl : (backTo pos (starEach es X.env)).any (·.1) = false := by rfl) : DE X w (.Call (.Name x p) (e :: es) [] pos) (dCB rd t) :=
  PE.imp (pe_callTy hc hg hm hv ha hn hdb he hpl) fun σ H Q h => up_cb hd h
theorem de_callBL (hc : CallR X (.builtin id) r) (hd : ListD X.K r rd) (hg : Gl X x) (hm : X.mg x = none) (hv : bootBuiltins x = some (.builtin id)) (ha : DL1 X w e t) (hn : x ≠ "__name__" := by decide) (hdb : (x == ("__debug__" : Str)) = false := by decide)
    (he : starEach [e] X.env = (false, eval e X.env) :: starEach [] X.env := by rfl) (hpl : (backTo pos (starEach [] X.env)).any (·.1) = false := by rfl) : DE X w (.Call (.Name x p) [e] [] pos) (dCB rd t) :=
  PE.imp (pe_callB hc hg hm hv (pa_cons ha pa_nil he) hn hdb he hpl) fun σ H Q h => up_cbl hd h
theorem de_callTyL (hc : CallR X (.type T) r) (hd : ListD X.K r rd) (hg : Gl X x) (hm : X.mg x = none) (hv : bootBuiltins x = some (.type T)) (ha : DL1 X w e t) (hn : x ≠ "__name__" := by decide) (hdb : (x == ("__debug__" : Str)) = false := by decide)
    (he : starEach [e] X.env = (false, eval e X.env) :: starEach [] X.env := by rfl) (hpl : (backTo pos (starEach [] X.env)).any (·.1) = false := by rfl) : DE X w (.Call (.Name x p) [e] [] pos) (dCB rd t) :=
  PE.imp (pe_callTy hc hg hm hv (pa_cons ha pa_nil he) hn hdb he hpl) fun σ H Q h => up_cbl hd h
end
section
variable {K : PySem.W.Frag}
theorem DnL.one_inv {H : Hp} {vs : List V} {d : D} (n : DnL K H vs [d]) : ∃ v, vs = [v] ∧ Dn K H v d := by
  cases n with
  | cons n ns => cases ns; exact ⟨_, rfl, n⟩
theorem DnL.two_inv {H : Hp} {vs : List V} {d d' : D} (n : DnL K H vs [d, d']) : ∃ v v', vs = [v, v'] ∧ Dn K H v d ∧ Dn K H v' d' := by
  cases n with
  | cons n ns => obtain ⟨v', rfl, n'⟩ := ns.one_inv; exact ⟨_, _, rfl, n, n'⟩
/-! len -/
def rdLen : RDC
  | [.str z], M, k => z.length ≤ sizeLine ∧ k (.int (z.length : Nat)) M
  | [d], M, k => ∃ ds, seqOf M d = some ds ∧ k (.int (ds.length : Nat)) M
  | _, _, _ => False
abbrev rLenA (K : PySem.W.Frag) : List V → Hp → VK → Prop := fun xs H Q => (∃ p ys, xs = [.ref p] ∧ (SqL K H p ys ∨ SqT K H p ys) ∧ Q (.int ys.length) H) ∨ (∃ z, xs = [.str z] ∧ z.length ≤ sizeLine ∧ Q (.int z.length) H)
theorem call_lenA {X : Cx} : CallR X (.builtin "len") (rLenA X.K) := CallR.or call_len_seq call_len_str
theorem cd_len : CallD K (rLenA K) rdLen := fun vs ds H M k Q n r h c => by
  unfold rdLen at h
  split at h
  · obtain ⟨v, rfl, n1⟩ := n.one_inv
    cases n1
    exact .inr ⟨_, rfl, h.1, c.here h.2 r (.int _)⟩
  · obtain ⟨v, rfl, n1⟩ := n.one_inv
    obtain ⟨ds, e, h⟩ := h
    obtain ⟨a, ws, rfl, ha, hs⟩ := seqOf_is r n1 e
    exact .inl ⟨a, ws, rfl, ha, by rw [hs.length]; exact c.here h r (.int _)⟩
  · exact h.elim
def rdLenL : RDC := fun ds M k => k (.int (ds.length : Nat)) M
theorem ld_len : ListD K (rLenA K) rdLenL := fun p vs ds H M k Q hp mp n r h c => .inl ⟨p, vs, rfl, .inl (SqL.of hp), by rw [n.length]; exact c.here h r (.int _)⟩
/-! abs, int -/
def rdAbs : RDC
  | [.int i], M, k => k (.int (if i < 0 then -i else i)) M
  | _, _, _ => False
theorem cd_abs : CallD K (fun xs H Q => ∃ i, xs = [.int i] ∧ Q (.int (if i < 0 then -i else i)) H) rdAbs := fun vs ds H M k Q n r h c => by
  unfold rdAbs at h
  split at h
  · obtain ⟨v, rfl, n1⟩ := n.one_inv
    cases n1
    exact ⟨_, rfl, c.here h r (.int _)⟩
  · exact h.elim
def rdInt : RDC
  | [.int i], M, k => k (.int i) M
  | [.bl b], M, k => k (.int (if b then 1 else 0)) M
  | _, _, _ => False
theorem cd_int : CallD K (fun xs H Q => (∃ i, xs = [.int i] ∧ Q (.int i) H) ∨ ∃ k, xs = [.bl k] ∧ Q (.int (if k then 1 else 0)) H) rdInt := fun vs ds H M k Q n r h c => by
  unfold rdInt at h
  split at h
  · obtain ⟨v, rfl, n1⟩ := n.one_inv
    cases n1
    exact .inl ⟨_, rfl, c.here h r (.int _)⟩
  · obtain ⟨v, rfl, n1⟩ := n.one_inv
    cases n1
    exact .inr ⟨_, rfl, c.here h r (.int _)⟩
  · exact h.elim
def rdMin2 : RDC
  | [.int i, .int j], M, k => k (.int (if j < i then j else i)) M
  | _, _, _ => False
theorem cd_min2 : CallD K (fun xs H Q => ∃ i j, xs = [.int i, .int j] ∧ Q (.int (if j < i then j else i)) H) rdMin2 := fun vs ds H M k Q n r h c => by
  unfold rdMin2 at h
  split at h
  · obtain ⟨v, w, rfl, n1, n2⟩ := n.two_inv
    cases n1; cases n2
    exact ⟨_, _, rfl, c.here h r (.int _)⟩
  · exact h.elim
/-! all, any, sum, max of lists -/
def rdAll : RDC := fun ds M k => ∃ bs : List Bool, ds = bs.map D.bl ∧ k (.bl (bs.all id)) M
def rdAny : RDC := fun ds M k => ∃ bs : List Bool, ds = bs.map D.bl ∧ k (.bl (bs.any id)) M
theorem ld_all : ListD K (rAll K) rdAll := fun p vs ds H M k Q hp mp n r ⟨bs, e, h⟩ c => by
  subst e
  exact ⟨p, bs, rfl, SqL.of (by rw [← n.bls]; exact hp), c.here h r (.bl _)⟩
theorem ld_any : ListD K (rAny K) rdAny := fun p vs ds H M k Q hp mp n r ⟨bs, e, h⟩ c => by
  subst e
  exact ⟨p, bs, rfl, SqL.of (by rw [← n.bls]; exact hp), c.here h r (.bl _)⟩
def rdMax : RDC := fun ds M k => ∃ ns : List Int, ds = ns.map D.int ∧ 0 < ns.length ∧ ∀ m, m ∈ ns → (∀ y, y ∈ ns → y ≤ m) → k (.int m) M
theorem ld_max : ListD K (rMax K) rdMax := fun p vs ds H M k Q hp mp n r ⟨ns, e, h0, h⟩ c => by
  subst e
  exact ⟨p, ns, rfl, SqL.of (by rw [← n.ints]; exact hp), h0, fun m h1 h2 => c.here (h m h1 h2) r (.int _)⟩
/-! tuple, list -/
/-- tuple(list): a tracked tuple, or one whose object is known, as is wanted -/
def rTupleA (K : PySem.W.Frag) : List V → Hp → VK → Prop := fun xs H Q => ∃ p ys, xs = [.ref p] ∧ ((SqL K H p ys ∧ ((∀ l, H l = none → Q (.ref l) (upd H l (.tup ys))) ∨ ∀ l o, o.dict = none → H l = none → Q (.ref l) (upd H l (.frz o (.tup ys))))) ∨ (SqT K H p ys ∧ Q (.ref p) H))
def rdTuple : RDC := fun ds M k => k (.tup ds) M ∨ k (.ftup ds) M
theorem new_ftup {M : MH} {H : Hp} {k : DK} {Q : VK} {vs : List V} {ds : List D} {p : Addr} {o : Obj} (c : Cont K M H k Q) (r : Rep K H M) (hp : H p = none) (ho : o.dict = none) (n : DnL K H vs ds) (h : k (.ftup ds) M) : Q (.ref p) (upd H p (.frz o (.tup vs))) :=
  c (.ftup ds) M (.ref p) _ h (Fr.laid hp) (r.laid hp) (.ftup upd_same ho (n.ext (Ext.new hp)))
theorem ld_tuple : ListD K (rTupleA K) rdTuple := fun p vs ds H M k Q hp mp n r h c => ⟨p, vs, rfl, .inl ⟨SqL.of hp, h.elim (fun h => .inl fun l hl => new_tup c r hl n h) fun h => .inr fun l o ho hl => new_ftup c r hl ho n h⟩⟩
def rdTupleO : RDC
  | [d], M, k => ∃ ds, lstOf M d = some ds ∧ (k (.tup ds) M ∨ k (.ftup ds) M)
  | _, _, _ => False
theorem cd_tuple : CallD K (rTupleA K) rdTupleO := fun vs ds H M k Q n r h c => by
  unfold rdTupleO at h
  split at h
  · obtain ⟨v, rfl, n1⟩ := n.one_inv
    obtain ⟨ds, e, h⟩ := h
    obtain ⟨a, ws, rfl, ha, hs⟩ := lstOf_is r n1 e
    exact ⟨a, ws, rfl, .inl ⟨ha, h.elim (fun h => .inl fun l hl => new_tup c r hl hs h) fun h => .inr fun l o ho hl => new_ftup c r hl ho hs h⟩⟩
  · exact h.elim
def rdListO : RDC
  | [d], M, k => match seqOf M d with
    | some ds => ∀ p, M p = none → k (.obj p) (put M p (.lst ds))
    | none => False
  | _, _, _ => False
theorem cd_list : CallD K (fun xs H Q => ∃ p ys, xs = [.ref p] ∧ (SqL K H p ys ∨ SqT K H p ys) ∧ ∀ l, H l = none → Q (.ref l) (upd H l (.lst ys))) rdListO := fun vs ds H M k Q n r h c => by
  unfold rdListO at h
  split at h
  · obtain ⟨v, rfl, n1⟩ := n.one_inv
    split at h
    · rename_i ds e
      obtain ⟨a, ws, rfl, ha, hs⟩ := seqOf_is r n1 e
      exact ⟨a, ws, rfl, ha, fun l hl => new_obj c r hl (lst_ok (Ext.new hl) hs) (h l (r.free hl))⟩
    · exact h.elim
  · exact h.elim
def rdListL : RDC := fun ds M k => ∀ p, M p = none → k (.obj p) (put M p (.lst ds))
theorem ld_list : ListD K (fun xs H Q => ∃ p ys, xs = [.ref p] ∧ (SqL K H p ys ∨ SqT K H p ys) ∧ ∀ l, H l = none → Q (.ref l) (upd H l (.lst ys))) rdListL := fun p vs ds H M k Q hp mp n r h c =>
  ⟨p, vs, rfl, .inl (SqL.of hp), fun l hl => new_obj c r hl (lst_ok (Ext.new hl) n) (h l (r.free hl))⟩
end

/-! ### isinstance -/
/-- the name of a value's type -/
def tyD (M : MH) : D → Option String
  | .non => some "NoneType"
  | .bl _ => some "bool"
  | .int _ => some "int"
  | .str _ => some "str"
  | .ty _ => none
  | .tup _ => some "tuple"
  | .ftup _ => some "tuple"
  | .kon _ => some "tuple"
  | .scl _ => some "list"
  | .obj a => match M a with
    | some (.lst _) => some "list"
    | _ => none
theorem tyD_is {K : PySem.W.Frag} {H : Hp} {M : MH} {d : D} {v : V} {s : String} (r : Rep K H M) (n : Dn K H v d) (h : tyD M d = some s) : TyX K H v (.type s) := by
  cases n with
  | non => cases h; exact .base (.non)
  | bl b => cases h; exact .base (.bl b)
  | int b => cases h; exact .base (.int b)
  | str b => cases h; exact .base (.str b)
  | ty n => cases h
  | obj a =>
    have h : (match M a with | some (.lst _) => some "list" | _ => none) = some s := h
    split at h
    · rename_i xs e
      cases h
      obtain ⟨vs, ha, hs⟩ := r _ _ e
      exact .base (.lst ha)
    · cases h
  | tup ha hs => cases h; exact .base (.tup ha)
  | ftup ha ho hs => cases h; exact .fTuple ha
  | kon ha hs => cases h; obtain ⟨o, its, nn, e, c, _⟩ := ha; exact .kTuple e c
  | scl ha hs =>
    cases h
    rcases ha with ⟨o, ha⟩ | ⟨o, its, nn, e, c, _⟩
    · exact .base (.frz ha)
    · exact .kList e c
def rdIsi (T : String) : RDC
  | [d, .ty T'], M, k => T = T' ∧ ∃ s b, tyD M d = some s ∧ kitB s T = some b ∧ k (.bl b) M
  | _, _, _ => False
theorem cd_isi {K : PySem.W.Frag} (T : String) : CallD K (rIsi K) (rdIsi T) := fun vs ds H M k Q n r h c => by
  unfold rdIsi at h
  split at h
  · obtain ⟨v, w, rfl, n1, n2⟩ := n.two_inv
    cases n2
    obtain ⟨rfl, s, b, h1, h2, h⟩ := h
    exact ⟨v, .ty T, .type s, .type T, b, rfl, .ty T, tyD_is r n1 h1, kit_ty h2, c.here h r (.bl _)⟩
  · exact h.elim
/-- isinstance(x, (T1, T2)) -/
def rdIsi2 (T U : String) : RDC
  | [d, .tup [.ty T', .ty U']], M, k => T = T' ∧ U = U' ∧ ∃ s b b', tyD M d = some s ∧ kitB s T = some b ∧ kitB s U = some b' ∧ k (.bl (b || b')) M
  | _, _, _ => False
theorem cd_isi2 {K : PySem.W.Frag} (T U : String) : CallD K (rIsiT K) (rdIsi2 T U) := fun vs ds H M k Q n r h c => by
  unfold rdIsi2 at h
  split at h
  · obtain ⟨v, w, rfl, n1, n2⟩ := n.two_inv
    obtain ⟨a, xs, rfl, ha, hs⟩ := n2.tup_inv
    obtain ⟨v1, v2, rfl, m1, m2⟩ := hs.two_inv
    cases m1; cases m2
    obtain ⟨rfl, rfl, s, b, b', h1, h2, h3, h⟩ := h
    refine ⟨v, a, [.ty T, .ty U], .type s, [.type T, .type U], b || b', rfl, ha, .cons (.ty T) (.cons (.ty U) .nil), tyD_is r n1 h1, ?_, c.here h r (.bl _)⟩
    refine kitAny_cons (kit_ty h2) (fun e => ?_) fun e => by rw [e]; rfl
    subst e
    refine kitAny_cons (kit_ty h3) (fun e => ?_) fun e => by rw [e]; rfl
    rw [e]
    exact kitAny_nil
  · exact h.elim

/-! ### subscripts -/
def rdIx : RD2
  | .str z, .int i, M, k => z.length ≤ sizeLine ∧ ∃ c, atI z.cps.toList i = some c ∧ k (.str ⟨#[c]⟩) M
  | d, .int i, M, k => ∃ ds x, seqOf M d = some ds ∧ atI ds i = some x ∧ k x M
  | _, _, _, _ => False
theorem atI_dn {K : PySem.W.Frag} {H : Hp} {vs : List V} {ds : List D} {i : Int} {x : D} (n : DnL K H vs ds) (h : atI ds i = some x) : ∃ v, atI vs i = some v ∧ Dn K H v x := by
  unfold atI at h ⊢
  rw [n.length]
  cases q : ixN ds.length i with
  | none => rw [q] at h; cases h
  | some j =>
    rw [q] at h
    obtain ⟨v, h1, h2⟩ := n.get (i := j) h
    exact ⟨v, h1, h2⟩
theorem od_ix {K : PySem.W.Frag} : OpD K (rIx K) rdIx := fun x y dx dy H M k Q nx ny r h c => by
  unfold rdIx at h
  split at h
  · cases nx; cases ny
    obtain ⟨h1, s, h2, h⟩ := h
    exact .inr (.inr ⟨_, _, s, rfl, rfl, h1, h2, c.here h r (.str _)⟩)
  · cases ny
    obtain ⟨ds, w, h1, h2, h⟩ := h
    obtain ⟨a, vs, rfl, ha, hs⟩ := seqOf_is r nx h1
    obtain ⟨v, h3, h4⟩ := atI_dn hs h2
    rcases ha with ha | ha
    · exact .inl ⟨a, vs, _, v, rfl, rfl, ha, h3, c.here h r h4⟩
    · exact .inr (.inl ⟨a, vs, _, v, rfl, rfl, ha, h3, c.here h r h4⟩)
  · exact h.elim
section
variable {X : Cx} {w : XW} {a b e : Expr} {ta tb te : DTE} {pos p2 : Pos}
theorem de_ix (ha : DE X w a ta) (hb : DE X w b tb) (hs : PlainIx b := by exact fun _ _ => rfl) : DE X w (.Subscript a b pos) (dOp rdIx ta tb) := PE.imp (pe_ix ix_seq ha hb hs) fun σ H Q h => up_op od_ix h

/-! ### slices -/
abbrev DTO := DSt → MH → (Option Int → MH → Prop) → Prop
def upO (K : PySem.W.Frag) (w : XW) (t : DTO) : TO := fun σ H Q => ∃ δ M k, EnvD K w M H σ δ ∧ Rep K H M ∧ t δ M k ∧ ∀ o M' H', k o M' → Fr M H M' H' → Rep K H' M' → Q o H'
abbrev DO (X : Cx) (w : XW) (e : Option Expr) (t : DTO) : Prop := PO X e (upO X.K w t)
def dNoPart : DTO := fun _ M k => k none M
def dPart (t : DTE) : DTO := fun δ M k => t δ M fun d M' => match d with
  | .int i => k (some i) M'
  | _ => False
theorem do_none : DO X w none dNoPart := ⟨fun pins s σ H Q I ⟨δ, M, k, re, rp, h, c⟩ => (po_none (X := X)).run pins s σ H Q I (c none M H h Fr.refl rp)⟩
theorem do_some (h : DE X w e te) : DO X w (some e) (dPart te) := ⟨fun pins s σ H Q I ⟨δ, M, k, re, rp, h', c⟩ => (po_some h).run pins s σ H Q I ⟨δ, M, _, re, rp, h', fun d M' v H' q f r n => by
  cases d with
  | int i => cases n; exact ⟨i, rfl, c _ M' H' q f r⟩
  | _ => exact q.elim⟩⟩
def cutD (xs : List D) (lo hi : Option Int) : List D := (xs.drop (HT.sIx xs.length 0 lo)).take (HT.sIx xs.length xs.length hi - HT.sIx xs.length 0 lo)
theorem cut_dn {K : PySem.W.Frag} {H : Hp} {vs : List V} {ds : List D} (n : DnL K H vs ds) (lo hi : Option Int) : DnL K H (cutV vs lo hi) (cutD ds lo hi) := by
  unfold cutV cutD
  rw [n.length]
  exact (n.drop _).take _
/-- a slice of a tuple or a text -/
def rdSl : D → Option Int → Option Int → MH → DK → Prop
  | .str z, lo, hi, M, k => z.length ≤ sizeLine ∧ k (.str (cutS z lo hi)) M
  | .tup xs, lo, hi, M, k => k (.tup (cutD xs lo hi)) M
  | .ftup xs, lo, hi, M, k => ((HT.sIx xs.length 0 lo = 0 ∧ HT.sIx xs.length xs.length hi = xs.length) → k (.ftup xs) M) ∧ (¬ (HT.sIx xs.length 0 lo = 0 ∧ HT.sIx xs.length xs.length hi = xs.length) → k (.tup (cutD xs lo hi)) M)
  | .kon xs, lo, hi, M, k => ¬ (HT.sIx xs.length 0 lo = 0 ∧ HT.sIx xs.length xs.length hi = xs.length) ∧ k (.tup (cutD xs lo hi)) M
  | _, _, _, _, _ => False
def dSl (te : DTE) (tl th : DTO) : DTE := fun δ M k => te δ M fun x M1 => tl δ M1 fun l M2 => th δ M2 fun u M3 => rdSl x l u M3 k
def rSlAny (K : PySem.W.Frag) : V → Option Int → Option Int → Hp → VK → Prop := fun x lo hi H Q => rSlA K x lo hi H Q ∨ rSlS x lo hi H Q
theorem sl_any : SlR X (rSlAny X.K) := SlR.or sl_tupA sl_str
theorem de_slice {lo hi : Option Expr} {tl th : DTO} (he : DE X w e te) (hl : DO X w lo tl) (hu : DO X w hi th) : DE X w (.Subscript e (.Slice lo hi none p2) pos) (dSl te tl th) :=
  PE.imp (pe_slice sl_any he hl hu) fun σ H Q ⟨δ, M, k, re, rp, h, c⟩ => ⟨δ, M, _, re, rp, h, fun x M1 v H1 q1 f1 r1 n1 => ⟨δ, M1, _, re.on f1, r1, q1, fun l M2 H2 q2 f2 r2 => ⟨δ, M2, _, re.on (f1.trans f2), r2, q2, fun u M3 H3 q f3 r3 => by
    have c3 := c.on (f1.trans (f2.trans f3))
    have n3 := n1.ext (f2.ext.trans f3.ext)
    cases x with
    | str z => cases n3; exact .inr ⟨z, rfl, q.1, c3.here q.2 r3 (.str _)⟩
    | tup xs =>
      obtain ⟨a, vs, rfl, ha, hs⟩ := n3.tup_inv
      refine .inl ⟨a, vs, rfl, SqT.of ha, fun w => ?_, fun w p hp => new_tup c3 r3 hp (cut_dn hs l u) q⟩
      refine c3.here q r3 ?_
      have e : cutD xs l u = xs := by
        unfold cutD
        rw [hs.length] at w
        rw [w.1, w.2]
        simp
      rw [e]
      exact .tup ha hs
    | ftup xs =>
      obtain ⟨a, o, vs, rfl, ha, ho, hs⟩ := n3.ftup_inv
      exact .inl ⟨a, vs, rfl, .inl (.inr ⟨o, ha⟩), fun w => c3.here (q.1 (by rw [hs.length] at w; exact w)) r3 (.ftup ha ho hs), fun w p hp => new_tup c3 r3 hp (cut_dn hs l u) (q.2 fun z => w (by rw [hs.length]; exact z))⟩
    | kon xs =>
      obtain ⟨a, vs, rfl, ha, hs⟩ := n3.kon_inv
      refine .inl ⟨a, vs, rfl, .inr ha, fun w => absurd (by rw [hs.length] at w; exact w) q.1, fun w p hp => new_tup c3 r3 hp (cut_dn hs l u) q.2⟩
    | _ => exact q.elim⟩⟩⟩
/-- of a list: a new one -/
def dSlL (te : DTE) (tl th : DTO) : DTA := fun δ M k => te δ M fun x M1 => tl δ M1 fun l M2 => th δ M2 fun u M3 => ∃ ds, lstOf M3 x = some ds ∧ k (cutD ds l u) M3
theorem dl_slice {lo hi : Option Expr} {tl th : DTO} (he : DE X w e te) (hl : DO X w lo tl) (hu : DO X w hi th) : DL1 X w (.Subscript e (.Slice lo hi none p2) pos) (dSlL te tl th) :=
  PE.imp (pe_slice sl_list he hl hu) fun σ H Q ⟨δ, M, k, re, rp, h, c⟩ => ⟨δ, M, _, re, rp, h, fun x M1 v H1 q1 f1 r1 n1 => ⟨δ, M1, _, re.on f1, r1, q1, fun l M2 H2 q2 f2 r2 => ⟨δ, M2, _, re.on (f1.trans f2), r2, q2, fun u M3 H3 ⟨ds, e, q⟩ f3 r3 => by
    obtain ⟨a, vs, rfl, ha, hs⟩ := lstOf_is r3 (n1.ext (f2.ext.trans f3.ext)) e
    exact ⟨a, vs, rfl, ha, fun p hp => ContM.lay c (f1.trans (f2.trans f3)) r3 hp (cut_dn hs l u) q⟩⟩⟩⟩

/-! ### join -/
def rdJoin (a : Str) (ds : List D) (M : MH) (k : DK) : Prop := ∃ ys : List Str, ds = ys.map D.str ∧ (ys.map (·.length)).sum + ys.length * a.length ≤ 16777216 ∧ k (.str (Txt.join a ys)) M
def dJoin (to : DTE) (t : DTA) : DTE := fun δ M k => to δ M fun x M1 => match x with
  | .str a => t δ M1 fun ds M2 => rdJoin a ds M2 k
  | _ => False
def dJoinO (to te : DTE) : DTE := fun δ M k => to δ M fun x M1 => match x with
  | .str a => te δ M1 fun d M2 => ∃ ds, seqOf M2 d = some ds ∧ rdJoin a ds M2 k
  | _ => False
variable {o : Expr} {to : DTE} {t : DTA} {apos : Pos}
theorem de_join (ho : DE X w o to) (he : DL1 X w e t) (hs : starEach [e] X.env = [(false, eval e X.env)] := by rfl) (hbase : attributeBase o "join" X.env (eval o X.env) = eval o X.env := by rfl) (hline : (apos.endLine == pos.line) = true := by rfl) :
    DE X w (.Call (.Attribute o "join" apos) [e] [] pos) (dJoin to t) :=
  PE.imp (pe_join ho he hs hbase hline) fun σ H Q ⟨δ, M, k, re, rp, h, c⟩ => ⟨δ, M, _, re, rp, h, fun x M1 v H1 q1 f1 r1 n1 => by
    cases x with
    | str a =>
      cases n1
      refine ⟨⟨a, rfl⟩, δ, M1, _, re.on f1, r1, q1, fun ds M2 p vs H2 q f2 r2 hp mp hl n => ?_⟩
      obtain ⟨ys, rfl, hz, q⟩ := q
      exact ⟨a, p, ys, rfl, rfl, .inl (SqL.of (by rw [← n.strs]; exact hl)), hz, (c.on (f1.trans f2)).here q r2 (.str _)⟩
    | _ => exact q1.elim⟩
theorem de_joinO (ho : DE X w o to) (he : DE X w e te) (hs : starEach [e] X.env = [(false, eval e X.env)] := by rfl) (hbase : attributeBase o "join" X.env (eval o X.env) = eval o X.env := by rfl) (hline : (apos.endLine == pos.line) = true := by rfl) :
    DE X w (.Call (.Attribute o "join" apos) [e] [] pos) (dJoinO to te) :=
  PE.imp (pe_join ho he hs hbase hline) fun σ H Q ⟨δ, M, k, re, rp, h, c⟩ => ⟨δ, M, _, re, rp, h, fun x M1 v H1 q1 f1 r1 n1 => by
    cases x with
    | str a =>
      cases n1
      refine ⟨⟨a, rfl⟩, δ, M1, _, re.on f1, r1, q1, fun d M2 w H2 q f2 r2 n => ?_⟩
      obtain ⟨ds, e, ys, rfl, hz, q⟩ := q
      obtain ⟨b, ws, rfl, ha, hs⟩ := seqOf_is r2 n e
      rw [hs.strs] at ha
      exact ⟨a, b, ys, rfl, rfl, ha, hz, (c.on (f1.trans f2)).here q r2 (.str _)⟩
    | _ => exact q1.elim⟩
end
end DL
/-! DL: methods of lists, dicts, what is walked. -/
namespace DL
open PySem PySem.Spec PyProof.Rows L2

/-! ### methods of lists -/
theorem lst_ty {K : PySem.W.Frag} {H : L2.Hp} {a : Addr} {vs : List V} (h : H a = some (.lst vs)) : tyV K "list" (.ref a) H := .inl ⟨rfl, _, SqL.of h⟩
section
variable {K : PySem.W.Frag} {M : MH} {H : L2.Hp} {k : DK} {Q : VK} {a : Addr} {d : D} {v : V}
/-- the list at a becomes es -/
theorem set_lst {ds es : List D} {vs ws : List V} (c : Cont K M H k Q) (r : Rep K H M) (m : M a = some (.lst ds)) (h : H a = some (.lst vs)) (n : DnL K H ws es) (nd : Dn K H v d) (q : k d (put M a (.lst es))) : Q v (upd H a (.lst ws)) :=
  c d _ v _ q (Fr.set m (ext_lst h)) (r.put (ext_lst h) (lst_ok (ext_lst h) n)) (nd.ext (ext_lst h))
end
section
variable {X : Cx} {w : XW} {o i e : Expr} {es : List Expr} {to ti te tx : DTE} {t : DTA} {apos cpos pos pos' : Pos}
def dAppend (to te : DTE) : DTE := fun δ M k => to δ M fun x M1 => match x with
  | .obj a => ∃ ds0, M1 a = some (.lst ds0) ∧ te δ M1 fun y M2 => ∃ ds, M2 a = some (.lst ds) ∧ ds.length < sizeLine ∧ k .non (put M2 a (.lst (ds ++ [y])))
  | _ => False
theorem de_append (ho : DE X w o to) (he : DE X w e te) (hbase : attributeBase o "append" X.env (eval o X.env) = eval o X.env := by rfl)
    (hfew : ((backTo cpos (starEach [e] X.env)).all (fun x => !x.1) && (backToKw cpos (keywordEach [] X.env)).all (fun x => x.1.isSome)
      && decide (([e] : List Expr).length + ([] : List Keyword).length + (if ([] : List Keyword).isEmpty then 0 else 1) < 30)) = true := by rfl)
    (hline : (apos.endLine == cpos.line) = true := by rfl) (hs : starEach [e] X.env = (false, eval e X.env) :: starEach [] X.env := by rfl) (hplain : (backTo cpos (starEach [] X.env)).any (·.1) = false := by rfl) :
    DE X w (.Call (.Attribute o "append" apos) [e] [] cpos) (dAppend to te) :=
  PE.imp (pe_bm PySem.F.plainAttrs_list PySem.F.slot_list_append PySem.F.type_list_append mt_append ho (pa_cons he pa_nil hs) hbase hfew hline hs hplain) fun σ H Q ⟨δ, M, k, re, rp, h, c⟩ => ⟨δ, M, _, re, rp, h, fun x M1 v H1 q1 f1 r1 n1 => by
    cases x with
    | obj a =>
      have e := n1.obj_inv
      subst e
      obtain ⟨ds0, hl, q1⟩ := q1
      obtain ⟨vs0, h0, _⟩ := r1 _ _ hl
      refine ⟨lst_ty h0, δ, M1, _, re.on f1, r1, q1, fun y M2 w H2 ⟨ds, m2, hz, q⟩ f2 r2 n2 => ?_⟩
      obtain ⟨vs, h2, hs⟩ := r2 _ _ m2
      exact ⟨a, vs, w, rfl, rfl, h2, by rw [hs.length]; exact hz, set_lst (c.on (f1.trans f2)) r2 m2 h2 (hs.append (.cons n2 .nil)) .non q⟩
    | _ => exact q1.elim⟩
def dPop (to : DTE) : DTE := fun δ M k => to δ M fun x M1 => match x with
  | .obj a => ∃ ds y, M1 a = some (.lst ds) ∧ ds[ds.length - 1]? = some y ∧ k y (put M1 a (.lst ds.dropLast))
  | _ => False
theorem de_pop (ho : DE X w o to) (hbase : attributeBase o "pop" X.env (eval o X.env) = eval o X.env := by rfl) (hline : (apos.endLine == cpos.line) = true := by rfl) : DE X w (.Call (.Attribute o "pop" apos) [] [] cpos) (dPop to) :=
  PE.imp (pe_bm0 PySem.F.plainAttrs_list PySem.F.slot_list_pop PySem.F.type_list_pop mt_pop ho hbase hline) fun σ H Q ⟨δ, M, k, re, rp, h, c⟩ => ⟨δ, M, _, re, rp, h, fun x M1 v H1 q1 f1 r1 n1 => by
    cases x with
    | obj a =>
      have e := n1.obj_inv
      subst e
      obtain ⟨ds, y, m1, hy, q⟩ := q1
      obtain ⟨vs, h1, hs⟩ := r1 _ _ m1
      obtain ⟨w, hw, nw⟩ := hs.get hy
      exact ⟨lst_ty h1, a, vs, w, rfl, rfl, h1, by rw [hs.length]; exact hw, set_lst (c.on f1) r1 m1 h1 hs.dropLast nw q⟩
    | _ => exact q1.elim⟩
/-- o.pop(i) -/
def dPopAt (to te : DTE) : DTE := fun δ M k => to δ M fun x M1 => match x with
  | .obj a => ∃ ds0, M1 a = some (.lst ds0) ∧ te δ M1 fun y M2 => match y with
    | .int j => ∃ ds, M2 a = some (.lst ds) ∧ 0 ≤ j ∧ j < 2 ^ 63 ∧ ∃ z, ds[j.toNat]? = some z ∧ k z (put M2 a (.lst (ds.eraseIdx j.toNat)))
    | _ => False
  | _ => False
theorem de_popAt (ho : DE X w o to) (he : DE X w e te) (hbase : attributeBase o "pop" X.env (eval o X.env) = eval o X.env := by rfl)
    (hfew : ((backTo cpos (starEach [e] X.env)).all (fun x => !x.1) && (backToKw cpos (keywordEach [] X.env)).all (fun x => x.1.isSome)
      && decide (([e] : List Expr).length + ([] : List Keyword).length + (if ([] : List Keyword).isEmpty then 0 else 1) < 30)) = true := by rfl)
    (hline : (apos.endLine == cpos.line) = true := by rfl) (hs : starEach [e] X.env = (false, eval e X.env) :: starEach [] X.env := by rfl) (hplain : (backTo cpos (starEach [] X.env)).any (·.1) = false := by rfl) :
    DE X w (.Call (.Attribute o "pop" apos) [e] [] cpos) (dPopAt to te) :=
  PE.imp (pe_bm PySem.F.plainAttrs_list PySem.F.slot_list_pop PySem.F.type_list_pop mt_popAt ho (pa_cons he pa_nil hs) hbase hfew hline hs hplain) fun σ H Q ⟨δ, M, k, re, rp, h, c⟩ => ⟨δ, M, _, re, rp, h, fun x M1 v H1 q1 f1 r1 n1 => by
    cases x with
    | obj a =>
      have e := n1.obj_inv
      subst e
      obtain ⟨ds0, hl, q1⟩ := q1
      obtain ⟨vs0, h0, _⟩ := r1 _ _ hl
      refine ⟨lst_ty h0, δ, M1, _, re.on f1, r1, q1, fun y M2 w H2 q f2 r2 n2 => ?_⟩
      cases y with
      | int j =>
        cases n2
        obtain ⟨ds, m2, hj0, hj1, z, hz, q⟩ := q
        obtain ⟨vs, h2, hs⟩ := r2 _ _ m2
        obtain ⟨w, hw, nw⟩ := hs.get hz
        have hlt : j.toNat < vs.length := (List.getElem?_eq_some_iff.mp hw).1
        have hix : seqIndex? j vs.length = some j.toNat := (ixN_seq (n := vs.length) (i := j) (j := j.toNat) (by unfold ixN; rw [if_pos hj0, if_pos (by omega)])).1
        refine ⟨a, vs, j, j.toNat, w, rfl, rfl, h2, by omega, hj1, hix, hw, set_lst (c.on (f1.trans f2)) r2 m2 h2 (hs.eraseIdx _) nw q⟩
      | _ => exact q.elim
    | _ => exact q1.elim⟩
/-- o[i] = e of a list -/
def dSetL (to ti te : DTE) : DTS := fun E δ M => te δ M fun y M1 => to δ M1 fun x M2 => ti δ M2 fun j M3 => match x, j with
  | .obj a, .int n => ∃ ds m, M3 a = some (.lst ds) ∧ ixN ds.length n = some m ∧ E.nx δ (put M3 a (.lst (ds.set m y)))
  | _, _ => False
theorem ds_setL (he : DE X w e te) (ho : DE X w o to) (hi : DE X w i ti) (hs : swapsWithSole [.Subscript o i pos'] e pos.line X.env = pure false := by rfl) (hw : swappedStores [.Subscript o i pos'] e X.env = pure none := by rfl)
    (h1 : (assignEach [.Subscript o i pos'] X.env).map (·.2) = [assign (.Subscript o i pos') X.env] := by rfl) (hg : PG X (.Subscript o i pos') (gSub (up X.K w to) (up X.K w ti) rSetL)) : DS X w (.Assign [.Subscript o i pos'] e pos) (dSetL to ti te) :=
  PS.imp (ps_asg he hg hs hw h1) fun D σ H ⟨δ, M, E, re, rp, h, c⟩ => ⟨δ, M, _, re, rp, h, fun y M1 v H1 q1 f1 r1 n1 => ⟨δ, M1, _, re.on f1, r1, q1, fun x M2 u H2 q2 f2 r2 n2 => ⟨δ, M2, _, re.on (f1.trans f2), r2, q2, fun j M3 w H3 q f3 r3 n3 => by
    cases x with
    | obj a =>
      cases j with
      | int n =>
        have e := n2.obj_inv
        subst e
        cases n3
        obtain ⟨ds, m, m3, hm, q⟩ := q
        obtain ⟨vs, h3, hs⟩ := r3 _ _ m3
        have f := f1.trans (f2.trans f3)
        have e3 : Ext H3 (upd H3 a (.lst (vs.set m v))) := ext_lst h3
        exact ⟨a, vs, n, m, rfl, rfl, h3, by rw [hs.length]; exact hm, c.nx δ _ σ _ q (f.trans (Fr.set m3 e3)) (re.on (f.trans (Fr.set m3 e3))) (r3.put e3 (lst_ok e3 (hs.set (n1.ext (f2.ext.trans f3.ext)) m)))⟩
      | _ => exact q.elim
    | _ => exact q.elim⟩⟩⟩

/-! ### dicts -/
/-- a key as data -/
def kD : Key → D
  | .inl i => .int i
  | .inr x => .str x
def keyOf : D → Option Key
  | .int i => some (.inl i)
  | .str x => some (.inr x)
  | _ => none
def keysOf (ds : List D) : Option (List Key) := ds.mapM keyOf
theorem keyOf_some {d : D} {k : Key} (h : keyOf d = some k) : d = kD k := by
  cases d <;> cases h <;> rfl
theorem keyOf_kD (k : Key) : keyOf (kD k) = some k := by cases k <;> rfl
theorem keysOf_map : ∀ ks : List Key, keysOf (ks.map kD) = some ks
  | [] => rfl
  | k :: ks => by
    unfold keysOf
    rw [List.map_cons, List.mapM_cons, keyOf_kD]
    have := keysOf_map ks
    unfold keysOf at this
    rw [this]; rfl
theorem keysOf_some : ∀ {ds : List D} {ks : List Key}, keysOf ds = some ks → ds = ks.map kD
  | [], ks, h => by
    have : ([] : List Key) = ks := by simpa [keysOf] using h
    subst this; rfl
  | d :: ds, ks, h => by
    unfold keysOf at h
    rw [List.mapM_cons] at h
    cases q : keyOf d with
    | none => rw [q] at h; cases h
    | some k =>
      rw [q] at h
      cases q2 : ds.mapM keyOf with
      | none => rw [q2] at h; cases h
      | some ms =>
        rw [q2] at h
        have : (k :: ms) = ks := by simpa using h
        subst this
        rw [keyOf_some q, keysOf_some (ds := ds) (ks := ms) q2]; rfl
theorem dn_kD {K : PySem.W.Frag} {H : L2.Hp} {v : V} {k : Key} (n : Dn K H v (kD k)) : v = kV k := by
  cases k <;> cases n <;> rfl
theorem kD_dn {K : PySem.W.Frag} {H : L2.Hp} (k : Key) : Dn K H (kV k) (kD k) := by
  cases k <;> constructor
theorem dnl_kD {K : PySem.W.Frag} {H : L2.Hp} : ∀ {vs : List V} {ks : List Key}, DnL K H vs (ks.map kD) → vs = ks.map kV
  | _, [], .nil => rfl
  | _, k :: ks, .cons n ns => by rw [dn_kD n, dnl_kD ns]; rfl
theorem kDl_dn {K : PySem.W.Frag} {H : L2.Hp} : ∀ ks : List Key, DnL K H (ks.map kV) (ks.map kD)
  | [] => .nil
  | k :: ks => .cons (kD_dn k) (kDl_dn ks)
/-! tables over data -/
section
variable {κ : Type} [DecidableEq κ]
def valD (kvs : List (κ × D)) (k : κ) : Option D := (kvs.find? fun kv => decide (kv.1 = k)).map (·.2)
def putD (kvs : List (κ × D)) (k : κ) (v : D) : List (κ × D) :=
  if (kvs.any fun kv => decide (kv.1 = k)) = true then kvs.map (fun kv => if kv.1 = k then (kv.1, v) else kv) else kvs ++ [(k, v)]
def dropD (kvs : List (κ × D)) (k : κ) : List (κ × D) := kvs.filter fun kv => decide (kv.1 ≠ k)
def OptDn (K : PySem.W.Frag) (H : L2.Hp) : Option V → Option D → Prop
  | some v, some d => Dn K H v d
  | none, none => True
  | _, _ => False
theorem valD_rel {K : PySem.W.Frag} {H : L2.Hp} : ∀ {ks : List (κ × V)} {kvs : List (κ × D)} (k : κ), DnKV K H ks kvs → OptDn K H (valV ks k) (valD kvs k)
  | [], [], k, .nil => trivial
  | (a, v) :: ks, (b, d) :: kvs, k, .cons ⟨e, n⟩ r => by
    have e : a = b := e
    subst e
    unfold valV valD
    rw [List.find?_cons, List.find?_cons]
    by_cases h : a = k
    · simp [h]; exact n
    · simp only [h, decide_false]
      exact valD_rel k r
theorem any_rel {K : PySem.W.Frag} {H : L2.Hp} : ∀ {ks : List (κ × V)} {kvs : List (κ × D)} (k : κ), DnKV K H ks kvs → (ks.any fun kv => decide (kv.1 = k)) = kvs.any fun kv => decide (kv.1 = k)
  | [], [], k, .nil => rfl
  | (a, v) :: ks, (b, d) :: kvs, k, .cons ⟨e, n⟩ r => by
    have e : a = b := e
    subst e
    rw [List.any_cons, List.any_cons, any_rel k r]
theorem repl_rel {K : PySem.W.Frag} {H : L2.Hp} {v : V} {d : D} (k : κ) (n : Dn K H v d) : ∀ {ks : List (κ × V)} {kvs : List (κ × D)}, DnKV K H ks kvs → DnKV K H (ks.map fun kv => if kv.1 = k then (kv.1, v) else kv) (kvs.map fun kv => if kv.1 = k then (kv.1, d) else kv)
  | [], [], .nil => .nil
  | (a, v') :: ks, (b, d') :: kvs, .cons ⟨e, n'⟩ r => by
    have e : a = b := e
    subst e
    refine .cons ?_ (repl_rel k n r)
    by_cases h : a = k
    · show (if a = k then (a, v) else (a, v')).1 = (if a = k then (a, d) else (a, d')).1 ∧ Dn K H (if a = k then (a, v) else (a, v')).2 (if a = k then (a, d) else (a, d')).2
      rw [if_pos h, if_pos h]; exact ⟨rfl, n⟩
    · show (if a = k then (a, v) else (a, v')).1 = (if a = k then (a, d) else (a, d')).1 ∧ Dn K H (if a = k then (a, v) else (a, v')).2 (if a = k then (a, d) else (a, d')).2
      rw [if_neg h, if_neg h]; exact ⟨rfl, n'⟩
theorem snoc_rel {K : PySem.W.Frag} {H : L2.Hp} {v : V} {d : D} (k : κ) (n : Dn K H v d) : ∀ {ks : List (κ × V)} {kvs : List (κ × D)}, DnKV K H ks kvs → DnKV K H (ks ++ [(k, v)]) (kvs ++ [(k, d)])
  | [], [], .nil => .cons ⟨rfl, n⟩ .nil
  | _ :: _, _ :: _, .cons h r => .cons h (snoc_rel k n r)
theorem putD_rel {K : PySem.W.Frag} {H : L2.Hp} {ks : List (κ × V)} {kvs : List (κ × D)} {v : V} {d : D} (k : κ) (r : DnKV K H ks kvs) (n : Dn K H v d) : DnKV K H (putK ks k v) (putD kvs k d) := by
  unfold putK putD
  rw [any_rel k r]
  split
  · exact repl_rel k n r
  · exact snoc_rel k n r
theorem dropD_rel {K : PySem.W.Frag} {H : L2.Hp} : ∀ {ks : List (κ × V)} {kvs : List (κ × D)} (k : κ), DnKV K H ks kvs → DnKV K H (dropK ks k) (dropD kvs k)
  | [], [], k, .nil => .nil
  | (a, v) :: ks, (b, d) :: kvs, k, .cons ⟨e, n⟩ r => by
    have e : a = b := e
    subst e
    unfold dropK dropD
    rw [List.filter_cons, List.filter_cons]
    by_cases h : a = k
    · simp only [h, ne_eq, not_true, decide_false, if_neg Bool.false_ne_true]
      exact dropD_rel k r
    · rw [if_pos (decide_eq_true h), if_pos (decide_eq_true h)]
      exact .cons ⟨rfl, n⟩ (dropD_rel k r)
theorem kv_len {K : PySem.W.Frag} {H : L2.Hp} {ks : List (κ × V)} {kvs : List (κ × D)} (r : DnKV K H ks kvs) : ks.length = kvs.length := Paired.length r
end
def tupKey : D → Option (List Key)
  | .tup ds => keysOf ds
  | _ => none
def getMO (y : D) : MO → Option (Option D)
  | .dK kvs => (keyOf y).map (valD kvs)
  | .rK _ _ kvs => (keyOf y).map (valD kvs)
  | .dT kvs => (tupKey y).map (valD kvs)
  | .rT _ _ kvs => (tupKey y).map (valD kvs)
  | _ => none
/-- what the dict at a holds at a key -/
def getD? (M : MH) (a : Addr) (y : D) : Option (Option D) := (M a).bind (getMO y)
theorem getD_at {M : MH} {a : Addr} {y : D} {o : MO} (h : M a = some o) : getD? M a y = getMO y o := by unfold getD?; rw [h]; rfl
theorem tupKey_is {K : PySem.W.Frag} {H : L2.Hp} {y : D} {v : V} {k : List Key} (n : Dn K H v y) (h : tupKey y = some k) : ∃ b, v = .ref b ∧ H b = some (.tup (k.map kV)) := by
  cases y with
  | tup ds =>
    obtain ⟨b, vs, rfl, hb, hs⟩ := n.tup_inv
    rw [keysOf_some h] at hs
    rw [dnl_kD hs] at hb
    exact ⟨b, rfl, hb⟩
  | _ => cases h
theorem getD_is {K : PySem.W.Frag} {H : L2.Hp} {M : MH} {a : Addr} {y : D} {v : V} {o : Option D} (r : Rep K H M) (n : Dn K H v y) (h : getD? M a y = some o) : ∃ o', DGet H a v o' ∧ OptDn K H o' o := by
  obtain ⟨m, e, h⟩ := Option.bind_eq_some_iff.mp h
  have q := r _ _ e
  cases m with
  | lst _ => cases h
  | dN _ => cases h
  | rN _ _ _ => cases h
  | dK kvs =>
    obtain ⟨k, e1, e2⟩ := Option.map_eq_some_iff.mp h
    subst e2
    obtain ⟨ks, h1, h2⟩ := q
    rw [keyOf_some e1] at n
    rw [dn_kD n]
    exact ⟨_, .inl ⟨ks, k, .inl h1, rfl, rfl⟩, valD_rel k h2⟩
  | rK o ks kvs =>
    obtain ⟨k, e1, e2⟩ := Option.map_eq_some_iff.mp h
    subst e2
    obtain ⟨h1, h2⟩ := q
    rw [keyOf_some e1] at n
    rw [dn_kD n]
    exact ⟨_, .inl ⟨ks, k, .inr ⟨o, h1⟩, rfl, rfl⟩, valD_rel k h2⟩
  | dT kvs =>
    obtain ⟨k, e1, e2⟩ := Option.map_eq_some_iff.mp h
    subst e2
    obtain ⟨ks, h1, h2⟩ := q
    obtain ⟨b, rfl, hb⟩ := tupKey_is n e1
    exact ⟨_, .inr ⟨ks, k, b, .inl h1, rfl, hb, rfl⟩, valD_rel k h2⟩
  | rT o ks kvs =>
    obtain ⟨k, e1, e2⟩ := Option.map_eq_some_iff.mp h
    subst e2
    obtain ⟨h1, h2⟩ := q
    obtain ⟨b, rfl, hb⟩ := tupKey_is n e1
    exact ⟨_, .inr ⟨ks, k, b, .inr ⟨o, h1⟩, rfl, hb, rfl⟩, valD_rel k h2⟩
def isDic (M : MH) (a : Addr) : Prop := ∃ o, M a = some o ∧ match o with
  | .lst _ => False
  | .dN _ => False
  | .rN _ _ _ => False
  | _ => True
theorem isDic_is {K : PySem.W.Frag} {H : L2.Hp} {M : MH} {a : Addr} (r : Rep K H M) (h : isDic M a) : IsD H a := by
  obtain ⟨o, e, h⟩ := h
  have q := r _ _ e
  cases o with
  | lst _ => exact h.elim
  | dN _ => exact h.elim
  | rN _ _ _ => exact h.elim
  | dT kvs => obtain ⟨ks, h1, _⟩ := q; exact .inr ⟨ks, .inl h1⟩
  | dK kvs => obtain ⟨ks, h1, _⟩ := q; exact .inl ⟨ks, .inl h1⟩
  | rT o ks kvs => obtain ⟨h1, _⟩ := q; exact .inr ⟨ks, .inr ⟨o, h1⟩⟩
  | rK o ks kvs => obtain ⟨h1, _⟩ := q; exact .inl ⟨ks, .inr ⟨o, h1⟩⟩
/-- d.get(y, x) -/
def dGet2 (to ti tx : DTE) : DTE := fun δ M k => to δ M fun x M1 => match x with
  | .obj a => isDic M1 a ∧ ti δ M1 fun y M2 => tx δ M2 fun z M3 => ∃ o, getD? M3 a y = some o ∧ k (o.getD z) M3
  | _ => False
variable {f : Expr}
theorem de_get2 (hu : X.A.units + 1 < cLine) (ho : DE X w o to) (he : DE X w i ti) (hf : DE X w f tx) (m : M2 X o "get" apos i f cpos) : DE X w (.Call (.Attribute o "get" apos) [i, f] [] cpos) (dGet2 to ti tx) :=
  PE.imp (pe_dget2 hu ho he hf m) fun σ H Q ⟨δ, M, k, re, rp, h, c⟩ => ⟨δ, M, _, re, rp, h, fun x M1 v H1 q1 f1 r1 n1 => by
    cases x with
    | obj a =>
      have e := n1.obj_inv
      subst e
      obtain ⟨hd, q1⟩ := q1
      refine ⟨a, rfl, isDic_is r1 hd, δ, M1, _, re.on f1, r1, q1, fun y M2 w H2 q2 f2 r2 n2 => ⟨δ, M2, _, re.on (f1.trans f2), r2, q2, fun z M3 u H3 ⟨o, g, q⟩ f3 r3 n3 => ?_⟩⟩
      obtain ⟨o', g', hv⟩ := getD_is r3 (n2.ext f3.ext) g
      refine ⟨o', g', (c.on (f1.trans (f2.trans f3))).here q r3 ?_⟩
      cases o' with
      | none => cases o with
        | none => exact n3
        | some _ => exact hv.elim
      | some _ => cases o with
        | none => exact hv.elim
        | some _ => exact hv
    | _ => exact q1.elim⟩
/-- d[y] -/
def dGetI (to ti : DTE) : DTE := fun δ M k => to δ M fun x M1 => ti δ M1 fun y M2 => match x with
  | .obj a => ∃ d, getD? M2 a y = some (some d) ∧ k d M2
  | _ => False
theorem de_getI (hu : X.A.units + 1 < cLine) (ho : DE X w o to) (hi : DE X w i ti) (hs : NoSl i := by exact fun _ _ => rfl) : DE X w (.Subscript o i pos) (dGetI to ti) :=
  PE.imp (pe_dget hu ho hi hs) fun σ H Q ⟨δ, M, k, re, rp, h, c⟩ => ⟨δ, M, _, re, rp, h, fun x M1 v H1 q1 f1 r1 n1 => ⟨δ, M1, _, re.on f1, r1, q1, fun y M2 w H2 q f2 r2 n2 => by
    cases x with
    | obj a =>
      have e := n1.obj_inv
      subst e
      obtain ⟨d, g, q⟩ := q
      obtain ⟨o', g', hv⟩ := getD_is r2 n2 g
      cases o' with
      | none => exact hv.elim
      | some u => exact ⟨a, u, rfl, g', (c.on (f1.trans f2)).here q r2 hv⟩
    | _ => exact q.elim⟩⟩
/-- y in d -/
def dInD (ti to : DTE) : DTE := fun δ M k => ti δ M fun y M1 => to δ M1 fun x M2 => match x with
  | .obj a => ∃ o, getD? M2 a y = some o ∧ k (.bl o.isSome) M2
  | _ => False
theorem up_inD {K : PySem.W.Frag} {σ H Q} (h : up K w (dInD ti to) σ H Q) : tDIn (up K w ti) (up K w to) σ H Q := by
  obtain ⟨δ, M, k, re, rp, h, c⟩ := h
  refine ⟨δ, M, _, re, rp, h, fun y M1 v H1 q1 f1 r1 n1 => ⟨δ, M1, _, re.on f1, r1, q1, fun x M2 w H2 q f2 r2 n2 => ?_⟩⟩
  cases x with
  | obj a =>
    have e := n2.obj_inv
    subst e
    obtain ⟨o, g, q⟩ := q
    obtain ⟨o', g', hv⟩ := getD_is r2 (n1.ext f2.ext) g
    have e : o'.isSome = o.isSome := by
      cases o' <;> cases o <;> first | rfl | exact hv.elim
    exact ⟨a, o', rfl, g', (c.on (f1.trans f2)).here (by rw [e]; exact q) r2 (.bl _)⟩
  | _ => exact q.elim
theorem de_inD (hu : X.A.units + 1 < cLine) (hi : DE X w i ti) (ho : DE X w o to) (hm : behindInMarks .In o = false := by rfl) : DE X w (.Compare i [.In] [o] pos) (dInD ti to) := PE.imp (pe_cmp (pc_din hu hi ho) hm) fun σ H Q h => up_inD h
/-- d[y] = e -/
def putMO (y v : D) : MO → Option MO
  | .dK kvs => (keyOf y).bind fun k => if kvs.length < sizeLine then some (.dK (putD kvs k v)) else none
  | .dT kvs => (tupKey y).bind fun k => if kvs.length < sizeLine then some (.dT (putD kvs k v)) else none
  | _ => none
def dPutI (to ti te : DTE) : DTS := fun E δ M => te δ M fun v M1 => to δ M1 fun x M2 => ti δ M2 fun y M3 => match x with
  | .obj a => ∃ o o', M3 a = some o ∧ putMO y v o = some o' ∧ E.nx δ (put M3 a o')
  | _ => False
theorem ds_putI (hu : X.A.units + 1 < cLine) (ho : DE X w o to) (hi : DE X w i ti) (he : DE X w e te) (hs : swapsWith e (some (.Subscript o i pos')) pos.line X.env = pure false := by rfl) : DS X w (.Assign [.Subscript o i pos'] e pos) (dPutI to ti te) :=
  PS.imp (ps_dput hu ho hi he hs) fun D σ H ⟨δ, M, E, re, rp, h, c⟩ => ⟨δ, M, _, re, rp, h, fun v M1 u H1 q1 f1 r1 n1 => ⟨δ, M1, _, re.on f1, r1, q1, fun x M2 w H2 q2 f2 r2 n2 => ⟨δ, M2, _, re.on (f1.trans f2), r2, q2, fun y M3 z H3 q f3 r3 n3 => by
    cases x with
    | obj a =>
      have e := n2.obj_inv
      subst e
      obtain ⟨m, m', e, g, q⟩ := q
      have f := f1.trans (f2.trans f3)
      have nv := n1.ext (f2.ext.trans f3.ext)
      have rr := r3 _ _ e
      cases m with
      | dK kvs =>
        obtain ⟨k, e1, g⟩ := Option.bind_eq_some_iff.mp g
        obtain ⟨ks, h1, h2⟩ := rr
        rw [keyOf_some e1] at n3
        rw [dn_kD n3]
        split at g
        · rename_i hl
          cases g
          have e3 : Ext H3 (upd H3 a (.dK (putK ks k u))) := ext_dK h1
          exact ⟨a, _, rfl, DPut.k h1 (by rw [kv_len h2]; exact hl), c.nx δ _ σ _ q (f.trans (Fr.set e e3)) (re.on (f.trans (Fr.set e e3))) (r3.put e3 ⟨_, upd_same, (putD_rel k h2 nv).ext e3⟩)⟩
        · cases g
      | dT kvs =>
        obtain ⟨k, e1, g⟩ := Option.bind_eq_some_iff.mp g
        obtain ⟨ks, h1, h2⟩ := rr
        obtain ⟨b, rfl, hb⟩ := tupKey_is n3 e1
        split at g
        · rename_i hl
          cases g
          have e3 : Ext H3 (upd H3 a (.dT (putK ks k u))) := ext_dT h1
          exact ⟨a, _, rfl, DPut.t h1 hb (by rw [kv_len h2]; exact hl), c.nx δ _ σ _ q (f.trans (Fr.set e e3)) (re.on (f.trans (Fr.set e e3))) (r3.put e3 ⟨_, upd_same, (putD_rel k h2 nv).ext e3⟩)⟩
        · cases g
      | _ => cases g
    | _ => exact q.elim⟩⟩⟩
/-- {} -/
def dNewK : DTE := fun _ M k => ∀ p, M p = none → k (.obj p) (put M p (.dK []))
def dNewT : DTE := fun _ M k => ∀ p, M p = none → k (.obj p) (put M p (.dT []))
theorem de_newK : DE X w (.Dict [] [] pos) dNewK := PE.imp pe_dnewK fun σ H Q ⟨δ, M, k, re, rp, h, c⟩ p hp => new_obj (u := .dK []) c rp hp ⟨[], upd_same, .nil⟩ (h p (rp.free hp))
theorem de_newT : DE X w (.Dict [] [] pos) dNewT := PE.imp pe_dnewT fun σ H Q ⟨δ, M, k, re, rp, h, c⟩ p hp => new_obj (u := .dT []) c rp hp ⟨[], upd_same, .nil⟩ (h p (rp.free hp))
end
end DL
/-! DL: what is walked. -/
namespace DL
open PySem PySem.Spec PyProof.Rows L2
section
variable {X : Cx} {w : XW} {tg e e2 : Expr} {te : DTE} {ta : DTA} {p pos tpos : Pos} {elts : List Expr} {kk : Nat}

/-- the items of a list that stays -/
def diL (te : DTE) : DTI := fun δ M q => te δ M fun d M1 => ∃ ds, lstOf M1 d = some ds ∧ q ds (fun M => lstOf M d = some ds) M1
theorem sq_now {K : PySem.W.Frag} {M0 M : MH} {H0 H : Hp} {d : D} {v : V} {ds : List D} (n : Dn K H0 v d) (f : Fr M0 H0 M H) (r : Rep K H M) (h : lstOf M d = some ds) : ∃ a vs, v = .ref a ∧ SqL K H a vs ∧ DnL K H vs ds := lstOf_is r (n.ext f.ext) h
theorem it_list {K : PySem.W.Frag} {M0 : MH} {H0 : Hp} {d : D} {a : Addr} {ds : List D} (n : Dn K H0 (.ref a) d) : ItOk K (Itl K a) ds (fun M => lstOf M d = some ds) M0 H0 := fun i H M f r h => by
  obtain ⟨a', vs, e, hs, hn⟩ := sq_now n f r h
  cases e
  refine ⟨fun x hx => ?_, fun hl => ⟨vs, hs, by rw [hn.length]; exact hl⟩⟩
  obtain ⟨w, hw, nw⟩ := hn.get hx
  refine ⟨⟨vs, w, hs, hw⟩, fun y H' ⟨e, hy⟩ => ?_⟩
  subst e
  have := hy vs hs
  rw [hw] at this
  cases this
  exact ⟨r, Fr.refl, nw⟩
theorem di_list (he : DE X w e te) : DI X w tg e (diL te) := PI.imp (pi_list he) fun σ H R ⟨δ, M, q, re, rp, h, c⟩ => ⟨δ, M, _, re, rp, h, fun d M1 v H1 ⟨ds, hl, q1⟩ f1 r1 n1 => by
  obtain ⟨a, vs, rfl, hs, hn⟩ := lstOf_is r1 n1 hl
  exact ⟨a, rfl, ⟨vs, hs⟩, c ds _ M1 H1 q1 f1 r1 _ (it_list n1)⟩⟩
/-- of a tuple -/
def diT (te : DTE) : DTI := fun δ M q => te δ M fun d M1 => ∃ ds, tupOf d = some ds ∧ q ds (fun _ => True) M1
theorem it_tup {K : PySem.W.Frag} {M0 : MH} {H0 : Hp} {d : D} {a : Addr} {ds : List D} (n : Dn K H0 (.ref a) d) (h : tupOf d = some ds) : ItOk K (Itt K a) ds (fun _ => True) M0 H0 := fun i H M f r _ => by
  obtain ⟨a', vs, e, hs, hn⟩ := tupOf_is (n.ext f.ext) h
  cases e
  refine ⟨fun x hx => ?_, fun hl => ⟨vs, hs, by rw [hn.length]; exact hl⟩⟩
  obtain ⟨w, hw, nw⟩ := hn.get hx
  refine ⟨⟨vs, w, hs, hw⟩, fun y H' ⟨e, hy⟩ => ?_⟩
  subst e
  have := hy vs hs
  rw [hw] at this
  cases this
  exact ⟨r, Fr.refl, nw⟩
theorem di_tup (he : DE X w e te) : DI X w tg e (diT te) := PI.imp (pi_tup he) fun σ H R ⟨δ, M, q, re, rp, h, c⟩ => ⟨δ, M, _, re, rp, h, fun d M1 v H1 ⟨ds, hl, q1⟩ f1 r1 n1 => by
  obtain ⟨a, vs, rfl, hs, hn⟩ := tupOf_is n1 hl
  exact ⟨a, rfl, ⟨vs, hs⟩, c ds _ M1 H1 q1 f1 r1 _ (it_tup n1 hl)⟩⟩
/-- of a list that was just made -/
def diM (t : DTA) : DTI := fun δ M q => t δ M fun ds M1 => q ds (fun _ => True) M1
theorem it_made {K : PySem.W.Frag} {M0 : MH} {H0 : Hp} {a : Addr} {ds : List D} {vs : List V} (h : H0 a = some (.lst vs)) (m : M0 a = none) (n : DnL K H0 vs ds) : ItOk K (Itl K a) ds (fun _ => True) M0 H0 := fun i H M f r _ => by
  have hs : SqL K H a vs := SqL.of (f.fr a _ m h).1
  have hn := n.ext f.ext
  refine ⟨fun x hx => ?_, fun hl => ⟨vs, hs, by rw [hn.length]; exact hl⟩⟩
  obtain ⟨w, hw, nw⟩ := hn.get hx
  refine ⟨⟨vs, w, hs, hw⟩, fun y H' ⟨e, hy⟩ => ?_⟩
  subst e
  have := hy vs hs
  rw [hw] at this
  cases this
  exact ⟨r, Fr.refl, nw⟩
theorem di_made {t : DTA} (he : DL1 X w e t) : DI X w tg e (diM t) := PI.imp (pi_list he) fun σ H R ⟨δ, M, q, re, rp, h, c⟩ => ⟨δ, M, _, re, rp, h, fun ds M1 a vs H1 q1 f1 r1 _ m1 h1 n1 =>
  ⟨a, rfl, ⟨vs, SqL.of h1⟩, c ds _ M1 H1 q1 f1 r1 _ (it_made h1 m1 n1)⟩⟩
/-- range(n), range(a, b) -/
def rgD (a : Int) (n : Nat) : List D := (List.range n).map fun i => D.int (a + (i : Nat))
theorem rgD_length (a : Int) (n : Nat) : (rgD a n).length = n := by simp [rgD]
theorem rgD_get {a : Int} {n i : Nat} (h : i < n) : (rgD a n)[i]? = some (.int (a + (i : Nat))) := by simp [rgD, h]
theorem it_range {K : PySem.W.Frag} {M0 : MH} {H0 : Hp} {a : Int} {n : Nat} : ItOk K (Itr a n) (rgD a n) (fun _ => True) M0 H0 := fun i H M f r _ => by
  refine ⟨fun x hx => ?_, fun hl => by rw [rgD_length] at hl; exact hl⟩
  have hi : i < n := by
    have := (List.getElem?_eq_some_iff.mp hx).1
    rwa [rgD_length] at this
  rw [rgD_get hi] at hx
  cases hx
  refine ⟨hi, fun y H' ⟨e, hy⟩ => ?_⟩
  subst e; subst hy
  exact ⟨r, Fr.refl, .int _⟩
def diR1 (ta : DTA) : DTI := fun δ M q => ta δ M fun ds M1 => match ds with
  | [.int j] => (-(2 ^ 62) ≤ j ∧ j < 2 ^ 62) ∧ q (rgD 0 j.toNat) (fun _ => True) M1
  | _ => False
def diR2 (ta : DTA) : DTI := fun δ M q => ta δ M fun ds M1 => match ds with
  | [.int i, .int j] => (-(2 ^ 62) ≤ i ∧ i < 2 ^ 62 ∧ -(2 ^ 62) ≤ j ∧ j < 2 ^ 62) ∧ q (rgD i (j - i).toNat) (fun _ => True) M1
  | _ => False
theorem di_range1 (hg : Gl X "range") (hm : X.mg "range" = none) (ha : DA X w [e] ta) (hs : starEach [e] X.env = [(false, eval e X.env)] := by rfl) : DI X w tg (.Call (.Name "range" p) [e] [] pos) (diR1 ta) :=
  PI.imp (pi_range1 hg hm ha hs) fun σ H R ⟨δ, M, q, re, rp, h, c⟩ => ⟨δ, M, _, re, rp, h, fun ds M1 vs H1 q1 f1 r1 n1 => by
    split at q1
    · rename_i j
      obtain ⟨v, rfl, n2⟩ := n1.one_inv
      cases n2
      exact ⟨j, rfl, q1.1.1, q1.1.2, c _ _ M1 H1 q1.2 f1 r1 _ it_range⟩
    · exact q1.elim⟩
theorem di_range2 (hg : Gl X "range") (hm : X.mg "range" = none) (ha : DA X w [e, e2] ta) (hs : starEach [e, e2] X.env = [(false, eval e X.env), (false, eval e2 X.env)] := by rfl) (hs2 : starEach [e2] X.env = [(false, eval e2 X.env)] := by rfl) : DI X w tg (.Call (.Name "range" p) [e, e2] [] pos) (diR2 ta) :=
  PI.imp (pi_range2 hg hm ha hs hs2) fun σ H R ⟨δ, M, q, re, rp, h, c⟩ => ⟨δ, M, _, re, rp, h, fun ds M1 vs H1 q1 f1 r1 n1 => by
    split at q1
    · rename_i i j
      obtain ⟨v, w, rfl, n2, n3⟩ := n1.two_inv
      cases n2; cases n3
      exact ⟨i, j, rfl, q1.1, c _ _ M1 H1 q1.2 f1 r1 _ it_range⟩
    · exact q1.elim⟩
/-- a text, sign by sign -/
def sgD (x : Str) : List D := x.cps.toList.map fun c => D.str ⟨#[c]⟩
def diS (te : DTE) : DTI := fun δ M q => te δ M fun d M1 => match d with
  | .str x => q (sgD x) (fun _ => True) M1
  | _ => False
theorem it_str {K : PySem.W.Frag} {M0 : MH} {H0 : Hp} {x : Str} : ItOk K (Its x) (sgD x) (fun _ => True) M0 H0 := fun i H M f r _ => by
  refine ⟨fun d hd => ?_, fun hl => by show x.cps.size ≤ i; simpa [sgD] using hl⟩
  have hi : i < x.cps.size := by
    have := (List.getElem?_eq_some_iff.mp hd).1
    simpa [sgD] using this
  have e : (sgD x)[i]? = some (.str ⟨#[x.cps[i]]⟩) := by simp [sgD, hi]
  rw [e] at hd
  cases hd
  refine ⟨hi, fun y H' ⟨e, c, hc, hy⟩ => ?_⟩
  subst e; subst hy
  rw [Array.getElem?_eq_getElem hi] at hc
  cases hc
  exact ⟨r, Fr.refl, .str _⟩
theorem di_str (he : DE X w e te) : DI X w tg e (diS te) := PI.imp (pi_str he) fun σ H R ⟨δ, M, q, re, rp, h, c⟩ => ⟨δ, M, _, re, rp, h, fun d M1 v H1 q1 f1 r1 n1 => by
  cases d with
  | str x => cases n1; exact ⟨x, rfl, c _ _ M1 H1 q1 f1 r1 _ it_str⟩
  | _ => exact q1.elim⟩
/-- enumerate of a list -/
def enD (ds : List D) : List D := (List.range ds.length).zipWith (fun (i : Nat) d => D.tup [.int (i : Nat), d]) ds
theorem enD_length (ds : List D) : (enD ds).length = ds.length := by simp [enD]
theorem enD_get {ds : List D} {i : Nat} {d : D} (h : ds[i]? = some d) : (enD ds)[i]? = some (.tup [.int (i : Nat), d]) := by
  have hl := (List.getElem?_eq_some_iff.mp h).1
  unfold enD
  rw [List.getElem?_zipWith, h, List.getElem?_range hl]
theorem new_pair {K : PySem.W.Frag} {M : MH} {H : Hp} {T : Addr} {x y : V} {d d' : D} (r : Rep K H M) (hT : H T = none) (n : Dn K H x d) (n' : Dn K H y d') : Rep K (upd H T (.tup [x, y])) M ∧ Fr M H M (upd H T (.tup [x, y])) ∧ Dn K (upd H T (.tup [x, y])) (.ref T) (.tup [d, d']) :=
  ⟨r.laid hT, Fr.laid hT, .tup upd_same (.cons (n.ext (Ext.new hT)) (.cons (n'.ext (Ext.new hT)) .nil))⟩
theorem it_enum {K : PySem.W.Frag} {M0 : MH} {H0 : Hp} {a : Addr} {ds : List D} {ok : MH → Prop} (h : ∀ H M, Fr M0 H0 M H → Rep K H M → ok M → ∃ vs, SqL K H a vs ∧ DnL K H vs ds) : ItOk K (Ite K a) (enD ds) ok M0 H0 := fun i H M f r o => by
  obtain ⟨vs, hs, hn⟩ := h H M f r o
  refine ⟨fun x hx => ?_, fun hl => ⟨vs, hs, by rw [hn.length]; rw [enD_length] at hl; exact hl⟩⟩
  have hi : i < ds.length := by
    have := (List.getElem?_eq_some_iff.mp hx).1
    rwa [enD_length] at this
  rw [enD_get (List.getElem?_eq_getElem hi)] at hx
  cases hx
  obtain ⟨w, hw, nw⟩ := hn.get (List.getElem?_eq_getElem hi)
  refine ⟨⟨vs, w, hs, hw⟩, fun y H' ⟨T, z, ey, hT, eH, hz⟩ => ?_⟩
  subst ey; subst eH
  have := hz vs hs
  rw [hw] at this
  cases this
  exact new_pair r hT (.int _) nw
def diEM (t : DTA) : DTI := fun δ M q => t δ M fun ds M1 => q (enD ds) (fun _ => True) M1
theorem di_enumM {t : DTA} (hg : Gl X "enumerate") (hm : X.mg "enumerate" = none) (ha : DL1 X w e t) (hs : starEach [e] X.env = [(false, eval e X.env)] := by rfl) (hs2 : starEach [e] X.env = (false, eval e X.env) :: starEach [] X.env := by rfl) :
    DI X w (.Tuple elts kk tpos) (.Call (.Name "enumerate" p) [e] [] pos) (diEM t) :=
  PI.imp (pi_enum hg hm (pa_cons ha pa_nil hs2) hs) fun σ H R ⟨δ, M, q, re, rp, h, c⟩ => ⟨δ, M, _, re, rp, h, fun ds M1 a vs H1 q1 f1 r1 _ m1 h1 n1 =>
    ⟨a, vs, rfl, SqL.of h1, c _ _ M1 H1 q1 f1 r1 _ (it_enum fun H2 M2 f2 r2 _ => ⟨vs, SqL.of (f2.fr a _ m1 h1).1, n1.ext f2.ext⟩)⟩⟩
def diE (ta : DTA) : DTI := fun δ M q => ta δ M fun ds1 M1 => match ds1 with
  | [d] => ∃ ds, lstOf M1 d = some ds ∧ q (enD ds) (fun M => lstOf M d = some ds) M1
  | _ => False
theorem di_enum (hg : Gl X "enumerate") (hm : X.mg "enumerate" = none) (ha : DA X w [e] ta) (hs : starEach [e] X.env = [(false, eval e X.env)] := by rfl) :
    DI X w (.Tuple elts kk tpos) (.Call (.Name "enumerate" p) [e] [] pos) (diE ta) :=
  PI.imp (pi_enum hg hm ha hs) fun σ H R ⟨δ, M, q, re, rp, h, c⟩ => ⟨δ, M, _, re, rp, h, fun ds1 M1 vs H1 q1 f1 r1 n1 => by
    split at q1
    · rename_i d
      obtain ⟨v, rfl, n2⟩ := n1.one_inv
      obtain ⟨ds, e, q1⟩ := q1
      obtain ⟨a, ws, rfl, hs, hn⟩ := lstOf_is r1 n2 e
      refine ⟨a, ws, rfl, hs, c _ _ M1 H1 q1 f1 r1 _ (it_enum fun H2 M2 f2 r2 o => ?_)⟩
      obtain ⟨a', us, e', h1, h2⟩ := sq_now n2 f2 r2 o
      cases e'
      exact ⟨us, h1, h2⟩
    · exact q1.elim⟩
/-- zip of two -/
def zpD (xs ys : List D) : List D := xs.zipWith (fun x y => D.tup [x, y]) ys
theorem it_zip {K : PySem.W.Frag} {M0 : MH} {H0 : Hp} {a b : Addr} {xs ys : List D} {ok : MH → Prop} (h : ∀ H M, Fr M0 H0 M H → Rep K H M → ok M → ∃ vs ws, SqL K H a vs ∧ DnL K H vs xs ∧ SqL K H b ws ∧ DnL K H ws ys) : ItOk K (Itz K a b) (zpD xs ys) ok M0 H0 := fun i H M f r o => by
  obtain ⟨vs, ws, hs, hn, ht, hm⟩ := h H M f r o
  refine ⟨fun x hx => ?_, fun hl => ⟨vs, ws, hs, ht, by rw [hn.length, hm.length]; unfold zpD at hl; rw [List.length_zipWith] at hl; omega⟩⟩
  unfold zpD at hx
  rw [List.getElem?_zipWith] at hx
  cases q1 : xs[i]? with
  | none => rw [q1] at hx; cases hx
  | some d1 =>
    cases q2 : ys[i]? with
    | none => rw [q1, q2] at hx; cases hx
    | some d2 =>
      rw [q1, q2] at hx
      cases hx
      obtain ⟨w1, hw1, nw1⟩ := hn.get q1
      obtain ⟨w2, hw2, nw2⟩ := hm.get q2
      refine ⟨⟨vs, ws, w1, w2, hs, ht, hw1, hw2⟩, fun y H' ⟨T, z, z', ey, hT, eH, hz, hz'⟩ => ?_⟩
      subst ey; subst eH
      have := hz vs hs
      rw [hw1] at this
      cases this
      have := hz' ws ht
      rw [hw2] at this
      cases this
      exact new_pair r hT nw1 nw2
theorem it_zipT {K : PySem.W.Frag} {M0 : MH} {H0 : Hp} {a b : Addr} {xs ys : List D} {ok : MH → Prop} (h : ∀ H M, Fr M0 H0 M H → Rep K H M → ok M → ∃ vs ws, SqT K H a vs ∧ DnL K H vs xs ∧ SqT K H b ws ∧ DnL K H ws ys) : ItOk K (RZ.ItzT K a b) (zpD xs ys) ok M0 H0 := fun i H M f r o => by
  obtain ⟨vs, ws, hs, hn, ht, hm⟩ := h H M f r o
  refine ⟨fun x hx => ?_, fun hl => ⟨vs, ws, hs, ht, by rw [hn.length, hm.length]; unfold zpD at hl; rw [List.length_zipWith] at hl; omega⟩⟩
  unfold zpD at hx
  rw [List.getElem?_zipWith] at hx
  cases q1 : xs[i]? with
  | none => rw [q1] at hx; cases hx
  | some d1 =>
    cases q2 : ys[i]? with
    | none => rw [q1, q2] at hx; cases hx
    | some d2 =>
      rw [q1, q2] at hx
      cases hx
      obtain ⟨w1, hw1, nw1⟩ := hn.get q1
      obtain ⟨w2, hw2, nw2⟩ := hm.get q2
      refine ⟨⟨vs, ws, w1, w2, hs, ht, hw1, hw2⟩, fun y H' ⟨T, z, z', ey, hT, eH, hz, hz'⟩ => ?_⟩
      subst ey; subst eH
      have := hz vs hs
      rw [hw1] at this
      cases this
      have := hz' ws ht
      rw [hw2] at this
      cases this
      exact new_pair r hT nw1 nw2
/-- two lists, or two tuples, that stay -/
def diZ (ta : DTA) : DTI := fun δ M q => ta δ M fun ds M1 => match ds with
  | [d, d'] => (∃ xs ys, tupOf d = some xs ∧ tupOf d' = some ys ∧ q (zpD xs ys) (fun _ => True) M1) ∨ (∃ xs ys, lstOf M1 d = some xs ∧ lstOf M1 d' = some ys ∧ q (zpD xs ys) (fun M => lstOf M d = some xs ∧ lstOf M d' = some ys) M1)
  | _ => False
theorem di_zip (hg : Gl X "zip") (hm : X.mg "zip" = none) (ha : DA X w [e, e2] ta) (hs : starEach [e, e2] X.env = (false, eval e X.env) :: starEach [e2] X.env := by rfl) (hpl : (backTo pos (starEach [e2] X.env)).any (·.1) = false := by rfl) :
    DI X w (.Tuple elts kk tpos) (.Call (.Name "zip" p) [e, e2] [] pos) (diZ ta) :=
  PI.imp (RZ.pi_zipA hg hm ha hs hpl) fun σ H R ⟨δ, M, q, re, rp, h, c⟩ => ⟨δ, M, _, re, rp, h, fun ds1 M1 vs H1 q1 f1 r1 n1 => by
    split at q1
    · rename_i d d'
      obtain ⟨v, w, rfl, n2, n3⟩ := n1.two_inv
      rcases q1 with ⟨xs, ys, e1, e2, q1⟩ | ⟨xs, ys, e1, e2, q1⟩
      · obtain ⟨a, us, rfl, hs, hn⟩ := tupOf_is n2 e1
        obtain ⟨b, ws, rfl, ht, hm⟩ := tupOf_is n3 e2
        refine ⟨a, b, us, ws, rfl, .inr ⟨hs, ht, c _ _ M1 H1 q1 f1 r1 _ (it_zipT fun H2 M2 f2 r2 _ => ?_)⟩⟩
        obtain ⟨_, us', ea, hs', hn'⟩ := tupOf_is (n2.ext f2.ext) e1
        obtain ⟨_, ws', eb, ht', hm'⟩ := tupOf_is (n3.ext f2.ext) e2
        cases ea; cases eb
        exact ⟨us', ws', hs', hn', ht', hm'⟩
      · obtain ⟨a, us, rfl, hs, hn⟩ := lstOf_is r1 n2 e1
        obtain ⟨b, ws, rfl, ht, hm⟩ := lstOf_is r1 n3 e2
        refine ⟨a, b, us, ws, rfl, .inl ⟨hs, ht, c _ _ M1 H1 q1 f1 r1 _ (it_zip fun H2 M2 f2 r2 o => ?_)⟩⟩
        obtain ⟨_, us', ea, hs', hn'⟩ := sq_now n2 f2 r2 o.1
        obtain ⟨_, ws', eb, ht', hm'⟩ := sq_now n3 f2 r2 o.2
        cases ea; cases eb
        exact ⟨us', ws', hs', hn', ht', hm'⟩
    · exact q1.elim⟩
end
end DL
/-! DL: module constants, or by truth, dicts walked, made of pairs, sorted, three names at once. -/
namespace DL
open PySem PySem.Spec PyProof.Rows L2
section
variable {X : Cx} {w : XW} {a b e tg : Expr} {ta tb te : DTE} {t : DTA} {p pos apos cpos : Pos} {x : Str}
/-! ### constants of the module -/
theorem de_globI {n : Int} (h : ∃ t, X.mg x = some (.int n t)) (hg : Gl X x := by rfl) (hd : (x == ("__debug__" : Str)) = false := by decide) : DE X w (.Name x pos) (dC (.int n)) := by
  obtain ⟨t, h⟩ := h
  exact de_const (v := .int n) (pe_glob (v := .int n) hg h ⟨t, rfl⟩ hd) fun _ => .int n
theorem de_globS {n : Str} (h : ∃ t, X.mg x = some (.str n t)) (hg : Gl X x := by rfl) (hd : (x == ("__debug__" : Str)) = false := by decide) : DE X w (.Name x pos) (dC (.str n)) := by
  obtain ⟨t, h⟩ := h
  exact de_const (v := .str n) (pe_glob (v := .str n) hg h ⟨t, rfl⟩ hd) fun _ => .str n
theorem de_globA {f : Addr} {d : D} (h : X.mg x = some (.ref f)) (n : ∀ H, Dn X.K H (.ref f) d) (hg : Gl X x := by rfl) (hd : (x == ("__debug__" : Str)) = false := by decide) : DE X w (.Name x pos) (dC d) :=
  de_const (v := .ref f) (pe_glob (v := .ref f) hg h rfl hd) n

/-! ### a or b, a a list -/
def dOrT (ta tb : DTE) : DTE := fun δ M k => ta δ M fun x M1 => ∃ ds, lstOf M1 x = some ds ∧ if ds.isEmpty = true then tb δ M1 k else k x M1
theorem de_orT {rest : List Expr} (ha : DE X w a ta) (hb : DE X w (.BoolOp .Or (b :: rest) pos) tb) : DE X w (.BoolOp .Or (a :: b :: rest) pos) (dOrT ta tb) :=
  PE.imp (pe_orT ha hb) fun σ H Q ⟨δ, M, k, re, rp, h, c⟩ => ⟨δ, M, _, re, rp, h, fun d M1 v H1 ⟨ds, hl, q⟩ f1 r1 n1 => by
    obtain ⟨q0, vs, rfl, hs, hn⟩ := lstOf_is r1 n1 hl
    have e : vs.isEmpty = ds.isEmpty := by
      cases vs <;> cases ds <;> first | rfl | (have := hn.length; simp at this)
    refine ⟨!vs.isEmpty, .inl ⟨vs, hs, rfl⟩, ?_⟩
    rw [e]
    cases hh : ds.isEmpty with
    | true => rw [hh] at q; exact iteF ⟨δ, M1, k, re.on f1, r1, q, c.on f1⟩
    | false => rw [hh] at q; exact iteT ((c.on f1).here q r1 n1)⟩

/-! ### tuple(range(n)) -/
def dTupRg (ta : DTE) : DTE := fun δ M k => ta δ M fun d M1 => match d with
  | .int n => (0 ≤ n ∧ n ≤ 16777216) ∧ k (.tup (rgD 0 n.toNat)) M1
  | _ => False
theorem rg_dn {K : PySem.W.Frag} {H : Hp} (a : Int) (n : Nat) : DnL K H ((List.range n).map fun i => V.int (a + (i : Nat))) (rgD a n) := by
  unfold rgD
  induction List.range n with
  | nil => exact .nil
  | cons i r ih => exact .cons (.int _) ih
theorem de_tupRg {r : Expr} {p2 pos2 : Pos} (hc : X.calm = true) (hg : Gl X "tuple") (hm : X.mg "tuple" = none) (hg2 : Gl X "range") (hm2 : X.mg "range" = none) (ha : DE X w a ta)
    (na : starEach [a] X.env = (false, eval a X.env) :: starEach [] X.env := by rfl) (na2 : starEach [.Call (.Name "range" p2) [a] [] pos2] X.env = (false, eval (.Call (.Name "range" p2) [a] [] pos2) X.env) :: starEach [] X.env := by rfl) :
    DE X w (.Call (.Name "tuple" p) [.Call (.Name "range" p2) [a] [] pos2] [] pos) (dTupRg ta) :=
  PE.imp (pe_tupRg hc hg hm (prg_1 hg2 hm2 ha na) na2) fun σ H Q ⟨δ, M, k, re, rp, h, c⟩ => ⟨δ, M, _, re, rp, h, fun d M1 v H1 q f1 r1 n1 => by
    cases d with
    | int n =>
      cases n1
      obtain ⟨⟨h0, h1⟩, q⟩ := q
      refine ⟨n, rfl, RgOk.of_le (Int.le_refl 0) h1 (by decide) h0, fun p hp => ?_⟩
      have e : rgV 0 n = (List.range n.toNat).map fun i => V.int (0 + (i : Nat)) := by unfold rgV; rw [Int.sub_zero]
      rw [e]
      exact new_tup (c.on f1) r1 hp (rg_dn 0 n.toNat) q
    | _ => exact q.elim⟩

/-! ### three plain local names at once -/
theorem vals3 {a b c : V} {us : List Value} (h : Vals [a, b, c] us) : ∃ u1 u2 u3, us = [u1, u2, u3] ∧ RelV a u1 ∧ RelV b u2 ∧ RelV c u3 := by
  cases h with
  | cons p q =>
    cases q with
    | cons p' q' =>
      cases q' with
      | cons p'' q'' =>
        cases q''
        exact ⟨_, _, _, rfl, p, p', p''⟩
def tPar3 (i j l : Nat) (ta : TA) : TS := fun D σ H => ta σ H fun vs H1 => ∃ v1 v2 v3, vs = [v1, v2, v3] ∧ D.nx (((σ.set l (some v3)).set j (some v2)).set i (some v1)) H1
theorem ps_par3 {i j l : Nat} {x y z : Str} {a b c : Expr} {ta : TA} {px py pz pt : Pos} {kt k2 pt2} (hc : X.calm = true) (hN : X.N.Nodup) (hi : X.N[i]? = some x) (hj : X.N[j]? = some y) (hl : X.N[l]? = some z)
    (hx : X.env.scope.names.lookup x = some .local) (hy : X.env.scope.names.lookup y = some .local) (hz : X.env.scope.names.lookup z = some .local) (ha : PA X [a, b, c] ta)
    (hw : swappedStores [.Tuple [.Name x px, .Name y py, .Name z pz] kt pt] (.Tuple [a, b, c] k2 pt2) X.env = pure (some [x, y, z]))
    (hs : swapsWithSole [.Tuple [.Name x px, .Name y py, .Name z pz] kt pt] (.Tuple [a, b, c] k2 pt2) pos.line X.env = pure false) :
    PS X (.Assign [.Tuple [.Name x px, .Name y py, .Name z pz] kt pt] (.Tuple [a, b, c] k2 pt2) pos) (tPar3 i j l ta) := by
  refine ⟨fun pins s σ H D I h => ?_⟩
  rw [exec_Assign_arm]
  refine wpAny_bind (wpAny_standAt ?_)
  rw [hs]
  refine wpAny_bind (wpAny_pure ?_)
  rw [if_neg (by decide)]
  refine wpAny_bind (Tuple_ (thn (ha.run _ pins s σ H _ I h) fun us s1 ⟨vs, H1, I1, r1, q1⟩ => ?_))
  obtain ⟨v1, v2, v3, e1, q1⟩ := q1
  subst e1
  obtain ⟨u1, u2, u3, rfl, rv, rv', rv''⟩ := vals3 r1
  refine wpAny_newObj_type ?_ (by show 3 ≤ sizeLine; decide)
  have I2 : Inv X pins σ H1 { s1 with heap := s1.heap.push { cls := .type "tuple", data := .seq [u1, u2, u3].toArray } } := I1.kept (t' := s1.toks) fun b o e => Heap.get?_push_of_some _ e
  rw [hw]
  refine wpAny_bind (wpAny_pure ?_)
  show wpAny (model X.prog X.w) X.A (do rule "assign.swapped-stores"; let items ← unpackItems (.ref s1.heap.objs.size) 3 none; assignInOrder [fun v => bindName X.env z v, fun v => bindName X.env y v, fun v => bindName X.env x v] items.reverse; pure Flow.next) _ _ _
  refine wpAny_bind (wpAny_rule (wpAny_bind (unpackItems_tuple (items := #[u1, u2, u3]) (I.ok.hd hc) (IsTup.new s1.heap _) fun h' hx' => ?_)))
  have I3 := I2.kept (h' := h') (t' := s1.toks) fun b o e => hx' b o (Nat.ne_of_lt (Heap.lt_size e)) e
  show wpAny _ _ (assignInOrder [fun v => bindName X.env z v, fun v => bindName X.env y v, fun v => bindName X.env x v] [u3, u2, u1] >>= fun _ => pure Flow.next) _ _ _
  refine wpAny_bind (assignInOrder_cons (wpAny_bindName (store_ok I3 hN hl (.inl hz) rv'' (fun s2 I4 => ?_) (.inr hz))))
  refine assignInOrder_cons (wpAny_bindName (store_ok I4 hN hj (.inl hy) rv' (fun s3 I5 => ?_) (.inr hy)))
  refine assignInOrder_cons (wpAny_bindName (store_ok I5 hN hi (.inl hx) rv (fun s4 I6 => assignInOrder_nil (wpAny_pure ?_)) (.inr hx)))
  exact ⟨_, H1, I6, q1⟩
def dPar3 (i j l : Nat) (ta : DTA) : DTS := fun E δ M => ta δ M fun ds M1 => match ds with
  | [d, d', d''] => E.nx (((δ.set l (some d'')).set j (some d')).set i (some d)) M1
  | _ => False
theorem dnl3 {K : PySem.W.Frag} {H : Hp} {a b c : D} {vs : List V} (h : DnL K H vs [a, b, c]) : ∃ u1 u2 u3, vs = [u1, u2, u3] ∧ Dn K H u1 a ∧ Dn K H u2 b ∧ Dn K H u3 c := by
  cases h with
  | cons p q =>
    obtain ⟨v, v', rfl, n, n'⟩ := q.two_inv
    exact ⟨_, _, _, rfl, p, n, n'⟩
theorem ds_par3 {i j l : Nat} {x y z : Str} {a b c : Expr} {px py pz pt : Pos} {kt k2 pt2} (hc : X.calm = true) (hN : X.N.Nodup) (hi : X.N[i]? = some x) (hj : X.N[j]? = some y) (hl : X.N[l]? = some z)
    (hx : X.env.scope.names.lookup x = some .local) (hy : X.env.scope.names.lookup y = some .local) (hz : X.env.scope.names.lookup z = some .local) (ha : DA X w [a, b, c] t)
    (hw : swappedStores [.Tuple [.Name x px, .Name y py, .Name z pz] kt pt] (.Tuple [a, b, c] k2 pt2) X.env = pure (some [x, y, z]))
    (hs : swapsWithSole [.Tuple [.Name x px, .Name y py, .Name z pz] kt pt] (.Tuple [a, b, c] k2 pt2) pos.line X.env = pure false) :
    DS X w (.Assign [.Tuple [.Name x px, .Name y py, .Name z pz] kt pt] (.Tuple [a, b, c] k2 pt2) pos) (dPar3 i j l t) :=
  PS.imp (ps_par3 (i := i) (j := j) (l := l) hc hN hi hj hl hx hy hz ha hw hs) fun D σ H ⟨δ, M, E, re, rp, h, ct⟩ => ⟨δ, M, _, re, rp, h, fun ds M1 vs H1 q f r n => by
    split at q
    · rename_i d d' d''
      obtain ⟨u1, u2, u3, rfl, n1, n2, n3⟩ := dnl3 n
      exact ⟨u1, u2, u3, rfl, ct.nx _ M1 _ H1 q f ((((re.on f).set n3).set n2).set n1) r⟩
    · exact q.elim⟩
end
end DL
/-! DL: dicts walked, made of pairs; sorted. -/
namespace DL
open PySem PySem.Spec PyProof.Rows L2
section
variable {X : Cx} {w : XW} {a b e tg : Expr} {ta tb te : DTE} {t : DTA} {p pos apos cpos : Pos} {x : Str}

/-! ### a dict that is locked while it is walked -/
/-- a fresh list made while the dict at a is locked -/
def dLockL (t : DTA) : DTA := fun δ M k => ∃ a kvs, M a = some (.dT kvs) ∧ ∀ o ks, t δ (put M a (.rT o ks kvs)) fun ds M' => M' a = some (.rT o ks kvs) ∧ k ds (put M' a (.dT kvs))
theorem dl_lock (h : DL1 X w e t) : DL1 X w e (dLockL t) := PE.imp (pe_lock h) fun σ H Q ⟨δ, M, k, re, rp, ⟨a, kvs, m, ht⟩, c⟩ => by
  obtain ⟨ks, ha, hk⟩ := rp _ _ m
  refine ⟨a, .dT ks, ha, trivial, fun od => ?_⟩
  have e1 : Ext H (upd H a (.frz od (.dT ks))) := ext_dT ha
  have f1 : Fr M H (put M a (.rT od ks kvs)) (upd H a (.frz od (.dT ks))) := Fr.set m e1
  refine ⟨δ, _, _, re.on f1, rp.put e1 ⟨upd_same, hk.ext e1⟩, ht od ks, fun ds M' p vs H' ⟨m', q⟩ f2 r2 hp mp hl n => ?_⟩
  obtain ⟨ha', hk'⟩ := r2 _ _ m'
  have e2 : Ext H' (upd H' a (.dT ks)) := Ext.set ha' trivial
  have np : p ≠ a := fun z => by rw [z] at hp; rw [upd_same] at hp; cases hp
  refine ⟨ha', c ds _ p vs _ q ((f1.trans f2).trans (Fr.set m' e2)) (r2.put e2 ⟨ks, upd_same, hk'.ext e2⟩) (upd_there hp) (by rw [put_ne np]; exact mp) (by rw [upd_ne np]; exact hl) (n.ext e2)⟩
/-- the keys of a locked dict, tuples -/
def ktD (kvs : List (List Key × D)) : List D := kvs.map fun kv => D.tup (kv.1.map kD)
def diK (te : DTE) : DTI := fun δ M q => te δ M fun d M1 => match d with
  | .obj a => ∃ o ks kvs, M1 a = some (.rT o ks kvs) ∧ q (ktD kvs) (fun M => M a = some (.rT o ks kvs)) M1
  | _ => False
theorem kv_get {K : PySem.W.Frag} {H : Hp} {κ : Type} : ∀ {ks : List (κ × V)} {kvs : List (κ × D)} {i : Nat} {k : κ} {d : D}, DnKV K H ks kvs → kvs[i]? = some (k, d) → ∃ v, ks[i]? = some (k, v) ∧ Dn K H v d
  | _, _, i, k, d, .nil, e => by simp at e
  | (a, v) :: _, (b, d') :: _, 0, k, d, .cons ⟨h, n⟩ _, e => by
    have h : a = b := h
    simp at e
    obtain ⟨rfl, rfl⟩ := e
    subst h
    exact ⟨v, rfl, n⟩
  | _ :: _, _ :: _, i + 1, k, d, .cons _ r, e => by
    obtain ⟨v, h1, h2⟩ := kv_get (i := i) r (by simpa using e)
    exact ⟨v, by simpa using h1, h2⟩
theorem it_keysT {K : PySem.W.Frag} {M0 : MH} {H0 : Hp} {a : Addr} {o : Obj} {ks : List (List Key × V)} {kvs : List (List Key × D)} : ItOk K (Itkt a o ks) (ktD kvs) (fun M => M a = some (.rT o ks kvs)) M0 H0 := fun i H M f r m => by
  obtain ⟨ha, hk⟩ := r _ _ m
  refine ⟨fun d hd => ?_, fun hl => ⟨ha, by rw [kv_len hk]; simpa [ktD] using hl⟩⟩
  unfold ktD at hd
  rw [List.getElem?_map] at hd
  cases q : kvs[i]? with
  | none => rw [q] at hd; cases hd
  | some kv =>
    obtain ⟨k, d'⟩ := kv
    rw [q] at hd
    cases hd
    obtain ⟨v, h1, h2⟩ := kv_get hk q
    refine ⟨⟨ha, (List.getElem?_eq_some_iff.mp h1).1⟩, fun y H' ⟨e, k', v', b, h3, h4, h5⟩ => ?_⟩
    subst e
    rw [h1] at h3
    cases h3
    subst h4
    exact ⟨r, Fr.refl, .tup h5 (kDl_dn k)⟩
theorem di_keys (he : DE X w e te) : DI X w tg e (diK te) := PI.imp (pi_keys he) fun σ H R ⟨δ, M, q, re, rp, h, c⟩ => ⟨δ, M, _, re, rp, h, fun d M1 v H1 q1 f1 r1 n1 => by
  cases d with
  | obj a =>
    have e := n1.obj_inv
    subst e
    obtain ⟨o, ks, kvs, m, q1⟩ := q1
    obtain ⟨ha, hk⟩ := r1 _ _ m
    exact ⟨a, o, rfl, .inr ⟨ks, ha, c _ _ M1 H1 q1 f1 r1 _ it_keysT⟩⟩
  | _ => exact q1.elim⟩

/-! ### dict(pairs), the keys tuples -/
def mergeT (ps : List (List Key × V)) : List (List Key × V) := ps.foldl (fun acc p => putK acc p.1 p.2) []
def mergeD (ps : List (List Key × D)) : List (List Key × D) := ps.foldl (fun acc p => putD acc p.1 p.2) []
theorem merge_rel {K : PySem.W.Frag} {H : Hp} : ∀ {ks : List (List Key × V)} {kvs : List (List Key × D)} {as : List (List Key × V)} {bs : List (List Key × D)}, DnKV K H ks kvs → DnKV K H as bs → DnKV K H (ks.foldl (fun acc p => putK acc p.1 p.2) as) (kvs.foldl (fun acc p => putD acc p.1 p.2) bs)
  | _, _, _, _, .nil, h => h
  | (a, v) :: ks, (b, d) :: kvs, _, _, .cons ⟨e, n⟩ r, h => by
    have e : a = b := e
    subst e
    exact merge_rel (ks := ks) (kvs := kvs) r (putD_rel a h n)
/-- a pair (key, value) that is tracked -/
def PairAt (H : Hp) (p : Addr) (k : List Key) (v : V) : Prop := ∃ b, H p = some (.tup [.ref b, v]) ∧ H b = some (.tup (k.map kV))
def rDictT (K : PySem.W.Frag) : List V → Hp → VK → Prop := fun xs H Q => ∃ (a : Addr) (ps : List Addr) (kvs : List (List Key × V)), xs = [.ref a] ∧ (SqL K H a (ps.map V.ref) ∨ SqT K H a (ps.map V.ref)) ∧ Paired (fun p kv => PairAt H p kv.1 kv.2) ps kvs ∧
    ∀ p, H p = none → Q (.ref p) (upd H p (.dT (mergeT kvs)))

theorem call_tupleA : CallR X (.type "tuple") (rTupleA X.K) := by
  intro pins s σ H xs us Q I r h
  obtain ⟨p, ys, rfl, h⟩ := h
  rcases h with ⟨hq, q | q⟩ | h
  · exact call_tuple_of pins s σ H _ us Q I r ⟨p, ys, rfl, .inl ⟨hq, q⟩⟩
  · obtain ⟨u, rfl, rx⟩ := vals1 r
    cases rx
    obtain ⟨its, r', pl, hz⟩ := I.list hq
    have hlen := r'.length
    refine call_tuple_list pl.isList (fun h' kp => ?_) (by simp only [List.size_toArray] <;> omega)
    have I1 : Inv X pins σ H { s with heap := h' } := I.kept (t' := s.toks) kp
    have I2 : Inv X pins σ (upd H h'.objs.size (.frz { cls := .type "tuple", data := .seq its.toArray } (.tup ys))) { s with heap := h'.push { cls := .type "tuple", data := .seq its.toArray } } :=
      I1.laid (t' := s.toks) (fun b o e => Heap.get?_push_of_some _ e) (Nat.le_refl _) (show ObjOk X.prog X.w _ _ _ (.frz _ (.tup ys)) from ⟨Heap.get?_push_size _ rfl, hz, its, r', IsTup.new _ _⟩)
    exact ⟨.ref h'.objs.size, _, I2, rfl, q _ _ rfl (I1.hok.fresh (Nat.le_refl _))⟩
  · exact call_tuple_of pins s σ H _ us Q I r ⟨p, ys, rfl, .inr h⟩

/-! what the pairs are at the library's level -/
theorem pairsT_of {pins : List (Addr × Obj)} {σ : L2.St} {H : Hp} {s : Shared} (I : Inv X pins σ H s) : ∀ {ps : List Addr} {kvs : List (List Key × V)}, Paired (fun p kv => DL.PairAt H p kv.1 kv.2) ps kvs →
    ∃ xs : List (List Key × Addr × Value), KT H kvs xs ∧ xs.length = ps.length ∧ (∀ x ∈ xs, (tupleKind (mixKind X.prog X.w)).is s.heap x.1 x.2.1) ∧ ∀ (j : Nat) (q : List Key × Addr × Value), xs[j]? = some q → ∃ b : Addr, ps[j]? = some b ∧ IsTup s.heap b #[.ref q.2.1, q.2.2]
  | _, _, .nil => ⟨[], .nil, rfl, fun _ h => by simp at h, fun j q e => by simp at e⟩
  | _, _, .cons (a := p) (b := kv) ⟨b, h1, h2⟩ t => by
    obtain ⟨xs, r, hl, hk, hp⟩ := pairsT_of I t
    obtain ⟨its, rv, ht, _⟩ := I.tuple (SqT.of h1)
    obtain ⟨u, y, ei, ru, ry⟩ := vals2 rv
    subst ei
    cases ru
    refine ⟨(kv.1, b, y) :: xs, .cons ⟨rfl, h2, ry⟩ r, by rw [List.length_cons, List.length_cons, hl], fun x hx => ?_, fun j q e => ?_⟩
    · rcases List.mem_cons.mp hx with e | hx
      · subst e; exact key_of I.hok h2
      · exact hk x hx
    · cases j with
      | zero =>
        have e' : (kv.1, b, y) = q := Option.some.inj e
        subst e'
        exact ⟨p, rfl, ht⟩
      | succ j =>
        obtain ⟨b, e1, e2⟩ := hp j q (by simpa using e)
        exact ⟨b, by simpa using e1, e2⟩
theorem KT.storeAll {H : Hp} : ∀ {kvs : List (List Key × V)} {xs : List (List Key × Addr × Value)} {as : List (List Key × V)} {bs : List (List Key × Addr × Value)}, KT H kvs xs → KT H as bs → KT H (kvs.foldl (fun acc p => putK acc p.1 p.2) as) (storedAllH bs xs)
  | _, _, _, _, .nil, h => h
  | (k, v) :: kvs, (k', a, u) :: xs, _, _, .cons ⟨e, hb, rv⟩ r, h => by
    have e : k = k' := e
    subst e
    exact KT.storeAll (kvs := kvs) (xs := xs) r (KT.put h k hb rv)
/-- dict(pairs) of a plain list or of a tuple whose object is known -/
theorem dictT_raw {pins : List (Addr × Obj)} {s : Shared} {σ : L2.St} {H : Hp} {a : Addr} {ps : List Addr} {kvs : List (List Key × V)} {Q : VK} {T : String} (I : Inv X pins σ H s) (hc : X.calm = true) (hu : X.A.units + 64 < cLine) (hp : Paired (fun p kv => DL.PairAt H p kv.1 kv.2) ps kvs) (hz : ps.length ≤ sizeLine)
    (hT : (T = "list" ∧ PlainSeq "list" s.heap a (ps.map Value.ref).toArray) ∨ (T = "tuple" ∧ PlainSeq "tuple" s.heap a (ps.map Value.ref).toArray))
    (q : ∀ p, H p = none → Q (.ref p) (upd H p (.dT (mergeT kvs)))) : wpAny (model X.prog X.w) X.A (call (.type "dict") [.ref a]) (EP X pins σ Q) X.xe s := by
  obtain ⟨xs, rel, hl, hk, hpr⟩ := pairsT_of I hp
  have st := (tupleKind (mixKind X.prog X.w))
  have fin : ∀ h' tk, h'.DictOfH (tupleKind (mixKind X.prog X.w)) s.heap.objs.size (storedAllH [] xs) → (∀ b o, b ∉ ([] : List Addr) → s.heap.get? b = some o → h'.get? b = some o) → EP X pins σ Q (.ref s.heap.objs.size) { s with heap := h', toks := tk } := by
    intro h' tk hd hkp
    have hm : (s.heap.objs.size == sysModules) = false := beq_eq_false_iff_ne.mpr (Nat.ne_of_gt I.big)
    have rel2 : KT H (mergeT kvs) (storedAllH [] xs) := KT.storeAll rel .nil
    have hlen : (mergeT kvs).length ≤ sizeLine := by
      have e1 : (mergeT kvs).length = (storedAllH [] xs).length := Paired.length rel2
      have e2 := storedAllH_length xs []
      rw [e1]
      simp only [List.length_nil, Nat.zero_add] at e2
      omega
    obtain ⟨o, es, ep, ho, hex, hdat, he, _, hn⟩ := hd
    have k : ∀ b u, s.heap.get? b = some u → h'.get? b = some u := fun b u e => hkp b u (by simp) e
    have hf := I.hok.fresh (Nat.le_refl s.heap.objs.size)
    exact ⟨.ref s.heap.objs.size, upd H s.heap.objs.size (.dT (mergeT kvs)), I.laid (t' := tk) k (Nat.le_refl _) (show ObjOk X.prog X.w _ _ _ (.dT (mergeT kvs)) from
      ⟨hlen, hm, storedAllH [] xs, rel2.keeps fun b ys e => by rw [upd_ne (ne_of_none e hf)]; exact e, o, es, ep, ho, hex, hdat, he, hn⟩), rfl, q _ hf⟩
  have hst : KeysStay (tupleKind (mixKind X.prog X.w)) s.heap s.heap.objs.size [] xs := by
    intro h' hkp x hx
    obtain ⟨o, its, n, h1, h2, h3, h4⟩ := hk x hx
    have hne : x.2.1 ≠ s.heap.objs.size := Nat.ne_of_lt (Heap.lt_size h1)
    exact ⟨o, its, n, hkp _ _ hne (by simp) h1, h2, h3, h4⟩
  have hrel : PairsHaveH (tupleKind (mixKind X.prog X.w)) ps.length (PairRel (xs.map fun x => (Value.ref x.2.1, x.2.2))) xs := by
    refine ⟨hl, fun i key v h => ?_⟩
    have h : (xs.map fun x => (Value.ref x.2.1, x.2.2))[i]? = some (key, v) := h
    rw [List.getElem?_map] at h
    cases q' : xs[i]? with
    | none => rw [q'] at h; cases h
    | some x =>
      obtain ⟨k, b, u⟩ := x
      rw [q'] at h
      cases h
      exact ⟨k, b, rfl, rfl⟩
  have hlen : (xs.map fun x => (Value.ref x.2.1, x.2.2)).length = ps.length := by rw [List.length_map, hl]
  have items : PairItems s.heap (ps.map Value.ref).toArray (fun j => ps.getD j 0) (xs.map fun x => (Value.ref x.2.1, x.2.2)) := by
    refine ⟨by simp [hl], fun j k v hj => ?_⟩
    rw [List.getElem?_map] at hj
    cases q' : xs[j]? with
    | none => rw [q'] at hj; cases hj
    | some x =>
      rw [q'] at hj
      cases hj
      obtain ⟨b, e1, e2⟩ := hpr j x q'
      have e3 : ps.getD j 0 = b := by rw [List.getD_eq_getElem?_getD, e1]; rfl
      refine ⟨by simp [e1], ?_⟩
      show PySem.PairAt s.heap (ps.getD j 0) _ _
      rw [e3]
      exact .inl e2
  rcases hT with ⟨eT, pl⟩ | ⟨eT, pl⟩
  · have P := PairArg.list (prog := X.prog) (w := X.w) a (ps.map Value.ref).toArray (fun j => ps.getD j 0) (xs.map fun x => (Value.ref x.2.1, x.2.2))
    rw [hlen] at P
    exact call_dict_pairsH P (I.ok.hd hc) (by show X.A.units + 1 + 1 < cLine; omega) ⟨pl, items⟩ hrel hst hz fin
  · have P := PairArg.tuple (prog := X.prog) (w := X.w) a (ps.map Value.ref).toArray (fun j => ps.getD j 0) (xs.map fun x => (Value.ref x.2.1, x.2.2))
    rw [hlen] at P
    exact call_dict_pairsH P (I.ok.hd hc) (by show X.A.units + 1 + 1 < cLine; omega) ⟨pl, items⟩ hrel hst hz fin

/-- dict(pairs): of a list, or of a tuple whose object is known -/
def rDictTT (K : PySem.W.Frag) : List V → Hp → VK → Prop := fun xs H Q => ∃ (a : Addr) (ps : List Addr) (kvs : List (List Key × V)), xs = [.ref a] ∧ (SqL K H a (ps.map V.ref) ∨ ∃ o, H a = some (.frz o (.tup (ps.map V.ref))) ∧ o.dict = none) ∧ Paired (fun p kv => DL.PairAt H p kv.1 kv.2) ps kvs ∧
    ∀ p, H p = none → Q (.ref p) (upd H p (.dT (mergeT kvs)))
theorem call_dictTT (hc : X.calm = true) (hu : X.A.units + 64 < cLine) : CallR X (.type "dict") (rDictTT X.K) := by
  intro pins s σ H xs us Q I r h
  obtain ⟨a, ps, kvs, rfl, hs, hp, q⟩ := h
  obtain ⟨u, rfl, rx⟩ := vals1 r
  cases rx
  rcases hs with hs | ⟨o, ho, hd⟩
  · obtain ⟨its, rv, pl, hz⟩ := I.list hs
    have ei := refs_at rv
    subst ei
    rw [List.length_map] at hz
    obtain ⟨o, n, ho, hcl, hd, hdat⟩ := pl
    exact dictT_raw (T := "list") I hc hu hp hz (.inl ⟨rfl, o, n, ho, hcl, hd, hdat⟩) q
  · obtain ⟨h1, hz, its, rv, ht⟩ := I.hok a _ ho
    have ei := refs_at rv
    subst ei
    rw [List.length_map] at hz
    obtain ⟨o', ho', hcl, n, hdat⟩ := ht
    rw [h1] at ho'
    cases ho'
    exact dictT_raw (T := "tuple") I hc hu hp hz (.inr ⟨rfl, o, n, h1, hcl, hd, hdat⟩) q
/-- pairs as data -/
def pairsD : List D → Option (List (List Key × D))
  | [] => some []
  | .tup [k, v] :: r => (tupKey k).bind fun k' => (pairsD r).map fun r' => (k', v) :: r'
  | _ => none
theorem pairs_dn {K : PySem.W.Frag} {H : Hp} : ∀ {ds : List D} {vs : List V} {kvs : List (List Key × D)}, pairsD ds = some kvs → DnL K H vs ds → ∃ (ps : List Addr) (ks : List (List Key × V)), vs = ps.map V.ref ∧ Paired (fun p kv => DL.PairAt H p kv.1 kv.2) ps ks ∧ DnKV K H ks kvs
  | [], _, kvs, e, .nil => by cases e; exact ⟨[], [], rfl, .nil, .nil⟩
  | d :: ds, _, kvs, e, .cons n ns => by
    unfold pairsD at e
    split at e
    · rename_i he; cases he
    · rename_i k v r he
      cases he
      obtain ⟨k', e1, e⟩ := Option.bind_eq_some_iff.mp e
      obtain ⟨r', e2, e⟩ := Option.map_eq_some_iff.mp e
      subst e
      obtain ⟨ps, ks, rfl, hp, hk⟩ := pairs_dn e2 ns
      obtain ⟨a, xs, rfl, ha, hs⟩ := n.tup_inv
      obtain ⟨v1, v2, rfl, n1, n2⟩ := hs.two_inv
      obtain ⟨b, rfl, hb⟩ := tupKey_is n1 e1
      exact ⟨a :: ps, (k', v2) :: ks, rfl, .cons ⟨b, ha, hb⟩ hp, .cons ⟨rfl, n2⟩ hk⟩
    · cases e
theorem dict_fin {K : PySem.W.Frag} {M : MH} {H : Hp} {k : DK} {Q : VK} {ks : List (List Key × V)} {kvs : List (List Key × D)} (c : Cont K M H k Q) (r : Rep K H M) (hk : DnKV K H ks kvs) (h : ∀ p, M p = none → k (.obj p) (put M p (.dT (mergeD kvs)))) : ∀ p, H p = none → Q (.ref p) (upd H p (.dT (mergeT ks))) := fun p hp =>
  new_obj (u := .dT (mergeD kvs)) c r hp ⟨mergeT ks, upd_same, (merge_rel hk .nil).ext (Ext.new hp)⟩ (h p (r.free hp))
/-- of a tuple whose object is known -/
def rdDictTT : RDC
  | [.ftup ds], M, k => ∃ kvs, pairsD ds = some kvs ∧ ∀ p, M p = none → k (.obj p) (put M p (.dT (mergeD kvs)))
  | _, _, _ => False
theorem cd_dictTT {K : PySem.W.Frag} : CallD K (rDictTT K) rdDictTT := fun vs ds H M k Q n r h c => by
  unfold rdDictTT at h
  split at h
  · obtain ⟨v, rfl, n1⟩ := n.one_inv
    obtain ⟨kvs, e, h⟩ := h
    obtain ⟨a, o, xs, rfl, ha, ho, hs⟩ := n1.ftup_inv
    obtain ⟨ps, ks, rfl, hp, hk⟩ := pairs_dn e hs
    exact ⟨a, ps, ks, rfl, .inr ⟨o, ha, ho⟩, hp, dict_fin c r hk h⟩
  · exact h.elim
/-- of a list just made -/
def rdDictLT : RDC := fun ds M k => ∃ kvs, pairsD ds = some kvs ∧ ∀ p, M p = none → k (.obj p) (put M p (.dT (mergeD kvs)))
theorem ld_dictLT {K : PySem.W.Frag} : ListD K (rDictTT K) rdDictLT := fun p vs ds H M k Q hp mp n r ⟨kvs, e, h⟩ c => by
  obtain ⟨ps, ks, rfl, hp', hk⟩ := pairs_dn e n
  exact ⟨p, ps, ks, rfl, .inl (SqL.of hp), hp', dict_fin c r hk h⟩

/-! ### sorted, any length, any data of one kind -/
/-- P: what an item stands for; pd: the data by which it is ranked -/
def rSortA (K : PySem.W.Frag) : List V → Hp → VK → Prop := fun vs0 H Q => ∃ (a : Addr) (vs : List V) (α : Type) (xs : List α) (P : V → α → Prop) (pd : α → PyData), vs0 = [.ref a] ∧ SqL K H a vs ∧ Paired P vs xs ∧ (∀ v x, P v x → Dp K H v (pd x)) ∧
    PySem.W.AllAlike (xs.map pd) ∧ PySem.W.Sortable (xs.map pd) ∧ (∀ x ∈ xs, (pd x).depth ≤ 50) ∧ ∀ ws p, Paired P ws (xs.mergeSort (PySem.W.dataLe false pd)) → H p = none → Q (.ref p) (upd H p (.lst ws))
theorem each_of {α : Type} {R : Value → α → Prop} {P : V → α → Prop} (h : ∀ v u x, RelV v u → P v x → R u x) : ∀ {vs : List V} {us : List Value} {xs : List α}, Vals vs us → Paired P vs xs → PySem.W.EachIs R us xs
  | _, _, _, .nil, .nil => .nil
  | _, _, _, .cons r rs, .cons q qs => .cons (h _ _ _ r q) (each_of h rs qs)
theorem of_each {α : Type} {P : V → α → Prop} : ∀ {us : List Value} {xs : List α}, PySem.W.EachIs (fun u x => ∃ v, RelV v u ∧ P v x) us xs → ∃ vs, Vals vs us ∧ Paired P vs xs
  | _, _, .nil => ⟨[], .nil, .nil⟩
  | _, _, .cons ⟨v, r, q⟩ hs => by
    obtain ⟨vs, rs, qs⟩ := of_each hs
    exact ⟨v :: vs, .cons r rs, .cons q qs⟩
theorem call_sortA (hu : X.A.units + 64 < cLine) : CallR X (.builtin "sorted") (rSortA X.K) := by
  intro pins s σ H xs0 us Q I r h
  obtain ⟨a, vs, α, xs, P, pd, rfl, hs, hp, hd, hal, hk, hdep, q⟩ := h
  obtain ⟨its, rv, hl, hz⟩ := I.list hs
  rw [Vals.ref1 r]
  have hlen : xs.length = vs.length := (Paired.length hp).symm
  refine PySem.W.sorted_data (R := fun u x => ∃ v, RelV v u ∧ P v x) (enc := pd) hl.isList (each_of (fun v u x r q => ⟨v, r, q⟩) rv hp) (each_of (fun v u x r q => ?_) rv hp) hal hk (by rw [hlen]; exact hz) (fun x hx => by have := hdep x hx; omega) fun out h1 h2 => ?_
  · obtain ⟨as, e⟩ := Dp.reads I (pd x) v u (hd v x q) r
    exact ⟨as, e⟩
  · obtain ⟨ws, rw', hw⟩ := of_each h2
    obtain ⟨ep, he'⟩ := PyProof.Rows.sortedAll_at s.heap its out.toArray
    have hlen' : ws.length ≤ sizeLine := by
      rw [rw'.length, h1, hlen]; exact hz
    exact ⟨.ref _, upd H (s.heap.objs.size + 1) (.lst ws), I.laid (t' := s.toks) (fun _ _ => PyProof.Rows.sortedAll_old) (Nat.le_succ _) ⟨hlen', out, ep, rw', he'⟩, rfl, q ws _ hw (I.hok.fresh (Nat.le_succ _))⟩
/-- what is asked of data that are sorted -/
def SortOk (M : MH) (α : Type) (xs : List α) (enc : α → D) (pd : α → PyData) : Prop := (∀ x ∈ xs, Py M (enc x) (pd x)) ∧ PySem.W.AllAlike (xs.map pd) ∧ PySem.W.Sortable (xs.map pd) ∧ ∀ x ∈ xs, (pd x).depth ≤ 50
def rdSort (ds : List D) (M : MH) (k : List D → MH → Prop) : Prop := ∃ (α : Type) (xs : List α) (enc : α → D) (pd : α → PyData), ds = xs.map enc ∧ SortOk M α xs enc pd ∧ k ((xs.mergeSort (PySem.W.dataLe false pd)).map enc) M
def dSorted (t : DTA) : DTA := fun δ M k => t δ M fun ds M1 => rdSort ds M1 k
def dSortedO (te : DTE) : DTA := fun δ M k => te δ M fun d M1 => ∃ ds, lstOf M1 d = some ds ∧ rdSort ds M1 k
theorem dnl_paired {K : PySem.W.Frag} {H : Hp} {α : Type} {enc : α → D} : ∀ {vs : List V} {xs : List α}, DnL K H vs (xs.map enc) → Paired (fun v x => Dn K H v (enc x)) vs xs
  | _, [], .nil => .nil
  | _, x :: xs, .cons n ns => .cons n (dnl_paired ns)
theorem paired_dnl {K : PySem.W.Frag} {H : Hp} {α : Type} {enc : α → D} : ∀ {vs : List V} {xs : List α}, Paired (fun v x => Dn K H v (enc x)) vs xs → DnL K H vs (xs.map enc)
  | _, [], .nil => .nil
  | _, x :: xs, .cons n ns => .cons n (paired_dnl ns)
theorem paired_mem {α β : Type} {P : α → β → Prop} : ∀ {xs : List α} {ys : List β}, Paired P xs ys → Paired (fun x y => P x y ∧ y ∈ ys) xs ys
  | _, _, .nil => .nil
  | _, _, .cons h hs => (.cons ⟨h, List.mem_cons_self⟩ (L2.Paired.mapP (paired_mem hs) fun _ _ z => ⟨z.1, List.mem_cons_of_mem _ z.2⟩))
theorem sort_fin {K : PySem.W.Frag} {M M1 : MH} {H H1 : Hp} {k : List D → MH → Prop} {Q : VK} {a : Addr} {vs : List V} {ds : List D} (c : ContM K M H k Q) (f : Fr M H M1 H1) (r : Rep K H1 M1) (hs : SqL K H1 a vs) (n : DnL K H1 vs ds) (h : rdSort ds M1 k) : rSortA K [.ref a] H1 Q := by
  obtain ⟨α, xs, enc, pd, rfl, ⟨h1, h2, h3, h4⟩, q⟩ := h
  exact ⟨a, vs, α, xs, fun v x => Dn K H1 v (enc x) ∧ x ∈ xs, pd, rfl, hs, paired_mem (dnl_paired n), fun v x z => Py.dp r _ _ _ (h1 x z.2) z.1, h2, h3, h4,
    fun ws p hw hp => ContM.lay c f r hp (paired_dnl (L2.Paired.mapP hw fun _ _ z => z.1)) q⟩
theorem dl_sorted (hu : X.A.units + 64 < cLine) (hg : Gl X x) (hm : X.mg x = none) (hv : bootBuiltins x = some (.builtin "sorted")) (ha : DL1 X w e t) (hn : x ≠ "__name__" := by decide) (hdb : (x == ("__debug__" : Str)) = false := by decide)
    (he : starEach [e] X.env = (false, eval e X.env) :: starEach [] X.env := by rfl) (hpl : (backTo pos (starEach [] X.env)).any (·.1) = false := by rfl) : DL1 X w (.Call (.Name x p) [e] [] pos) (dSorted t) :=
  PE.imp (pe_callB (call_sortA hu) hg hm hv (pa_cons ha pa_nil he) hn hdb he hpl) fun σ H Q ⟨δ, M, k, re, rp, h, c⟩ => ⟨δ, M, _, re, rp, h, fun ds M1 p vs H1 q f1 r1 _ mp hp n1 =>
    sort_fin (M := M) (H := H) (k := k) (fun ds M' p vs H' a b c' d e' f' g => c ds M' p vs H' a b c' d e' f' g) f1 r1 (SqL.of hp) n1 q⟩
theorem dl_sortedO (hu : X.A.units + 64 < cLine) (hg : Gl X x) (hm : X.mg x = none) (hv : bootBuiltins x = some (.builtin "sorted")) (ha : DE X w e te) (hn : x ≠ "__name__" := by decide) (hdb : (x == ("__debug__" : Str)) = false := by decide)
    (he : starEach [e] X.env = (false, eval e X.env) :: starEach [] X.env := by rfl) (hpl : (backTo pos (starEach [] X.env)).any (·.1) = false := by rfl) : DL1 X w (.Call (.Name x p) [e] [] pos) (dSortedO te) :=
  PE.imp (pe_callB (call_sortA hu) hg hm hv (pa_cons ha pa_nil he) hn hdb he hpl) fun σ H Q ⟨δ, M, k, re, rp, h, c⟩ => ⟨δ, M, _, re, rp, h, fun d M1 v H1 ⟨ds, e, q⟩ f1 r1 n1 => by
    obtain ⟨a, vs, rfl, hs, hn⟩ := lstOf_is r1 n1 e
    exact sort_fin (M := M) (H := H) (k := k) (fun ds M' p vs H' a b c' d e' f' g => c ds M' p vs H' a b c' d e' f' g) f1 r1 hs hn q⟩
end
end DL
/-! DL: the forms one uses. -/
namespace DL
open PySem PySem.Spec PyProof.Rows L2
theorem big_line : (1000000 : Nat) < sizeLine := by rw [sizeLine_eq]; decide
theorem lt_line {n : Nat} (h : n ≤ 1000000) : n < sizeLine := Nat.lt_of_le_of_lt h big_line
theorem le_line {n : Nat} (h : n ≤ 1000000) : n ≤ sizeLine := Nat.le_of_lt (lt_line h)
/-- a comprehension whose turns change nothing -/
theorem lc_pure {ds : List D} {ok : MH → Prop} {M : MH} {δ : DSt} {gd : DTg} {tt : DTT} {te : DTE} {vs : List Nat} {k : List D → MH → Prop} (f : D → D) (p : D → Bool) (hok : ok M) (hl : ds.length ≤ 1000000)
    (h : ∀ d ∈ ds, ∃ δ2, gd d (wipeD δ vs) = some δ2 ∧ (∀ kb : Bool → MH → Prop, kb (p d) M → tt δ2 M kb) ∧ (p d = true → ∀ kk : DK, kk (f d) M → te δ2 M kk)) (hk : k ((ds.filter p).map f) M) :
    ∃ Iv : Nat → List D → MH → Prop, Iv 0 [] M ∧ ∀ i acc M, i ≤ ds.length → acc.length ≤ i → Iv i acc M → ok M ∧
      (∀ d, ds[i]? = some d → ∃ δ2, gd d (wipeD δ vs) = some δ2 ∧ tt δ2 M fun b M3 => if b = true then te δ2 M3 fun y M4 => acc.length < sizeLine ∧ ∃ M5, Sub M5 M4 ∧ Iv (i + 1) (acc ++ [y]) M5 else ∃ M5, Sub M5 M3 ∧ Iv (i + 1) acc M5) ∧
      (i = ds.length → k acc M) := by
  refine ⟨fun i acc M' => acc = ((ds.take i).filter p).map f ∧ M' = M, ⟨by simp, rfl⟩, ?_⟩
  rintro i acc M' hi ha ⟨rfl, rfl⟩
  refine ⟨hok, fun d hd => ?_, fun e => ?_⟩
  · obtain ⟨δ2, e, h1, h2⟩ := h d (List.mem_of_getElem? hd)
    have ht : ds.take (i + 1) = ds.take i ++ [d] := by rw [List.take_add_one, hd]; rfl
    refine ⟨δ2, e, h1 _ ?_⟩
    by_cases hp : p d = true
    · rw [if_pos hp]
      refine h2 hp _ ⟨lt_line (by have := List.length_filter_le p (ds.take i); simp at ha ⊢; omega), M', Sub.refl _, ?_, rfl⟩
      rw [ht, List.filter_append, List.map_append]
      simp [hp]
    · rw [if_neg hp]
      refine ⟨M', Sub.refl _, ?_, rfl⟩
      rw [ht, List.filter_append, List.map_append]
      simp [hp]
  · subst e
    rw [List.take_length]
    exact hk
theorem lc_all {ds : List D} {ok : MH → Prop} {M : MH} {δ : DSt} {gd : DTg} {te : DTE} {vs : List Nat} {k : List D → MH → Prop} (f : D → D) (hok : ok M) (hl : ds.length ≤ 1000000)
    (h : ∀ d ∈ ds, ∃ δ2, gd d (wipeD δ vs) = some δ2 ∧ ∀ kk : DK, kk (f d) M → te δ2 M kk) (hk : k (ds.map f) M) :
    ∃ Iv : Nat → List D → MH → Prop, Iv 0 [] M ∧ ∀ i acc M, i ≤ ds.length → acc.length ≤ i → Iv i acc M → ok M ∧
      (∀ d, ds[i]? = some d → ∃ δ2, gd d (wipeD δ vs) = some δ2 ∧ dYes δ2 M fun b M3 => if b = true then te δ2 M3 fun y M4 => acc.length < sizeLine ∧ ∃ M5, Sub M5 M4 ∧ Iv (i + 1) (acc ++ [y]) M5 else ∃ M5, Sub M5 M3 ∧ Iv (i + 1) acc M5) ∧
      (i = ds.length → k acc M) :=
  lc_pure f (fun _ => true) hok hl (fun d hd => let ⟨δ2, e, h2⟩ := h d hd; ⟨δ2, e, fun kb hb => hb, fun _ => h2⟩) (by rw [List.filter_eq_self.mpr fun _ _ => rfl]; exact hk)
/-- the end of a def, nothing else made -/
theorem rt_of {k : DK} {d : D} {M : MH} (h : k d M) : rtOf k d M := ⟨M, Sub.refl M, h⟩
theorem rt_put {k : DK} {d : D} {M : MH} {p : Addr} {o : MO} (hp : M p = none) (h : k d M) : rtOf k d (put M p o) := ⟨M, sub_new hp, h⟩
end DL
/-! DL: defs of the text by names; the head's facts. -/
namespace DL
open PySem PySem.Spec PyProof.Rows L2 He

/-- the def st stands at the module's name x -/
structure DefOk (K : PySem.W.Frag) (mg : Str → Option Value) (x : Str) (st : Stmt) : Prop where
  fn : ∃ fd, Fun K x x st (ga K x) fd
  kp : PySem.W.keepIn K (.ref (ga K x)) = true
  g : mg x = some (.ref (ga K x))
/-- a def by its name keeps its promise -/
structure FnX (P : Program) (wd : World) (K : PySem.W.Frag) (mg : Str → Option Value) (base : Heap) (CX : CXT) (k : Nat) (x : Str) (ps : List Str) (C : Addr) (sp : DSp) : Prop where
  ex : ∃ fd, FnOk P wd K mg base CX k (ga K x) fd ps (upSp K C sp) ∧ Binds K fd ps []
  kp : PySem.W.keepIn K (.ref (ga K x)) = true
  g : mg x = some (.ref (ga K x))
theorem fnx_mk {P : Program} {wd : World} {K : PySem.W.Frag} {mg : Str → Option Value} {base : Heap} {CX : CXT} {k : Nat} {x : Str} {ps : List Str} {C : Addr} {sp : DSp} {st : Stmt} (D : DefOk K mg x st)
    (h : ∀ fd, Fun K x x st (ga K x) fd → FnOk P wd K mg base CX k (ga K x) fd ps (upSp K C sp)) (hb : ∀ fd, Fun K x x st (ga K x) fd → Binds K fd ps []) : FnX P wd K mg base CX k x ps C sp :=
  let ⟨fd, F⟩ := D.fn
  ⟨⟨fd, h fd F, hb fd F⟩, D.kp, D.g⟩
theorem FnX.imp {P : Program} {wd : World} {K : PySem.W.Frag} {mg : Str → Option Value} {base : Heap} {CX : CXT} {k : Nat} {x : Str} {ps : List Str} {C : Addr} {sp sp' : DSp} (F : FnX P wd K mg base CX k x ps C sp) (h : ∀ ds M k e, sp' ds M k e → sp ds M k e) : FnX P wd K mg base CX k x ps C sp' :=
  let ⟨fd, F1, b⟩ := F.ex
  ⟨⟨fd, fn_imp F1 h, b⟩, F.kp, F.g⟩
section
variable {X : Cx} {w : XW} {CX : CXT} {C : Addr} {k : Nat} {ps : List Str} {sp : DSp} {x : Str} {p pos : Pos} {e : Expr} {es : List Expr} {t : DTA}
theorem de_callF (F : FnX X.prog X.w X.K X.mg X.base CX k x ps C sp) (hr : Room k X.A) (hg : Gl X x) (hx : Passes CX X E0)
    (ha : DA X w (e :: es) t) (hdb : (x == ("__debug__" : Str)) = false := by decide) (he : starEach (e :: es) X.env = (false, eval e X.env) :: starEach es X.env := by rfl) (hpl : (backTo pos (starEach es X.env)).any (·.1) = false := by rfl) :
    DE X w (.Call (.Name x p) (e :: es) [] pos) (dCall sp t) :=
  let ⟨fd, F1, b⟩ := F.ex
  de_call F1 hr hg F.g F.kp b hx ha hdb he hpl
theorem de_callFX (tk : Takes X w.W) (F : FnX X.prog X.w X.K X.mg X.base (L2.CX X.prog X.w) k x ps w.C sp) (hr : Room k X.A) (hg : Gl X x)
    (ha : DA X w (e :: es) t) (hdb : (x == ("__debug__" : Str)) = false := by decide) (he : starEach (e :: es) X.env = (false, eval e X.env) :: starEach es X.env := by rfl) (hpl : (backTo pos (starEach es X.env)).any (·.1) = false := by rfl) :
    DE X w (.Call (.Name x p) (e :: es) [] pos) (dCallX w.ex sp t) :=
  let ⟨fd, F1, b⟩ := F.ex
  de_callX tk F1 hr hg F.g F.kp b ha hdb he hpl
end

/-! ### the head: a Hook -/
/-- one def that stands in the module under its own name -/
def fnD (x : Str) (st : Stmt) : FnD := ⟨(x, none), x, x, defArgs st, defBody st, defScope st⟩
def obsM (fa : List Fa) (fn : List FnD) (ck : PySem.W.Frag → Bool) (K : PySem.W.Frag) : Al := (((fa.all fun f => f.ok K) && fn.all fun d => (Fa.code d.at_ d.qual).ok K && (Fa.keep d.name).ok K && (Fa.glo d.name).ok K) && ck K, fn.map fun d => fnObs K d.at_)
def SaysM (fa : List Fa) (fn : List FnD) (ck : PySem.W.Frag → Bool) (K : PySem.W.Frag) : Prop := obsM fa fn ck K = valE fn
def obsMG (n : Nat) (fa : List Fa) (fn : List FnD) (ck : PySem.W.Frag → Bool) (g : Addr → Option Obj) : Al := obsM fa fn ck (frG g (asG g n))
def hookM (n : Nat) (fa : List Fa) (fn : List FnD) (ck : PySem.W.Frag → Bool) : PySem.W.Hook where
  α := Al
  obs := fun s => obsMG n fa fn ck s.heap.get?
  val := fun _ => valE fn
  says := fun _ h => ∃ K : PySem.W.Frag, K.In h ∧ SaysM fa fn ck K
  of := fun _ _ e => ⟨_, frG_in, e⟩
  keeps := fun _ _ _ ⟨K, hK, c⟩ k => ⟨K, PySem.W.Frag.In.keeps hK k, c⟩
theorem obsMG_eq {n : Nat} {fa : List Fa} {fn : List FnD} {ck : PySem.W.Frag → Bool} {g : Addr → Option Obj} {s : Shared} (h : ∀ a, g a = s.heap.get? a) : obsMG n fa fn ck g = (hookM n fa fn ck).obs s := by
  have e : g = s.heap.get? := funext h
  rw [e] <;> rfl
section
variable {fa : List Fa} {fn : List FnD} {ck : PySem.W.Frag → Bool} {K : PySem.W.Frag} {h : Heap} {mg : Str → Option Value}
theorem SaysM.b (c : SaysM fa fn ck K) : ((fa.all fun f => f.ok K) && fn.all fun d => (Fa.code d.at_ d.qual).ok K && (Fa.keep d.name).ok K && (Fa.glo d.name).ok K) = true ∧ ck K = true :=
  ba (show (((fa.all fun f => f.ok K) && fn.all fun d => (Fa.code d.at_ d.qual).ok K && (Fa.keep d.name).ok K && (Fa.glo d.name).ok K) && ck K) = true from congrArg (fun z : Al => z.1) c)
theorem SaysM.fact (c : SaysM fa fn ck K) (i : Nat) {f : Fa} (hi : fa[i]? = some f) : f.ok K = true := List.all_eq_true.mp (ba c.b.1).1 f (List.mem_of_getElem? hi)
theorem SaysM.def_ (c : SaysM fa fn ck K) (X : K.In h) (G : h.Ns mainGlobals mg) (i : Nat) {x : Str} {st : Stmt} (hi : fn[i]? = some (fnD x st)) : DefOk K mg x st := by
  have c2 := List.all_eq_true.mp (ba c.b.1).2 _ (List.mem_of_getElem? hi)
  obtain ⟨c3, c4⟩ := ba c2
  obtain ⟨c5, c6⟩ := ba c3
  have e : fn.map (fun d => fnObs K d.at_) = fn.map FnD.val := congrArg (fun z : Al => z.2) c
  have e2 : (fn.map fun d => fnObs K d.at_)[i]? = (fn.map FnD.val)[i]? := by rw [e]
  rw [List.getElem?_map, List.getElem?_map, hi] at e2
  obtain ⟨oc, od, osl, kV, doc, pm, an, cdv, ct, l, cd⟩ := He.fn_ok (d := fnD x st) (Option.some.inj e2) c5
  exact ⟨⟨_, fun_mk l cd c6⟩, c6, glo_ok X G c4⟩
end
/-! tables of the module: tuples of tuples of numbers -/
inductive Dc where
  | int (i : Int) | str (s : Str) | tup (xs : List Dc)
mutual
def konB (K : PySem.W.Frag) : Dc → Value → Bool
  | .int i, .int j _ => decide (i = j)
  | .str i, .str j _ => decide (i = j)
  | .tup xs, .ref a => (match K.lookup a with
    | some ⟨.type c, _, .seq its _, _⟩ => decide (c = "tuple") && (decide (its.size ≤ sizeLine) && konAll K xs its.toList)
    | _ => false)
  | _, _ => false
def konAll (K : PySem.W.Frag) : List Dc → List Value → Bool
  | [], [] => true
  | x :: xs, u :: us => konB K x u && konAll K xs us
  | _, _ => false
end
mutual
/-- the same as data -/
def konD : Dc → D
  | .int i => .int i
  | .str s => .str s
  | .tup xs => .kon (konDs xs)
def konDs : List Dc → List D
  | [] => []
  | x :: xs => konD x :: konDs xs
end
mutual
theorem konB_ok {K : PySem.W.Frag} : ∀ (x : Dc) (u : Value), konB K x u = true → ∃ v, RelV v u ∧ ∀ H, Dn K H v (konD x)
  | .int i, u, h => by
    cases u with
    | int j t =>
      have e : i = j := of_decide_eq_true (by rw [konB] at h; exact h)
      subst e
      exact ⟨.int i, ⟨t, rfl⟩, fun H => by rw [konD]; exact .int i⟩
    | _ => rw [konB] at h <;> first | cases h | (intro _ _ q; cases q)
  | .str i, u, h => by
    cases u with
    | str j t =>
      have e : i = j := of_decide_eq_true (by rw [konB] at h; exact h)
      subst e
      exact ⟨.str i, ⟨t, rfl⟩, fun H => by rw [konD]; exact .str i⟩
    | _ => rw [konB] at h <;> first | cases h | (intro _ _ q; cases q)
  | .tup xs, u, h => by
    cases u with
    | ref a =>
      rw [konB] at h
      cases q : K.lookup a with
      | none => rw [q] at h; cases h
      | some o =>
        obtain ⟨oc, od, dt, osl⟩ := o
        rw [q] at h
        cases oc with
        | type c =>
          cases dt with
          | seq its n =>
            obtain ⟨h1, h2⟩ := ba h
            obtain ⟨h3, h4⟩ := ba h2
            obtain ⟨vs, r, hd⟩ := konAll_ok xs its.toList h4
            exact ⟨.ref a, rfl, fun H => by rw [konD]; exact .kon ⟨_, its, n, q, congrArg Value.type (of_decide_eq_true h1), rfl, of_decide_eq_true h3, r⟩ (hd H)⟩
          | _ => cases h
        | _ => cases dt <;> cases h
    | _ => rw [konB] at h <;> first | cases h | (intro _ q; cases q)
theorem konAll_ok {K : PySem.W.Frag} : ∀ (xs : List Dc) (us : List Value), konAll K xs us = true → ∃ vs, Vals vs us ∧ ∀ H, DnL K H vs (konDs xs)
  | [], us, h => by
    cases us with
    | nil => exact ⟨[], .nil, fun H => by rw [konDs]; exact .nil⟩
    | cons _ _ => rw [konAll] at h <;> first | cases h | (intro q; cases q)
  | x :: xs, us, h => by
    cases us with
    | nil => rw [konAll] at h <;> first | cases h | (intro _ _ q; cases q)
    | cons u us =>
      rw [konAll] at h
      obtain ⟨h1, h2⟩ := ba h
      obtain ⟨v, r, hd⟩ := konB_ok x u h1
      obtain ⟨vs, rs, hds⟩ := konAll_ok xs us h2
      exact ⟨v :: vs, .cons r rs, fun H => by rw [konDs]; exact .cons (hd H) (hds H)⟩
end
/-- the module's name x is such a tuple -/
def konN (K : PySem.W.Frag) (x : Str) (d : Dc) : Bool := (Fa.glo x).ok K && konB K d (.ref (ga K x))
theorem konN_ok {K : PySem.W.Frag} {h : Heap} {mg : Str → Option Value} (X : K.In h) (G : h.Ns mainGlobals mg) {x : Str} {d : Dc} (c : konN K x d = true) : mg x = some (.ref (ga K x)) ∧ ∀ H, Dn K H (.ref (ga K x)) (konD d) := by
  obtain ⟨c1, c2⟩ := ba c
  obtain ⟨v, r, hd⟩ := konB_ok d _ c2
  have e : v = .ref (ga K x) := by
    cases v with
    | ref a => cases r; rfl
    | non => cases r
    | bl _ => cases r
    | int _ => obtain ⟨_, r⟩ := r; cases r
    | str _ => obtain ⟨_, r⟩ := r; cases r
    | byt _ => obtain ⟨_, r⟩ := r; cases r
    | flt _ => obtain ⟨_, r⟩ := r; cases r
    | ty _ => cases r
  rw [e] at hd
  exact ⟨glo_ok X G c1, hd⟩
end DL
/-! DL: enumerate of a text, zip of a list and a text, list(range), sorted of a dict with tuple keys, two clauses, in lists, tables with text keys. -/
namespace DL
open PySem PySem.Spec PyProof.Rows L2

/-! ### enumerate of a text -/
def Ites (x : Str) : It := ⟨fun i _ => i < x.cps.size, fun i H v H' => ∃ T c, v = .ref T ∧ H T = none ∧ H' = upd H T (.tup [.int (i : Nat), .str ⟨#[c]⟩]) ∧ x.cps[i]? = some c, fun i _ => x.cps.size ≤ i⟩
theorem turn_enumS {P : Program} {w : World} {K : PySem.W.Frag} {elts : List Expr} {kk : Nat} {tpos : Pos} (x : Str) (t : Tok) (e it : Addr) :
    Turn P w K (.Tuple elts kk tpos) (Ites x) [e, it] e (fun i h => (∃ old, IsEnum h e it ((i : Nat) : Int) old) ∧ h.IsStrIter it (strIterType x) x t i ∧ e ≠ it ∧ i ≤ x.cps.size) where
  mem := by simp
  obj := fun i h st b hb => by
    obtain ⟨⟨old, he⟩, ⟨o, ho, hc, hd⟩, _⟩ := st
    have e' : b = e ∨ b = it := by simpa using hb
    rcases e' with z | z
    · rw [z]; exact ⟨_, he, fun v q => nomatch q⟩
    · rw [z]; exact ⟨o, ho, fun v q => by rw [hd] at q; cases q⟩
  keep := fun i h h' st k => let ⟨⟨old, he⟩, ⟨o, ho, r⟩, hne⟩ := st; ⟨⟨old, k e (by simp) _ he⟩, ⟨o, k it (by simp) o ho, r⟩, hne⟩
  item := by
    intro X hP hw hK hc i pins s σ H E I hf st hg
    subst hP hw hK
    obtain ⟨⟨old, he⟩, hit, hne, _⟩ := st
    have hel : e < s.heap.objs.size := Heap.lt_size he
    have hil : it < s.heap.objs.size := by obtain ⟨_, q, _⟩ := hit; exact Heap.lt_size q
    have hg : i < x.cps.size := hg
    refine wpAny_pyNext_enum_itemD (Draws.text (A := X.A.in1) (show X.A.in1.handled = none from I.ok.hd hc) it x t) he hit hg hne (by simpa using hne) fun u h' tk hP ho hit' hT hsz hk => ?_
    obtain ⟨c, tu, hcx, rfl⟩ := hP
    refine ⟨_, rfl, wpAny_letOwnedTupleGo_enum (s := { s with heap := h', toks := tk + 1 }) ho fun h'' he' sb => ?_⟩
    have hT2 : h''.get? s.heap.objs.size = some { cls := .type "tuple", data := .seq #[.int i tk, .str ⟨#[c]⟩ tu] } := (sb.2 _ (Nat.ne_of_gt hel)).trans hT
    have new : ObjOk X.prog X.w (upd H s.heap.objs.size (.tup [.int (i : Nat), .str ⟨#[c]⟩])) h'' s.heap.objs.size (.tup [.int (i : Nat), .str ⟨#[c]⟩]) :=
      ⟨by show 2 ≤ sizeLine; decide, [.int i tk, .str ⟨#[c]⟩ tu], .cons ⟨_, rfl⟩ (.cons ⟨_, rfl⟩ .nil), ⟨_, hT2, rfl, _, rfl⟩⟩
    have I1 : Inv X pins σ (upd H s.heap.objs.size (.tup [.int (i : Nat), .str ⟨#[c]⟩])) { s with heap := h'', toks := tk + 1 } :=
      I.turnedNew (ch := [e, it]) (fun b ob hb q => (sb.2 b (fun z => hb (by simp [z]))).trans (hk b ob (fun z => hb (by simp [z])) (fun z => hb (by simp [z])) q)) hf (Nat.le_refl _) new
    refine ⟨.ref s.heap.objs.size, _, I1, rfl, ⟨_, c, rfl, I.hok.fresh (Nat.le_refl _), rfl, hcx⟩, ⟨⟨.str ⟨#[c]⟩ tu, ?_⟩, ?_, hne, hg⟩, fun b hb => ?_⟩
    · have e1 : ((i + 1 : Nat) : Int) = (i : Int) + 1 := by omega
      rw [e1]; exact he'
    · obtain ⟨o, ho', r⟩ := hit'
      exact ⟨o, (sb.2 it (Ne.symm hne)).trans ho', r⟩
    · have hb' : b < s.heap.objs.size := by
        have e' : b = e ∨ b = it := by simpa using hb
        rcases e' with z | z
        · rw [z]; exact hel
        · rw [z]; exact hil
      rw [upd_ne (Nat.ne_of_lt hb')]
      exact (hf b hb).1
  done := by
    intro X hP hw hK hc i pins s σ H E I hf st hg
    subst hP hw hK
    obtain ⟨⟨old, he⟩, hit, hne, hle⟩ := st
    obtain ⟨f0, f1, f2, f3, f4, f5⟩ := hf it (by simp)
    have hg : x.cps.size ≤ i := hg
    have ei : i = x.cps.size := Nat.le_antisymm hle hg
    subst ei
    exact wpAny_pyNext_enum_endD (Draws.text (A := X.A.in1) (show X.A.in1.handled = none from I.ok.hd hc) it x t) he hit fun h' eb => ⟨rfl, I.turned (t' := s.toks) (fun b o hb q => eb b o hb q) f0 f1 f3 f4 f5⟩
  self := fun A i s Q E st h => let ⟨⟨_, he⟩, _⟩ := st; wpAny_pyIter_enum he h
def iEnumS (ta : TA) : TI := fun σ H R => ta σ H fun vs H1 => ∃ x, vs = [.str x] ∧ R (Ites x) H1
theorem pi_enumS {X : Cx} {e : Expr} {ta : TA} {p pos tpos : Pos} {elts : List Expr} {kk : Nat} (hg : Gl X "enumerate") (hm : X.mg "enumerate" = none) (ha : PA X [e] ta) (hs : starEach [e] X.env = [(false, eval e X.env)] := by rfl) :
    PI X (.Tuple elts kk tpos) (.Call (.Name "enumerate" p) [e] [] pos) (iEnumS ta) := by
  refine ⟨fun pins s σ H R I h => ?_⟩
  refine Call_ (ld_blt I hg hm boot_enumerate (PyProof.Rows.callWith_type1 (thn (ha.run pos pins s σ H _ I h) fun us s1 ⟨vs, H1, I1, r1, q1⟩ => ?_) hs rfl))
  obtain ⟨x, ex, q⟩ := q1
  subst ex
  obtain ⟨u, rfl, t, rfl⟩ := vals1 r1
  refine call_enumerate_str fun h' he hit hsz hk => wpAny_pyIter_enum he ?_
  have I2 : Inv X pins σ H1 { s1 with heap := h' } := I1.kept (t' := s1.toks) hk
  refine ⟨s1.heap.objs.size + 1, [s1.heap.objs.size + 1, s1.heap.objs.size], _, _, H1, rfl, I2, turn_enumS x t (s1.heap.objs.size + 1) s1.heap.objs.size, ⟨⟨.none, he⟩, hit, Nat.succ_ne_self _, Nat.zero_le _⟩, fun b hb => ?_, q⟩
  have e' : b = s1.heap.objs.size + 1 ∨ b = s1.heap.objs.size := by simpa using hb
  have hle : s1.heap.objs.size ≤ b := by
    rcases e' with z | z
    · rw [z]; exact Nat.le_add_right _ _
    · rw [z]; exact Nat.le_refl _
  exact I1.fpOk hle (I1.hok.fresh hle)

/-! ### zip of a list and a text -/
def Itzs (K : PySem.W.Frag) (a : Addr) (n : Nat) (x : Str) : It :=
  ⟨fun i H => ∃ (xs : List V) (v : V), SqL K H a xs ∧ xs.length = n ∧ xs[i]? = some v ∧ i < x.cps.size,
    fun i H v H' => ∃ T y c, v = .ref T ∧ H T = none ∧ H' = upd H T (.tup [y, .str ⟨#[c]⟩]) ∧ (∀ xs, SqL K H a xs → xs[i]? = some y) ∧ x.cps[i]? = some c,
    fun i H => ∃ xs : List V, SqL K H a xs ∧ xs.length = n ∧ (n ≤ i ∨ x.cps.size ≤ i)⟩
theorem turn_zipS {P : Program} {w : World} {K : PySem.W.Frag} {elts : List Expr} {kk : Nat} {tpos : Pos} {a z TI TO i1 i2 : Addr} {n : Nat} (x : Str) (t : Tok) (D : ZipSep2 z TI TO i1 i2 [i1, a] [i2]) (ha1 : a ≠ i1) :
    Turn P w K (.Tuple elts kk tpos) (Itzs K a n x) [z, TI, TO, i1, i2] z (fun i h => IsZip h z TI TO .none ∧ IsTupOf2 h TI (.ref i1) (.ref i2) ∧ (∃ x y, IsTupOf2 h TO x y) ∧ h.IsListIter i1 a i ∧ h.IsStrIter i2 (strIterType x) x t i ∧ i ≤ n ∧ i ≤ x.cps.size) where
  mem := by simp
  obj := fun i h st c hc => by
    obtain ⟨hz, hTI, ⟨x, y, hTO⟩, ⟨o1, e1, _, d1⟩, ⟨o2, e2, _, d2⟩, _⟩ := st
    have e' : c = z ∨ c = TI ∨ c = TO ∨ c = i1 ∨ c = i2 := by simpa using hc
    rcases e' with q | q | q | q | q
    · rw [q]; exact ⟨_, hz, fun v q => nomatch q⟩
    · rw [q]; exact ⟨_, hTI, fun v q => nomatch q⟩
    · rw [q]; exact ⟨_, hTO, fun v q => nomatch q⟩
    · rw [q]; exact ⟨o1, e1, fun v q => by rw [d1] at q; cases q⟩
    · rw [q]; exact ⟨o2, e2, fun v q => by rw [d2] at q; cases q⟩
  keep := fun i h h' st k => by
    obtain ⟨hz, hTI, ⟨x, y, hTO⟩, h1, ⟨o2, e2, r2⟩, h3⟩ := st
    exact ⟨k z (by simp) _ hz, k TI (by simp) _ hTI, ⟨x, y, k TO (by simp) _ hTO⟩, h1.at fun o q => k i1 (by simp) o q, ⟨o2, k i2 (by simp) _ e2, r2⟩, h3⟩
  item := by
    intro X hP hw hK hc i pins s σ H E I hf st hg
    subst hP hw hK
    obtain ⟨hz, hTI, ⟨x0, y0, hTO⟩, h1, h2, _⟩ := st
    obtain ⟨xs, v, hqx, hn, hx, hlt⟩ := hg
    obtain ⟨its, rv, p, _⟩ := I.list hqx
    obtain ⟨u, hu, ru⟩ := rv.get hx
    have hzl : z < s.heap.objs.size := Heap.lt_size hz
    have hh : X.A.in1.handled = none := I.ok.hd hc
    have hi : i < its.toArray.size := by
      have := (List.getElem?_eq_some_iff.mp hu).1
      simpa using this
    refine wpAny_pyNext_zipD2_item D (Draws.list hh i1 a ha1 its.toArray) (Draws.text hh i2 x t) hz hTI hTO ⟨h1, p.isList⟩ h2 hi hlt fun x1 x2 h' tk y1 y2 z' TO' h1' h2' hT hsz hk => ?_
    have hx1 : x1 = u := by
      have e : its.toArray[i]? = some u := by simpa using hu
      rw [e] at y1
      exact (Option.some.inj y1).symm
    obtain ⟨c, tu, hcx, ex2⟩ := y2
    subst hx1 ex2
    refine ⟨_, rfl, wpAny_letOwnedTupleGo_zip (s := { s with heap := h', toks := tk }) z' fun h'' z'' sb => ?_⟩
    have hT2 : h''.get? s.heap.objs.size = some { cls := .type "tuple", data := .seq #[x1, .str ⟨#[c]⟩ tu] } := (sb.2 _ (Nat.ne_of_gt hzl)).trans hT
    have new : ObjOk X.prog X.w (upd H s.heap.objs.size (.tup [v, .str ⟨#[c]⟩])) h'' s.heap.objs.size (.tup [v, .str ⟨#[c]⟩]) :=
      ⟨by show 2 ≤ sizeLine; decide, [x1, .str ⟨#[c]⟩ tu], .cons ru (.cons ⟨_, rfl⟩ .nil), ⟨_, hT2, rfl, _, rfl⟩⟩
    have I1 : Inv X pins σ (upd H s.heap.objs.size (.tup [v, .str ⟨#[c]⟩])) { s with heap := h'', toks := tk } :=
      I.turnedNew (ch := [z, TI, TO, i1, i2]) (fun c o hb q => (sb.2 c (fun q' => hb (by simp [q']))).trans (hk c o (fun q' => hb (by simp [q'])) (fun q' => hb (by simp [q'])) (fun q' => hb (by simp [q'])) (fun q' => hb (by simp [q'])) q)) hf (Nat.le_refl _) new
    have hiN : i < n := by
      have := (List.getElem?_eq_some_iff.mp hx).1
      omega
    refine ⟨.ref s.heap.objs.size, _, I1, rfl, ⟨_, v, c, rfl, I.hok.fresh (Nat.le_refl _), rfl, fun l hl => by rw [I.list_inj hl hqx]; exact hx, hcx⟩, ⟨z'', ?_, ⟨x1, .str ⟨#[c]⟩ tu, ?_⟩, ?_, ?_, hiN, hlt⟩, fun c hcm => ?_⟩
    · exact (sb.2 _ D.TIz).trans (hk _ _ D.TIz D.TITO D.TIi1 D.TIi2 hTI)
    · exact (sb.2 _ D.TOz).trans TO'
    · exact h1'.1.at fun o q => (sb.2 _ (Ne.symm D.zi1)).trans q
    · obtain ⟨o, ho', r⟩ := h2'
      exact ⟨o, (sb.2 _ (Ne.symm D.zi2)).trans ho', r⟩
    · have hlt : c < s.heap.objs.size := by
        have e' : c = z ∨ c = TI ∨ c = TO ∨ c = i1 ∨ c = i2 := by simpa using hcm
        rcases e' with q | q | q | q | q
        · rw [q]; exact hzl
        · rw [q]; exact Heap.lt_size hTI
        · rw [q]; exact Heap.lt_size hTO
        · rw [q]; obtain ⟨_, e1, _⟩ := h1; exact Heap.lt_size e1
        · rw [q]; obtain ⟨_, e2, _⟩ := h2; exact Heap.lt_size e2
      rw [upd_ne (Nat.ne_of_lt hlt)]
      exact (hf c hcm).1
  done := by
    intro X hP hw hK hc i pins s σ H E I hf st hg
    subst hP hw hK
    obtain ⟨hz, hTI, ⟨x0, y0, hTO⟩, h1, h2, hle1, hle2⟩ := st
    obtain ⟨xs, hqx, hn, hend⟩ := hg
    obtain ⟨its, rv, p, _⟩ := I.list hqx
    have l1 := rv.length
    have hh : X.A.in1.handled = none := I.ok.hd hc
    have hsz : its.toArray.size = n := by simp; omega
    refine wpAny_pyNext_zipD2_end D (Draws.list hh i1 a ha1 its.toArray) (Draws.text hh i2 x t) hz hTI hTO ⟨h1, p.isList⟩ h2 (by omega) hle2 (by omega) fun h' tk hk => ⟨rfl, I.turnedL (t' := tk) (ch := [z, TI, TO, i1, i2]) (fun c o hb q =>
      hk c o (fun q' => hb (by simp [q'])) (fun q' => hb (by simp [q'])) (fun q' => hb (by simp [q'])) (fun q' => hb (by simp [q'])) q) hf⟩
  self := fun A i s Q E st h => wpAny_pyIter_zip st.1 h
theorem zsep (n a : Nat) (h : a < n) : ZipSep2 (n + 4) (n + 2) (n + 3) n (n + 1) [n, a] [n + 1] where
  TIz := by show ¬ ((n + 2 : Nat) = n + 4); omega
  TOz := by show ¬ ((n + 3 : Nat) = n + 4); omega
  TITO := by show ¬ ((n + 2 : Nat) = n + 3); omega
  TIi1 := by show ¬ ((n + 2 : Nat) = n); omega
  mem1 := List.mem_cons_self
  zf1 := fun e => by
    rcases List.mem_cons.mp e with e | e
    · have e : (n + 4 : Nat) = n := e; omega
    · have e : (n + 4 : Nat) = a := List.mem_singleton.mp e; omega
  Tf1 := fun e => by
    rcases List.mem_cons.mp e with e | e
    · have e : (n + 3 : Nat) = n := e; omega
    · have e : (n + 3 : Nat) = a := List.mem_singleton.mp e; omega
  TIi2 := by show ¬ ((n + 2 : Nat) = n + 1); omega
  mem2 := List.mem_cons_self
  zf2 := fun e => by have e : (n + 4 : Nat) = n + 1 := List.mem_singleton.mp e; omega
  Tf2 := fun e => by have e : (n + 3 : Nat) = n + 1 := List.mem_singleton.mp e; omega
  sep1_2 := fun e => by have e : (n : Nat) = n + 1 := List.mem_singleton.mp e; omega
  sep2_1 := fun e => by
    rcases List.mem_cons.mp e with e | e
    · have e : (n + 1 : Nat) = n := e; omega
    · have e : (n + 1 : Nat) = a := List.mem_singleton.mp e; omega
def iZipS (K : PySem.W.Frag) (ta : TA) : TI := fun σ H R => ta σ H fun vs H1 => ∃ a xs x, vs = [.ref a, .str x] ∧ SqL K H1 a xs ∧ R (Itzs K a xs.length x) H1
theorem pi_zipS {X : Cx} {e e2 : Expr} {ta : TA} {p pos tpos : Pos} {elts : List Expr} {kk : Nat} (hg : Gl X "zip") (hm : X.mg "zip" = none) (ha : PA X [e, e2] ta)
    (hs : starEach [e, e2] X.env = (false, eval e X.env) :: starEach [e2] X.env := by rfl) (hpl : (backTo pos (starEach [e2] X.env)).any (·.1) = false := by rfl) :
    PI X (.Tuple elts kk tpos) (.Call (.Name "zip" p) [e, e2] [] pos) (iZipS X.K ta) := by
  refine ⟨fun pins s σ H R I h => ?_⟩
  refine Call_ (ld_blt I hg hm PyProof.Rows.boot_zip (PyProof.Rows.callWith_type1 (thn (ha.run pos pins s σ H _ I h) fun us s1 ⟨vs, H1, I1, r1, q1⟩ => ?_) hs hpl))
  obtain ⟨a, xs, x, ex, hqx, q⟩ := q1
  subst ex
  obtain ⟨u1, u2, rfl, r, t, rfl⟩ := vals2 r1
  cases r
  obtain ⟨its, rv, p1, _⟩ := I1.list hqx
  have la : a < s1.heap.objs.size := p1.lt
  refine zip_begins2 (begins_list a its.toArray) (begins_text x t) p1.isList trivial fun h' hz hTI hTO h1 h2 hsz hk => wpAny_pyIter_zip hz ?_
  have I2 : Inv X pins σ H1 { s1 with heap := h' } := I1.kept (t' := s1.toks) hk
  refine ⟨s1.heap.objs.size + 4, [s1.heap.objs.size + 4, s1.heap.objs.size + 2, s1.heap.objs.size + 3, s1.heap.objs.size, s1.heap.objs.size + 1], _, _, H1, rfl, I2,
    turn_zipS (n := xs.length) x t (zsep s1.heap.objs.size a la) (Nat.ne_of_lt la), ⟨hz, hTI, ⟨_, _, hTO⟩, ⟨_, h1, rfl, rfl⟩, ⟨_, h2, rfl, rfl⟩, Nat.zero_le _, Nat.zero_le _⟩, fun c hcm => ?_, q⟩
  have e' : c = s1.heap.objs.size + 4 ∨ c = s1.heap.objs.size + 2 ∨ c = s1.heap.objs.size + 3 ∨ c = s1.heap.objs.size ∨ c = s1.heap.objs.size + 1 := by simpa using hcm
  have hle : s1.heap.objs.size ≤ c := by
    rcases e' with z | z | z | z | z
    · rw [z]; exact Nat.le_add_right _ _
    · rw [z]; exact Nat.le_add_right _ _
    · rw [z]; exact Nat.le_add_right _ _
    · rw [z]; exact Nat.le_refl _
    · rw [z]; exact Nat.le_add_right _ _
  exact I1.fpOk hle (I1.hok.fresh hle)

section
variable {X : Cx} {w : XW} {tg e e2 a b : Expr} {te ta tb : DTE} {t : DTA} {p pos tpos : Pos} {elts : List Expr} {kk : Nat}
theorem it_enumS {K : PySem.W.Frag} {M0 : MH} {H0 : Hp} {x : Str} : ItOk K (Ites x) (enD (sgD x)) (fun _ => True) M0 H0 := fun i H M f r _ => by
  have hl : (enD (sgD x)).length = x.cps.size := by rw [enD_length]; simp [sgD]
  refine ⟨fun d hd => ?_, fun h => by show x.cps.size ≤ i; omega⟩
  have hi : i < x.cps.size := by
    have := (List.getElem?_eq_some_iff.mp hd).1
    omega
  have e : (sgD x)[i]? = some (.str ⟨#[x.cps[i]]⟩) := by simp [sgD, hi]
  rw [enD_get e] at hd
  cases hd
  refine ⟨hi, fun y H' ⟨T, c, ey, hT, eH, hc⟩ => ?_⟩
  subst ey; subst eH
  rw [Array.getElem?_eq_getElem hi] at hc
  cases hc
  exact new_pair r hT (.int _) (.str _)
def diES (ta : DTA) : DTI := fun δ M q => ta δ M fun ds1 M1 => match ds1 with
  | [.str x] => q (enD (sgD x)) (fun _ => True) M1
  | _ => False
theorem di_enumS (hg : Gl X "enumerate") (hm : X.mg "enumerate" = none) (ha : DA X w [e] t) (hs : starEach [e] X.env = [(false, eval e X.env)] := by rfl) :
    DI X w (.Tuple elts kk tpos) (.Call (.Name "enumerate" p) [e] [] pos) (diES t) :=
  PI.imp (pi_enumS hg hm ha hs) fun σ H R ⟨δ, M, q, re, rp, h, c⟩ => ⟨δ, M, _, re, rp, h, fun ds1 M1 vs H1 q1 f1 r1 n1 => by
    split at q1
    · rename_i x
      obtain ⟨v, rfl, n2⟩ := n1.one_inv
      cases n2
      exact ⟨x, rfl, c _ _ M1 H1 q1 f1 r1 _ it_enumS⟩
    · exact q1.elim⟩
theorem it_zipS {K : PySem.W.Frag} {M0 : MH} {H0 : Hp} {d : D} {a : Addr} {n : Nat} {ds : List D} {x : Str} (hn : ds.length = n) (n0 : Dn K H0 (.ref a) d) : ItOk K (Itzs K a n x) (zpD ds (sgD x)) (fun M => lstOf M d = some ds) M0 H0 := fun i H M f r o => by
  obtain ⟨a', vs, ea, hs, hv⟩ := sq_now n0 f r o
  cases ea
  have hl : (zpD ds (sgD x)).length = min n x.cps.size := by unfold zpD; rw [List.length_zipWith]; simp [sgD, hn]
  refine ⟨fun d hd => ?_, fun h => ⟨vs, hs, by rw [hv.length, hn], by omega⟩⟩
  have hi : i < (zpD ds (sgD x)).length := (List.getElem?_eq_some_iff.mp hd).1
  have hi1 : i < ds.length := by omega
  have hi2 : i < x.cps.size := by omega
  have e1 : (sgD x)[i]? = some (.str ⟨#[x.cps[i]]⟩) := by simp [sgD, hi2]
  have e2 : ds[i]? = some ds[i] := List.getElem?_eq_getElem hi1
  unfold zpD at hd
  rw [List.getElem?_zipWith, e1, e2] at hd
  cases hd
  obtain ⟨v, hv1, hv2⟩ := hv.get e2
  refine ⟨⟨vs, v, hs, by rw [hv.length, hn], hv1, hi2⟩, fun y H' ⟨T, y1, c, ey, hT, eH, hy, hc⟩ => ?_⟩
  subst ey; subst eH
  have := hy vs hs
  rw [hv1] at this
  cases this
  rw [Array.getElem?_eq_getElem hi2] at hc
  cases hc
  exact new_pair r hT hv2 (.str _)
def diZS (ta : DTA) : DTI := fun δ M q => ta δ M fun ds M1 => match ds with
  | [d, .str x] => ∃ xs, lstOf M1 d = some xs ∧ q (zpD xs (sgD x)) (fun M => lstOf M d = some xs) M1
  | _ => False
theorem di_zipS (hg : Gl X "zip") (hm : X.mg "zip" = none) (ha : DA X w [e, e2] t) (hs : starEach [e, e2] X.env = (false, eval e X.env) :: starEach [e2] X.env := by rfl) (hpl : (backTo pos (starEach [e2] X.env)).any (·.1) = false := by rfl) :
    DI X w (.Tuple elts kk tpos) (.Call (.Name "zip" p) [e, e2] [] pos) (diZS t) :=
  PI.imp (pi_zipS hg hm ha hs hpl) fun σ H R ⟨δ, M, q, re, rp, h, c⟩ => ⟨δ, M, _, re, rp, h, fun ds1 M1 vs H1 q1 f1 r1 n1 => by
    split at q1
    · rename_i d x
      obtain ⟨v, w, rfl, n2, n3⟩ := n1.two_inv
      cases n3
      obtain ⟨xs, e1, q1⟩ := q1
      obtain ⟨a, us, rfl, hs, hn⟩ := lstOf_is r1 n2 e1
      exact ⟨a, us, x, rfl, hs, c _ _ M1 H1 q1 f1 r1 _ (it_zipS hn.length.symm n2)⟩
    · exact q1.elim⟩

/-! ### list(range(n)) -/
def dLstRg (ta : DTE) : DTE := fun δ M k => ta δ M fun d M1 => match d with
  | .int n => (0 ≤ n ∧ n ≤ 16777216) ∧ ∀ p, M1 p = none → k (.obj p) (put M1 p (.lst (rgD 0 n.toNat)))
  | _ => False
theorem de_listRg {p2 pos2 : Pos} (hc : X.calm = true) (hg : Gl X "list") (hm : X.mg "list" = none) (hg2 : Gl X "range") (hm2 : X.mg "range" = none) (ha : DE X w a ta)
    (na : starEach [a] X.env = (false, eval a X.env) :: starEach [] X.env := by rfl) (na2 : starEach [.Call (.Name "range" p2) [a] [] pos2] X.env = (false, eval (.Call (.Name "range" p2) [a] [] pos2) X.env) :: starEach [] X.env := by rfl) :
    DE X w (.Call (.Name "list" p) [.Call (.Name "range" p2) [a] [] pos2] [] pos) (dLstRg ta) :=
  PE.imp (pe_listRg hc hg hm (prg_1 hg2 hm2 ha na) na2) fun σ H Q ⟨δ, M, k, re, rp, h, c⟩ => ⟨δ, M, _, re, rp, h, fun d M1 v H1 q f1 r1 n1 => by
    cases d with
    | int n =>
      cases n1
      obtain ⟨⟨h0, h1⟩, q⟩ := q
      refine ⟨n, rfl, RgOk.of_le (Int.le_refl 0) h1 (by decide) h0, fun p hp => ?_⟩
      have e : rgV 0 n = (List.range n.toNat).map fun i => V.int (0 + (i : Nat)) := by unfold rgV; rw [Int.sub_zero]
      rw [e]
      exact new_obj (c.on f1) r1 hp (lst_ok (Ext.new hp) (rg_dn 0 n.toNat)) (q p (r1.free hp))
    | _ => exact q.elim⟩

/-! ### in, not in: a list -/
def rdInL (neg : Bool) : RD2 := fun x y M k => ∃ p qs, Py M x p ∧ Py M y (.list qs) ∧ SeqAt.shaped p = true ∧ SeqAt.shaped (.list qs) = true ∧ k (.bl (xor neg (qs.any fun z => PyData.eqv z p))) M
theorem od_inL {K : PySem.W.Frag} : OpD K (rInD K) (rdInL false) := fun x y dx dy H M k Q nx ny r h c => by
  obtain ⟨p, qs, h1, h2, h3, h4, h5⟩ := h
  rw [xor_false'] at h5
  exact ⟨p, qs, Py.dp r p _ _ h1 nx, Py.dp r (.list qs) _ _ h2 ny, h3, h4, c.here h5 r (.bl _)⟩
theorem od_notInL {K : PySem.W.Frag} : OpD K (rNotInD K) (rdInL true) := fun x y dx dy H M k Q nx ny r h c => by
  obtain ⟨p, qs, h1, h2, h3, h4, h5⟩ := h
  rw [xor_true'] at h5
  exact ⟨p, qs, Py.dp r p _ _ h1 nx, Py.dp r (.list qs) _ _ h2 ny, h3, h4, c.here h5 r (.bl _)⟩
theorem de_inL (hu : X.A.units + 65 < cLine) (ha : DE X w a ta) (hb : DE X w b tb) (hm : behindInMarks .In b = false) : DE X w (.Compare a [.In] [b] pos) (dOp (rdInL false) ta tb) := de_cmp (op_inD hu) od_inL ha hb hm
theorem dt_inL (hu : X.A.units + 65 < cLine) (ha : DE X w a ta) (hb : DE X w b tb) (hm : behindInMarks .In b = false) : DT X w (.Compare a [.In] [b] pos) (dTest (dOp (rdInL false) ta tb)) := dt_cmp (op_inD hu) od_inL ha hb hm
theorem de_notInL (hu : X.A.units + 65 < cLine) (ha : DE X w a ta) (hb : DE X w b tb) (hm : behindInMarks .NotIn b = false) : DE X w (.Compare a [.NotIn] [b] pos) (dOp (rdInL true) ta tb) := de_cmp (op_notInD hu) od_notInL ha hb hm
theorem dt_notInL (hu : X.A.units + 65 < cLine) (ha : DE X w a ta) (hb : DE X w b tb) (hm : behindInMarks .NotIn b = false) : DT X w (.Compare a [.NotIn] [b] pos) (dTest (dOp (rdInL true) ta tb)) := dt_cmp (op_notInD hu) od_notInL ha hb hm

/-! ### a table of the module, its keys texts -/
structure KTab (K : PySem.W.Frag) (wd : World) (a : Addr) (vals : List (Str × D)) : Prop where
  kd : ∃ es n, KDict K wd a es n
  at_ : ∀ q ∈ vals, ∃ u v, PySem.W.nsIn K a q.1 = some (some u) ∧ RelV v u ∧ ∀ H, Dn K H v q.2
/-- a key that is there -/
def rdInG (neg : Bool) (g : Addr) (vals : List (Str × D)) : RD2 := fun x y M k => ∃ z d, x = .str z ∧ y = .obj g ∧ (z, d) ∈ vals ∧ k (.bl (!neg)) M
def rdIxG (g : Addr) (vals : List (Str × D)) : RD2 := fun x y M k => ∃ z d, x = .obj g ∧ y = .str z ∧ (z, d) ∈ vals ∧ k d M
theorem op_inG {g : Addr} {vals : List (Str × D)} (T : KTab X.K X.w g vals) : OpR X (compareOp .In) (fun x y H Q => ∃ (z : Str) (r : Option Value), x = .str z ∧ y = .ref g ∧ PySem.W.nsIn X.K g z = some r ∧ Q (.bl r.isSome) H) := let ⟨_, _, k⟩ := T.kd; op_in_kd k
theorem op_notInG {g : Addr} {vals : List (Str × D)} (T : KTab X.K X.w g vals) : OpR X (compareOp .NotIn) (fun x y H Q => ∃ (z : Str) (r : Option Value), x = .str z ∧ y = .ref g ∧ PySem.W.nsIn X.K g z = some r ∧ Q (.bl (!r.isSome)) H) := let ⟨_, _, k⟩ := T.kd; op_notIn_kd k
theorem od_inG {K : PySem.W.Frag} {wd : World} {g : Addr} {vals : List (Str × D)} (T : KTab K wd g vals) : OpD K (fun x y H Q => ∃ (z : Str) (r : Option Value), x = .str z ∧ y = .ref g ∧ PySem.W.nsIn K g z = some r ∧ Q (.bl r.isSome) H) (rdInG false g vals) := fun x y dx dy H M k Q nx ny r h c => by
  obtain ⟨z, d, rfl, rfl, h1, h2⟩ := h
  cases nx; cases ny
  obtain ⟨u, v, e, _⟩ := T.at_ _ h1
  exact ⟨z, some u, rfl, rfl, e, c.here h2 r (.bl _)⟩
theorem od_notInG {K : PySem.W.Frag} {wd : World} {g : Addr} {vals : List (Str × D)} (T : KTab K wd g vals) : OpD K (fun x y H Q => ∃ (z : Str) (r : Option Value), x = .str z ∧ y = .ref g ∧ PySem.W.nsIn K g z = some r ∧ Q (.bl (!r.isSome)) H) (rdInG true g vals) := fun x y dx dy H M k Q nx ny r h c => by
  obtain ⟨z, d, rfl, rfl, h1, h2⟩ := h
  cases nx; cases ny
  obtain ⟨u, v, e, _⟩ := T.at_ _ h1
  exact ⟨z, some u, rfl, rfl, e, c.here h2 r (.bl _)⟩
theorem dt_notInG {g : Addr} {vals : List (Str × D)} (T : KTab X.K X.w g vals) (ha : DE X w a ta) (hb : DE X w b tb) (hm : behindInMarks .NotIn b = false) : DT X w (.Compare a [.NotIn] [b] pos) (dTest (dOp (rdInG true g vals) ta tb)) := dt_cmp (op_notInG T) (od_notInG T) ha hb hm
theorem dt_inG {g : Addr} {vals : List (Str × D)} (T : KTab X.K X.w g vals) (ha : DE X w a ta) (hb : DE X w b tb) (hm : behindInMarks .In b = false) : DT X w (.Compare a [.In] [b] pos) (dTest (dOp (rdInG false g vals) ta tb)) := dt_cmp (op_inG T) (od_inG T) ha hb hm
theorem od_ixG {K : PySem.W.Frag} {wd : World} {g : Addr} {vals : List (Str × D)} (T : KTab K wd g vals) : OpD K (rIxD K wd) (rdIxG g vals) := fun x y dx dy H M k Q nx ny r h c => by
  obtain ⟨z, d, rfl, rfl, h1, h2⟩ := h
  cases nx; cases ny
  obtain ⟨u, v, e, ru, hd⟩ := T.at_ _ h1
  obtain ⟨es, n, kd⟩ := T.kd
  exact ⟨g, z, v, rfl, rfl, ⟨es, n, u, kd.at_, kd.lit, e, ru⟩, c.here h2 r (hd H)⟩
theorem de_ixG {g : Addr} {vals : List (Str × D)} (T : KTab X.K X.w g vals) (ha : DE X w a ta) (hb : DE X w b tb) (hs : PlainIx b := by exact fun _ _ => rfl) : DE X w (.Subscript a b pos) (dOp (rdIxG g vals) ta tb) := PE.imp (pe_ix ix_kdict ha hb hs) fun σ H Q h => up_op (od_ixG T) h
end
end DL
/-! DL: sorted of a dict with tuple keys, two clauses, the head's Hook with tables. -/
namespace DL
open PySem PySem.Spec PyProof.Rows L2 He

/-! ### sorted(d), the keys tuples -/
def keyIsV (H : Hp) (v : V) (k : List Key) : Prop := ∃ b, v = .ref b ∧ H b = some (.tup (k.map kV))
def rSortKT (K : PySem.W.Frag) : List V → Hp → VK → Prop := fun vs0 H Q => ∃ (a : Addr) (kvs : List (List Key × V)) (pd : List Key → PyData), vs0 = [.ref a] ∧ H a = some (.dT kvs) ∧ (∀ k ∈ kvs.map (·.1), ∀ v, keyIsV H v k → Dp K H v (pd k)) ∧
  PySem.W.AllAlike ((kvs.map (·.1)).map pd) ∧ PySem.W.Sortable ((kvs.map (·.1)).map pd) ∧ (∀ k ∈ kvs.map (·.1), (pd k).depth ≤ 50) ∧ ∀ ws p, Paired (keyIsV H) ws ((kvs.map (·.1)).mergeSort (PySem.W.dataLe false pd)) → H p = none → Q (.ref p) (upd H p (.lst ws))
theorem kt_vals : ∀ {xs : List (List Key × Addr × Value)}, Vals (xs.map fun x => V.ref x.2.1) (xs.map fun x => Value.ref x.2.1)
  | [] => .nil
  | _ :: _ => .cons rfl kt_vals
theorem kt_keys {H : Hp} : ∀ {kvs : List (List Key × V)} {xs : List (List Key × Addr × Value)}, KT H kvs xs → Paired (keyIsV H) (xs.map fun x => V.ref x.2.1) (kvs.map (·.1))
  | _, _, .nil => .nil
  | _, _, .cons ⟨_, h, _⟩ r => .cons ⟨_, rfl, h⟩ (kt_keys r)
theorem call_sortKT {X : Cx} (hc : X.calm = true) (hu : X.A.units + 64 < cLine) : CallR X (.builtin "sorted") (rSortKT X.K) := by
  intro pins s σ H xs0 us Q I r h
  obtain ⟨a, kvs, pd, rfl, ha, hd, hal, hk, hdep, q⟩ := h
  obtain rfl := Vals.ref1 r
  obtain ⟨z, lo, xs, rel, o, es, ep, ho, hx, hdat, hes, _, _⟩ := dt_of I.hok ha
  have l1 : kvs.length = xs.length := Paired.length rel
  have l2 : es.size = xs.length := size_of_entries hes
  have hh : X.A.handled = none := I.ok.hd hc
  have hsz : es.size ≤ sizeLine := by omega
  refine Calls.call_function_entry PyProof.Rows.kind_sorted PyProof.Rows.plain_sorted PyProof.Rows.entry_sorted (PyProof.Rows.args_sorted1 _) ?_
  unfold Builtin.«sorted»
  refine wpAny_bind (m := checkCount "sorted" 1 1 _) (wpAny_pure ?_)
  refine wpAny_bind (PySem.W.kdu_collect (A := X.A.in1) (PySem.KdlSrc.rawDict (es := es) (ep := ep) lo) hh ⟨o, ho, hx, hdat⟩ hsz fun h' tk acc hkp hacc => ?_)
  have hacl : acc.toList = xs.map fun x => Value.ref x.2.1 := by
    apply List.ext_getElem?
    intro j
    rw [Array.getElem?_toList, List.getElem?_map]
    by_cases hj : j < acc.size
    · have hj' : acc[j]? = some acc[j] := Array.getElem?_eq_getElem hj
      obtain ⟨hi, e⟩ := hacc.2 j _ hj'
      have e2 := entry_at hes j
      rw [Array.getElem?_eq_getElem hi] at e2
      cases hxj : xs[j]? with
      | none => rw [hxj] at e2; cases e2
      | some x =>
        rw [hxj] at e2
        rw [hj', e]
        have e3 : es[j] = entryOfKey (tupleKind (mixKind X.prog X.w)) x := Option.some.inj e2
        rw [e3]
        rfl
    · have h1 : acc[j]? = none := Array.getElem?_eq_none (by omega)
      have h2 : xs[j]? = none := List.getElem?_eq_none (by have := hacc.1; omega)
      rw [h1, h2]; rfl
  have hal0 : acc.toList.length = kvs.length := by rw [hacl, List.length_map]; exact l1.symm
  have I1 : Inv X pins σ H { s with heap := h', toks := tk } := I.kept hkp
  refine wpAny_bind (wpAny_newList ?_ (by rw [hal0]; omega))
  have hoL : (h'.push (seqObj "list" acc.toList.toArray 0)).get? h'.objs.size = some (seqObj "list" acc.toList.toArray 0) := Heap.get?_push_size _ rfl
  show wpAny _ _ _ _ _ { s with heap := h'.push (seqObj "list" acc.toList.toArray 0), toks := tk }
  have rv : Vals (xs.map fun x => V.ref x.2.1) acc.toList := by rw [hacl]; exact kt_vals
  have hp := kt_keys rel
  have e0 : PySem.W.EachIs (fun u k => ∃ v, RelV v u ∧ keyIsV H v k) acc.toList (kvs.map (·.1)) := each_of (fun v u x r q => ⟨v, r, q⟩) rv hp
  have er : PySem.W.EachIs (fun u k => ∃ as, Reads (PySem.W.sortingHeap (h'.push (seqObj "list" acc.toList.toArray 0)) h'.objs.size acc.toList) u (pd k) as) acc.toList (kvs.map (·.1)) :=
    each_of (P := fun v k => keyIsV H v k ∧ k ∈ kvs.map (·.1)) (fun v u k r q => by
      obtain ⟨as, e⟩ := Dp.reads I1 (pd k) v u (hd k q.2 v q.1) r
      exact ⟨as, PyProof.Rows.Reads.keeps (fun b o e => PySem.W.sortingHeap_old (Nat.ne_of_lt (Heap.lt_size e)) (Heap.get?_push_of_some _ e)) e⟩) rv (paired_mem hp)
  refine wpAny_bind (wpAny_holding (wpAny_call_entry PyProof.Rows.slot_list_sort ⟨_, hoL, rfl⟩ PyProof.Rows.entry_list_sort
    (PySem.W.list_sort_vals (s := { s with heap := h'.push (seqObj "list" acc.toList.toArray 0), toks := tk }) (κ := PySem.W.dataKind (PySem.W.sortingHeap (h'.push (seqObj "list" acc.toList.toArray 0)) h'.objs.size acc.toList) ((kvs.map (·.1)).map pd)) hoL
      (PySem.W.SortsAt.data (s := { s with heap := PySem.W.sortingHeap (h'.push (seqObj "list" acc.toList.toArray 0)) h'.objs.size acc.toList, toks := tk }) (PySem.W.each_map (R := fun v d => ∃ as, Reads (PySem.W.sortingHeap (h'.push (seqObj "list" acc.toList.toArray 0)) h'.objs.size acc.toList) v d as) pd er) hal hk (PySem.W.bound_map fun x hx => ?_)) (by rw [hal0]; omega) ⟨.none, rfl, ?_⟩) (PyProof.Rows.args_list_sort _)))
  · have := hdep x hx
    show X.A.units + 1 + 1 + (pd x).depth < cLine
    omega
  have eo := PySem.W.sortVals_data false e0 er hal
  obtain ⟨ws, rw', hw⟩ := of_each eo
  obtain ⟨e', he'⟩ := PyProof.Rows.sortedHeap_at (vs := acc.toList) (out := (PySem.W.sortVals (PySem.W.dataKind (PySem.W.sortingHeap (h'.push (seqObj "list" acc.toList.toArray 0)) h'.objs.size acc.toList) ((kvs.map (·.1)).map pd)) false acc.toList acc.toList).toArray) hoL
  have hlen : ws.length ≤ sizeLine := by
    have h1 : ws.length = (kvs.map (·.1)).length := by rw [Paired.length hw, List.length_mergeSort]
    rw [h1, List.length_map]; omega
  refine wpAny_pure ⟨_, rfl, .ref h'.objs.size, upd H h'.objs.size (.lst ws), I1.laid (t' := tk) (fun b u e => ?_) (Nat.le_refl _)
    (show ObjOk X.prog X.w _ _ _ (.lst ws) from ⟨hlen, _, e', rw', by rw [Array.toArray_toList] at *; exact he'⟩), rfl, q ws _ hw (I1.hok.fresh (Nat.le_refl _))⟩
  have hb : b < h'.objs.size := Heap.lt_size e
  rw [PyProof.Rows.sortedHeap_old (Nat.ne_of_lt hb) (by rw [size_push']; exact Nat.lt_succ_of_lt hb)]
  exact Heap.get?_push_of_some _ e
/-- keys, as they are sorted -/
def keyPd (k : List Key) : PyData := .tuple (k.map fun x => match x with
  | .inl i => .int i
  | .inr s => .str s)
theorem dpAll_key {K : PySem.W.Frag} {H : Hp} : ∀ k : List Key, DpAll K H (k.map kV) (k.map fun x => match x with
    | .inl i => PyData.int i
    | .inr s => .str s)
  | [] => .nil
  | .inl i :: k => .cons (.int i) (dpAll_key k)
  | .inr s :: k => .cons (.str s) (dpAll_key k)
theorem keyPd_dp {K : PySem.W.Frag} {H : Hp} {v : V} {k : List Key} (h : keyIsV H v k) : Dp K H v (keyPd k) := by
  obtain ⟨b, rfl, hb⟩ := h
  exact .tup (SqT.of hb) (dpAll_key k)
section
variable {X : Cx} {w : XW} {e : Expr} {te : DTE} {p pos : Pos} {x : Str}
def dSortedD (te : DTE) : DTA := fun δ M k => te δ M fun d M1 => match d with
  | .obj a => ∃ kvs, M1 a = some (.dT kvs) ∧ PySem.W.AllAlike ((kvs.map (·.1)).map keyPd) ∧ PySem.W.Sortable ((kvs.map (·.1)).map keyPd) ∧ (∀ x ∈ kvs.map (·.1), (keyPd x).depth ≤ 50) ∧
      k (((kvs.map (·.1)).mergeSort (PySem.W.dataLe false keyPd)).map fun x => D.tup (x.map kD)) M1
  | _ => False
theorem dnkv_keys {K : PySem.W.Frag} {H : Hp} : ∀ {ks : List (List Key × V)} {kvs : List (List Key × D)}, DnKV K H ks kvs → ks.map (·.1) = kvs.map (·.1)
  | _, _, .nil => rfl
  | _, _, .cons ⟨e, _⟩ r => by rw [List.map_cons, List.map_cons, e, dnkv_keys r]
theorem key_dnl {K : PySem.W.Frag} {H : Hp} : ∀ {ws : List V} {ks : List (List Key)}, Paired (keyIsV H) ws ks → DnL K H ws (ks.map fun x => D.tup (x.map kD))
  | _, _, .nil => .nil
  | _, _, .cons ⟨b, e, h⟩ r => by subst e; exact .cons (.tup h (kDl_dn _)) (key_dnl r)
theorem dl_sortedD (hc : X.calm = true) (hu : X.A.units + 64 < cLine) (hg : Gl X x) (hm : X.mg x = none) (hv : bootBuiltins x = some (.builtin "sorted")) (ha : DE X w e te) (hn : x ≠ "__name__" := by decide) (hdb : (x == ("__debug__" : Str)) = false := by decide)
    (he : starEach [e] X.env = (false, eval e X.env) :: starEach [] X.env := by rfl) (hpl : (backTo pos (starEach [] X.env)).any (·.1) = false := by rfl) : DL1 X w (.Call (.Name x p) [e] [] pos) (dSortedD te) :=
  PE.imp (pe_callB (call_sortKT hc hu) hg hm hv (pa_cons ha pa_nil he) hn hdb he hpl) fun σ H Q ⟨δ, M, k, re, rp, h, c⟩ => ⟨δ, M, _, re, rp, h, fun d M1 v H1 q f1 r1 n1 => by
    cases d with
    | obj a =>
      have e := n1.obj_inv
      subst e
      obtain ⟨kvs, m, q1, q2, q3, q⟩ := q
      obtain ⟨ks, ha, hk⟩ := r1 _ _ m
      rw [← dnkv_keys hk] at q1 q2 q3 q
      refine ⟨a, ks, keyPd, rfl, ha, fun _ _ v h => keyPd_dp h, q1, q2, q3, fun ws p hw hp => ContM.lay (M := M) (H := H) (k := k) c f1 r1 hp (key_dnl hw) q⟩
    | _ => exact q.elim⟩
end

/-! ### two clauses, the inner one over a written text -/
def dLc2 (wi : DTI) (gd : DTg) (x : Str) (gd1 : DTg) (tt1 : DTT) (te : DTE) (vs vs1 : List Nat) : DTA := fun δ M k => wi δ M fun ds ok M1 => ∃ Iv : Nat → List D → MH → Prop, Iv 0 [] M1 ∧ ∀ i acc M, i ≤ ds.length → Iv i acc M → ok M ∧
  (∀ d, ds[i]? = some d → ∃ δ2, gd d (wipeD δ vs) = some δ2 ∧ ∃ Iv1 : Nat → List D → MH → Prop, Iv1 0 acc M ∧ ∀ j acc1 M, j ≤ x.cps.size → Iv1 j acc1 M →
    (∀ d1, (sgD x)[j]? = some d1 → ∃ δ3, gd1 d1 (wipeD δ2 vs1) = some δ3 ∧ tt1 δ3 M fun b M5 => if b = true then te δ3 M5 fun y M6 => acc1.length < sizeLine ∧ ∃ M7, Sub M7 M6 ∧ Iv1 (j + 1) (acc1 ++ [y]) M7 else ∃ M7, Sub M7 M5 ∧ Iv1 (j + 1) acc1 M7) ∧
    (j = x.cps.size → ∃ M7, Sub M7 M ∧ Iv (i + 1) acc1 M7)) ∧ (i = ds.length → k acc M)
theorem up_lc2 {K : PySem.W.Frag} {w : XW} {wi : DTI} {g g1 : TG} {gd gd1 : DTg} {x : Str} {tt1 : DTT} {te : DTE} {vs vs1 : List Nat} (hd : TgD K vs g gd) (hd1 : TgD K vs1 g1 gd1) {σ H Q} (h : upL K w (dLc2 wi gd x gd1 tt1 te vs vs1) σ H Q) :
    tLc2 (upI K w wi) g (upT K w0 dYes) (iStr (tC (.str x))) g1 (upT K w0 tt1) (up K w0 te) vs vs1 σ H Q := by
  obtain ⟨δ0, M00, k, re0, rp0, h, c⟩ := h
  refine ⟨δ0, M00, _, re0, rp0, h, ?_⟩
  rintro ds ok M0 H0 ⟨Iv, i0, turn⟩ f00 rp00 J hJ D hD
  refine ⟨fun i m H => m = ds.length - i ∧ i ≤ ds.length ∧ ∃ acc M accV, Rep K H M ∧ Iv i acc M ∧ Fr M0 H0 M H ∧ M D = none ∧ H D = some (.lst accV) ∧ DnL K H accV acc,
    ⟨_, rfl, Nat.zero_le _, [], M0, [], rp00.laid hD, i0, Fr.laid hD, rp00.free hD, upd_same, .nil⟩, ?_⟩
  rintro i m H1 ⟨rfl, hle, acc, M, accV, rp, iv, f0, mD, hDl, na⟩
  obtain ⟨hok, hturn, hend⟩ := turn i acc M hle iv
  obtain ⟨j1, j2⟩ := hJ i H1 M f0 rp hok
  by_cases hlt : i < ds.length
  · obtain ⟨d, hd'⟩ : ∃ d, ds[i]? = some d := ⟨ds[i], List.getElem?_eq_getElem hlt⟩
    obtain ⟨g1', y1⟩ := j1 d hd'
    refine .inr ⟨g1', fun H' => i + 1 ≤ ds.length ∧ ∃ acc M accV, Rep K H' M ∧ Iv (i + 1) acc M ∧ Fr M0 H0 M H' ∧ M D = none ∧ H' D = some (.lst accV) ∧ DnL K H' accV acc,
      fun H' ⟨h1, h2⟩ => ⟨ds.length - (i + 1), by omega, rfl, h1, h2⟩, fun x' H' hy => ?_⟩
    obtain ⟨rp', f', n⟩ := y1 x' H' hy
    obtain ⟨δ2, e2, Iv1, iv1, turn1⟩ := hturn d hd'
    have hD' := f'.fr D _ mD hDl
    refine hd d x' _ _ δ2 H' _ ((re0.on ((f00.trans f0).trans f')).env.wipe vs) n e2 fun σ2 re2 w2 => ⟨w2.trans wipe_wipe, δ2, M, (fun b M3 => b = true ∧ M3 = M), (⟨re2, fun _ _ _ _ _ h => h.elim⟩ : EnvD K w0 M H' σ2 δ2), rp', ⟨rfl, rfl⟩, fun b M3 H3 ⟨eb, eM⟩ f3 r3 => ?_⟩
    subst eb; subst eM
    have hD3 := f3.fr D _ hD'.2 hD'.1
    refine iteT ⟨x, rfl, fun j k' H => k' = x.cps.size - j ∧ j ≤ x.cps.size ∧ ∃ acc1 M accV, Rep K H M ∧ Iv1 j acc1 M ∧ Fr M0 H0 M H ∧ M D = none ∧ H D = some (.lst accV) ∧ DnL K H accV acc1 ∧ Ext H' H,
      ⟨_, rfl, Nat.zero_le _, acc, M3, accV, r3, iv1, (f0.trans f').trans f3, hD3.2, hD3.1, na.ext (f'.ext.trans f3.ext), f3.ext⟩, ?_⟩
    rintro j k' H4 ⟨rfl, hjle, acc1, M4, accV1, r4, iv4, f4, mD4, hD4, na4, e4⟩
    obtain ⟨step, fin⟩ := turn1 j acc1 M4 hjle iv4
    by_cases hj : j < x.cps.size
    · have e1 : (sgD x)[j]? = some (.str ⟨#[x.cps[j]]⟩) := by simp [sgD, hj]
      refine .inr ⟨hj, fun H' => j + 1 ≤ x.cps.size ∧ ∃ acc1 M accV, Rep K H' M ∧ Iv1 (j + 1) acc1 M ∧ Fr M0 H0 M H' ∧ M D = none ∧ H' D = some (.lst accV) ∧ DnL K H' accV acc1 ∧ Ext _ H',
        fun H'' ⟨h1, h2⟩ => ⟨x.cps.size - (j + 1), by omega, rfl, h1, h2⟩, fun z H5 ⟨eH, c', hc', ez⟩ => ?_⟩
      subst eH; subst ez
      rw [Array.getElem?_eq_getElem hj] at hc'
      cases hc'
      obtain ⟨δ3, e3, ht⟩ := step _ e1
      refine hd1 (.str ⟨#[x.cps[j]]⟩) _ _ _ δ3 _ _ ((re2.ext e4).wipe vs1) (.str _) e3 fun σ3 re3 w3 => ⟨w3.trans wipe_wipe, δ3, M4, _, (⟨re3, fun _ _ _ _ _ h => h.elim⟩ : EnvD K w0 M4 _ σ3 δ3), r4, ht, fun b M5 H5 q f5 r5 => ?_⟩
      have hD5 := f5.fr D _ mD4 hD4
      cases b with
      | false =>
        obtain ⟨M7, s7, iv7⟩ := q
        exact iteF ⟨hj, acc1, M7, accV1, r5.sub s7, iv7, (f4.trans f5).sub s7, s7.free hD5.2, hD5.1, na4.ext f5.ext, e4.trans f5.ext⟩
      | true =>
        refine iteT ⟨δ3, M5, _, (⟨re3.ext f5.ext, fun _ _ _ _ _ h => h.elim⟩ : EnvD K w0 M5 H5 σ3 δ3), r5, q, fun y M6 v H6 ⟨hz, M7, s7, iv7⟩ f6 r6 n6 => ?_⟩
        have hD6 := f6.fr D _ hD5.2 hD5.1
        have e6 : Ext H6 (upd H6 D (.lst (accV1 ++ [v]))) := ext_lst hD6.1
        refine ⟨accV1, hD6.1, by rw [na4.length]; exact hz, hj, acc1 ++ [y], M7, accV1 ++ [v], ?_, iv7, ?_, s7.free hD6.2, upd_same, ((na4.ext (f5.ext.trans f6.ext)).append (.cons n6 .nil)).ext e6, (e4.trans (f5.ext.trans f6.ext)).trans e6⟩
        · intro a o m
          have na : a ≠ D := fun z => by
            rw [z, s7.free hD6.2] at m; cases m
          exact ((r6.sub s7) a o m).ext e6 fun u hu => by rw [upd_ne na]; exact hu
        · have f7 := ((f4.trans f5).trans f6).sub s7
          refine ⟨f7.ext.trans e6, fun a o m q => ?_, fun a z => f7.there a (upd_there z)⟩
          rw [upd_ne (ne_of_none q hD)]; exact f7.fr a o m q
    · have ej : j = x.cps.size := by omega
      obtain ⟨M7, s7, iv7⟩ := fin ej
      exact .inl ⟨by show x.cps.size ≤ j; omega, hlt, acc1, M7, accV1, r4.sub s7, iv7, f4.sub s7, s7.free mD4, hD4, na4⟩
  · have e : i = ds.length := by omega
    exact .inl ⟨j2 (by omega), c acc M D accV H1 (hend e) (f00.trans f0) rp (f00.there D hD) mD hDl na⟩
section
variable {X : Cx} {w : XW}
theorem ds_setLc2 {i : Nat} {y : Str} {py : Pos} {elt tg iter tg1 : Expr} {ifs1 : List Expr} {scope : Scope} {own : List (Str × Nat)} {vs1 : List Nat} {pos spos tp : Pos} {tj} {x : Str} {wi : DTI} {g g1 : TG} {gd gd1 : DTg} {tt1 : DTT} {te : DTE} (hc : X.calm = true) (hN : X.N.Nodup) (hy : X.N[i]? = some y) (hyl : X.env.scope.names.lookup y = some .local)
    (hsw : swapsWith (.ListComp elt [⟨tg, iter, [], 0⟩, ⟨tg1, .Constant (.str x) tj tp, ifs1, 0⟩] scope pos) (some (.Name y py)) spos.line X.env = pure true) (hi : DI X w tg iter wi) (ok : BlkOk X.N X.env.scope scope own) (hv : ∀ i ∈ vs1, i ∈ own.map (·.2))
    (hd : TgD X.K (own.map (·.2)) g gd) (hd1 : TgD X.K vs1 g1 gd1)
    (hg : ∀ (s : Shared) (H : Hp) (C : Addr) (cl : List (Str × Addr)) (fp : List Addr), PG (X.blk s H scope (compEnvC scope cl C X.env) fp) tg g)
    (hg1 : ∀ (s : Shared) (H : Hp) (C : Addr) (cl : List (Str × Addr)) (fp : List Addr), PG (X.blk s H scope (compEnvC scope cl C X.env) fp) tg1 g1)
    (ht1 : ∀ (s : Shared) (H : Hp) (C : Addr) (cl : List (Str × Addr)) (fp : List Addr), DTs (X.blk s H scope (compEnvC scope cl C X.env) fp) w0 ifs1 tt1)
    (he : ∀ (s : Shared) (H : Hp) (C : Addr) (cl : List (Str × Addr)) (fp : List Addr), DE (X.blk s H scope (compEnvC scope cl C X.env) fp) w0 elt te) (hs : ∀ x, foldedSetIterable iter X.env x = pure x := by intro _; rfl) :
    DS X w (.Assign [.Name y py] (.ListComp elt [⟨tg, iter, [], 0⟩, ⟨tg1, .Constant (.str x) tj tp, ifs1, 0⟩] scope pos) spos) (dAsg (dMade (dLc2 wi gd x gd1 tt1 te (own.map (·.2)) vs1)) (dgName i)) :=
  PS.imp (ps_setLc2 (wi1 := iStr (tC (.str x))) hc hN hy hyl hsw hi ok hv hg (fun s H C cl fp => (dts_nil (w := w0)).run) (fun s H C cl fp => pi_str pe_str) hg1 (fun s H C cl fp => (ht1 s H C cl fp).run) he hs (by intro _ _; rfl)) fun D σ H h => by
    have q := up_asg (K := X.K) (te := dMade (dLc2 wi gd x gd1 tt1 te (own.map (·.2)) vs1)) (tg_name (K := X.K) (vs := [i]) (i := i) (by simp)) h
    obtain ⟨δ, M, k, re, rp, h1, c⟩ := q
    exact up_lc2 hd hd1 ⟨δ, M, _, re, rp, h1, fun ds M' p vs H' q f r hp mp hl n => c (.obj p) _ (.ref p) H' (q p mp) ⟨f.ext, fun a o m ha => ⟨(f.fr a o m ha).1, by rw [put_ne (ne_of_none ha hp)]; exact (f.fr a o m ha).2⟩, f.there⟩
      (fun a u m => by
        by_cases z : a = p
        · subst z; rw [put_same] at m; cases m; exact ⟨vs, hl, n⟩
        · rw [put_ne z] at m; exact r a u m) (.obj p)⟩
end

/-! ### the head: a Hook with tables -/
/-- values of a table, by key -/
def tabB (K : PySem.W.Frag) (a : Addr) (kvs : List (Str × Dc)) : Bool := kvs.all fun q => match PySem.W.nsIn K a q.1 with
  | some (some u) => konB K q.2 u
  | _ => false
theorem tabB_ok {K : PySem.W.Frag} {wd : World} {a : Addr} {kvs : List (Str × Dc)} (hk : ∃ es n, KDict K wd a es n) (h : tabB K a kvs = true) : KTab K wd a (kvs.map fun q => (q.1, konD q.2)) :=
  ⟨hk, fun q hq => by
    obtain ⟨q0, h0, rfl⟩ := List.mem_map.mp hq
    have h2 := List.all_eq_true.mp h q0 h0
    cases e : PySem.W.nsIn K a q0.1 with
    | none => rw [e] at h2; cases h2
    | some r =>
      rw [e] at h2
      cases r with
      | none => cases h2
      | some u =>
        obtain ⟨v, r, hd⟩ := konB_ok _ _ h2
        exact ⟨u, v, rfl, r, hd⟩⟩
abbrev AlN : Type := Al × List (Option (List (Option (Str × Int))))
def obsN (fa : List Fa) (fn : List FnD) (ck : PySem.W.Frag → Bool) (ts : List (Str × List Str)) (K : PySem.W.Frag) : AlN := (obsM fa fn ck K, ts.map fun t => dicW K (ga K t.1))
def valN (fn : List FnD) (ts : List (Str × List Str)) (w : World) : AlN := (valE fn, ts.map fun t => some (keysIn w.params t.2))
def SaysN (fa : List Fa) (fn : List FnD) (ck : PySem.W.Frag → Bool) (ts : List (Str × List Str)) (w : World) (K : PySem.W.Frag) : Prop := obsN fa fn ck ts K = valN fn ts w
def obsNG (n : Nat) (fa : List Fa) (fn : List FnD) (ck : PySem.W.Frag → Bool) (ts : List (Str × List Str)) (g : Addr → Option Obj) : AlN := obsN fa fn ck ts (frG g (asG g n))
def hookN (n : Nat) (fa : List Fa) (fn : List FnD) (ck : PySem.W.Frag → Bool) (ts : List (Str × List Str)) : PySem.W.Hook where
  α := AlN
  obs := fun s => obsNG n fa fn ck ts s.heap.get?
  val := fun w => valN fn ts w
  says := fun w h => ∃ K : PySem.W.Frag, K.In h ∧ SaysN fa fn ck ts w K
  of := fun _ _ e => ⟨_, frG_in, e⟩
  keeps := fun _ _ _ ⟨K, hK, c⟩ k => ⟨K, PySem.W.Frag.In.keeps hK k, c⟩
theorem obsNG_eq {n : Nat} {fa : List Fa} {fn : List FnD} {ck : PySem.W.Frag → Bool} {ts : List (Str × List Str)} {g : Addr → Option Obj} {s : Shared} (h : ∀ a, g a = s.heap.get? a) : obsNG n fa fn ck ts g = (hookN n fa fn ck ts).obs s := by
  have e : g = s.heap.get? := funext h
  rw [e] <;> rfl
section
variable {fa : List Fa} {fn : List FnD} {ck : PySem.W.Frag → Bool} {ts : List (Str × List Str)} {w : World} {K : PySem.W.Frag}
theorem SaysN.m (c : SaysN fa fn ck ts w K) : SaysM fa fn ck K := congrArg (fun z : AlN => z.1) c
theorem SaysN.tab (c : SaysN fa fn ck ts w K) (i : Nat) {t : Str × List Str} (h : ts[i]? = some t) : ∃ es n, KDict K w (ga K t.1) es n := by
  have e : ts.map (fun t => dicW K (ga K t.1)) = ts.map fun t => some (keysIn w.params t.2) := congrArg (fun z : AlN => z.2) c
  have e2 : (ts.map fun t => dicW K (ga K t.1))[i]? = (ts.map fun t => some (keysIn w.params t.2))[i]? := by rw [e]
  rw [List.getElem?_map, List.getElem?_map, h] at e2
  exact dicW_ok (Option.some.inj e2)
end
end DL
/-! DL: backwards slices, counts, least of a list. -/
namespace DL
open PySem PySem.Spec PyProof.Rows L2
/-! ### x[::-1] of a text, of a tuple -/
def revS (z : Str) : Str := ⟨z.cps.toList.reverse.toArray⟩
theorem picked_revS (z : Str) : ((Builtin.Str.strSliceIndices none none (-1) z.length).filterMap (z.cps[·]?)).toArray = (revS z).cps := by
  rw [picked_rev]
  have e : (List.range z.length).map (fun k => z.length - 1 - k) = (List.range z.length).reverse := PySem.W.krv_range z.length
  rw [e]
  have e2 := PySem.W.krv_all z.cps
  show ((List.range z.length).reverse.filterMap (z.cps[·]?)).toArray = z.cps.toList.reverse.toArray
  rw [List.filterMap_reverse]
  have e3 : (List.range z.length).filterMap (z.cps[·]?) = z.cps.toList := e2
  rw [e3]
section
variable {prog : Program} {w : World} {A : Around} {E : Value → Shared → Prop} {s : Shared}
theorem applied_rev {sl : Addr} {vl vu vs : Value} {n : Nat} {Q : Int × Int × Nat → Shared → Prop} (hs : s.heap.IsSliceOf sl vl vu vs) (pl : IsPart vl none) (pu : IsPart vu none) (ps : IsPart vs (some (-1)))
    (h : Q ((n : Int) - 1, -1, n) s) : wpAny (model prog w) A (Builtin.Slice.sliceApplied (.ref sl) (pure (n : Int))) Q E s := by
  obtain ⟨os, hos, hcs, hds⟩ := id hs
  unfold Builtin.Slice.sliceApplied Builtin.Slice.sliceFields
  refine wpAny_bind (wpAny_bind (wpAny_field hos hds (x := vl) rfl (wpAny_bind (wpAny_field hos hds (x := vu) rfl (wpAny_bind (wpAny_field hos hds (x := vs) rfl (wpAny_pure ?_)))))))
  refine wpAny_bind (HT.slicePart_ ps ?_)
  show wpAny _ _ (if ((-1 : Int) == 0) = true then _ else _) _ _ s
  rw [if_neg (by decide)]
  refine wpAny_bind (HT.slicePart_ pl (wpAny_bind (HT.slicePart_ pu (wpAny_bind (wpAny_pure ?_)))))
  have ea : Builtin.Slice.sliceAdjust none none (-1) (n : Int) = ((n : Int) - 1, -1) := by
    unfold Builtin.Slice.sliceAdjust
    simp
  show wpAny _ _ (match Builtin.Slice.sliceAdjust none none (-1) (n : Int) with | (lo, hi) => pure (lo, (-1 : Int), Builtin.Slice.slicePlaces lo hi (-1))) _ _ s
  rw [ea]
  have ep : Builtin.Slice.slicePlaces ((n : Int) - 1) (-1) (-1) = n := by
    unfold Builtin.Slice.slicePlaces
    simp
    omega
  show wpAny _ _ (pure ((n : Int) - 1, (-1 : Int), Builtin.Slice.slicePlaces ((n : Int) - 1) (-1) (-1))) _ _ s
  rw [ep]
  exact wpAny_pure h
theorem filterMap_same {α β : Type} {f g : α → Option β} : ∀ {l : List α}, (∀ x ∈ l, f x = g x) → l.filterMap f = l.filterMap g
  | [], _ => rfl
  | x :: l, h => by rw [List.filterMap_cons, List.filterMap_cons, h x List.mem_cons_self, filterMap_same fun y hy => h y (List.mem_cons_of_mem _ hy)]
theorem pick_rev (xs : Array Value) : ((List.range xs.size).filterMap fun (m : Nat) => xs[(((xs.size : Nat) : Int) - 1 + (m : Int) * (-1)).toNat]?).toArray = xs.toList.reverse.toArray := by
  congr 1
  rw [← PySem.W.krv_all xs, ← List.filterMap_reverse, ← PySem.W.krv_range, List.filterMap_map]
  refine filterMap_same fun m hm => ?_
  have hm := List.mem_range.mp hm
  show xs[_]? = xs[xs.size - 1 - m]?
  congr 1
  omega
theorem getItem_tuple_rev {t sl : Addr} {items : Array Value} {vl vu vs : Value} {Q : Value → Shared → Prop} (ht : IsTup s.heap t items) (hs : s.heap.IsSliceOf sl vl vu vs) (pl : IsPart vl none) (pu : IsPart vu none) (ps : IsPart vs (some (-1)))
    (h : Q (.ref s.heap.objs.size) { s with heap := s.heap.push { cls := .type "tuple", data := .seq items.toList.reverse.toArray } }) (hsz : items.size ≤ sizeLine) : wpAny (model prog w) A (getItem (.ref t) (.ref sl)) Q E s := by
  have htake : sizeOk (.seq items.toList.reverse.toArray) := by
    show items.toList.reverse.toArray.size ≤ sizeLine
    simpa using hsz
  obtain ⟨os, hos, hcs, hds⟩ := id hs
  have hTs : s.TypeIs (.ref sl) "slice" := ⟨os, hos, hcs⟩
  unfold getItem
  try with_reducible refine wpAny_holding ?_
  first | refine wpAny_bind (wpAny_pure ?_) | skip
  refine wpAny_bind (wpAny_sequenceKey ht.typeIs (by decide) ?_)
  refine wpAny_bind (wpAny_callSpecial?_slot (name := Str.ofString "__getitem__") ht.typeIs PyProof.Rows.slot_tuple_getitem
    (wpAny_call_entry PyProof.Rows.slot_tuple_getitem ht.typeIs entry_tuple_getitem ?_ (args_tuple_getitem _ _)))
  show wpAny _ _ (Builtin.Tuple.tupleItemsOf (.ref t) >>= _) _ _ s
  refine wpAny_bind (tupleItemsOf_ ht ?_)
  refine wpAny_bind (wpAny_typeOf hTs ?_)
  rw [if_pos (by decide)]
  refine wpAny_bind (applied_rev hs pl pu ps ?_)
  have hno : ¬ ((((items.size : Nat) : Int) - 1 == 0 && (-1 : Int) == 1 && items.size == items.size) = true) := by simp
  show wpAny _ _ (if (((items.size : Nat) : Int) - 1 == 0 && (-1 : Int) == 1 && items.size == items.size) = true then _ else _) _ _ s
  rw [if_neg hno, pick_rev]
  first
    | exact wpAny_bind (m := Builtin.Tuple.tupleExact _) (wpAny_newObj_type (wpAny_pure ⟨_, rfl, wpAny_pure h⟩) htake)
    | exact wpAny_bind (m := Builtin.Tuple.tupleExact _) (wpAny_newObj_type (wpAny_bind (wpAny_pure (wpAny_pure ⟨_, rfl, wpAny_pure h⟩))) htake)
    | exact wpAny_bind (wpAny_bind (m := Builtin.Tuple.tupleExact _) (wpAny_newObj_type (wpAny_pure (wpAny_pure ⟨_, rfl, wpAny_pure h⟩)) htake))
    | exact wpAny_bind (wpAny_bind (m := Builtin.Tuple.tupleExact _) (wpAny_newObj_type (wpAny_pure ⟨_, rfl, wpAny_pure h⟩) htake))
end
def tRevA (K : PySem.W.Frag) (te : TE) : TE := fun σ H Q => te σ H fun x H1 => (∃ z, x = .str z ∧ z.length ≤ sizeLine ∧ Q (.str (revS z)) H1) ∨ ∃ a xs, x = .ref a ∧ SqT K H1 a xs ∧ ∀ p, H1 p = none → Q (.ref p) (upd H1 p (.tup xs.reverse))
theorem pe_revA {X : Cx} {e : Expr} {te : TE} {k : Nat} {p1 p2 p3 pos : Pos} (he : PE X e te) : PE X (.Subscript e (.Slice none none (some (.UnaryOp .USub (.Constant (.int 1) k p1) p2)) p3) pos) (tRevA X.K te) := by
  refine ⟨fun pins s σ H Q I h => ?_⟩
  refine Subscript_ (thn (he.run pins s σ H _ I h) fun v s1 ⟨x, H1, I1, r1, q1⟩ => ?_)
  have hst : PO X (some (.UnaryOp .USub (.Constant (.int 1) k p1) p2)) (tPart (tUn (rU fun i => .int (-i)) (tC (.int 1)))) := po_some (pe_un un_neg pe_int)
  refine wpAny_Slice (thn (po_none.run pins s1 σ H1 (fun o H2 => o = none ∧ H2 = H1) I1 ⟨rfl, rfl⟩) fun vl s2 ⟨l, H2, I2, pl, el, e2⟩ => ?_)
  subst el e2
  refine thn (po_none.run pins s2 σ H2 (fun o H3 => o = none ∧ H3 = H2) I2 ⟨rfl, rfl⟩) fun vu s3 ⟨u, H3, I3, pu, eu, e3⟩ => ?_
  subst eu e3
  refine thn (hst.run pins s3 σ H3 (fun o H4 => o = some (-1) ∧ H4 = H3) I3 ⟨1, rfl, -1, rfl, rfl, rfl⟩) fun vs s4 ⟨o, H4, I4, ps, eo, e4⟩ => ?_
  subst eo e4
  have I5 : Inv X pins σ H4 { s4 with heap := s4.heap.push { cls := .type "slice", data := .fields #[vl, vu, vs] } } := I4.kept (t' := s4.toks) fun b ob q => Heap.get?_push_of_some _ q
  rcases q1 with ⟨z, rfl, hz, q⟩ | ⟨a, xs, rfl, hx, q⟩
  · obtain ⟨t, rfl⟩ := r1
    obtain ⟨l, rfl, el⟩ := IsPart.raw pl
    obtain ⟨u, rfl, eu⟩ := IsPart.raw pu
    obtain ⟨st, rfl, est⟩ := IsPart.raw ps
    refine tail_any (ops := [.str z t, .ref s4.heap.objs.size]) (typeIs_str _ _ _) (F.slot_str_getitem.lookup) ?_ (by with_unfolding_all rfl)
    refine wpAny_getItem_str_slice (l := l) (u := u) (st := st) ⟨_, Heap.get?_push_size _ rfl, rfl, rfl⟩ (by rw [est]; rfl) ?_
    have em : sliceMade z t l u st = .str (revS z) := by
      unfold sliceMade slicePicked
      rw [est, el, eu]
      rw [if_neg (by simp)]
      show Made.str ⟨((Builtin.Str.strSliceIndices none none (-1) z.length).filterMap (z.cps[·]?)).toArray⟩ = _
      rw [picked_revS]
    rw [em]
    exact ⟨by rw [show (revS z).length = z.length by simp [revS, Str.length]]; exact hz, .str _, H4, I5.tok _, ⟨_, rfl⟩, q⟩
  · cases r1
    obtain ⟨its, r, ht, hz⟩ := I5.tuple hx
    have hlen := r.length
    refine tail_any (ops := [.ref a, .ref s4.heap.objs.size]) ht.typeIs (PyProof.Rows.slot_tuple_getitem.lookup) ?_ (by with_unfolding_all rfl)
    refine getItem_tuple_rev ht (Heap.IsSliceOf.new _ vl vu vs) pl pu ps ?_ (by rw [List.size_toArray]; omega)
    refine ⟨.ref _, _, I5.laid (t' := s4.toks) (o := .tup xs.reverse) (fun b ob q => Heap.get?_push_of_some _ q) (Nat.le_refl _) ?_, rfl, q _ (I5.hok.fresh (Nat.le_refl _))⟩
    exact ⟨by rw [List.length_reverse]; exact hz, _, r.reverse, IsTup.new _ _⟩
section
variable {X : Cx} {w : XW} {e : Expr} {te : DTE} {pos : Pos}
def dRev (te : DTE) : DTE := fun δ M k => te δ M fun x M1 => match x with
  | .str z => z.length ≤ sizeLine ∧ k (.str (revS z)) M1
  | .tup xs => k (.tup xs.reverse) M1
  | _ => False
theorem de_rev {k : Nat} {p1 p2 p3 : Pos} (he : DE X w e te) : DE X w (.Subscript e (.Slice none none (some (.UnaryOp .USub (.Constant (.int 1) k p1) p2)) p3) pos) (dRev te) :=
  PE.imp (pe_revA he) fun σ H Q ⟨δ, M, k, re, rp, h, c⟩ => ⟨δ, M, _, re, rp, h, fun x M1 v H1 q f1 r1 n1 => by
    cases x with
    | str z => cases n1; exact .inl ⟨z, rfl, q.1, (c.on f1).here q.2 r1 (.str _)⟩
    | tup xs =>
      obtain ⟨a, vs, rfl, ha, hs⟩ := n1.tup_inv
      exact .inr ⟨a, vs, rfl, SqT.of ha, fun p hp => new_tup (c.on f1) r1 hp hs.reverse q⟩
    | _ => exact q.elim⟩
/-! ### least of a fresh list -/
def rdMin : RDC := fun ds M k => ∃ ns : List Int, ds = ns.map D.int ∧ 0 < ns.length ∧ ∀ m, m ∈ ns → (∀ y, y ∈ ns → m ≤ y) → k (.int m) M
theorem ld_min {K : PySem.W.Frag} : ListD K (rMin K) rdMin := fun p vs ds H M k Q hp mp n r ⟨ns, e, h0, h⟩ c => by
  subst e
  exact ⟨p, ns, rfl, SqL.of (by rw [← n.ints]; exact hp), h0, fun m h1 h2 => c.here (h m h1 h2) r (.int _)⟩
/-! ### l.count(text) of a list of texts -/
def rCountS (K : PySem.W.Frag) : V → List V → Hp → VK → Prop := fun x xs H Q => ∃ (a : Addr) (ys : List Str) (z : Str), x = .ref a ∧ xs = [.str z] ∧ SqL K H a (ys.map V.str) ∧ Q (.int ((ys.countP fun y => decide (y = z) : Nat) : Int)) H
theorem dp_strs {K : PySem.W.Frag} {H : Hp} : ∀ ys : List Str, DpAll K H (ys.map V.str) (ys.map PyData.str)
  | [] => .nil
  | y :: ys => .cons (.str y) (dp_strs ys)
theorem plain_strs : ∀ ys : List Str, PyData.plainAll (ys.map PyData.str) = true
  | [] => by simp [PyData.plainAll]
  | y :: ys => by simp [PyData.plainAll, PyData.plain, plain_strs ys]
theorem depth_strs : ∀ ys : List Str, PyData.depthAll (ys.map PyData.str) = 0
  | [] => by simp [PyData.depthAll]
  | y :: ys => by simp [PyData.depthAll, PyData.depth, depth_strs ys]
theorem mt_countS {X : Cx} (hu : X.A.units + 64 < cLine) : MtR X "list.count" (rCountS X.K) := by
  intro pins s σ H x xs v us Q I rx rxs h
  obtain ⟨a, ys, z, rfl, rfl, hs, q⟩ := h
  cases rx
  obtain ⟨u, rfl, t, rfl⟩ := vals1 rxs
  obtain ⟨its, rv, hl, hz⟩ := I.list hs
  obtain ⟨as, hr⟩ := Dp.readsAll I (ys.map PyData.str) _ its (dp_strs ys) rv
  refine PySem.SeqAt.count_list_data (s := s) (vs := its.toArray) (xs := ys.map PyData.str) (d := .str z) hl.isList (by simpa using hr) (.str z t) (plain_strs ys) (by simp [PyData.plain]) (by rw [depth_strs]; simp [PyData.depth]; omega) ⟨.int _, H, I.tok _, ⟨_, rfl⟩, ?_⟩
  have e : ((ys.map PyData.str).countP fun y => PyData.eqv y (.str z)) = ys.countP fun y => decide (y = z) := by
    rw [List.countP_map]
    congr 1
  rw [e]
  exact q
variable {o i f : Expr} {to ti tx : DTE} {apos cpos : Pos}
def dCount (to te : DTE) : DTE := fun δ M k => to δ M fun x M1 => (∃ ds0, lstOf M1 x = some ds0) ∧ te δ M1 fun y M2 => ∃ (ys : List Str) (z : Str), lstOf M2 x = some (ys.map D.str) ∧ y = .str z ∧ k (.int ((ys.countP fun y => decide (y = z) : Nat) : Int)) M2
theorem de_count (hu : X.A.units + 64 < cLine) (ho : DE X w o to) (he : DE X w e te) (hbase : attributeBase o "count" X.env (eval o X.env) = eval o X.env := by rfl)
    (hfew : ((backTo cpos (starEach [e] X.env)).all (fun x => !x.1) && (backToKw cpos (keywordEach [] X.env)).all (fun x => x.1.isSome)
      && decide (([e] : List Expr).length + ([] : List Keyword).length + (if ([] : List Keyword).isEmpty then 0 else 1) < 30)) = true := by rfl)
    (hline : (apos.endLine == cpos.line) = true := by rfl) (hs : starEach [e] X.env = (false, eval e X.env) :: starEach [] X.env := by rfl) (hplain : (backTo cpos (starEach [] X.env)).any (·.1) = false := by rfl) :
    DE X w (.Call (.Attribute o "count" apos) [e] [] cpos) (dCount to te) :=
  PE.imp (pe_bm PySem.F.plainAttrs_list PySem.F.slot_list_count PySem.F.type_list_count (mt_countS hu) ho (pa_cons he pa_nil hs) hbase hfew hline hs hplain) fun σ H Q ⟨δ, M, k, re, rp, h, c⟩ => ⟨δ, M, _, re, rp, h, fun x M1 v H1 ⟨⟨ds0, hl0⟩, q1⟩ f1 r1 n1 => by
    obtain ⟨a0, vs0, rfl, h0, _⟩ := lstOf_is r1 n1 hl0
    refine ⟨.inl ⟨rfl, _, h0⟩, δ, M1, _, re.on f1, r1, q1, fun y M2 w H2 ⟨ys, z, hl, ey, q⟩ f2 r2 n2 => ?_⟩
    subst ey
    cases n2
    obtain ⟨a, vs, ea, h2, hs⟩ := lstOf_is r2 (n1.ext f2.ext) hl
    cases ea
    rw [hs.strs] at h2
    exact ⟨a0, ys, z, rfl, rfl, h2, (c.on (f1.trans f2)).here q r2 (.int _)⟩⟩
end
end DL
/-! DL: what is never reached; d.pop(k, x); d == {}; a local that holds a def; try, raise. -/
namespace DL
open PySem PySem.Spec PyProof.Rows L2
section
variable {X : Cx} {w : XW} {o i f e a b : Expr} {to ti tx ta tb te : DTE} {t : DTA} {apos cpos pos p : Pos} {es : List Expr}
def dNeverE : DTE := fun _ _ _ => False
theorem de_never : DE X w e dNeverE := ⟨fun pins s σ H Q I h => let ⟨_, _, _, _, _, z, _⟩ := h; z.elim⟩
/-! d.pop(k, x) -/
def dPopT (to : DTE) (t : DTA) : DTE := fun δ M k => to δ M fun x M1 => match x with
  | .obj a => (∃ kvs, M1 a = some (.dT kvs)) ∧ t δ M1 fun ds M3 => ∃ y z kvs c, ds = [y, z] ∧ M3 a = some (.dT kvs) ∧ tupKey y = some c ∧ (∀ v, valD kvs c = some v → k v (put M3 a (.dT (dropD kvs c)))) ∧ (valD kvs c = none → k z M3)
  | _ => False
theorem de_popT (hu : X.A.units + 1 < cLine) (ho : DE X w o to) (ha : DA X w [i, f] t) (hbase : attributeBase o "pop" X.env (eval o X.env) = eval o X.env := by rfl)
    (hfew : ((backTo cpos (starEach [i, f] X.env)).all (fun x => !x.1) && (backToKw cpos (keywordEach [] X.env)).all (fun x => x.1.isSome)
      && decide (([i, f] : List Expr).length + ([] : List Keyword).length + (if ([] : List Keyword).isEmpty then 0 else 1) < 30)) = true := by rfl)
    (hline : (apos.endLine == cpos.line) = true := by rfl) (hs : starEach [i, f] X.env = (false, eval i X.env) :: starEach [f] X.env := by rfl) (hplain : (backTo cpos (starEach [f] X.env)).any (·.1) = false := by rfl) :
    DE X w (.Call (.Attribute o "pop" apos) [i, f] [] cpos) (dPopT to t) :=
  PE.imp (pe_bm PySem.F.plainAttrs_dict PySem.F.slot_dict_pop PySem.F.type_dict_pop (L2.DX.mt_popT hu) ho ha hbase hfew hline hs hplain) fun σ H Q ⟨δ, M, k, re, rp, h, c⟩ => ⟨δ, M, _, re, rp, h, fun x M1 v H1 q1 f1 r1 n1 => by
    cases x with
    | obj a =>
      have e := n1.obj_inv
      subst e
      obtain ⟨⟨kvs0, m0⟩, q1⟩ := q1
      obtain ⟨ks0, h0, _⟩ := r1 _ _ m0
      refine ⟨.inr (.inr (.inl ⟨rfl, .inr ⟨ks0, h0⟩⟩)), δ, M1, _, re.on f1, r1, q1, fun ds M3 vs H3 q3 f3 r3 n3 => ?_⟩
      obtain ⟨y, z, kvs, c', rfl, m3, hk, q4, q5⟩ := q3
      obtain ⟨u, u', rfl, ny, nz⟩ := n3.two_inv
      obtain ⟨ks, h3, hr⟩ := r3 _ _ m3
      obtain ⟨b, rfl, hb⟩ := tupKey_is ny hk
      have hv := valD_rel c' hr
      have ff := f1.trans f3
      refine ⟨a, ks, c', b, u', rfl, rfl, h3, hb, fun v e => ?_, fun e => ?_⟩
      · rw [e] at hv
        cases e2 : valD kvs c' with
        | none => rw [e2] at hv; exact hv.elim
        | some d =>
          rw [e2] at hv
          have e3 : Ext H3 (upd H3 a (.dT (dropK ks c'))) := ext_dT h3
          exact c.on ff d _ v _ (q4 d e2) (Fr.set m3 e3) (r3.put e3 ⟨_, upd_same, (dropD_rel c' hr).ext e3⟩) (Dn.ext e3 _ _ hv)
      · rw [e] at hv
        cases e2 : valD kvs c' with
        | none => exact (c.on ff).here (q5 e2) r3 nz
        | some d => rw [e2] at hv; exact hv.elim
    | _ => exact q1.elim⟩
/-! d == {} -/
def rEqE : R2 := fun x y H Q => ∃ a b kvs, x = .ref a ∧ y = .ref b ∧ H a = some (.dT kvs) ∧ H b = some (.dT []) ∧ Q (.bl kvs.isEmpty) H
theorem op_eqE (hu : X.A.units < cLine) : OpR X (compareOp .Eq) rEqE := by
  intro pins s σ H x y v u Q I rx ry h
  obtain ⟨a, b, kvs, rfl, rfl, ha, hb, q⟩ := h
  cases (show v = Value.ref a from rx)
  cases (show u = Value.ref b from ry)
  obtain ⟨_, ya, xa, ra, da⟩ := dt_of I.hok ha
  obtain ⟨_, yb, xb, rb, db⟩ := dt_of I.hok hb
  obtain ⟨eA, pA, dA, sA, _⟩ := da.raw
  obtain ⟨eB, pB, dB, sB, _⟩ := db.raw
  have lA : eA.size = kvs.length := sA.trans ra.length.symm
  have lB : eB.size = 0 := by rw [sB, ← Paired.length rb]; rfl
  obtain ⟨oA, gA, _, tA⟩ := id dA
  obtain ⟨oB, gB, _, tB⟩ := id dB
  have core : ∀ {A : Around} {E : Value → Shared → Prop} {R : Bool → Shared → Prop} {nm : String}, R kvs.isEmpty s → wpAny (model X.prog X.w) A (Builtin.Dict.samePairs nm a b) R E s := by
    intro A E R nm h
    unfold Builtin.Dict.samePairs Builtin.Dict.showsAll
    have nA : ¬ (a == sysModules) = true := fun z => by rw [ya] at z; cases z
    have nB : ¬ (b == sysModules) = true := fun z => by rw [yb] at z; cases z
    rw [if_neg nA, if_neg nB]
    refine wpAny_bind (wpAny_pure (wpAny_bind (wpAny_pure (wpAny_bind (wpAny_dictEntries gA tA ?_)))))
    dsimp only
    refine wpAny_bind (wpAny_dictEntries gB tB ?_)
    cases kvs with
    | nil =>
      have zA : eA.size = 0 := lA
      have hE : eA.size = eB.size := zA.trans lB.symm
      rw [if_neg (by simp [hE])]
      refine wpAny_bind (wpAny_dictEpoch gA tA (wpAny_bind ?_))
      rw [Std.Legacy.Range.forIn_eq_forIn_range']
      simp only [Std.Legacy.Range.size, zA, Nat.sub_zero, Nat.add_sub_cancel, Nat.div_one, List.range'_zero, List.forIn_nil]
      exact wpAny_pure (wpAny_pure h)
    | cons kv kvs =>
      have zA : eA.size ≠ eB.size := by rw [lA, lB]; exact Nat.succ_ne_zero _
      rw [if_pos (by simp [zA])]
      exact wpAny_bind (wpAny_rule (wpAny_pure h))
  refine wpAny_richCompare_same_room (op := .Eq) dA.typeIs dB.typeIs PySem.F.slot_dict_eq (wpAny_call_entry PySem.F.slot_dict_eq dA.typeIs PySem.F.entry_dict_eq ?_ (PySem.F.args_dict_eq_2 _ _)) hu
  show wpAny _ _ (Builtin.Dict.dictSlotArgs "__eq__" ⟨[.ref a, .ref b], []⟩ >>= _) _ _ s
  unfold Builtin.Dict.dictSlotArgs
  refine wpAny_bind (wpAny_bind (wpAny_notOrdered_dict dA.typeIs ?_))
  show wpAny _ _ (pure (Value.ref a, Value.ref b)) _ _ s
  refine wpAny_pure (wpAny_bind (wpAny_isInstance (T := "dict") dB.typeIs PySem.F.sub_dict_dict ?_))
  simp only [Bool.not_true, Bool.false_eq_true, if_false]
  refine wpAny_bind (wpAny_pure (wpAny_bind (wpAny_pure (wpAny_bind (core (wpAny_pure ⟨_, rfl, fun x => (nomatch x), ?_⟩))))))
  exact fin_bl I q (by cases kvs <;> rfl)
def rdEqE : RD2 := fun x y M k => ∃ a b kvs, x = .obj a ∧ y = .obj b ∧ M a = some (.dT kvs) ∧ M b = some (.dT []) ∧ k (.bl kvs.isEmpty) M
theorem od_eqE {K : PySem.W.Frag} : OpD K rEqE rdEqE := fun x y dx dy H M k Q nx ny r h c => by
  obtain ⟨a, b, kvs, rfl, rfl, ma, mb, h⟩ := h
  obtain ⟨ks, ha, hr⟩ := r _ _ ma
  obtain ⟨ks0, hb, hr0⟩ := r _ _ mb
  have e0 : ks0 = [] := List.length_eq_zero_iff.mp (kv_len hr0)
  subst e0
  refine ⟨a, b, ks, nx.obj_inv, ny.obj_inv, ha, hb, c.here ?_ r (.bl _)⟩
  have e : ks.isEmpty = kvs.isEmpty := by
    have := kv_len hr
    cases ks <;> cases kvs <;> first | rfl | cases this
  rw [e]; exact h
theorem de_eqE (hu : X.A.units < cLine) (ha : DE X w a ta) (hb : DE X w b tb) : DE X w (.Compare a [.Eq] [b] pos) (dOp rdEqE ta tb) := de_cmp (op_eqE hu) od_eqE ha hb (nomark _)
theorem dt_eqE (hu : X.A.units < cLine) (ha : DE X w a ta) (hb : DE X w b tb) : DT X w (.Compare a [.Eq] [b] pos) (dTest (dOp rdEqE ta tb)) := dt_cmp (op_eqE hu) od_eqE ha hb (nomark _)
/-! a local that holds a def -/
/-- a call of the def at the address f, which the slot holds; it may raise -/
def dCallLX (ex : DSt → MH → Prop) (i : Nat) (f : Addr) (sp : DSp) (t : DTA) : DTE := fun δ M k => δ[i]? = some (some (.obj f)) ∧ t δ M fun ds M1 => sp ds M1 k (ex δ)
theorem pe_callLS {CX : CXT} {k j : Nat} {g : Addr} {fd : FuncData} {ps : List Str} {sp : Sp} {E : L2.St → XK} {x : Str} {tt : TA} (F : FnOk X.prog X.w X.K X.mg X.base CX k g fd ps sp) (hr : Room k X.A) (hN : X.N[j]? = some x) (hv : Vis X.env.scope x) (hk : PySem.W.keepIn X.K (.ref g) = true) (hb : Binds X.K fd ps []) (hx : ∀ σ, PassesAt CX X σ (E σ))
    (ha : PA X (e :: es) tt) (hdb : (x == ("__debug__" : Str)) = false := by decide) (hcd : (x == ("__classdict__" : Str)) = false := by decide)
    (he : starEach (e :: es) X.env = (false, eval e X.env) :: starEach es X.env := by rfl) (hpl : (backTo pos (starEach es X.env)).any (·.1) = false := by rfl) :
    PE X (.Call (.Name x p) (e :: es) [] pos) (fun σ H Q => σ[j]? = some (some (.ref g)) ∧ tt σ H fun vs H1 => sp vs H1 Q (E σ)) := by
  refine ⟨fun pins s σ H Q I ⟨hs, ht⟩ => ?_⟩
  refine wpAny_Call_Name_kw (thn ((pe_var (pos := p) hN hv hdb hcd).run pins s σ H (fun v H1 => v = .ref g ∧ H1 = H) I ⟨.ref g, hs, rfl, rfl⟩) fun u s1 ⟨v, H1, I1, r1, q1⟩ => ?_)
  obtain ⟨ev, eH⟩ := q1
  subst ev; subst eH
  cases r1
  refine PySem.W.callWith_K (h₀ := X.base) I.ok.mod.kin hk (thn (ha.run pos pins s1 σ _ _ I1 ht) fun us s2 ⟨vs, H2, I2, r, q⟩ => ⟨I2.kIn, ?_⟩) he hpl
  exact run_fnS F hr hb (hx σ) I2 r q
theorem de_callLX {k j : Nat} {x : Str} {y : Str} {ps : List Str} {sp : DSp} (tk : Takes X w.W) (F : FnX X.prog X.w X.K X.mg X.base (L2.CX X.prog X.w) k y ps w.C sp) (hr : Room k X.A) (hN : X.N[j]? = some x) (hv : Vis X.env.scope x)
    (ha : DA X w (e :: es) t) (hdb : (x == ("__debug__" : Str)) = false := by decide) (hcd : (x == ("__classdict__" : Str)) = false := by decide)
    (he : starEach (e :: es) X.env = (false, eval e X.env) :: starEach es X.env := by rfl) (hpl : (backTo pos (starEach es X.env)).any (·.1) = false := by rfl) :
    DE X w (.Call (.Name x p) (e :: es) [] pos) (dCallLX w.ex j (He.ga X.K y) sp t) :=
  let ⟨fd, F1, b⟩ := F.ex
  PE.imp (pe_callLS (j := j) F1 hr hN hv F.kp b (fun σ => passAt tk σ) ha hdb hcd he hpl) fun σ H Q ⟨δ, M, k, re, rp, ⟨hs, h⟩, c⟩ => by
    obtain ⟨v, hv, n⟩ := re.at_ j _ hs
    have ev := n.obj_inv
    subst ev
    exact ⟨hv, δ, M, _, re, rp, h, fun ds M1 vs H1 q1 f1 r1 n1 =>
      ⟨ds, M1, k, w.ex δ, n1, r1, q1, c.on f1, fun M' d H' hx f2 r2 => re.xok M' d σ δ H' hx ((re.on f1).env.ext f2.ext) (f1.trans f2) r2⟩⟩
/-! try: .. except C: .. -/
def dTry (tb : (DSt → MH → Prop) → DTS) (ts : DTS) : DTS := fun E δ M => tb (fun δ' M' => ts E δ' M') E δ M
theorem ContN.xw {K : PySem.W.Frag} {w w' : XW} {M : MH} {H : Hp} {n : DSt → MH → Prop} {N : L2.St → Hp → Prop} (c : ContN K w M H n N) (x : XOk K w M H) : ContN K w' M H n N := fun δ' M' σ' H' q f re r => c δ' M' σ' H' q f ⟨re.env, x.on f⟩ r
theorem ContE.xw {K : PySem.W.Frag} {w w' : XW} {M : MH} {H : Hp} {E : DEnds} {D : Ends} (c : ContE K w M H E D) (x : XOk K w M H) : ContE K w' M H E D := ⟨c.nx.xw x, c.rt, c.bk.xw x, c.ct.xw x⟩
theorem ds_try {x : Str} {C : Addr} {body suite : List Stmt} {b0 : Stmt} {np pos' : Pos} {tb : (DSt → MH → Prop) → DTS} {ts : DTS} (hs : X.stack = X.env :: X.outer) (hf : X.env.frame = some X.env.locals) (hc : Names X x (.ref C)) (tk : Takes X w.W) (hm : PySem.W.exmOne X.K (.ref C) (.ref C) = some true)
    (hb : ∀ (W : WX) (ex : DSt → MH → Prop) (pn : List (Addr × Obj)) (xe : Value → Shared → Prop), Takes (X.tr pn xe) W → DSs (X.tr pn xe) ⟨C, W, ex⟩ body (tb ex))
    (hsu : ∀ (a : Addr) (pn : List (Addr × Obj)), DSs (X.suite a pn) w (b0 :: suite) ts) : DS X w (.Try body [.ExceptHandler (some (.Name x np)) none (b0 :: suite) pos'] [] [] pos) (dTry tb ts) :=
  PS.imp (ps_try_only (tb := fun W D σ H => ∃ ex, upS X.K ⟨C, W, ex⟩ (tb ex) D σ H) (ts := fun _ _ _ => upS X.K w ts) (Wout := w.W) hs hf hc tk
    (fun W pn xe tk' _ => ⟨fun pins s σ H D I ⟨ex, h⟩ => (hb W ex pn xe tk').run pins s σ H D I h⟩) (fun a oe cls d pn _ _ => hsu a _)) fun D σ H ⟨δ, M, E, re, rp, h, c⟩ =>
    ⟨_, δ, M, E, ⟨re.env, fun M' d σ' δ' H' hx env' f' r' => ⟨true, hm, fun _ a ha => ⟨δ', M', E, ⟨env', re.xok.on f'⟩, r', hx, c.on f'⟩, fun z => by cases z⟩⟩, rp, h, c.xw re.xok⟩
/-! raise C() -/
theorem pmk_own0 {C : Addr} {bmB : List Value} {B newId initId : String} {x : Str} (F : ExcBaseFacts B newId initId bmB) (q : PySem.W.excIn X.K C bmB newId = true) (gC : X.mg x = some (.ref C)) (kC : PySem.W.keepIn X.K (.ref C) = true) (r : Raises X (.ref C)) (hg : Gl X x)
    (hdb : (x == ("__debug__" : Str)) = false := by decide) : PMk X (.Call (.Name x p) [] [] pos) (fun _ H Q => Q (.ref C) none H) := by
  intro pins s σ H Q I h
  refine wpAny_Call_Name_kw (ld_glob I hg gC ?_ hdb)
  refine PySem.W.callWith_K0 I.kIn kC ?_
  show wpAny _ _ (call (.ref C) []) _ _ _
  obtain ⟨bm, N, nm, qn, bs, hdct, sn, sub, ab, col, dd, k0, k1, k2, k3, k5, mN, hC, hN, hni, T⟩ := exc_obj I.kIn q
  refine wpAny_call_exc_subT F T hC hN hni (fun h' e hm => ?_) (Nat.zero_le _)
  exact mk_of I hm r h (I.hok.gone hm.new)
end
end DL
/-! DL: dicts whose keys are pairs of cells. -/
namespace DL
open PySem PySem.Spec PyProof.Rows L2
/-! ### the object -/
section
variable {P : Program} {w : World} {H : Hp} {h : Heap} {a : Addr}
theorem nEnt_is (x : NK × Addr × Value) : entryOfKey (nestedKind P w) (nX x) = nEnt x := by
  show DictEntry.mk ((nkey x.1).hash w) (.ref x.2.1) x.2.2 = _
  rw [nHash_is]; rfl
theorem depth_nkey (k : NK) : (nkey k).depth ≤ 8 := by simp [nkey, NestedKey.depth, NestedKey.depthAll]
theorem cell_is (ok : HOk P w H h) {x y : Int} {c : Addr} (q : H c = some (.tup [.int x, .int y])) : NestedIs h (.tup [.num x, .num y]) (.ref c) := by
  obtain ⟨_, its, r, o, h1, h2, n, h3⟩ := (show ObjOk P w H h c (.tup [.int x, .int y]) from ok c _ q)
  obtain ⟨u1, u2, rfl, r1, r2⟩ := vals2 r
  obtain ⟨t1, rfl⟩ := r1
  obtain ⟨t2, rfl⟩ := r2
  exact .tup h1 h2 h3 (.cons (.int _ _) (.cons (.int _ _) .nil))
theorem nat_is (ok : HOk P w H h) {k : NK} {b : Addr} (e : NAt H k b) : (nestedKind P w).is h (nkey k) b := by
  obtain ⟨b1, b2, e0, e1, e2⟩ := e
  refine ⟨?_, depth_nkey k⟩
  obtain ⟨_, its, r, o, h1, h2, n, h3⟩ := (show ObjOk P w H h b (.tup [.ref b1, .ref b2]) from ok b _ e0)
  obtain ⟨u1, u2, rfl, r1, r2⟩ := vals2 r
  cases r1
  cases r2
  exact .tup h1 h2 h3 (.cons (cell_is ok e1) (.cons (cell_is ok e2) .nil))
theorem paired_left {α β : Type} {F : α → β → Prop} : ∀ {as : List α} {bs : List β} {b : β}, Paired F as bs → b ∈ bs → ∃ a, a ∈ as ∧ F a b
  | _, _, _, .nil, h => by cases h
  | _, _, b, .cons f t, h => by
    rcases List.mem_cons.mp h with rfl | h
    · exact ⟨_, List.mem_cons_self, f⟩
    · obtain ⟨a, h1, h2⟩ := paired_left t h
      exact ⟨a, List.mem_cons_of_mem _ h1, h2⟩
theorem nvs_keys : ∀ {ks : List (NK × Addr × V)} {xs : List (NK × Addr × Value)}, NVs ks xs → ks.map (·.1) = xs.map (·.1)
  | _, _, .nil => rfl
  | _, _, .cons f t => by rw [List.map_cons, List.map_cons, nvs_keys t, f.1]
theorem nodup_nX {xs : List (NK × Addr × Value)} : ((xs.map nX).map (·.1)).Nodup ↔ (xs.map (·.1)).Nodup := by
  have e : (xs.map nX).map (·.1) = (xs.map (·.1)).map nkey := by rw [List.map_map, List.map_map]; rfl
  rw [e]
  unfold List.Nodup
  rw [List.pairwise_map]
  constructor
  · intro h; exact h.imp fun {a b} z e => z (by rw [e])
  · intro h; exact h.imp fun {a b} z e => z (nkey_inj e)
def NKeys (H : Hp) (ks : List (NK × Addr × V)) : Prop := ∀ x ∈ ks, NAt H x.1 x.2.1
theorem nd_of (ok : HOk P w H h) {ks : List (NK × Addr × V)} (p : NDph a ks h) (hk : NKeys H ks) : (a == sysModules) = false ∧ ∃ xs, NVs ks xs ∧ ks.length ≤ sizeLine ∧ h.DictOfH (nestedKind P w) a (xs.map nX) := by
  obtain ⟨hs, hl, hn, o, es, ep, xs, e1, e2, e3, e4, rel⟩ := p
  refine ⟨hs, xs, rel, hl, o, es, ep, e1, e2, e3, ?_, fun x hx => ?_, ?_⟩
  · rw [e4, List.map_map]
    exact List.map_congr_left fun x _ => (nEnt_is x).symm
  · obtain ⟨y, hy, rfl⟩ := List.mem_map.mp hx
    obtain ⟨z, hz, f1, f2, _⟩ := paired_left rel hy
    have := nat_is ok (hk z hz)
    rw [f1, f2] at this
    exact this
  · rw [nodup_nX, ← nvs_keys rel]; exact hn
theorem nDict_ok {ks : List (NK × Addr × V)} (p : NDph a ks h) : ObjOk P w H h a (nDict a ks) := by
  refine ⟨p, ?_, fun h1 h2 q k => ?_⟩
  · obtain ⟨_, _, _, o, _, _, _, e1, _⟩ := p
    exact ⟨o, e1⟩
  · obtain ⟨hs, hl, hn, o, es, ep, xs, e1, r⟩ := q
    exact ⟨hs, hl, hn, o, es, ep, xs, k o e1, r⟩
def RdN (H : Hp) (a : Addr) (ks : List (NK × Addr × V)) : Prop := H a = some (nDict a ks) ∨ ∃ o, H a = some (.frz o (nDict a ks))
theorem rdN_ph (ok : HOk P w H h) {ks : List (NK × Addr × V)} (e : RdN H a ks) : NDph a ks h := by
  rcases e with e | ⟨o, e⟩
  · exact (show ObjOk P w H h a (nDict a ks) from ok a _ e).1
  · exact (show ObjOk P w H h a (.frz o (nDict a ks)) from ok a _ e).2.1
/-! what it holds -/
def nVal (ks : List (NK × Addr × V)) (k : NK) : Option V := (ks.find? fun x => decide (x.1 = k)).map (·.2.2)
def putN (ks : List (NK × Addr × V)) (k : NK) (b : Addr) (v : V) : List (NK × Addr × V) := if (nVal ks k).isSome = true then ks.map (fun x => if x.1 = k then (x.1, x.2.1, v) else x) else ks ++ [(k, b, v)]
def storedN (xs : List (NK × Addr × Value)) (k : NK) (b : Addr) (u : Value) : List (NK × Addr × Value) := if (xs.any fun x => decide (x.1 = k)) = true then xs.map (fun x => if x.1 = k then (x.1, x.2.1, u) else x) else xs ++ [(k, b, u)]
theorem dec_nkey (a b : NK) : decide (nkey a = nkey b) = decide (a = b) := by
  by_cases h : a = b
  · subst h; simp
  · rw [decide_eq_false h, decide_eq_false fun z => h (nkey_inj z)]
theorem nv_val : ∀ {ks : List (NK × Addr × V)} {xs : List (NK × Addr × Value)} (k : NK), NVs ks xs → RelO (nVal ks k) ((atKey (xs.map nX) (nkey k)).map (·.2))
  | _, _, k, .nil => True.intro
  | p :: ks, q :: xs, k, .cons f t => by
    unfold nVal atKey
    rw [List.map_cons, List.find?_cons, List.find?_cons]
    have e : decide ((nX q).1 = nkey k) = decide (p.1 = k) := by rw [f.1]; exact dec_nkey _ _
    rw [e]
    by_cases h : p.1 = k
    · simp only [h, decide_true]; exact f.2.2
    · simp only [h, decide_false]
      exact nv_val k t
theorem nv_any : ∀ {ks : List (NK × Addr × V)} {xs : List (NK × Addr × Value)} (k : NK), NVs ks xs → (xs.any fun x => decide (x.1 = k)) = (nVal ks k).isSome
  | _, _, k, .nil => rfl
  | p :: ks, q :: xs, k, .cons f t => by
    unfold nVal
    rw [List.any_cons, List.find?_cons, ← f.1]
    by_cases h : p.1 = k
    · simp [h]
    · simp only [h, decide_false, Bool.false_or]
      exact nv_any k t
theorem at_any : ∀ (xs : List (NK × Addr × Value)) (k : NK), (atKey (xs.map nX) (nkey k)).isSome = xs.any fun x => decide (x.1 = k)
  | [], _ => rfl
  | x :: xs, k => by
    have ih := at_any xs k
    unfold atKey at ih ⊢
    rw [List.map_cons, List.find?_cons, List.any_cons]
    have e : decide ((nX x).1 = nkey k) = decide (x.1 = k) := dec_nkey _ _
    rw [e]
    by_cases h : x.1 = k
    · simp [h]
    · simp only [h, decide_false, Bool.false_or]
      exact ih
theorem storedH_nX (xs : List (NK × Addr × Value)) (k : NK) (b : Addr) (u : Value) : storedH (xs.map nX) (nkey k) b u = (storedN xs k b u).map nX := by
  unfold storedH storedN
  rw [at_any]
  by_cases q : (xs.any fun x => decide (x.1 = k)) = true
  · rw [if_pos q, if_pos q, List.map_map, List.map_map]
    apply List.map_congr_left
    rintro ⟨k', b', v'⟩ _
    show putAt (nkey k) u (nkey k', b', v') = nX (if k' = k then (k', b', u) else (k', b', v'))
    unfold putAt
    by_cases h : k' = k
    · rw [if_pos h, if_pos (by show nkey k' = nkey k; rw [h])]; rfl
    · rw [if_neg h, if_neg fun z => h (nkey_inj z)]; rfl
  · rw [if_neg q, if_neg q, List.map_append]; rfl
theorem nv_put {ks : List (NK × Addr × V)} {xs : List (NK × Addr × Value)} (r : NVs ks xs) (k : NK) (b : Addr) {v : V} {u : Value} (rv : RelV v u) : NVs (putN ks k b v) (storedN xs k b u) := by
  unfold putN storedN
  rw [nv_any k r]
  by_cases q : (nVal ks k).isSome = true
  · rw [if_pos q, if_pos q]
    induction r with
    | nil => exact .nil
    | @cons p x ps qs f t ih =>
      have go : ∀ {ps : List (NK × Addr × V)} {qs : List (NK × Addr × Value)}, NVs ps qs → NVs (ps.map fun x => if x.1 = k then (x.1, x.2.1, v) else x) (qs.map fun x => if x.1 = k then (x.1, x.2.1, u) else x) := by
        intro ps qs t
        induction t with
        | nil => exact .nil
        | @cons p x ps qs f t ih =>
          refine .cons ?_ ih
          obtain ⟨f1, f2, f3⟩ := f
          dsimp only
          by_cases h : p.1 = k
          · rw [if_pos h, if_pos (f1.symm.trans h)]; exact ⟨f1, f2, rv⟩
          · rw [if_neg h, if_neg fun z => h (f1.trans z)]; exact ⟨f1, f2, f3⟩
      exact go (.cons f t)
  · rw [if_neg q, if_neg q]
    exact Paired.snoc r ⟨rfl, rfl, rv⟩
theorem putN_len (ks : List (NK × Addr × V)) (k : NK) (b : Addr) (v : V) : (putN ks k b v).length ≤ ks.length + 1 := by
  unfold putN
  split
  · rw [List.length_map]; omega
  · rw [List.length_append]; exact Nat.le_refl _
end
/-! ### steps -/
section
variable {X : Cx} {pins : List (Addr × Obj)} {σ : L2.St} {H : Hp} {s : Shared} {a b : Addr} {ks : List (NK × Addr × V)} {k : NK} {A : Around} {E : Value → Shared → Prop}
theorem room8 (hu : A.units + 64 < cLine) : (nestedKind X.prog X.w).room A.in1 := by show A.units + 1 + 8 < cLine; omega
theorem n_getItem {v : V} {Q : Value → Shared → Prop} (hu : A.units + 64 < cLine) (I : Inv X pins σ H s) (g : RdN H a ks) (hk : NKeys H ks) (eb : NAt H k b) (hv : nVal ks k = some v) (h : ∀ w' s', Inv X pins σ H s' → RelV v w' → Q w' s') :
    s.TypeIs (.ref a) "dict" ∧ wpAny (model X.prog X.w) A (getItem (.ref a) (.ref b)) Q E s := by
  obtain ⟨hs, xs, rel, hl, dd⟩ := nd_of (P := X.prog) (w := X.w) I.hok (rdN_ph I.hok g) hk
  obtain ⟨w', hw, rw'⟩ := RelO.some_of (v := v) (o := (atKey (xs.map nX) (nkey k)).map (·.2)) (by rw [← hv]; exact nv_val k rel)
  obtain ⟨p, hp, hp2⟩ := Option.map_eq_some_iff.mp hw
  refine ⟨dd.typeIs, wpAny_getItem_heap (room8 hu) (nat_is I.hok eb) dd hp ?_⟩
  rw [hp2]
  exact h w' _ (I.tok _) rw'
theorem n_get2 {d : V} {r : Value} {Q : Value → Shared → Prop} (hu : A.units + 64 < cLine) (I : Inv X pins σ H s) (g : RdN H a ks) (hk : NKeys H ks) (eb : NAt H k b) (rd : RelV d r) (h : ∀ w' s', Inv X pins σ H s' → RelV ((nVal ks k).getD d) w' → Q w' s') :
    wpAny (model X.prog X.w) A (call (.builtin "dict.get") [.ref a, .ref b, r]) Q E s := by
  obtain ⟨hs, xs, rel, hl, dd⟩ := nd_of (P := X.prog) (w := X.w) I.hok (rdN_ph I.hok g) hk
  refine call_meetsIn PySem.F.slot_dict_get dd.typeIs PySem.F.entry_dict_get (PySem.F.args_dict_get_3 _ _ _) (meetsH_dict_get_default (nestedKind X.prog X.w) a b hs r) ⟨room8 hu, nkey k, xs.map nX, nat_is I.hok eb, dd, h _ _ (I.tok _) ?_⟩
  exact (nv_val k rel).getD rd
theorem n_setItem {v : V} {r : Value} {Q : Unit → Shared → Prop} (hu : A.units + 64 < cLine) (I : Inv X pins σ H s) (g : H a = some (nDict a ks)) (hk : NKeys H ks) (eb : NAt H k b) (rv : RelV v r) (hlen : ks.length < sizeLine)
    (h : ∀ s', Inv X pins σ (upd H a (nDict a (putN ks k b v))) s' → Q () s') : wpAny (model X.prog X.w) A (setItem (.ref a) (.ref b) r) Q E s := by
  obtain ⟨hs, xs, rel, hl, dd⟩ := nd_of (P := X.prog) (w := X.w) I.hok (rdN_ph I.hok (.inl g)) hk
  have hz : (xs.map nX).length ≤ sizeLine := by rw [List.length_map, ← Paired.length rel]; exact hl
  refine wpAny_setItem_heap (hsz := hz) (room8 hu) (nat_is I.hok eb) dd fun h' dd' hsb => h _ ?_
  rw [storedH_nX] at dd'
  obtain ⟨q, es, ep, hq, h2, h3, h4, _, h5⟩ := dd'
  have rel' := nv_put rel k b rv
  have ph : NDph a (putN ks k b v) h' := by
    refine ⟨hs, by have := putN_len ks k b v; omega, ?_, q, es, ep, storedN xs k b r, hq, h2, h3, ?_, rel'⟩
    · rw [nvs_keys rel', ← nodup_nX]; exact h5
    · rw [h4, List.map_map]
      exact List.map_congr_left fun x _ => nEnt_is x
  exact d_write (t' := s.toks + _) I (by rw [g]; exact True.intro) hsb ⟨q, hq⟩ (nDict_ok ph)
end
section
variable {X : Cx} {o i e f : Expr} {to ti tx te : TE} {pos pos' apos cpos : Pos}
def tGetN (to ti : TE) : TE := fun σ H Q => to σ H fun x H1 => ti σ H1 fun y H2 => ∃ a b ks k v, x = .ref a ∧ y = .ref b ∧ RdN H2 a ks ∧ NKeys H2 ks ∧ NAt H2 k b ∧ nVal ks k = some v ∧ Q v H2
theorem pe_getN (hu : X.A.units + 64 < cLine) (ho : PE X o to) (hi : PE X i ti) (hs : NoSl i) : PE X (.Subscript o i pos) (tGetN to ti) := by
  refine ⟨fun pins s σ H Q I h => ?_⟩
  refine subD_of PySem.F.slot_dict_getitem.lookup hs (thn (ho.run pins s σ H _ I h) fun u s1 ⟨x, H1, I1, rx, q1⟩ => thn (hi.run pins s1 σ H1 _ I1 q1) fun iv s2 ⟨y, H2, I2, ry, a, b, ks, k, v, ex, ey, g, hk, eb, hv, q2⟩ => ?_)
  subst ex ey
  cases (show u = Value.ref a from rx)
  cases (show iv = Value.ref b from ry)
  exact n_getItem hu I2 g hk eb hv fun w' s3 I3 rw' => ⟨v, H2, I3, rw', q2⟩
def tGet2N (to ti tx : TE) : TE := fun σ H Q => to σ H fun x H1 => ∃ a ks0, x = .ref a ∧ H1 a = some (nDict a ks0) ∧ ti σ H1 fun y H2 => tx σ H2 fun z H3 => ∃ b ks k, y = .ref b ∧ RdN H3 a ks ∧ NKeys H3 ks ∧ NAt H3 k b ∧ Q ((nVal ks k).getD z) H3
theorem pe_get2N (hu : X.A.units + 64 < cLine) (ho : PE X o to) (he : PE X i ti) (hf : PE X f tx) (m : M2 X o "get" apos i f cpos) : PE X (.Call (.Attribute o "get" apos) [i, f] [] cpos) (tGet2N to ti tx) := by
  refine ⟨fun pins s σ H Q I h => ?_⟩
  refine wpAny_Call_method m.base m.few m.line PySem.F.plainAttrs_dict PySem.F.slot_dict_get PySem.F.type_dict_get (thn (ho.run pins s σ H _ I h) fun u s1 ⟨x, H1, I1, rx, a, ks0, ex, d, q1⟩ => ?_)
  subst ex
  obtain rfl : u = Value.ref a := rx
  obtain ⟨_, _, _, ob, es, ep, xs, e1, e2, e3, _⟩ := rdN_ph I1.hok (.inl d)
  refine ⟨⟨ob, e1, e2.1⟩, (fun b e => by cases e; exact ⟨ob, e1, e2.2.1⟩), ?_⟩
  rw [m.trees]
  refine Calls.callWith_builtin rfl (Calls.evalArgs_plain (Calls.spliced_cons (thn (he.run pins s1 σ H1 _ I1 q1) fun iv s2 ⟨y, H2, I2, ry, q2⟩ =>
    Calls.spliced_cons (thn (hf.run pins s2 σ H2 _ I2 q2) fun fv s3 ⟨z, H3, I3, rz, b, ks, k, ey, g, hk, eb, q3⟩ => Calls.spliced_nil ?_))))
  subst ey
  cases (show iv = Value.ref b from ry)
  exact n_get2 hu I3 g hk eb rz fun w' s4 I4 rw' => ⟨_, H3, I4, rw', q3⟩
def tPutN (to ti te : TE) : TS := fun D σ H => te σ H fun v H1 => to σ H1 fun x H2 => ti σ H2 fun y H3 => ∃ a b ks k, x = .ref a ∧ y = .ref b ∧ H3 a = some (nDict a ks) ∧ NKeys H3 ks ∧ NAt H3 k b ∧ ks.length < sizeLine ∧ D.nx σ (upd H3 a (nDict a (putN ks k b v)))
theorem ps_putN (hu : X.A.units + 64 < cLine) (ho : PE X o to) (hi : PE X i ti) (hv : PE X e te) (hs : swapsWith e (some (.Subscript o i pos')) pos.line X.env = pure false) :
    PS X (.Assign [.Subscript o i pos'] e pos) (tPutN to ti te) := by
  refine ⟨fun pins s σ H D I h => ?_⟩
  refine wpAny_Assign_Subscript (thn (hv.run pins s σ H _ I h) fun r s1 ⟨v, H1, I1, rv, q1⟩ => thn (ho.run pins s1 σ H1 _ I1 q1) fun u s2 ⟨x, H2, I2, rx, q2⟩ => thn (hi.run pins s2 σ H2 _ I2 q2) fun iv s3 ⟨y, H3, I3, ry, a, b, ks, k, ex, ey, g, hk, eb, hl, q3⟩ => ?_) hs
  subst ex ey
  cases (show u = Value.ref a from rx)
  cases (show iv = Value.ref b from ry)
  exact n_setItem hu I3 g hk eb rv hl fun s4 I4 => ⟨σ, _, I4, q3⟩
theorem nd_empty {P : Program} {w : World} {H : Hp} (h : Heap) (hb : sysModules < h.objs.size) : ObjOk P w H (h.push { cls := .type "dict", data := .dict #[] }) h.objs.size (nDict h.objs.size []) :=
  nDict_ok ⟨beq_eq_false_iff_ne.mpr (Ne.symm (Nat.ne_of_lt hb)), Nat.zero_le _, List.nodup_nil, _, #[], 0, [], Heap.get?_push_size _ rfl, ⟨rfl, rfl, rfl⟩, rfl, rfl, .nil⟩
def tNewN : TE := fun _ H Q => ∀ p, H p = none → Q (.ref p) (upd H p (nDict p []))
theorem pe_newN : PE X (.Dict [] [] pos) tNewN := ⟨fun pins s σ H Q I h =>
  wpAny_Dict_empty ⟨.ref s.heap.objs.size, _, I.laid (a := s.heap.objs.size) (o := nDict s.heap.objs.size []) (t' := s.toks) (fun _ _ q => Heap.get?_push_of_some _ q) (Nat.le_refl _) (nd_empty s.heap I.big), rfl, h _ (I.hok.fresh (Nat.le_refl _))⟩⟩
end
/-! ### the keys walked -/
def Itkn (d : Addr) (o : Obj) (ks : List (NK × Addr × V)) : It :=
  ⟨fun i H => H d = some (.frz o (nDict d ks)) ∧ i < ks.length, fun i H x H' => H' = H ∧ ∃ k q v, ks[i]? = some (k, q, v) ∧ x = .ref q, fun i H => H d = some (.frz o (nDict d ks)) ∧ ks.length ≤ i⟩
theorem frzN {X : Cx} {pins : List (Addr × Obj)} {σ : L2.St} {H : Hp} {s : Shared} {d : Addr} {o : Obj} {ks : List (NK × Addr × V)} (I : Inv X pins σ H s) (h : H d = some (.frz o (nDict d ks))) :
    (d == sysModules) = false ∧ s.heap.get? d = some o ∧ o.ExactDict ∧ ∃ (es : Array DictEntry) (ep : Nat), o.data = .dict es ep ∧ es.size = ks.length ∧
      ∀ (i : Nat) k q v, ks[i]? = some (k, q, v) → ∃ en : DictEntry, es[i]? = some en ∧ en.key = .ref q := by
  obtain ⟨hd, ⟨hs, hl, hn, o', es, ep, xs, e1, e2, e3, e4, rel⟩, _⟩ := (show ObjOk X.prog X.w H s.heap d (.frz o (nDict d ks)) from I.hok d _ h)
  rw [hd] at e1
  cases e1
  refine ⟨hs, hd, e2, es, ep, e3, ?_, fun i k q v e => ?_⟩
  · rw [← Array.length_toList, e4, List.length_map, Paired.length rel]
  · obtain ⟨x, hx, f1, f2, _⟩ := paired_get rel e
    refine ⟨nEnt x, ?_, ?_⟩
    · rw [← Array.getElem?_toList, e4, List.getElem?_map, hx]; rfl
    · show Value.ref x.2.1 = .ref q
      rw [← f2]
theorem turn_keysN {P : Program} {w : World} {K : PySem.W.Frag} {tg : Expr} {d : Addr} {o : Obj} {es : Array DictEntry} {ep : Nat} {ks : List (NK × Addr × V)} (it : Addr) (hod : o.data = .dict es ep) : Turn P w K tg (Itkn d o ks) [it] it (fun i h => h.IsKeyIter it d i ks.length ep) where
  mem := by simp
  obj := fun i h st b hb => by
    have e : b = it := by simpa using hb
    subst e
    obtain ⟨oi, e, c, dd⟩ := st
    exact ⟨oi, e, fun v z => by rw [dd] at z; cases z⟩
  keep := fun i h h' st k => st.at fun oi e => k it (by simp) oi e
  item := by
    intro X hP hw hK hc i pins s σ H E I hf st hg
    subst hP hw hK
    obtain ⟨hd, hi⟩ := hg
    obtain ⟨f0, f1, f2, f3, f4, f5⟩ := hf it (by simp)
    obtain ⟨hs, hgd, hx, es', ep', hdt, hsz, ent⟩ := frzN I hd
    obtain ⟨rfl, rfl⟩ := dict_ep hod hdt
    obtain ⟨⟨k, q, v⟩, hkv⟩ : ∃ p, ks[i]? = some p := ⟨ks[i], List.getElem?_eq_getElem hi⟩
    obtain ⟨en, hen, hkey⟩ := ent i k q v hkv
    refine next_key_item st hgd hdt hsz hen fun h' st' sb => ?_
    have I1 : Inv X pins σ H { s with heap := h' } := I.turned (t' := s.toks) (fun b ob hb e => (sb.2 b hb).trans e) f0 f1 f3 f4 f5
    obtain ⟨oi, e, c, dd⟩ := id st'
    exact ⟨en.key, rfl, go_of (s := { s with heap := h' }) e c dd (by decide) ⟨.ref q, H, I1, hkey, ⟨rfl, k, q, v, hkv, rfl⟩, st', fun b hb => (hf b hb).1⟩⟩
  done := by
    intro X hP hw hK hc i pins s σ H E I hf st hg
    subst hP hw hK
    obtain ⟨hd, hi⟩ := hg
    obtain ⟨f0, f1, f2, f3, f4, f5⟩ := hf it (by simp)
    obtain ⟨hs, hgd, hx, es', ep', hdt, hsz, ent⟩ := frzN I hd
    obtain ⟨rfl, rfl⟩ := dict_ep hod hdt
    exact next_key_end (I.ok.hd hc) st hgd hdt hsz hi fun h' eb => ⟨rfl, I.turned (t' := s.toks) (fun b ob hb e => eb b ob hb e) f0 f1 f3 f4 f5⟩
  self := fun A i s Q E st h => by
    refine wpAny_pyIter_slot st.typeIs F.slot_dict_keyiterator_iter (wpAny_call_entry F.slot_dict_keyiterator_iter st.typeIs F.entry_dict_keyiterator_iter ?_ (F.args_dict_keyiterator_iter_1 _))
    show wpAny _ _ (ret (.ref it)) _ _ s
    exact wpAny_pure ⟨_, rfl, "dict_keyiterator", _, st.typeIs, F.slot_dict_keyiterator_next.lookup, h⟩
def iKeysN (td : TE) : TI := fun σ H R => td σ H fun x H1 => ∃ d o ks, x = .ref d ∧ H1 d = some (.frz o (nDict d ks)) ∧ R (Itkn d o ks) H1
theorem pi_keysN {X : Cx} {tg e : Expr} {td : TE} (he : PE X e td) : PI X tg e (iKeysN td) := by
  refine ⟨fun pins s σ H R I h => ?_⟩
  refine thn (he.run pins s σ H _ I h) fun u s1 ⟨x, H1, I1, rx, d, o, ks, ex, hd, q⟩ => ?_
  subst ex
  obtain rfl : u = Value.ref d := rx
  obtain ⟨hs, hgd, hx, es, ep, hdt, hsz, ent⟩ := frzN I1 hd
  refine iter_keys hs hgd hx hdt (pi_one (tk := s1.toks) I1 _ (turn_keysN _ hdt) ⟨_, Heap.get?_push_size _ rfl, rfl, ?_⟩ q)
  rw [hsz] <;> rfl
end DL
/-! DL: sum of a tuple, min and max of tuples, setdefault with tuples as keys. -/
namespace DL
open PySem PySem.Spec PyProof.Rows L2
section
variable {prog : Program} {w : World} {A : Around} {E : Value → Shared → Prop} {s : Shared}
theorem two_least {a b : Value} {p q : PyData} {as : List Addr} {Q : Value → Shared → Prop} (hh : A.handled = none) (hr : ReadsAll s.heap [a, b] [p, q] as) (al : PySem.W.AlikeAll [p, q]) (hu : A.units + 1 + PyData.depthAll [p, q] < cLine)
    (h : ∀ h' tk, (∀ b o, s.heap.get? b = some o → h'.get? b = some o) → Q (if PySem.W.dataLt q p = true then b else a) { s with heap := h', toks := tk }) : wpAny (model prog w) A (call (.builtin "min") [a, b]) Q E s := by
  have hname : (toString "min" ++ toString ".loop" : String) = "min.loop" := by decide
  refine call_function_tree F.kind_min F.plain_min F.entry_min (F.args_min2 _ _) ?_
  show wpAny _ A.in1 (Builtin.Builtins.bindParams "min" ["key", "default"] 0 ⟨[], []⟩ >>= _) _ _ s
  refine wpAny_bind (wpAny_of_eq (show Builtin.Builtins.bindParams "min" ["key", "default"] 0 ⟨[], []⟩ = pure [none, none] from rfl) ?_)
  show wpAny _ A.in1 (newTuple [a, b] >>= _) _ _ s
  refine wpAny_bind (wpAny_newObj_type ?_)
  have hT : (s.heap.push { cls := .type "tuple", data := .seq #[a, b] }).IsTuple s.heap.objs.size #[a, b] := ⟨_, Heap.get?_push_size _ rfl, rfl, _, rfl⟩
  refine wpAny_bind (PySem.W.iter_tupleW (s := { s with heap := s.heap.push { cls := .type "tuple", data := .seq #[a, b] } }) (A := A.in1) hh hT fun s₂ e W st hfp hw hk => ?_)
  refine wpAny_bind (wpAny_newObj_type ?_)
  have hSf : s₂.heap.objs.size ∉ _ := fun hm => Nat.lt_irrefl _ (hfp _ hm)
  have hr1 : ReadsAll (s.heap.push { cls := .type "tuple", data := .seq #[a, b] }) (#[a, b] : Array Value).toList [p, q] as := ReadsAll.keeps (fun b o e => Heap.get?_push_of_some _ e) hr
  have hcmp := PySem.W.cmpIn_lt (prog := prog) (w := w) (A := A.in1) (s := { s with heap := s.heap.push { cls := .type "tuple", data := .seq #[a, b] } }) hr1 al (by show A.units + 1 + _ < _; exact hu)
  rw [hname]
  refine wpAny_pure ⟨plainId_quiet F.plain_min_loop _, codeAny_min_loop_firstH W _ hw _ hcmp s₂.heap.objs.size hSf (fresh_in hk) _ (show 0 < 2 by decide) (fun b o e => Heap.get?_push_of_some _ (hk b o e)) (W.frame 0 s₂ _ s₂.toks st (Nat.le_refl _) fun b _ o e => Heap.get?_push_of_some _ e) (Heap.get?_push_size _ rfl) fun v s' hP hm => ?_⟩
  obtain ⟨h', tk, rfl, hk'⟩ := PySem.W.moved_old (s := { s with heap := s.heap.push { cls := .type "tuple", data := .seq #[a, b] } }) e rfl (Moved.drop_new (tk := s₂.toks) hm (Nat.le_refl _))
  have e2 : v = if PySem.W.dataLt q p = true then b else a := by
    have hP : (#[a, b] : Array Value)[if PySem.W.dataLt q p = true then 1 else 0]? = some v := hP
    split at hP
    · rename_i z; rw [if_pos z]; exact (Option.some.inj hP).symm
    · rename_i z; rw [if_neg z]; exact (Option.some.inj hP).symm
  rw [e2]
  exact h h' tk fun b o e => hk' b o (Heap.get?_push_of_some _ e)
theorem two_most {a b : Value} {p q : PyData} {as : List Addr} {Q : Value → Shared → Prop} (hh : A.handled = none) (hr : ReadsAll s.heap [a, b] [p, q] as) (al : PySem.W.AlikeAll [p, q]) (hu : A.units + 1 + PyData.depthAll [p, q] < cLine)
    (h : ∀ h' tk, (∀ b o, s.heap.get? b = some o → h'.get? b = some o) → Q (if PySem.W.dataLt p q = true then b else a) { s with heap := h', toks := tk }) : wpAny (model prog w) A (call (.builtin "max") [a, b]) Q E s := by
  have hname : (toString "max" ++ toString ".loop" : String) = "max.loop" := by decide
  refine call_function_tree F.kind_max F.plain_max F.entry_max (F.args_max2 _ _) ?_
  show wpAny _ A.in1 (Builtin.Builtins.bindParams "max" ["key", "default"] 0 ⟨[], []⟩ >>= _) _ _ s
  refine wpAny_bind (wpAny_of_eq (show Builtin.Builtins.bindParams "max" ["key", "default"] 0 ⟨[], []⟩ = pure [none, none] from rfl) ?_)
  show wpAny _ A.in1 (newTuple [a, b] >>= _) _ _ s
  refine wpAny_bind (wpAny_newObj_type ?_)
  have hT : (s.heap.push { cls := .type "tuple", data := .seq #[a, b] }).IsTuple s.heap.objs.size #[a, b] := ⟨_, Heap.get?_push_size _ rfl, rfl, _, rfl⟩
  refine wpAny_bind (PySem.W.iter_tupleW (s := { s with heap := s.heap.push { cls := .type "tuple", data := .seq #[a, b] } }) (A := A.in1) hh hT fun s₂ e W st hfp hw hk => ?_)
  refine wpAny_bind (wpAny_newObj_type ?_)
  have hSf : s₂.heap.objs.size ∉ _ := fun hm => Nat.lt_irrefl _ (hfp _ hm)
  have hr1 : ReadsAll (s.heap.push { cls := .type "tuple", data := .seq #[a, b] }) (#[a, b] : Array Value).toList [p, q] as := ReadsAll.keeps (fun b o e => Heap.get?_push_of_some _ e) hr
  have hcmp := PySem.W.cmpIn_gt (prog := prog) (w := w) (A := A.in1) (s := { s with heap := s.heap.push { cls := .type "tuple", data := .seq #[a, b] } }) hr1 al (by show A.units + 1 + _ < _; exact hu)
  rw [hname]
  refine wpAny_pure ⟨plainId_quiet F.plain_max_loop _, codeAny_max_loop_firstH W _ hw _ hcmp s₂.heap.objs.size hSf (fresh_in hk) _ (show 0 < 2 by decide) (fun b o e => Heap.get?_push_of_some _ (hk b o e)) (W.frame 0 s₂ _ s₂.toks st (Nat.le_refl _) fun b _ o e => Heap.get?_push_of_some _ e) (Heap.get?_push_size _ rfl) fun v s' hP hm => ?_⟩
  obtain ⟨h', tk, rfl, hk'⟩ := PySem.W.moved_old (s := { s with heap := s.heap.push { cls := .type "tuple", data := .seq #[a, b] } }) e rfl (Moved.drop_new (tk := s₂.toks) hm (Nat.le_refl _))
  have e2 : v = if PySem.W.dataLt p q = true then b else a := by
    have hP : (#[a, b] : Array Value)[if PySem.W.dataLt p q = true then 1 else 0]? = some v := hP
    split at hP
    · rename_i z; rw [if_pos z]; exact (Option.some.inj hP).symm
    · rename_i z; rw [if_neg z]; exact (Option.some.inj hP).symm
  rw [e2]
  exact h h' tk fun b o e => hk' b o (Heap.get?_push_of_some _ e)
end
/-! ### min, max of two -/
def rTwo (mx : Bool) (K : PySem.W.Frag) : List V → Hp → VK → Prop := fun xs H Q => ∃ x y p q, xs = [x, y] ∧ Dp K H x p ∧ Dp K H y q ∧ PySem.W.AlikeAll [p, q] ∧ PyData.depthAll [p, q] ≤ 50 ∧ Q (if (if mx = true then PySem.W.dataLt p q else PySem.W.dataLt q p) = true then y else x) H
theorem fin_two {X : Cx} {pins : List (Addr × Obj)} {σ : L2.St} {H : Hp} {s : Shared} {Q : VK} {x y : V} {u v : Value} {b : Bool} (I : Inv X pins σ H s) (rx : RelV x u) (ry : RelV y v) (q : Q (if b = true then y else x) H) : EP X pins σ Q (if b = true then v else u) s := by
  refine ⟨_, H, I, ?_, q⟩
  cases b
  · exact rx
  · exact ry
theorem call_two {X : Cx} (hc : X.calm = true) (hu : X.A.units + 64 < cLine) (mx : Bool) : CallR X (.builtin (if mx = true then "max" else "min")) (rTwo mx X.K) := by
  intro pins s σ H xs us Q I r h
  obtain ⟨x, y, p, q, rfl, dx, dy, al, hd, hq⟩ := h
  obtain ⟨u1, u2, rfl, r1, r2⟩ := vals2 r
  obtain ⟨as, hr⟩ := Dp.readsAll I [p, q] [x, y] [u1, u2] (.cons dx (.cons dy .nil)) (.cons r1 (.cons r2 .nil))
  cases mx with
  | false => exact two_least (I.ok.hd hc) hr al (by omega) fun h' tk hk => fin_two (I.kept hk) r1 r2 hq
  | true => exact two_most (I.ok.hd hc) hr al (by omega) fun h' tk hk => fin_two (I.kept hk) r1 r2 hq
def rdTwo (mx : Bool) : RDC
  | [d, d'], M, k => ∃ p q, Py M d p ∧ Py M d' q ∧ PySem.W.AlikeAll [p, q] ∧ PyData.depthAll [p, q] ≤ 50 ∧ k (if (if mx = true then PySem.W.dataLt p q else PySem.W.dataLt q p) = true then d' else d) M
  | _, _, _ => False
theorem cd_two {K : PySem.W.Frag} (mx : Bool) : CallD K (rTwo mx K) (rdTwo mx) := fun vs ds H M k Q n r h c => by
  unfold rdTwo at h
  split at h
  · obtain ⟨v, v', rfl, n1, n2⟩ := n.two_inv
    obtain ⟨p, q, h1, h2, al, hd, h⟩ := h
    refine ⟨v, v', p, q, rfl, h1.dp r _ _ _ n1, h2.dp r _ _ _ n2, al, hd, c.here h r ?_⟩
    generalize (if mx = true then PySem.W.dataLt p q else PySem.W.dataLt q p) = z
    cases z
    · exact n1
    · exact n2
  · exact h.elim
/-! ### min, max of a fresh list -/
def rLeast (mx : Bool) (K : PySem.W.Frag) : List V → Hp → VK → Prop := fun vs0 H Q => ∃ (a : Addr) (vs : List V) (p : PyData) (ps : List PyData), vs0 = [.ref a] ∧ SqL K H a vs ∧ DpAll K H vs (p :: ps) ∧ PySem.W.AlikeAll (p :: ps) ∧ PyData.depthAll (p :: ps) ≤ 50 ∧
  ∀ (i : Nat) v, vs[i]? = some v → (p :: ps).getD i .none = (if mx = true then PySem.W.maxD p ps else PySem.W.minD p ps) → Q v H
theorem call_least {X : Cx} (hc : X.calm = true) (hu : X.A.units + 64 < cLine) (mx : Bool) : CallR X (.builtin (if mx = true then "max" else "min")) (rLeast mx X.K) := by
  intro pins s σ H xs us Q I r h
  obtain ⟨a, vs, p, ps, rfl, hs, dp, al, hd, hq⟩ := h
  obtain ⟨its, rv, hl, _⟩ := I.list hs
  rw [Vals.ref1 r]
  obtain ⟨as, hr⟩ := Dp.readsAll I (p :: ps) vs its dp rv
  have hr : ReadsAll s.heap its.toArray.toList (p :: ps) as := by simpa using hr
  have hn : its.toArray.size = ps.length + 1 := PySem.W.readsAll_len hr
  have fin : ∀ (i : Nat) (v : Value) h' tk, its.toArray[i]? = some v → (p :: ps).getD i .none = (if mx = true then PySem.W.maxD p ps else PySem.W.minD p ps) → (∀ b o, s.heap.get? b = some o → h'.get? b = some o) → EP X pins σ Q v { s with heap := h', toks := tk } := fun i v h' tk hi hg hk => by
    obtain ⟨u, hu', ru⟩ : ∃ u, vs[i]? = some u ∧ RelV u v := by
      have hi : its[i]? = some v := by simpa using hi
      obtain ⟨u, e⟩ : ∃ u, vs[i]? = some u := ⟨vs[i]'(by rw [rv.length]; exact (List.getElem?_eq_some_iff.mp hi).1), List.getElem?_eq_getElem _⟩
      obtain ⟨v', hv', r'⟩ := rv.get e
      rw [hi] at hv'
      cases hv'
      exact ⟨u, e, r'⟩
    exact ⟨u, H, I.kept hk, ru, hq i u hu' hg⟩
  cases mx with
  | false =>
    refine call_min_walkH (PySem.W.iter_listW (A := X.A.in1) (I.ok.hd hc) hl.isList fun s₂ e W st hfp hw hk => ?_)
    refine ⟨_, _, _, _, _, _, _, s.heap, _, rfl, W, st, hfp, by omega, hw, hk, PySem.W.cmpIn_lt (A := X.A.in1) hr al (by show X.A.units + 1 + _ < _; omega), fun v s' hP m => ?_⟩
    obtain ⟨h', tk, rfl, hk'⟩ := PySem.W.moved_old e rfl m
    have e1 : its.toArray.size - 1 = ps.length := by omega
    have e2 := (PySem.W.argBest_fold PySem.W.dataLt PyData.none p ps ps.length (Nat.le_refl _)).2
    rw [List.take_length] at e2
    rw [e1] at hP
    exact fin _ v h' tk hP e2 hk'
  | true =>
    refine call_max_walkH (PySem.W.iter_listW (A := X.A.in1) (I.ok.hd hc) hl.isList fun s₂ e W st hfp hw hk => ?_)
    refine ⟨_, _, _, _, _, _, _, s.heap, _, rfl, W, st, hfp, by omega, hw, hk, PySem.W.cmpIn_gt (A := X.A.in1) hr al (by show X.A.units + 1 + _ < _; omega), fun v s' hP m => ?_⟩
    obtain ⟨h', tk, rfl, hk'⟩ := PySem.W.moved_old e rfl m
    have e1 : its.toArray.size - 1 = ps.length := by omega
    have e2 := (PySem.W.argBest_fold (fun a b => PySem.W.dataLt b a) PyData.none p ps ps.length (Nat.le_refl _)).2
    rw [List.take_length] at e2
    rw [e1] at hP
    exact fin _ v h' tk hP e2 hk'
def rdLeast (mx : Bool) : RDC := fun ds M k => ∃ p ps, PyL M ds (p :: ps) ∧ PySem.W.AlikeAll (p :: ps) ∧ PyData.depthAll (p :: ps) ≤ 50 ∧ ∀ (i : Nat) d, ds[i]? = some d → (p :: ps).getD i .none = (if mx = true then PySem.W.maxD p ps else PySem.W.minD p ps) → k d M
theorem ld_least {K : PySem.W.Frag} (mx : Bool) : ListD K (rLeast mx K) (rdLeast mx) := fun a vs ds H M k Q hp mp n r ⟨p, ps, hy, al, hd, h⟩ c =>
  ⟨a, vs, p, ps, rfl, SqL.of hp, hy.dp r _ _ _ n, al, hd, fun i v hv hg => by
    obtain ⟨d, h1, h2⟩ := n.getV hv
    exact c.here (h i d h1 hg) r h2⟩
/-! ### sum of a tuple -/
def rSumTup (K : PySem.W.Frag) : List V → Hp → VK → Prop := fun vs H Q => ∃ (a : Addr) (ns : List Int), vs = [V.ref a] ∧ SqT K H a (ns.map V.int) ∧ Q (.int ns.sum) H
theorem call_sumTup {X : Cx} (hc : X.calm = true) : CallR X (.builtin "sum") (rSumTup X.K) := by
  intro pins s σ H vs us Q I r h
  obtain ⟨a, ns, rfl, hs, q⟩ := h
  obtain ⟨its, rv, ht, hz⟩ := I.tuple hs
  rw [Vals.ref1 r]
  have hi := rv.ints
  obtain ⟨xs, e⟩ := hi.allInts.items
  have hn : numsOf (intItems xs).toList = ns := by rw [← e]; exact hi.numsOf
  rw [nums_intItems] at hn
  have ht : s.heap.IsTuple a (intItems xs) := by rw [← e]; exact ht
  have hlt : a < s.heap.objs.size := by obtain ⟨_, e, _⟩ := ht; exact Heap.lt_size e
  refine call_sum_walkG (wpAny_pyIter_tuple ht ?_)
  refine ⟨_, _, _, _, _, _, numAt xs, rfl, Walks.tuple (A := X.A.in1) (I.ok.hd hc) _ a (Nat.ne_of_lt hlt) (intItems xs), ⟨⟨_, Heap.get?_push_size _ rfl, rfl, rfl⟩, ht.push _⟩, fun b hb => ?_, (fun _ _ => intItems_at), fun h' tk t' hk => ?_⟩
  · show b < (s.heap.push _).objs.size
    rw [Heap.size_push]
    rcases List.mem_cons.mp hb with rfl | hb
    · exact Nat.lt_succ_self _
    · rw [List.mem_singleton.mp hb]; exact Nat.lt_succ_of_lt hlt
  · have e3 : preSum (numAt xs) (intItems xs).size = ns.sum := by
      rw [preSum_eq, List.take_of_length_le (by simp [intItems]), hn]
    rw [e3]
    exact ⟨.int _, H, I.kept (fun b o e => hk b o (fun hb => absurd (Heap.lt_size e) ((List.mem_singleton.mp hb) ▸ Nat.lt_irrefl _)) (Heap.get?_push_of_some _ e)), ⟨_, rfl⟩, q⟩
def rdSumTup : RDC
  | [d], M, k => ∃ ns : List Int, tupOf d = some (ns.map D.int) ∧ k (.int ns.sum) M
  | _, _, _ => False
theorem cd_sumTup {K : PySem.W.Frag} : CallD K (rSumTup K) rdSumTup := fun vs ds H M k Q n r h c => by
  unfold rdSumTup at h
  split at h
  · obtain ⟨v, rfl, n1⟩ := n.one_inv
    obtain ⟨ns, e, h⟩ := h
    obtain ⟨a, ws, rfl, ha, hs⟩ := tupOf_is n1 e
    exact ⟨a, ns, rfl, by rw [← hs.ints]; exact ha, c.here h r (.int _)⟩
  · exact h.elim
/-! ### d.setdefault(k, x), k a tuple -/
def rSetT : V → List V → Hp → VK → Prop := fun x xs H Q => ∃ (a : Addr) (kvs : List (List L2.Key × V)) (k : List L2.Key) (b : Addr) (d : V), x = .ref a ∧ xs = [.ref b, d] ∧ H a = some (.dT kvs) ∧ H b = some (.tup (k.map kV)) ∧ kvs.length < sizeLine ∧
  (∀ v, valV kvs k = some v → Q v H) ∧ (valV kvs k = none → Q d (upd H a (.dT (putK kvs k d))))
theorem mt_setT {X : Cx} (hu : X.A.units + 1 < cLine) : MtR X "dict.setdefault" rSetT := by
  intro pins s σ H x xs v us Q I rx rxs h
  obtain ⟨a, kvs, k, b, d, rfl, rfl, ha, hb, hl0, q1, q2⟩ := h
  cases rx
  obtain ⟨u1, u2, rfl, r1, r2⟩ := vals2 rxs
  cases r1
  obtain ⟨z, hd, xs', rel, dd⟩ := dt_of I.hok ha
  have hz : xs'.length ≤ sizeLine := by rw [← Paired.length rel]; exact z
  have hl : (putK kvs k d).length ≤ sizeLine := by have := length_putK kvs k d; omega
  refine call_setdefault_heap (knd := tupleKind (mixKind X.prog X.w)) (k := k) (hsz := hz) (tupleKind_room_in1 hu) (key_of I.hok hb) hd dd (fun p hp => ?_) fun hn h' dd' hs => ?_
  · have r := rel.val k
    rw [hp] at r
    obtain ⟨v0, ev, rv⟩ : ∃ v0, valV kvs k = some v0 ∧ RelV v0 p.2 := by
      cases ev : valV kvs k with
      | none =>
        rw [ev] at r
        exact (show False from r).elim
      | some v0 =>
        rw [ev] at r
        exact ⟨v0, rfl, r⟩
    exact ⟨v0, H, I.tok _, rv, q1 v0 ev⟩
  · have r := rel.val k
    rw [hn] at r
    have e : valV kvs k = none := by
      cases ev : valV kvs k with
      | none => rfl
      | some v0 =>
        rw [ev] at r
        exact (show False from r).elim
    obtain ⟨q, es, ep, hq, h2, h3, h4, _, h5⟩ := dd'
    have I2 : Inv X pins σ (upd H a (.dT (putK kvs k d))) { s with heap := h', toks := s.toks + (tupleKind (mixKind X.prog X.w)).draws k } :=
      d_write I (by rw [ha]; exact True.intro) hs ⟨q, hq⟩ ⟨hl, hd, _, (rel.put k hb r2).keeps (fun c ys ec => by rw [upd_ne (ne_of ec ha (fun z => nomatch z))]; exact ec), q, es, ep, hq, h2, h3, h4, h5⟩
    exact ⟨d, _, I2, r2, q2 e⟩
section
variable {X : Cx} {w : XW} {o i f e : Expr} {to : DTE} {t : DTA} {apos cpos pos : Pos}
def dSetDf (to : DTE) (t : DTA) : DTE := fun δ M k => to δ M fun x M1 => match x with
  | .obj a => (∃ kvs, M1 a = some (.dT kvs)) ∧ t δ M1 fun ds M3 => ∃ y z kvs c, ds = [y, z] ∧ M3 a = some (.dT kvs) ∧ tupKey y = some c ∧ kvs.length < sizeLine ∧ (∀ v, valD kvs c = some v → k v M3) ∧ (valD kvs c = none → k z (put M3 a (.dT (putD kvs c z))))
  | _ => False
theorem de_setDf (hu : X.A.units + 1 < cLine) (ho : DE X w o to) (ha : DA X w [i, f] t) (hbase : attributeBase o "setdefault" X.env (eval o X.env) = eval o X.env := by rfl)
    (hfew : ((backTo cpos (starEach [i, f] X.env)).all (fun x => !x.1) && (backToKw cpos (keywordEach [] X.env)).all (fun x => x.1.isSome)
      && decide (([i, f] : List Expr).length + ([] : List Keyword).length + (if ([] : List Keyword).isEmpty then 0 else 1) < 30)) = true := by rfl)
    (hline : (apos.endLine == cpos.line) = true := by rfl) (hs : starEach [i, f] X.env = (false, eval i X.env) :: starEach [f] X.env := by rfl) (hplain : (backTo cpos (starEach [f] X.env)).any (·.1) = false := by rfl) :
    DE X w (.Call (.Attribute o "setdefault" apos) [i, f] [] cpos) (dSetDf to t) :=
  PE.imp (pe_bm PySem.F.plainAttrs_dict PySem.F.slot_dict_setdefault PySem.F.type_dict_setdefault (mt_setT hu) ho ha hbase hfew hline hs hplain) fun σ H Q ⟨δ, M, k, re, rp, h, c⟩ => ⟨δ, M, _, re, rp, h, fun x M1 v H1 q1 f1 r1 n1 => by
    cases x with
    | obj a =>
      have e := n1.obj_inv
      subst e
      obtain ⟨⟨kvs0, m0⟩, q1⟩ := q1
      obtain ⟨ks0, h0, _⟩ := r1 _ _ m0
      refine ⟨.inr (.inr (.inl ⟨rfl, .inr ⟨ks0, h0⟩⟩)), δ, M1, _, re.on f1, r1, q1, fun ds M3 vs H3 q3 f3 r3 n3 => ?_⟩
      obtain ⟨y, z, kvs, c', rfl, m3, hk, hl, q4, q5⟩ := q3
      obtain ⟨u, u', rfl, ny, nz⟩ := n3.two_inv
      obtain ⟨ks, h3, hr⟩ := r3 _ _ m3
      obtain ⟨b, rfl, hb⟩ := tupKey_is ny hk
      have hv := valD_rel c' hr
      have ff := f1.trans f3
      refine ⟨a, ks, c', b, u', rfl, rfl, h3, hb, by rw [kv_len hr]; exact hl, fun v e => ?_, fun e => ?_⟩
      · rw [e] at hv
        cases e2 : valD kvs c' with
        | none => rw [e2] at hv; exact hv.elim
        | some d => rw [e2] at hv; exact (c.on ff).here (q4 d e2) r3 hv
      · rw [e] at hv
        cases e2 : valD kvs c' with
        | none =>
          have e3 : Ext H3 (upd H3 a (.dT (putK ks c' u'))) := ext_dT h3
          exact c.on ff _ _ u' _ (q5 e2) (Fr.set m3 e3) (r3.put e3 ⟨_, upd_same, (putD_rel c' hr nz).ext e3⟩) (Dn.ext e3 _ _ nz)
        | some d => rw [e2] at hv; exact hv.elim
    | _ => exact q1.elim⟩
end
end DL
/-! DL: dicts with pairs of cells as keys, over data; zip with a fresh list; dict displays; in a tuple of texts. -/
namespace DL
open PySem PySem.Spec PyProof.Rows L2
def kN (k : NK) : D := .tup [.tup [.int k.1.1, .int k.1.2], .tup [.int k.2.1, .int k.2.2]]
def nkOf : D → Option NK
  | .tup [.tup [.int a, .int b], .tup [.int c, .int d]] => some ((a, b), (c, d))
  | _ => none
theorem nkOf_kN (k : NK) : nkOf (kN k) = some k := rfl
theorem nkOf_some {y : D} {k : NK} (h : nkOf y = some k) : y = kN k := by
  unfold nkOf at h
  split at h
  · cases h; rfl
  · cases h
section
variable {K : PySem.W.Frag} {H : Hp}
theorem kN_is {v : V} {k : NK} (n : Dn K H v (kN k)) : ∃ b, v = .ref b ∧ NAt H k b := by
  obtain ⟨b, vs, rfl, hb, hs⟩ := n.tup_inv
  obtain ⟨u1, u2, rfl, n1, n2⟩ := hs.two_inv
  obtain ⟨b1, w1, rfl, h1, s1⟩ := n1.tup_inv
  obtain ⟨b2, w2, rfl, h2, s2⟩ := n2.tup_inv
  obtain ⟨_, _, rfl, m1, m2⟩ := s1.two_inv
  obtain ⟨_, _, rfl, m3, m4⟩ := s2.two_inv
  cases m1; cases m2; cases m3; cases m4
  exact ⟨b, rfl, b1, b2, hb, h1, h2⟩
theorem kN_dn {k : NK} {b : Addr} (h : NAt H k b) : Dn K H (.ref b) (kN k) := by
  obtain ⟨b1, b2, h0, h1, h2⟩ := h
  exact .tup h0 (.cons (.tup h1 (.cons (.int _) (.cons (.int _) .nil))) (.cons (.tup h2 (.cons (.int _) (.cons (.int _) .nil))) .nil))
theorem nkv_keys {ks : List (NK × Addr × V)} {kvs : List (NK × D)} (r : NKV K H ks kvs) : NKeys H ks := by
  induction r with
  | nil => intro x hx; cases hx
  | cons f t ih =>
    intro x hx
    rcases List.mem_cons.mp hx with rfl | hx
    · exact f.2.1
    · exact ih x hx
theorem nkv_val {ks : List (NK × Addr × V)} {kvs : List (NK × D)} (k : NK) (r : NKV K H ks kvs) : OptDn K H (nVal ks k) (valD kvs k) := by
  induction r with
  | nil => exact trivial
  | @cons p q ps qs f t ih =>
    unfold nVal valD
    rw [List.find?_cons, List.find?_cons, ← f.1]
    by_cases h : p.1 = k
    · simp only [h, decide_true, Option.map_some]; exact f.2.2
    · simp only [h, decide_false]
      exact ih
theorem nkv_any {ks : List (NK × Addr × V)} {kvs : List (NK × D)} (k : NK) (r : NKV K H ks kvs) : (nVal ks k).isSome = kvs.any fun kv => decide (kv.1 = k) := by
  induction r with
  | nil => rfl
  | @cons p q ps qs f t ih =>
    unfold nVal
    rw [List.find?_cons, List.any_cons, ← f.1]
    by_cases h : p.1 = k
    · simp [h]
    · simp only [h, decide_false, Bool.false_or]
      exact ih
theorem nkv_put {ks : List (NK × Addr × V)} {kvs : List (NK × D)} {v : V} {d : D} {b : Addr} (k : NK) (r : NKV K H ks kvs) (hb : NAt H k b) (n : Dn K H v d) : NKV K H (putN ks k b v) (putD kvs k d) := by
  unfold putN putD
  rw [nkv_any k r]
  split
  · have go : ∀ {ps : List (NK × Addr × V)} {qs : List (NK × D)}, NKV K H ps qs → NKV K H (ps.map fun x => if x.1 = k then (x.1, x.2.1, v) else x) (qs.map fun x => if x.1 = k then (x.1, d) else x) := by
      intro ps qs t
      induction t with
      | nil => exact .nil
      | @cons p x ps qs f t ih =>
        refine .cons ?_ ih
        obtain ⟨f1, f2, f3⟩ := f
        dsimp only
        by_cases h : p.1 = k
        · rw [if_pos h, if_pos (f1.symm.trans h)]; exact ⟨f1, f2, n⟩
        · rw [if_neg h, if_neg fun z => h (f1.trans z)]; exact ⟨f1, f2, f3⟩
    exact go r
  · exact Paired.snoc r ⟨rfl, hb, n⟩
theorem nkv_get {ks : List (NK × Addr × V)} {kvs : List (NK × D)} {i : Nat} {k : NK} {q : Addr} {v : V} (r : NKV K H ks kvs) (e : ks[i]? = some (k, q, v)) : ∃ d, kvs[i]? = some (k, d) ∧ NAt H k q := by
  induction r generalizing i with
  | nil => simp at e
  | @cons p q ps qs f t ih =>
    cases i with
    | zero =>
      simp only [List.getElem?_cons_zero, Option.some.injEq] at e ⊢
      subst e
      exact ⟨_, Prod.ext f.1.symm rfl, f.2.1⟩
    | succ i => simpa using ih (by simpa using e)
theorem nkv_len {ks : List (NK × Addr × V)} {kvs : List (NK × D)} (r : NKV K H ks kvs) : ks.length = kvs.length := Paired.length r
end
theorem ext_nD {H : Hp} {p : Addr} {ks} {o : HO} (h : H p = some (nDict p ks)) : Ext H (upd H p o) := Ext.set h trivial
def ndO (M : MH) (a : Addr) (kvs : List (NK × D)) : Prop := M a = some (.dN kvs) ∨ ∃ o ks, M a = some (.rN o ks kvs)
theorem ndO_is {K : PySem.W.Frag} {H : Hp} {M : MH} {a : Addr} {kvs : List (NK × D)} (r : Rep K H M) (h : ndO M a kvs) : ∃ ks, RdN H a ks ∧ NKV K H ks kvs := by
  rcases h with h | ⟨o, ks, h⟩
  · obtain ⟨ks, h1, h2⟩ := r _ _ h; exact ⟨ks, .inl h1, h2⟩
  · obtain ⟨h1, h2⟩ := r _ _ h; exact ⟨ks, .inr ⟨o, h1⟩, h2⟩
section
variable {X : Cx} {w : XW} {o i e f tg : Expr} {to ti tx te : DTE} {t : DTA} {apos cpos pos pos' : Pos}
def dGet2N (to ti tx : DTE) : DTE := fun δ M k => to δ M fun x M1 => match x with
  | .obj a => (∃ kvs, M1 a = some (.dN kvs)) ∧ ti δ M1 fun y M2 => tx δ M2 fun z M3 => ∃ kvs c, nkOf y = some c ∧ ndO M3 a kvs ∧ k ((valD kvs c).getD z) M3
  | _ => False
theorem optDn_getD {K : PySem.W.Frag} {H : Hp} {o : Option V} {o' : Option D} {v : V} {d : D} (h : OptDn K H o o') (n : Dn K H v d) : Dn K H (o.getD v) (o'.getD d) := by
  cases o <;> cases o' <;> first | exact h.elim | exact n | exact h
theorem de_get2N (hu : X.A.units + 64 < cLine) (ho : DE X w o to) (he : DE X w i ti) (hf : DE X w f tx) (m : M2 X o "get" apos i f cpos) : DE X w (.Call (.Attribute o "get" apos) [i, f] [] cpos) (dGet2N to ti tx) :=
  PE.imp (pe_get2N hu ho he hf m) fun σ H Q ⟨δ, M, k, re, rp, h, c⟩ => ⟨δ, M, _, re, rp, h, fun x M1 v H1 q1 f1 r1 n1 => by
    cases x with
    | obj a =>
      have e := n1.obj_inv
      subst e
      obtain ⟨⟨kvs0, m0⟩, q1⟩ := q1
      obtain ⟨ks0, h0, _⟩ := r1 _ _ m0
      refine ⟨a, ks0, rfl, h0, δ, M1, _, re.on f1, r1, q1, fun y M2 w H2 q2 f2 r2 n2 => ⟨δ, M2, _, re.on (f1.trans f2), r2, q2, fun z M3 u H3 ⟨kvs, c', hk, g, q⟩ f3 r3 n3 => ?_⟩⟩
      rw [nkOf_some hk] at n2
      obtain ⟨b, rfl, hb⟩ := kN_is n2
      obtain ⟨ks, g, rel⟩ := ndO_is r3 g
      exact ⟨b, ks, c', rfl, g, nkv_keys rel, hb.ext f3.ext, (c.on (f1.trans (f2.trans f3))).here q r3 (optDn_getD (nkv_val c' rel) n3)⟩
    | _ => exact q1.elim⟩
def dGetIN (to ti : DTE) : DTE := fun δ M k => to δ M fun x M1 => ti δ M1 fun y M2 => match x with
  | .obj a => ∃ kvs c d, nkOf y = some c ∧ ndO M2 a kvs ∧ valD kvs c = some d ∧ k d M2
  | _ => False
theorem de_getIN (hu : X.A.units + 64 < cLine) (ho : DE X w o to) (hi : DE X w i ti) (hs : NoSl i := by exact fun _ _ => rfl) : DE X w (.Subscript o i pos) (dGetIN to ti) :=
  PE.imp (pe_getN hu ho hi hs) fun σ H Q ⟨δ, M, k, re, rp, h, c⟩ => ⟨δ, M, _, re, rp, h, fun x M1 v H1 q1 f1 r1 n1 => ⟨δ, M1, _, re.on f1, r1, q1, fun y M2 w H2 q f2 r2 n2 => by
    cases x with
    | obj a =>
      have e := n1.obj_inv
      subst e
      obtain ⟨kvs, c', d, hk, g, hv, q⟩ := q
      rw [nkOf_some hk] at n2
      obtain ⟨b, rfl, hb⟩ := kN_is n2
      obtain ⟨ks, g, rel⟩ := ndO_is r2 g
      have z := nkv_val c' rel
      rw [hv] at z
      cases e : nVal ks c' with
      | none => rw [e] at z; exact z.elim
      | some u => rw [e] at z; exact ⟨a, b, ks, c', u, rfl, rfl, g, nkv_keys rel, hb, e, (c.on (f1.trans f2)).here q r2 z⟩
    | _ => exact q.elim⟩⟩
def dPutN (to ti te : DTE) : DTS := fun E δ M => te δ M fun v M1 => to δ M1 fun x M2 => ti δ M2 fun y M3 => match x with
  | .obj a => ∃ kvs c, nkOf y = some c ∧ M3 a = some (.dN kvs) ∧ kvs.length < sizeLine ∧ E.nx δ (put M3 a (.dN (putD kvs c v)))
  | _ => False
theorem ds_putN (hu : X.A.units + 64 < cLine) (ho : DE X w o to) (hi : DE X w i ti) (he : DE X w e te) (hs : swapsWith e (some (.Subscript o i pos')) pos.line X.env = pure false := by rfl) : DS X w (.Assign [.Subscript o i pos'] e pos) (dPutN to ti te) :=
  PS.imp (ps_putN hu ho hi he hs) fun D σ H ⟨δ, M, E, re, rp, h, c⟩ => ⟨δ, M, _, re, rp, h, fun v M1 u H1 q1 f1 r1 n1 => ⟨δ, M1, _, re.on f1, r1, q1, fun x M2 w H2 q2 f2 r2 n2 => ⟨δ, M2, _, re.on (f1.trans f2), r2, q2, fun y M3 z H3 q f3 r3 n3 => by
    cases x with
    | obj a =>
      have e := n2.obj_inv
      subst e
      obtain ⟨kvs, c', hk, m, hl, q⟩ := q
      have f := f1.trans (f2.trans f3)
      have nv := n1.ext (f2.ext.trans f3.ext)
      obtain ⟨ks, h3, rel⟩ := r3 _ _ m
      rw [nkOf_some hk] at n3
      obtain ⟨b, rfl, hb⟩ := kN_is n3
      have e3 : Ext H3 (upd H3 a (nDict a (putN ks c' b u))) := ext_nD h3
      exact ⟨a, b, ks, c', rfl, rfl, h3, nkv_keys rel, hb, by rw [nkv_len rel]; exact hl, c.nx δ _ σ _ q (f.trans (Fr.set m e3)) (re.on (f.trans (Fr.set m e3))) (r3.put e3 ⟨_, upd_same, (nkv_put c' rel hb nv).ext e3⟩)⟩
    | _ => exact q.elim⟩⟩⟩
def dNewN : DTE := fun _ M k => ∀ p, M p = none → k (.obj p) (put M p (.dN []))
theorem de_newN : DE X w (.Dict [] [] pos) dNewN := PE.imp pe_newN fun σ H Q ⟨δ, M, k, re, rp, h, c⟩ p hp => new_obj (u := .dN []) c rp hp ⟨[], upd_same, .nil⟩ (h p (rp.free hp))
def dLockN (t : DTA) : DTA := fun δ M k => ∃ a kvs, M a = some (.dN kvs) ∧ ∀ o ks, t δ (put M a (.rN o ks kvs)) fun ds M' => M' a = some (.rN o ks kvs) ∧ k ds (put M' a (.dN kvs))
theorem dl_lockN (h : DL1 X w e t) : DL1 X w e (dLockN t) := PE.imp (pe_lock h) fun σ H Q ⟨δ, M, k, re, rp, ⟨a, kvs, m, ht⟩, c⟩ => by
  obtain ⟨ks, ha, hk⟩ := rp _ _ m
  refine ⟨a, nDict a ks, ha, trivial, fun od => ?_⟩
  have e1 : Ext H (upd H a (.frz od (nDict a ks))) := ext_nD ha
  have f1 : Fr M H (put M a (.rN od ks kvs)) (upd H a (.frz od (nDict a ks))) := Fr.set m e1
  refine ⟨δ, _, _, re.on f1, rp.put e1 ⟨upd_same, hk.ext e1⟩, ht od ks, fun ds M' p vs H' ⟨m', q⟩ f2 r2 hp mp hl n => ?_⟩
  obtain ⟨ha', hk'⟩ := r2 _ _ m'
  have e2 : Ext H' (upd H' a (nDict a ks)) := Ext.set ha' trivial
  have np : p ≠ a := fun z => by rw [z] at hp; rw [upd_same] at hp; cases hp
  refine ⟨ha', c ds _ p vs _ q ((f1.trans f2).trans (Fr.set m' e2)) (r2.put e2 ⟨ks, upd_same, hk'.ext e2⟩) (upd_there hp) (by rw [put_ne np]; exact mp) (by rw [upd_ne np]; exact hl) (n.ext e2)⟩
def knD (kvs : List (NK × D)) : List D := kvs.map fun kv => kN kv.1
def diKN (te : DTE) : DTI := fun δ M q => te δ M fun d M1 => match d with
  | .obj a => ∃ o ks kvs, M1 a = some (.rN o ks kvs) ∧ q (knD kvs) (fun M => M a = some (.rN o ks kvs)) M1
  | _ => False
theorem it_keysN {K : PySem.W.Frag} {M0 : MH} {H0 : Hp} {a : Addr} {o : Obj} {ks : List (NK × Addr × V)} {kvs : List (NK × D)} : ItOk K (Itkn a o ks) (knD kvs) (fun M => M a = some (.rN o ks kvs)) M0 H0 := fun i H M f r m => by
  obtain ⟨ha, hk⟩ := r _ _ m
  refine ⟨fun d hd => ?_, fun hl => ⟨ha, by rw [nkv_len hk]; simpa [knD] using hl⟩⟩
  unfold knD at hd
  rw [List.getElem?_map] at hd
  cases q : kvs[i]? with
  | none => rw [q] at hd; cases hd
  | some kv =>
    obtain ⟨k, d'⟩ := kv
    rw [q] at hd
    cases hd
    have hlt : i < ks.length := by rw [nkv_len hk]; exact (List.getElem?_eq_some_iff.mp q).1
    refine ⟨⟨ha, hlt⟩, fun y H' ⟨e, k', b, v', h3, h4⟩ => ?_⟩
    subst e
    obtain ⟨d2, h5, h6⟩ := nkv_get hk h3
    rw [q] at h5
    cases h5
    subst h4
    exact ⟨r, Fr.refl, kN_dn h6⟩
theorem di_keysN (he : DE X w e te) : DI X w tg e (diKN te) := PI.imp (pi_keysN he) fun σ H R ⟨δ, M, q, re, rp, h, c⟩ => ⟨δ, M, _, re, rp, h, fun d M1 v H1 q1 f1 r1 n1 => by
  cases d with
  | obj a =>
    have e := n1.obj_inv
    subst e
    obtain ⟨o, ks, kvs, m, q1⟩ := q1
    obtain ⟨ha, hk⟩ := r1 _ _ m
    exact ⟨a, o, ks, rfl, ha, c _ _ M1 H1 q1 f1 r1 _ it_keysN⟩
  | _ => exact q1.elim⟩
/-! either kind -/
theorem de_either {t1 t2 : DTE} (h1 : DE X w e t1) (h2 : DE X w e t2) : DE X w e (fun δ M k => t1 δ M k ∨ t2 δ M k) := ⟨fun pins s σ H Q I ⟨δ, M, k, re, rp, h, c⟩ => h.elim (fun h => h1.run pins s σ H Q I ⟨δ, M, k, re, rp, h, c⟩) fun h => h2.run pins s σ H Q I ⟨δ, M, k, re, rp, h, c⟩⟩
theorem dl_either {t1 t2 : DTA} (h1 : DL1 X w e t1) (h2 : DL1 X w e t2) : DL1 X w e (fun δ M k => t1 δ M k ∨ t2 δ M k) := ⟨fun pins s σ H Q I ⟨δ, M, k, re, rp, h, c⟩ => h.elim (fun h => h1.run pins s σ H Q I ⟨δ, M, k, re, rp, h, c⟩) fun h => h2.run pins s σ H Q I ⟨δ, M, k, re, rp, h, c⟩⟩
theorem di_either {t1 t2 : DTI} (h1 : DI X w tg e t1) (h2 : DI X w tg e t2) : DI X w tg e (fun δ M q => t1 δ M q ∨ t2 δ M q) := ⟨fun pins s σ H R I ⟨δ, M, q, re, rp, h, c⟩ => h.elim (fun h => h1.run pins s σ H R I ⟨δ, M, q, re, rp, h, c⟩) fun h => h2.run pins s σ H R I ⟨δ, M, q, re, rp, h, c⟩⟩
def dGetIA (to ti : DTE) : DTE := fun δ M k => dGetI to ti δ M k ∨ dGetIN to ti δ M k
def dLockA (t : DTA) : DTA := fun δ M k => dLockL t δ M k ∨ dLockN t δ M k
def diKA (te : DTE) : DTI := fun δ M q => diK te δ M q ∨ diKN te δ M q
theorem de_getIA (hu : X.A.units + 64 < cLine) (ho : DE X w o to) (hi : DE X w i ti) (hs : NoSl i := by exact fun _ _ => rfl) : DE X w (.Subscript o i pos) (dGetIA to ti) := de_either (de_getI (by omega) ho hi hs) (de_getIN hu ho hi hs)
theorem dl_lockA (h : DL1 X w e t) : DL1 X w e (dLockA t) := dl_either (dl_lock h) (dl_lockN h)
theorem di_keysA (he : DE X w e te) : DI X w tg e (diKA te) := di_either (di_keys he) (di_keysN he)
/-! zip of a list and a fresh one -/
variable {e2 : Expr} {elts : List Expr} {kk : Nat} {tpos p : Pos}
def diZM (te : DTE) (t : DTA) : DTI := fun δ M q => te δ M fun d M1 => t δ M1 fun ys M2 => ∃ xs, lstOf M2 d = some xs ∧ q (zpD xs ys) (fun M => lstOf M d = some xs) M2
theorem di_zipM (hg : Gl X "zip") (hm : X.mg "zip" = none) (he : DE X w e te) (hl : DL1 X w e2 t) (hs : starEach [e, e2] X.env = (false, eval e X.env) :: starEach [e2] X.env := by rfl) (hpl : (backTo pos (starEach [e2] X.env)).any (·.1) = false := by rfl)
    (hs2 : starEach [e2] X.env = (false, eval e2 X.env) :: starEach [] X.env := by rfl) : DI X w (.Tuple elts kk tpos) (.Call (.Name "zip" p) [e, e2] [] pos) (diZM te t) :=
  PI.imp (RZ.pi_zipA hg hm (pa_cons he (pa_cons hl pa_nil hs2) hs) hs hpl) fun σ H R ⟨δ, M, q, re, rp, h, c⟩ => ⟨δ, M, _, re, rp, h, fun d M1 v H1 q1 f1 r1 n1 => ⟨δ, M1, _, re.on f1, r1, q1, fun ys M2 p vs H2 ⟨xs, hx, q2⟩ f2 r2 hp mp hq n2 => by
    have n1' := n1.ext f2.ext
    obtain ⟨a, us, rfl, hs, hn⟩ := lstOf_is r2 n1' hx
    refine ⟨a, p, us, vs, rfl, .inl ⟨hs, SqL.of hq, c _ _ M2 H2 q2 (f1.trans f2) r2 _ (it_zip fun H3 M3 f3 r3 o => ?_)⟩⟩
    obtain ⟨_, us', ea, hs', hn'⟩ := sq_now n1' f3 r3 o
    cases ea
    exact ⟨us', vs, hs', hn', SqL.of (f3.fr p _ mp hq).1, n2.ext f3.ext⟩⟩⟩
end
/-! in a tuple of texts -/
def rdInT (neg : Bool) : RD2 := fun x y M k => ∃ (z : Str) (zs : List Str), x = .str z ∧ tupOf y = some (zs.map D.str) ∧ k (.bl (if neg = true then !zs.contains z else zs.contains z)) M
theorem flat_strs : ∀ zs : List Str, (zs.map V.str).all flatV = true
  | [] => rfl
  | z :: zs => by rw [List.map_cons, List.all_cons, flat_strs zs]; rfl
theorem inV_strs (z : Str) : ∀ zs : List Str, inV (.str z) (zs.map V.str) = zs.contains z
  | [] => rfl
  | y :: zs => by
    have ih := inV_strs z zs
    unfold inV at ih ⊢
    rw [List.map_cons, List.any_cons, ih, List.contains_cons]
    have : eqV (V.str y) (V.str z) = (z == y) := by
      show decide (y = z) = (z == y)
      by_cases h : y = z
      · subst h; simp
      · rw [decide_eq_false h, beq_eq_false_iff_ne.mpr (Ne.symm h)]
    rw [this]
theorem od_inT {K : PySem.W.Frag} (neg : Bool) : OpD K (rIn K neg) (rdInT neg) := fun x y dx dy H M k Q nx ny r h c => by
  obtain ⟨z, zs, rfl, hy, h⟩ := h
  cases nx
  obtain ⟨a, vs, rfl, ha, hs⟩ := tupOf_is ny hy
  rw [hs.strs] at ha
  exact ⟨a, _, rfl, .inr ha, rfl, flat_strs zs, by rw [inV_strs]; exact c.here h r (.bl _)⟩
section
variable {X : Cx} {w : XW} {a b : Expr} {ta tb : DTE} {pos : Pos}
theorem de_inT (ha : DE X w a ta) (hb : DE X w b tb) (hm : behindInMarks .In b = false) : DE X w (.Compare a [.In] [b] pos) (dOp (rdInT false) ta tb) := de_cmp op_in_seq (od_inT false) ha hb hm
theorem dt_inT (ha : DE X w a ta) (hb : DE X w b tb) (hm : behindInMarks .In b = false) : DT X w (.Compare a [.In] [b] pos) (dTest (dOp (rdInT false) ta tb)) := dt_cmp op_in_seq (od_inT false) ha hb hm
theorem de_notInT (ha : DE X w a ta) (hb : DE X w b tb) (hm : behindInMarks .NotIn b = false) : DE X w (.Compare a [.NotIn] [b] pos) (dOp (rdInT true) ta tb) := de_cmp op_notIn_seq (od_inT true) ha hb hm
theorem dt_notInT (ha : DE X w a ta) (hb : DE X w b tb) (hm : behindInMarks .NotIn b = false) : DT X w (.Compare a [.NotIn] [b] pos) (dTest (dOp (rdInT true) ta tb)) := dt_cmp op_notIn_seq (od_inT true) ha hb hm
end
/-! a dict display, its keys texts -/
abbrev DTP := DSt → MH → (List (D × D) → MH → Prop) → Prop
abbrev PrDn (K : PySem.W.Frag) (H : Hp) : List (V × V) → List (D × D) → Prop := Paired fun p q => Dn K H p.1 q.1 ∧ Dn K H p.2 q.2
def upP (K : PySem.W.Frag) (w : XW) (t : DTP) (σ : L2.St) (H : Hp) (Q : List (V × V) → Hp → Prop) : Prop := ∃ δ M k, EnvD K w M H σ δ ∧ Rep K H M ∧ t δ M k ∧ ∀ ds M' ps H', k ds M' → Fr M H M' H' → Rep K H' M' → PrDn K H' ps ds → Q ps H'
def DPs (X : Cx) (w : XW) (pos : Pos) (keys : List (Option Expr)) (values : List Expr) (t : DTP) : Prop := ∃ trs, PPs X pos keys values trs ∧ ∀ σ H Q, upP X.K w t σ H Q → tPairs trs σ H Q
def dpNil : DTP := fun _ M k => k [] M
def dpCons (tk tv : DTE) (t : DTP) : DTP := fun δ M k => tk δ M fun x M1 => tv δ M1 fun y M2 => t δ M2 fun ps M3 => k ((x, y) :: ps) M3
def dDisp (t : DTP) : DTE := fun δ M k => ∀ p, M p = none → t δ (put M p (.dK [])) fun ds M2 => ∃ kvs : List (L2.Key × D), ds = kvs.map (fun kv => (kD kv.1, kv.2)) ∧ kvs.length ≤ 15 ∧ M2 p = some (.dK []) ∧ k (.obj p) (put M2 p (.dK (kvs.foldl (fun acc kv => putD acc kv.1 kv.2) [])))
theorem prdn_ext {K : PySem.W.Frag} {H H' : Hp} (e : Ext H H') {ps : List (V × V)} {ds : List (D × D)} (r : PrDn K H ps ds) : PrDn K H' ps ds := Paired.mapP r fun _ _ z => ⟨z.1.ext e, z.2.ext e⟩
theorem prdn_kv {K : PySem.W.Frag} {H : Hp} : ∀ {ps : List (V × V)} {kvs : List (L2.Key × D)}, PrDn K H ps (kvs.map fun kv => (kD kv.1, kv.2)) → ∃ vs : List (L2.Key × V), ps = vs.map (fun kv => (kV kv.1, kv.2)) ∧ DnKV K H vs kvs
  | _, [], .nil => ⟨[], rfl, .nil⟩
  | p :: ps, kv :: kvs, .cons f t => by
    obtain ⟨vs, e, r⟩ := prdn_kv (kvs := kvs) t
    refine ⟨(kv.1, p.2) :: vs, ?_, .cons ⟨rfl, f.2⟩ r⟩
    rw [e, List.map_cons]
    congr 1
    exact Prod.ext (dn_kD f.1) rfl
theorem mergeK_rel {K : PySem.W.Frag} {H : Hp} : ∀ {ks : List (L2.Key × V)} {kvs : List (L2.Key × D)} {as : List (L2.Key × V)} {bs : List (L2.Key × D)}, DnKV K H ks kvs → DnKV K H as bs → DnKV K H (mergeK as ks) (kvs.foldl (fun acc p => putD acc p.1 p.2) bs)
  | _, _, _, _, .nil, h => h
  | (a, v) :: ks, (b, d) :: kvs, _, _, .cons ⟨e, n⟩ r, h => by
    have e : a = b := e
    subst e
    exact mergeK_rel (ks := ks) (kvs := kvs) r (putD_rel a h n)
section
variable {X : Cx} {w : XW} {pos : Pos} {ks : List (Option Expr)} {vs : List Expr} {k v : Expr} {tk tv : DTE} {t : DTP}
theorem dp_nil : DPs X w pos [] [] dpNil := ⟨[], pps_nil, fun σ H Q ⟨δ, M, k, re, rp, h, c⟩ => c [] M [] H h Fr.refl rp .nil⟩
theorem dp_cons (hk : DE X w k tk) (hv : DE X w v tv) (hr : DPs X w pos ks vs t) : DPs X w pos (some k :: ks) (v :: vs) (dpCons tk tv t) :=
  let ⟨trs, h1, h2⟩ := hr
  ⟨_, pps_cons hk hv h1, fun σ H Q ⟨δ, M, k, re, rp, h, c⟩ => ⟨δ, M, _, re, rp, h, fun x M1 u H1 q1 f1 r1 n1 => ⟨δ, M1, _, re.on f1, r1, q1, fun y M2 u2 H2 q2 f2 r2 n2 => h2 σ H2 _ ⟨δ, M2, _, re.on (f1.trans f2), r2, q2, fun ds M3 ps H3 q3 f3 r3 n3 =>
    c _ M3 _ H3 q3 (f1.trans (f2.trans f3)) r3 (.cons ⟨n1.ext (f2.ext.trans f3.ext), n2.ext f3.ext⟩ n3)⟩⟩⟩⟩
theorem de_disp (h : DPs X w pos ks vs t) (hall : ks.all (·.isSome) = true := by rfl) (hl : ks.length = vs.length := by rfl) (h0 : ks ≠ [] := by exact fun z => nomatch z) (h15 : ks.length ≤ 15 := by decide) : DE X w (.Dict ks vs pos) (dDisp t) :=
  let ⟨trs, h1, h2⟩ := h
  PE.imp (pe_disp h1 hall hl h0 h15) fun σ H Q ⟨δ, M, k, re, rp, h, c⟩ p hp => by
    have f0 : Fr M H (put M p (.dK [])) (upd H p (.dK [])) := Fr.new hp
    refine h2 σ _ _ ⟨δ, _, _, re.on f0, rp.put (Ext.new hp) ⟨[], upd_same, .nil⟩, h p (rp.free hp), fun ds M2 ps H2 ⟨kvs, e, hl, m2, q⟩ f2 r2 n2 => ?_⟩
    subst e
    obtain ⟨us, rfl, hr⟩ := prdn_kv n2
    obtain ⟨as, ha, hz⟩ := r2 _ _ m2
    cases hz
    have e3 : Ext H2 (upd H2 p (.dK (mergeK [] us))) := ext_dK ha
    exact ⟨ha, us, rfl, by rw [kv_len hr]; exact hl, c (.obj p) _ (.ref p) _ q ((f0.trans f2).trans (Fr.set m2 e3)) (r2.put e3 ⟨_, upd_same, (mergeK_rel hr .nil).ext e3⟩) (.obj p)⟩
end
end DL
/-! Base, rules, floors, steps: what they are over data, specs. -/
namespace DL
open PySem PySem.Spec PyProof.Rows L2

/-! ### data -/
/-- a text of the two letters: true is l -/
def eW (w : List Bool) : Str := ⟨(w.map fun b => if b then 108 else 114).toArray⟩
def lS (b : Bool) : Str := eW [b]
theorem eW_length (w : List Bool) : (eW w).length = w.length := by simp [eW, Str.length]
theorem eW_cps (w : List Bool) : (eW w).cps.toList = w.map fun b => if b then 108 else 114 := by simp [eW]
theorem eW_inj {a b : List Bool} (h : eW a = eW b) : a = b := by
  have e : (eW a).cps.toList = (eW b).cps.toList := by rw [h]
  rw [eW_cps, eW_cps] at e
  induction a generalizing b with
  | nil => cases b with
    | nil => rfl
    | cons _ _ => simp at e
  | cons x xs ih => cases b with
    | nil => simp at e
    | cons y ys =>
      simp only [List.map_cons, List.cons.injEq] at e
      have hx : x = y := by
        cases x <;> cases y <;> simp at e <;> rfl
      have := ih (b := ys) (by rw [show eW xs = ⟨(xs.map fun b => if b then 108 else 114).toArray⟩ from rfl, e.2]; rfl) e.2
      rw [hx, this]
abbrev Cell := Int × Int
def eC (c : Cell) : D := .tup [.int c.1, .int c.2]
structure Ant where
  c : Cell
  w : Int
  deriving DecidableEq
def eA (a : Ant) : D := .tup [.int a.c.1, .int a.c.2, .int a.w]
abbrev Floor := List (Cell × Int)
def ePr (p : Cell × Int) : D := .tup [eC p.1, .int p.2]
def eF (f : Floor) : D := .ftup (f.map ePr)
def eSt (f : Floor) (a : Ant) : D := .tup [eF f, eA a]
/-- bounds of what is passed in -/
def CellOk (c : Cell) : Prop := (-1000000 ≤ c.1 ∧ c.1 ≤ 1000000) ∧ (-1000000 ≤ c.2 ∧ c.2 ≤ 1000000)
def AntOk (a : Ant) : Prop := CellOk a.c ∧ 0 ≤ a.w ∧ a.w ≤ 3
def cellLt (a b : Cell) : Bool := HT.lexLt [a.1, a.2] [b.1, b.2]
def FloorOk (n : Nat) (f : Floor) : Prop := f.length ≤ 2000 ∧ (∀ p ∈ f, CellOk p.1 ∧ 1 ≤ p.2 ∧ p.2 ≤ (n : Int) - 1) ∧ ∀ i (p q : Cell × Int), f[i]? = some p → f[i + 1]? = some q → cellLt p.1 q.1 = true
def RuleOk (r : List Bool) : Prop := 2 ≤ r.length ∧ r.length ≤ 12

/-! ### constants -/
def c_WAYS : Dc := .tup [.tup [.int 1, .int 0], .tup [.int 0, .int 1], .tup [.int (-1), .int 0], .tup [.int 0, .int (-1)]]
def c_HOME : Dc := .tup [.int 0, .int 0, .int 0]
abbrev d_WAYS : D := konD c_WAYS
abbrev d_HOME : D := konD c_HOME

/-! ### retagged: what tupled gives -/
def isPr : D → Bool
  | .tup [.tup _, .int _] => true
  | _ => false
mutual
def retag : D → D
  | .tup ds => if ds.all isPr then .ftup (retagL ds) else .tup (retagL ds)
  | .ftup ds => if ds.all isPr then .ftup (retagL ds) else .tup (retagL ds)
  | .non => .non
  | .bl b => .bl b
  | .int i => .int i
  | .str s => .str s
  | .ty n => .ty n
  | .kon ds => .kon ds
  | .scl ds => .scl ds
  | .obj a => .obj a
def retagL : List D → List D
  | [] => []
  | d :: ds => retag d :: retagL ds
end
theorem retagL_map : ∀ ds : List D, retagL ds = ds.map retag
  | [] => rfl
  | d :: ds => by rw [retagL, retagL_map ds]; rfl
/-- no lists, no objects, so many levels of tuples -/
def plainN : Nat → D → Bool
  | _, .non => true
  | _, .bl _ => true
  | _, .int _ => true
  | _, .str _ => true
  | n + 1, .tup ds => decide (ds.length ≤ 1000000) && ds.all (plainN n)
  | n + 1, .ftup ds => decide (ds.length ≤ 1000000) && ds.all (plainN n)
  | _, _ => false

/-! ### specs -/
def isNum : D → Bool
  | .int _ => true
  | _ => false
def sp_is_number : DSp := fun ds M k _ => ∃ d s, ds = [d] ∧ tyD M d = some s ∧ k (.bl (isNum d)) M
def sp_is_within : DSp := fun ds M k _ => ∃ x a b, ds = [.int x, .int a, .int b] ∧ k (.bl (decide (a ≤ x) && decide (x ≤ b))) M
def sp_is_long : DSp := fun ds M k _ => ∃ d xs, ∃ n : Nat, ds = [d, .int n] ∧ tupOf d = some xs ∧ k (.bl (decide (xs.length = n))) M
def sp_are_numbers : DSp := fun ds M k _ => ∃ d xs, ds = [d] ∧ tupOf d = some xs ∧ xs.length ≤ 1000000 ∧ (∀ x ∈ xs, ∃ s, tyD M x = some s) ∧ k (.bl (xs.all isNum)) M
def sp_tupledN (n : Nat) : DSp := fun ds M k _ => ∃ d, ds = [d] ∧ plainN n d = true ∧ k (retag d) M
def sp_tupled0 : Nat → DSp
  | 0 => fun _ _ _ _ => False
  | n + 1 => sp_tupledN n
def sp_tupled : DSp := sp_tupledN 7
def sp_sure_within : DSp := fun ds M k _ => ∃ x a b, ds = [.int x, .int a, .int b] ∧ (a ≤ x ∧ x ≤ b) ∧ k (.int x) M
def sp_is_letters : DSp := fun ds M k _ => ∃ w : List Bool, ds = [.str (eW w)] ∧ w.length ≤ 1000000 ∧ k (.bl true) M
def sp_is_rule_in : DSp := fun ds M k _ => ∃ r : List Bool, ds = [.str (eW r)] ∧ RuleOk r ∧ k (.bl true) M
def sp_sure_rule : DSp := fun ds M k _ => ∃ r : List Bool, ds = [.str (eW r)] ∧ RuleOk r ∧ k (.str (eW r)) M
def sp_is_cell_in : DSp := fun ds M k _ => ∃ c : Cell, ds = [eC c] ∧ CellOk c ∧ k (.bl true) M
def sp_is_floor_in : DSp := fun ds M k _ => ∃ (r : List Bool) (f : Floor), ds = [.str (eW r), eF f] ∧ RuleOk r ∧ FloorOk r.length f ∧ k (.bl true) M
def sp_is_ant_in : DSp := fun ds M k _ => ∃ a : Ant, ds = [eA a] ∧ AntOk a ∧ k (.bl true) M
def sp_sure_ant : DSp := fun ds M k _ => ∃ a : Ant, ds = [eA a] ∧ AntOk a ∧ k (eA a) M
def sp_is_standing_in : DSp := fun ds M k _ => ∃ (r : List Bool) (f : Floor) (a : Ant), ds = [.str (eW r), eSt f a] ∧ RuleOk r ∧ FloorOk r.length f ∧ AntOk a ∧ k (.bl true) M
/-- a standing as it may be passed in: its FLOOR of either kind -/
def sp_sure_standing : DSp := fun ds M k _ => ∃ (r : List Bool) (d : D) (f : Floor) (a : Ant), ds = [.str (eW r), d] ∧ RuleOk r ∧ retag d = eSt f a ∧ plainN 7 d = true ∧ FloorOk r.length f ∧ AntOk a ∧ k (eSt f a) M
end DL
namespace DL
open PySem PySem.Spec PyProof.Rows L2
def t_is_number : DTS := dRet (dAndV (dCB (rdIsi "int") (dCons (dVar 0) (dCons (dC (.ty "int")) (dNil)))) (dNotV (dCB (rdIsi "bool") (dCons (dVar 0) (dCons (dC (.ty "bool")) (dNil))))))

def t_is_within : DTS := dRet (dAndV (dCall sp_is_number (dCons (dVar 0) (dNil))) (dChain rdLe rdLe (dVar 1) (dVar 0) (dVar 2)))

def t_is_long : DTS := dRet (dAndV (dCB (rdIsi "tuple") (dCons (dVar 0) (dCons (dC (.ty "tuple")) (dNil)))) (dOp rdEq (dCB rdLen (dCons (dVar 0) (dNil))) (dVar 1)))

def t_are_numbers : DTS := dRet (dAndV (dCB (rdIsi "tuple") (dCons (dVar 0) (dCons (dC (.ty "tuple")) (dNil)))) (dCB rdAll (dLc (diT (dVar 0)) (dgName 1) (dYes) (dCall sp_is_number (dCons (dVar 1) (dNil))) [1])))

def t_tupled (sp : DSp) : DTS := dRet (dIf (dTest (dCB (rdIsi2 "list" "tuple") (dCons (dVar 0) (dCons (dTup (dCons (dC (.ty "list")) (dCons (dC (.ty "tuple")) (dNil)))) (dNil))))) (dCB rdTuple (dLc (diT (dVar 0)) (dgName 1) (dYes) (dCall sp (dCons (dVar 1) (dNil))) [1])) (dVar 0))

def t_sure_within : DTS := dSeq (dIfS (dNot (dTest (dCall sp_is_within (dCons (dVar 0) (dCons (dVar 1) (dCons (dVar 2) (dNil))))))) (dNever) (dNext)) (dRet (dVar 0))

def t_is_letters : DTS := dRet (dAndV (dCB (rdIsi "str") (dCons (dVar 0) (dCons (dC (.ty "str")) (dNil)))) (dCB rdAll (dLc (diS (dVar 0)) (dgName 1) (dYes) (dOp (rdInS false) (dVar 1) (dC (.str "lr"))) [1])))

def t_is_rule_in : DTS := dRet (dAndV (dCall sp_is_letters (dCons (dVar 0) (dNil))) (dChain rdLe rdLe (dC (.int 2)) (dCB rdLen (dCons (dVar 0) (dNil))) (dC (.int 12))))

def t_sure_rule : DTS := dSeq (dIfS (dNot (dTest (dCall sp_is_rule_in (dCons (dVar 0) (dNil))))) (dNever) (dNext)) (dRet (dVar 0))

def t_is_cell_in : DTS := dRet (dAndV (dCall sp_is_long (dCons (dVar 0) (dCons (dC (.int 2)) (dNil)))) (dAndV (dCall sp_are_numbers (dCons (dVar 0) (dNil))) (dCB rdAll (dLc (diT (dVar 0)) (dgName 1) (dYes) (dOp rdLe (dCB rdAbs (dCons (dVar 1) (dNil))) (dC (.int 1000000))) [1]))))

theorem ite_and {p q : Bool} {P : Bool → Prop} (h : P (p && q)) : if p = true then P q else P false := by
  cases p <;> simpa using h
theorem pure_is_number : ∀ ds M k e, sp_is_number ds M k e → t_is_number (endsOf k) (fill 1 ds) M := by
  rintro ds M k e ⟨d, s, rfl, hs, h⟩
  have go : ∀ b : Bool, kitB s "int" = some false → isNum d = false → t_is_number (endsOf k) (fill 1 [d]) M := fun _ h1 h2 =>
    ⟨rfl, _, _, hs, h1, rt_of (by rw [h2] at h; exact h)⟩
  cases d with
  | int i =>
    cases hs
    refine ⟨rfl, _, _, rfl, (by decide +kernel : kitB "int" "int" = some true), ?_⟩
    refine ⟨rfl, _, _, rfl, (by decide +kernel : kitB "int" "bool" = some false), ?_⟩
    exact rt_of h
  | bl i =>
    cases hs
    refine ⟨rfl, _, _, rfl, (by decide +kernel : kitB "bool" "int" = some true), ?_⟩
    refine ⟨rfl, _, _, rfl, (by decide +kernel : kitB "bool" "bool" = some true), ?_⟩
    exact rt_of h
  | non => cases hs; exact go true (by decide +kernel) rfl
  | str _ => cases hs; exact go true (by decide +kernel) rfl
  | tup _ => cases hs; exact go true (by decide +kernel) rfl
  | ftup _ => cases hs; exact go true (by decide +kernel) rfl
  | kon _ => cases hs; exact go true (by decide +kernel) rfl
  | scl _ => cases hs; exact go true (by decide +kernel) rfl
  | ty _ => cases hs
  | obj a =>
    refine go true ?_ rfl
    have hs : (match M a with | some (.lst _) => some "list" | _ => none) = some s := hs
    split at hs
    · cases hs; decide +kernel
    · cases hs
theorem len_is_number : ∀ ds M k e, sp_is_number ds M k e → ds.length = 1 := by rintro ds M k e ⟨d, s, rfl, _⟩; rfl
theorem pure_is_within : ∀ ds M k e, sp_is_within ds M k e → t_is_within (endsOf k) (fill 3 ds) M := by
  rintro ds M k e ⟨x, a, b, rfl, h⟩
  refine ⟨_, _, rfl, rfl, ?_⟩
  exact ite_and (P := fun b => rtOf k (.bl b) M) (rt_of h)
theorem len_is_within : ∀ ds M k e, sp_is_within ds M k e → ds.length = 3 := by rintro ds M k e ⟨x, a, b, rfl, _⟩; rfl
theorem tyD_tup {M : MH} {d : D} {xs : List D} (h : tupOf d = some xs) : tyD M d = some "tuple" := by cases d <;> cases h <;> rfl
theorem lstOf_tup {M : MH} {d : D} {xs : List D} (h : tupOf d = some xs) : lstOf M d = none := by cases d <;> cases h <;> rfl
theorem seqOf_tup {M : MH} {d : D} {xs : List D} (h : tupOf d = some xs) : seqOf M d = some xs := by unfold seqOf; rw [lstOf_tup h, h]; rfl
theorem kit_tt : kitB "tuple" "tuple" = some true := by decide +kernel
theorem kit_tl : kitB "tuple" "list" = some false := by decide +kernel
theorem rdLen_tup {M : MH} {d : D} {xs : List D} {k : DK} (h : tupOf d = some xs) (q : k (.int (xs.length : Nat)) M) : rdLen [d] M k := by
  cases d <;> first | exact ⟨xs, seqOf_tup h, q⟩ | cases h
theorem pure_is_long : ∀ ds M k e, sp_is_long ds M k e → t_is_long (endsOf k) (fill 2 ds) M := by
  rintro ds M k e ⟨d, xs, n, rfl, hx, h⟩
  refine ⟨rfl, _, _, tyD_tup hx, kit_tt, ?_⟩
  refine rdLen_tup hx ?_
  refine rt_of ?_
  have e : decide (((xs.length : Nat) : Int) = (n : Int)) = decide (xs.length = n) := by
    by_cases h : xs.length = n
    · simp [h]
    · rw [decide_eq_false h, decide_eq_false (by omega)]
  show k (.bl (xor false (decide (((xs.length : Nat) : Int) = (n : Int))))) M
  rw [xor_false', e]
  exact h
theorem len_is_long : ∀ ds M k e, sp_is_long ds M k e → ds.length = 2 := by rintro ds M k e ⟨x, a, b, rfl, _⟩; rfl
theorem pure_are_numbers : ∀ ds M k e, sp_are_numbers ds M k e → t_are_numbers (endsOf k) (fill 2 ds) M := by
  rintro ds M k e ⟨d, xs, rfl, hx, hl, ht, h⟩
  refine ⟨rfl, _, _, tyD_tup hx, kit_tt, ?_⟩
  refine ⟨xs, hx, ?_⟩
  refine lc_all (fun d => .bl (isNum d)) trivial hl (fun d hd => ⟨_, rfl, fun kk hk => ?_⟩) ?_
  · obtain ⟨s, hs⟩ := ht d hd
    exact ⟨d, s, rfl, hs, hk⟩
  · refine ⟨xs.map isNum, by rw [List.map_map]; rfl, rt_of ?_⟩
    rw [List.all_map]
    exact h
theorem len_are_numbers : ∀ ds M k e, sp_are_numbers ds M k e → ds.length = 1 := by rintro ds M k e ⟨x, a, rfl, _⟩; rfl
theorem kit_it : kitB "int" "tuple" = some false ∧ kitB "int" "list" = some false := by decide +kernel
theorem kit_st : kitB "str" "tuple" = some false ∧ kitB "str" "list" = some false := by decide +kernel
theorem kit_bt : kitB "bool" "tuple" = some false ∧ kitB "bool" "list" = some false := by decide +kernel
theorem kit_nt : kitB "NoneType" "tuple" = some false ∧ kitB "NoneType" "list" = some false := by decide +kernel
theorem pure_tupled (n : Nat) : ∀ ds M k e, sp_tupledN n ds M k e → t_tupled (sp_tupled0 n) (endsOf k) (fill 2 ds) M := by
  rintro ds M k e ⟨d, rfl, hp, h⟩
  have flat : ∀ s, tyD M d = some s → kitB s "tuple" = some false ∧ kitB s "list" = some false → retag d = d → t_tupled (sp_tupled0 n) (endsOf k) (fill 2 [d]) M := fun s h1 h2 h3 => by
    refine ⟨le_line (by decide), rfl, rfl, s, false, false, h1, h2.2, h2.1, ?_⟩
    exact rt_of (by rw [h3] at h; exact h)
  have deep : ∀ xs, tupOf d = some xs → (∃ m, n = m + 1 ∧ xs.length ≤ 1000000 ∧ ∀ x ∈ xs, plainN m x = true) → retag d = (if xs.all isPr then .ftup (xs.map retag) else .tup (xs.map retag)) → t_tupled (sp_tupled0 n) (endsOf k) (fill 2 [d]) M := by
    rintro xs hx ⟨m, rfl, hl, hall⟩ hr
    refine ⟨le_line (by decide), rfl, rfl, "tuple", false, true, tyD_tup hx, kit_tl, kit_tt, ?_⟩
    refine ⟨xs, hx, ?_⟩
    refine lc_all retag trivial hl (fun x hd => ⟨_, rfl, fun kk hk => ?_⟩) ?_
    · exact ⟨x, rfl, hall x hd, hk⟩
    · rw [hr] at h
      by_cases hq : xs.all isPr = true
      · rw [if_pos hq] at h; exact Or.inr (rt_of h)
      · rw [if_neg hq] at h; exact Or.inl (rt_of h)
  cases d with
  | int _ => exact flat _ rfl kit_it rfl
  | bl _ => exact flat _ rfl kit_bt rfl
  | str _ => exact flat _ rfl kit_st rfl
  | non => exact flat _ rfl kit_nt rfl
  | tup xs =>
    refine deep xs rfl ?_ (by rw [retag, retagL_map])
    cases n with
    | zero => cases hp
    | succ m =>
      rw [plainN, Bool.and_eq_true] at hp
      exact ⟨m, rfl, of_decide_eq_true hp.1, List.all_eq_true.mp hp.2⟩
  | ftup xs =>
    refine deep xs rfl ?_ (by rw [retag, retagL_map])
    cases n with
    | zero => cases hp
    | succ m =>
      rw [plainN, Bool.and_eq_true] at hp
      exact ⟨m, rfl, of_decide_eq_true hp.1, List.all_eq_true.mp hp.2⟩
  | ty _ => cases n <;> cases hp
  | kon _ => cases n <;> cases hp
  | scl _ => cases n <;> cases hp
  | obj _ => cases n <;> cases hp
theorem len_tupled (n : Nat) : ∀ ds M k e, sp_tupledN n ds M k e → ds.length = 1 := by rintro ds M k e ⟨x, rfl, _⟩; rfl
theorem pure_sure_within : ∀ ds M k e, sp_sure_within ds M k e → t_sure_within (endsOf k) (fill 3 ds) M := by
  rintro ds M k e ⟨x, a, b, rfl, ⟨h1, h2⟩, h⟩
  refine ⟨x, a, b, rfl, ?_⟩
  rw [decide_eq_true h1, decide_eq_true h2]
  exact rt_of h
theorem len_sure_within : ∀ ds M k e, sp_sure_within ds M k e → ds.length = 3 := by rintro ds M k e ⟨x, a, b, rfl, _⟩; rfl
theorem kit_ss : kitB "str" "str" = some true := by decide +kernel
theorem sgD_eW (w : List Bool) : sgD (eW w) = w.map fun b => D.str (lS b) := by
  unfold sgD
  rw [eW_cps, List.map_map]
  apply List.map_congr_left
  intro b _
  rfl
theorem lS_code (b : Bool) : lS b = ⟨#[if b then 108 else 114]⟩ := rfl
theorem pure_is_letters : ∀ ds M k e, sp_is_letters ds M k e → t_is_letters (endsOf k) (fill 2 ds) M := by
  rintro ds M k e ⟨w, rfl, hl, h⟩
  refine ⟨rfl, _, _, rfl, kit_ss, ?_⟩
  refine lc_all (ds := sgD (eW w)) (fun _ => .bl true) trivial (by rw [sgD_eW]; simpa using hl) (fun d hd => ⟨_, rfl, fun kk hk => ?_⟩) ?_
  · rw [sgD_eW] at hd
    obtain ⟨b, _, rfl⟩ := List.mem_map.mp hd
    refine ⟨_, rfl, ?_⟩
    show kk (.bl (xor false (decide ((if b then 108 else 114) ∈ ("lr" : Str).cps.toList)))) M
    have e : decide ((if b then 108 else 114) ∈ ("lr" : Str).cps.toList) = true := by cases b <;> decide
    rw [e]
    exact hk
  · refine ⟨(w.map fun _ => true), by rw [sgD_eW, List.map_map, List.map_map]; rfl, rt_of ?_⟩
    have e : (w.map fun _ => true).all id = true := by simp
    rw [e]
    exact h
theorem len_is_letters : ∀ ds M k e, sp_is_letters ds M k e → ds.length = 1 := by rintro ds M k e ⟨x, rfl, _⟩; rfl
theorem pure_is_rule_in : ∀ ds M k e, sp_is_rule_in ds M k e → t_is_rule_in (endsOf k) (fill 1 ds) M := by
  rintro ds M k e ⟨r, rfl, ⟨h1, h2⟩, h⟩
  refine ⟨r, rfl, by omega, ?_⟩
  refine ⟨by rw [eW_length]; exact le_line (by omega), ?_⟩
  rw [eW_length]
  refine ite_and (P := fun b => rtOf k (.bl b) M) (rt_of ?_)
  show k (.bl (decide ((2 : Int) ≤ (r.length : Int)) && decide ((r.length : Int) ≤ 12))) M
  rw [decide_eq_true (by omega : (2 : Int) ≤ (r.length : Int)), decide_eq_true (by omega : (r.length : Int) ≤ 12)]
  exact h
theorem len_is_rule_in : ∀ ds M k e, sp_is_rule_in ds M k e → ds.length = 1 := by rintro ds M k e ⟨x, rfl, _⟩; rfl
theorem pure_sure_rule : ∀ ds M k e, sp_sure_rule ds M k e → t_sure_rule (endsOf k) (fill 1 ds) M := by
  rintro ds M k e ⟨r, rfl, hr, h⟩
  exact ⟨r, rfl, hr, rt_of h⟩
theorem len_sure_rule : ∀ ds M k e, sp_sure_rule ds M k e → ds.length = 1 := by rintro ds M k e ⟨x, rfl, _⟩; rfl
theorem pure_is_cell_in : ∀ ds M k e, sp_is_cell_in ds M k e → t_is_cell_in (endsOf k) (fill 2 ds) M := by
  rintro ds M k e ⟨c, rfl, ⟨⟨h1, h2⟩, h3, h4⟩, h⟩
  refine ⟨_, _, 2, rfl, rfl, ?_⟩
  refine ⟨_, _, rfl, rfl, by show 2 ≤ 1000000; decide, fun x hx => ?_, ?_⟩
  · rcases List.mem_cons.mp hx with rfl | hx
    · exact ⟨_, rfl⟩
    · rcases List.mem_cons.mp hx with rfl | hx
      · exact ⟨_, rfl⟩
      · cases hx
  · refine ⟨_, rfl, ?_⟩
    refine lc_all (fun _ => .bl true) trivial (by show 2 ≤ 1000000; decide) (fun d hd => ?_) ?_
    · rcases List.mem_cons.mp hd with rfl | hd
      · refine ⟨_, rfl, fun kk hk => ?_⟩
        show kk (.bl (decide ((if c.1 < 0 then -c.1 else c.1) ≤ 1000000))) M
        rw [decide_eq_true (by split <;> omega)]
        exact hk
      · rcases List.mem_cons.mp hd with rfl | hd
        · refine ⟨_, rfl, fun kk hk => ?_⟩
          show kk (.bl (decide ((if c.2 < 0 then -c.2 else c.2) ≤ 1000000))) M
          rw [decide_eq_true (by split <;> omega)]
          exact hk
        · cases hd
    · exact ⟨[true, true], rfl, rt_of h⟩
theorem len_is_cell_in : ∀ ds M k e, sp_is_cell_in ds M k e → ds.length = 1 := by rintro ds M k e ⟨x, rfl, _⟩; rfl
end DL
/-! Words and floors: what the defs compute, specs (k75; part of k78). -/
namespace DL
open PySem PySem.Spec PyProof.Rows L2
theorem hu65 {k : Nat} {A : Around} (r : Room k A) : A.units + 65 < cLine := by have := r.un; omega

/-! ### what is computed -/
def turnW (w : Int) (b : Bool) : Int := if b then (w + 1) % 4 else (w + 3) % 4
def dirW (w : Int) : Cell := if w = 0 then (1, 0) else if w = 1 then (0, 1) else if w = 2 then (-1, 0) else (0, -1)
def goA (c : Cell) (w : Int) : Ant := ⟨(c.1 + (dirW w).1, c.2 + (dirW w).2), w⟩
def stepB (a : Ant) (b : Bool) : Ant := goA a.c (turnW a.w b)
def walkC : Ant → List Bool → List Cell
  | _, [] => []
  | a, b :: w => a.c :: walkC (stepB a b) w
def endA : Ant → List Bool → Ant
  | a, [] => a
  | a, b :: w => endA (stepB a b) w
def WayOk (a : Ant) : Prop := 0 ≤ a.w ∧ a.w ≤ 3
def rAt (r : List Bool) (i : Nat) : Bool := r.getD i false
def fitAll (r : List Bool) (g : Nat) : Nat → List Bool → Bool
  | _, [] => true
  | p, b :: t => (rAt r ((g + p) % r.length) == b) && fitAll r g (p + 1) t
def fits (r t : List Bool) : List Nat := (List.range r.length).filter fun g => fitAll r g 0 t
section
variable {β : Type}
def getL (l : List (Cell × β)) (c : Cell) : Option β := (l.find? fun p => decide (p.1 = c)).map (·.2)
def putL (l : List (Cell × β)) (c : Cell) (v : β) : List (Cell × β) := if (l.any fun p => decide (p.1 = c)) = true then l.map (fun p => if p.1 = c then (p.1, v) else p) else l ++ [(c, v)]
end
def rowPut (l : List (Cell × List Bool)) (c : Cell) (b : Bool) : List (Cell × List Bool) := putL l c ((getL l c).getD [] ++ [b])
def rowsC (cs : List Cell) (w : List Bool) : List (Cell × List Bool) := (cs.zip w).foldl (fun l p => rowPut l p.1 p.2) []
def rows (a : Ant) (w : List Bool) : List (Cell × List Bool) := rowsC (walkC a w) w
def mulL : List Nat → Nat
  | [] => 1
  | x :: xs => x * mulL xs
def startsL (r : List Bool) (a : Ant) (w : List Bool) : List (Cell × List Nat) := (rows a w).map fun p => (p.1, fits r p.2)
def countF (r : List Bool) (a : Ant) (w : List Bool) : Nat := mulL ((startsL r a w).map fun p => p.2.length)
def noneFits (r : List Bool) (a : Ant) (w : List Bool) : Bool := (startsL r a w).any fun p => p.2.isEmpty
def firstL (r : List Bool) (a : Ant) (w : List Bool) : List (Cell × Int) := (startsL r a w).map fun p => (p.1, ((p.2.headD 0 : Nat) : Int))
def homeA : Ant := ⟨(0, 0), 0⟩
/-- the row of the cell of turn i, with that turn -/
def newRow (w : List Bool) (i : Nat) : List Bool := ((getL (rows homeA (w.take i)) ((walkC homeA w).getD i (0, 0))).getD []) ++ [w.getD i false]
def barred (r w : List Bool) : Option Nat := (List.range w.length).find? fun i => (fits r (newRow w i)).isEmpty
def wordsK (r : List Bool) : Nat → List (List Bool)
  | 0 => [[]]
  | n + 1 => (wordsK r n).flatMap fun w => [w ++ [true], w ++ [false]].filter fun v => (barred r v).isNone

/-! ### as data -/
def gD (g : Nat) : D := .int (g : Nat)
def eS (p : Cell × List Nat) : D := .tup [eC p.1, .tup (p.2.map gD)]
def optN : Option Nat → D
  | none => .non
  | some p => .int (p : Nat)
def kC (c : Cell) : List Key := [.inl c.1, .inl c.2]
def encT {β : Type} (f : β → D) (l : List (Cell × β)) : List (List Key × D) := l.map fun p => (kC p.1, f p.2)
/-- an ant as a tuple: made, or written -/
def AntD (d : D) (a : Ant) : Prop := d = eA a ∨ d = .kon [.int a.c.1, .int a.c.2, .int a.w]
theorem kC_inj {a b : Cell} (h : kC a = kC b) : a = b := by
  unfold kC at h
  simp only [List.cons.injEq, Sum.inl.injEq, and_true] at h
  exact Prod.ext h.1 h.2
theorem kC_eC (c : Cell) : tupKey (eC c) = some (kC c) := rfl
theorem eC_kC (c : Cell) : D.tup ((kC c).map kD) = eC c := rfl
section
variable {β : Type} {f : β → D}
theorem dec_kC (a b : Cell) : decide (kC a = kC b) = decide (a = b) := by
  by_cases h : a = b
  · subst h; simp
  · rw [decide_eq_false h, decide_eq_false fun z => h (kC_inj z)]
theorem valD_enc (l : List (Cell × β)) (c : Cell) : valD (encT f l) (kC c) = (getL l c).map f := by
  induction l with
  | nil => rfl
  | cons p l ih =>
    unfold valD getL encT at *
    rw [List.map_cons, List.find?_cons, List.find?_cons]
    simp only [dec_kC]
    by_cases h : p.1 = c
    · simp [h]
    · simp only [h, decide_false]
      exact ih
theorem any_enc (l : List (Cell × β)) (c : Cell) : ((encT f l).any fun kv => decide (kv.1 = kC c)) = l.any fun p => decide (p.1 = c) := by
  unfold encT
  rw [List.any_map]
  congr 1
  funext p
  exact dec_kC _ _
theorem putD_enc (l : List (Cell × β)) (c : Cell) (v : β) : putD (encT f l) (kC c) (f v) = encT f (putL l c v) := by
  unfold putD putL
  rw [any_enc]
  split
  · unfold encT
    rw [List.map_map, List.map_map]
    apply List.map_congr_left
    intro p _
    show (if kC p.1 = kC c then (kC p.1, f v) else (kC p.1, f p.2)) = (kC (if p.1 = c then (p.1, v) else p).1, f (if p.1 = c then (p.1, v) else p).2)
    by_cases h : p.1 = c
    · rw [if_pos h, if_pos (by rw [h])]
    · rw [if_neg h, if_neg fun z => h (kC_inj z)]
  · unfold encT
    rw [List.map_append]; rfl
theorem encT_length (l : List (Cell × β)) : (encT f l).length = l.length := by simp [encT]
theorem putL_length (l : List (Cell × β)) (c : Cell) (v : β) : (putL l c v).length ≤ l.length + 1 := by
  unfold putL
  split
  · simp
  · simp
end
theorem rowsC_length (cs : List Cell) (w : List Bool) : (rowsC cs w).length ≤ w.length := by
  unfold rowsC
  have : ∀ (ps : List (Cell × Bool)) (l : List (Cell × List Bool)), (ps.foldl (fun l p => rowPut l p.1 p.2) l).length ≤ l.length + ps.length := by
    intro ps
    induction ps with
    | nil => intro l; simp
    | cons p ps ih =>
      intro l
      rw [List.foldl_cons]
      have h1 := ih (rowPut l p.1 p.2)
      have h2 := putL_length l p.1 ((getL l p.1).getD [] ++ [p.2])
      have h3 : (rowPut l p.1 p.2).length ≤ l.length + 1 := h2
      rw [List.length_cons]; omega
  have h := this (cs.zip w) []
  rw [List.length_zip] at h
  simp only [List.length_nil, Nat.zero_add] at h
  omega
theorem rows_length (a : Ant) (w : List Bool) : (rows a w).length ≤ w.length := rowsC_length _ _
theorem walkC_length : ∀ (a : Ant) (w : List Bool), (walkC a w).length = w.length
  | _, [] => rfl
  | a, b :: w => by rw [walkC, List.length_cons, List.length_cons, walkC_length]

/-! ### specs -/
def sp_turned_way : DSp := fun ds M k _ => ∃ w b, ds = [.int w, .str (lS b)] ∧ k (.int (turnW w b)) M
def sp_gone_on : DSp := fun ds M k _ => ∃ (c : Cell) (w : Int), ds = [eC c, .int w] ∧ (0 ≤ w ∧ w ≤ 3) ∧ k (eA (goA c w)) M
def sp_is_word_in : DSp := fun ds M k _ => ∃ w : List Bool, ds = [.str (eW w)] ∧ w.length ≤ 2000 ∧ k (.bl true) M
def sp_sure_word : DSp := fun ds M k _ => ∃ w : List Bool, ds = [.str (eW w)] ∧ w.length ≤ 2000 ∧ k (.str (eW w)) M
def sp_walk_cells : DSp := fun ds M k _ => ∃ (d : D) (a : Ant) (w : List Bool), ds = [d, .str (eW w)] ∧ AntD d a ∧ WayOk a ∧ w.length ≤ 2000 ∧ ∀ p, M p = none → k (.obj p) (put M p (.lst ((walkC a w).map eC)))
def sp_fits_in : DSp := fun ds M k _ => ∃ (r t : List Bool), ds = [.str (eW r), .str (eW t)] ∧ RuleOk r ∧ t.length ≤ 2000 ∧ ∀ p, M p = none → k (.obj p) (put M p (.lst ((fits r t).map gD)))
def eT (t : List Bool) : D := .str (eW t)
def sp_turns_by_cell : DSp := fun ds M k _ => ∃ (d : D) (a : Ant) (w : List Bool), ds = [d, .str (eW w)] ∧ AntD d a ∧ WayOk a ∧ w.length ≤ 2000 ∧ ∀ p, M p = none → k (.obj p) (put M p (.dT (encT eT (rows a w))))
def sp_starts_in : DSp := fun ds M k _ => ∃ (r : List Bool) (d : D) (a : Ant) (w : List Bool), ds = [.str (eW r), d, .str (eW w)] ∧ RuleOk r ∧ AntD d a ∧ WayOk a ∧ w.length ≤ 2000 ∧ ∀ L : List (Cell × List Nat), L.Perm (startsL r a w) → ∀ p, M p = none → k (.obj p) (put M p (.lst (L.map eS)))
def sp_told_floor : DSp := fun ds M k _ => ∃ a, ∃ l : List (Cell × Int), ds = [.obj a] ∧ M a = some (.dT (encT D.int l)) ∧ l.length ≤ 1000000 ∧ (l.map (·.1)).Nodup ∧ ∀ L : List (Cell × Int), L.Perm (l.filter fun p => decide (p.2 ≠ 0)) → k (eF L) M
def sp_barred_in : DSp := fun ds M k _ => ∃ (r w : List Bool), ds = [.str (eW r), .str (eW w)] ∧ RuleOk r ∧ w.length ≤ 2000 ∧ k (optN (barred r w)) M
def floorK (r : List Bool) (a : Ant) (w : List Bool) (k : DK) (M : MH) : Prop := (noneFits r a w = true → k .non M) ∧ (noneFits r a w = false → ∀ L : List (Cell × Int), L.Perm ((firstL r a w).filter fun p => decide (p.2 ≠ 0)) → k (eF L) M)
def sp_floor_in : DSp := fun ds M k _ => ∃ (r : List Bool) (d : D) (a : Ant) (w : List Bool), ds = [.str (eW r), d, .str (eW w)] ∧ RuleOk r ∧ AntD d a ∧ WayOk a ∧ w.length ≤ 2000 ∧ floorK r a w k M
def sp_words_in : DSp := fun ds M k _ => ∃ r, ∃ n : Nat, ds = [.str (eW r), .int n] ∧ RuleOk r ∧ n ≤ 6 ∧ ∀ p, M p = none → k (.obj p) (put M p (.lst ((wordsK r n).map eT)))
def sp_starts : DSp := fun ds M k _ => ∃ (r : List Bool) (a : Ant) (w : List Bool), ds = [.str (eW r), eA a, .str (eW w)] ∧ RuleOk r ∧ AntOk a ∧ w.length ≤ 2000 ∧ ∀ L : List (Cell × List Nat), L.Perm (startsL r a w) → k (.tup (L.map eS)) M
def sp_floor_of : DSp := fun ds M k _ => ∃ (r : List Bool) (a : Ant) (w : List Bool), ds = [.str (eW r), eA a, .str (eW w)] ∧ RuleOk r ∧ AntOk a ∧ w.length ≤ 2000 ∧ noneFits r a w = false ∧ ∀ L : List (Cell × Int), L.Perm ((firstL r a w).filter fun p => decide (p.2 ≠ 0)) → k (eF L) M
def sp_how_many_floors : DSp := fun ds M k _ => ∃ (r : List Bool) (a : Ant) (w : List Bool), ds = [.str (eW r), eA a, .str (eW w)] ∧ RuleOk r ∧ AntOk a ∧ w.length ≤ 2000 ∧ k (.int (countF r a w : Nat)) M
def sp_barred_at : DSp := sp_barred_in
def sp_words_of : DSp := sp_words_in
def sp_how_many_words : DSp := fun ds M k _ => ∃ r, ∃ n : Nat, ds = [.str (eW r), .int n] ∧ RuleOk r ∧ n ≤ 6 ∧ k (.int ((wordsK r n).length : Nat)) M
def eTurns (r w : List Bool) : D := .tup [.str "turns", .str (eW r), .str (eW w)]
def v_SIZES : List (Str × D) := [("turns", .int 3)]
def sp_is_claim_of : DSp := fun ds M k _ => ∃ (r w : List Bool), ds = [eTurns r w] ∧ RuleOk r ∧ w.length ≤ 2000 ∧ k (.bl true) M
def sp_sure_claim : DSp := fun ds M k _ => ∃ (r w : List Bool), ds = [eTurns r w] ∧ RuleOk r ∧ w.length ≤ 2000 ∧ k (eTurns r w) M
def sp_reason_in : DSp := fun ds M k _ => ∃ (r w : List Bool), ds = [eTurns r w] ∧ RuleOk r ∧ w.length ≤ 2000 ∧ floorK r homeA w k M
def sp_paper_in : DSp := fun ds M k _ => ∃ (r w : List Bool), ds = [eTurns r w] ∧ RuleOk r ∧ w.length ≤ 2000 ∧ k (optN (barred r w)) M
def sp_claim_holds : DSp := fun ds M k _ => ∃ (r w : List Bool), ds = [eTurns r w] ∧ RuleOk r ∧ w.length ≤ 2000 ∧ k (.bl (!noneFits r homeA w)) M
def sp_claim_paper : DSp := fun ds M k _ => ∃ (r w : List Bool), ds = [eTurns r w] ∧ RuleOk r ∧ w.length ≤ 2000 ∧ k (if noneFits r homeA w then optN (barred r w) else .non) M

/-! ### the law's own -/
def TinV (x y z n : Int) : Prop := 0 ≤ x ∧ 0 ≤ y ∧ y < 4611686018427387904 ∧ 0 ≤ z ∧ z ≤ n
def tinL (x y z : Int) : MO := .lst [.int x, .int y, .int z]
def sp__law_box : DSp := fun ds M k _ => ∃ a i, ds = [.obj a, .int 0] ∧ M a = some (.lst [.int i]) ∧ ∀ p x y, M p = none → TinV x y 0 0 → k (.obj p) (put M p (tinL x y 0))
def sp__law_take : DSp := fun ds M k _ => ∃ t b x y z n, ds = [.obj t, .int b] ∧ M t = some (tinL x y z) ∧ TinV x y z n ∧ n ≤ 1000000 ∧ (1 ≤ b ∧ b ≤ 1000000) ∧ ∀ v x' y' z', 0 ≤ v → v < b → TinV x' y' z' (n + 1) → k (.int v) (put M t (tinL x' y' z'))
def sp__law_cells : DSp := fun ds M k _ => ∃ ns : List Int, ds = [.scl (ns.map D.int), .int 1] ∧ ns.length ≤ 63 ∧ ∀ p i, M p = none → k (.obj p) (put M p (.lst [.int i]))
def sp__law_of : DSp := fun ds M k _ => ∃ t g x y z n, ∃ gs : List D, ds = [.obj t, .obj g] ∧ M t = some (tinL x y z) ∧ M g = some (.lst gs) ∧ t ≠ g ∧ TinV x y z n ∧ n ≤ 1000000 ∧ 1 ≤ gs.length ∧ gs.length ≤ 1000 ∧
  ∀ d x' y' z', d ∈ gs → TinV x' y' z' (n + 1) → k d (put M t (tinL x' y' z'))
def SameD (M : MH) : Nat → D → D → Prop
  | 0, _, _ => False
  | n + 1, x, y => (∃ i, x = .int i ∧ y = .int i) ∨ (∃ s, x = .str s ∧ y = .str s) ∨ (∃ b, x = .bl b ∧ y = .bl b) ∨ (x = .non ∧ y = .non) ∨
    (∃ a b xs ys, x = .obj a ∧ y = .obj b ∧ M a = some (.lst xs) ∧ M b = some (.lst ys) ∧ xs.length = ys.length ∧ xs.length ≤ 1000000 ∧ ∀ p ∈ xs.zip ys, SameD M n p.1 p.2) ∨
    (∃ xs ys, tupOf x = some xs ∧ tupOf y = some ys ∧ xs.length = ys.length ∧ xs.length ≤ 1000000 ∧ ∀ p ∈ xs.zip ys, SameD M n p.1 p.2)
def sp_sameN (n : Nat) : DSp := fun ds M k _ => ∃ x y, ds = [x, y] ∧ SameD M n x y ∧ k (.bl true) M
def sp_same0 : Nat → DSp
  | 0 => fun _ _ _ _ => False
  | n + 1 => sp_sameN (n + 1)
def sp__law_same : DSp := sp_sameN 8
def sp__law_went : DSp := fun ds M k _ => ∃ (c : Cell) (w : Int), ds = [eC c, .int w] ∧ (0 ≤ w ∧ w ≤ 3) ∧ k (eA (goA c w)) M
def sp__law_turned : DSp := fun ds M k _ => ∃ w b, ds = [.int w, .str (lS b)] ∧ k (.int (turnW w b)) M
/-- a step over colours -/
def colAt (l : List (Cell × Int)) (c : Cell) : Int := (getL l c).getD 0
def rAtI (r : List Bool) (i : Int) : Bool := rAt r i.toNat
def stepL (r : List Bool) (l : List (Cell × Int)) (a : Ant) : List (Cell × Int) := putL l a.c ((colAt l a.c + 1) % (r.length : Int))
def stepA (r : List Bool) (l : List (Cell × Int)) (a : Ant) : Ant := stepB a (rAtI r (colAt l a.c))
/-- colours are colours -/
def ColsOk (r : List Bool) (l : List (Cell × Int)) : Prop := ∀ p ∈ l, 0 ≤ p.2 ∧ p.2 < (r.length : Int)
def sp__law_step : DSp := fun ds M k _ => ∃ r d, ∃ l : List (Cell × Int), ∃ a, ds = [.str (eW r), .obj d, eA a] ∧ RuleOk r ∧ WayOk a ∧ M d = some (.dT (encT D.int l)) ∧ ColsOk r l ∧ l.length ≤ 100000 ∧ k (eA (stepA r l a)) (put M d (.dT (encT D.int (stepL r l a))))
def liveL (r : List Bool) : Nat → List (Cell × Int) → Ant → List Bool
  | 0, _, _ => []
  | n + 1, l, a => rAtI r (colAt l a.c) :: liveL r n (stepL r l a) (stepA r l a)
def mergeL (f : List (Cell × Int)) : List (Cell × Int) := f.foldl (fun l p => putL l p.1 p.2) []
def sp__law_lived : DSp := fun ds M k _ => ∃ r, ∃ f : Floor, ∃ a, ∃ n : Nat, ds = [.str (eW r), .tup [eF f, eA a], .int n] ∧ RuleOk r ∧ WayOk a ∧ ColsOk r f ∧ f.length ≤ 5000 ∧ n ≤ 5000 ∧ ∀ x y, k (.tup [.str (eW (liveL r n (mergeL f) a)), x, y]) M
def sp__law_rule : DSp := fun ds M k _ => ∃ t x y z n long, ds = [.obj t, .int long] ∧ M t = some (tinL x y z) ∧ TinV x y z n ∧ n ≤ 100000 ∧ (2 ≤ long ∧ long ≤ 12) ∧ ∀ (r : List Bool) x' y' z', RuleOk r → (r.length : Int) ≤ long → TinV x' y' z' (n + 20) → k (.str (eW r)) (put M t (tinL x' y' z'))
def sp__law_walk : DSp := fun ds M k _ => ∃ (a : Ant) (w : List Bool), ds = [eA a, .str (eW w)] ∧ WayOk a ∧ w.length ≤ 2000 ∧ ∀ p, M p = none → k (.tup [.obj p, eA (endA a w)]) (put M p (.lst ((walkC a w).map eC)))
end DL
/-! Readings (printed by run.py) and their proofs. -/
namespace DL
open PySem PySem.Spec PyProof.Rows L2
def t_is_ant_in : DTS := dRet (dAndV (dCall sp_is_long (dCons (dVar 0) (dCons (dC (.int 3)) (dNil)))) (dAndV (dCall sp_is_cell_in (dCons (dSl (dVar 0) (dNoPart) (dPart (dC (.int 2)))) (dNil))) (dCall sp_is_within (dCons (dOp rdIx (dVar 0) (dC (.int 2))) (dCons (dC (.int 0)) (dCons (dC (.int 3)) (dNil)))))))

def t_sure_ant : DTS := dSeq (dAsg (dCall sp_tupled (dCons (dVar 0) (dNil))) (dgName 1)) (dSeq (dIfS (dNot (dTest (dCall sp_is_ant_in (dCons (dVar 1) (dNil))))) (dNever) (dNext)) (dRet (dVar 1)))

def t_turned_way : DTS := dRet (dIf (dTest (dOp rdEq (dVar 1) (dC (.str "l")))) (dOp rdMod (dOp rdAdd (dVar 0) (dC (.int 1))) (dC (.int 4))) (dOp rdMod (dOp rdAdd (dVar 0) (dC (.int 3))) (dC (.int 4))))

def t_gone_on : DTS := dRet (dTup (dCons (dOp rdAdd (dOp rdIx (dVar 0) (dC (.int 0))) (dOp rdIx (dOp rdIx (dC d_WAYS) (dVar 1)) (dC (.int 0)))) (dCons (dOp rdAdd (dOp rdIx (dVar 0) (dC (.int 1))) (dOp rdIx (dOp rdIx (dC d_WAYS) (dVar 1)) (dC (.int 1)))) (dCons (dVar 1) (dNil)))))

def t_is_word_in : DTS := dRet (dAndV (dCall sp_is_letters (dCons (dVar 0) (dNil))) (dOp rdLe (dCB rdLen (dCons (dVar 0) (dNil))) (dC (.int 2000))))

def t_sure_word : DTS := dSeq (dIfS (dNot (dTest (dCall sp_is_word_in (dCons (dVar 0) (dNil))))) (dNever) (dNext)) (dRet (dVar 0))

def t_walk_cells : DTS := dSeq (dPar 2 3 (dCons (dLst (dNil)) (dCons (dVar 0) (dNil)))) (dSeq (dFor (diS (dVar 1)) (dgName 4) (dSeq (dDrop (dAppend (dVar 2) (dSl (dVar 3) (dNoPart) (dPart (dC (.int 2)))))) (dAsg (dCall sp_gone_on (dCons (dSl (dVar 3) (dNoPart) (dPart (dC (.int 2)))) (dCons (dCall sp_turned_way (dCons (dOp rdIx (dVar 3) (dC (.int 2))) (dCons (dVar 4) (dNil)))) (dNil)))) (dgName 3)))) (dRet (dVar 2)))

theorem if_tf {c d : Bool} (h : c = d) {p q : Prop} (hq : if d = true then p else q) : if c = true then p else q := by rw [h]; exact hq
theorem lS_l (b : Bool) : decide (lS b = ("l" : Str)) = b := by cases b <;> decide
theorem lS_eq (a b : Bool) : decide (lS a = lS b) = (a == b) := by cases a <;> cases b <;> decide
section
variable {d : D} {a : Ant} {M : MH} {k : DK}
theorem sl_ant (h : AntD d a) (q : k (eC a.c) M) : rdSl d none (some 2) M k := by
  rcases h with rfl | rfl
  · exact q
  · exact ⟨fun z => absurd (show (2 : Nat) = 3 from z.2) (by decide), q⟩
theorem ix2_ant (h : AntD d a) (q : k (.int a.w) M) : rdIx d (.int 2) M k := by
  rcases h with rfl | rfl
  · exact ⟨_, _, rfl, rfl, q⟩
  · exact ⟨_, _, rfl, rfl, q⟩
end
theorem way4 {w : Int} (h : 0 ≤ w ∧ w ≤ 3) : w = 0 ∨ w = 1 ∨ w = 2 ∨ w = 3 := by omega
theorem turnW_ok {w : Int} {b : Bool} : 0 ≤ turnW w b ∧ turnW w b ≤ 3 := by
  unfold turnW; split <;> omega
theorem stepB_ok {a : Ant} {b : Bool} : WayOk (stepB a b) := turnW_ok
theorem endA_ok : ∀ {a : Ant} {w : List Bool}, WayOk a → WayOk (endA a w)
  | _, [], h => h
  | _, _ :: w, _ => endA_ok (w := w) stepB_ok
theorem pure_is_ant_in : ∀ ds M k e, sp_is_ant_in ds M k e → t_is_ant_in (endsOf k) (fill 1 ds) M := by
  rintro ds M k e ⟨a, rfl, ⟨h1, h2, h3⟩, h⟩
  refine ⟨_, _, 3, rfl, rfl, ?_⟩
  refine ⟨a.c, rfl, h1, ?_⟩
  refine ⟨_, _, rfl, rfl, ?_⟩
  refine ⟨a.w, 0, 3, rfl, ?_⟩
  rw [decide_eq_true h2, decide_eq_true h3]
  exact rt_of h
theorem len_is_ant_in : ∀ ds M k e, sp_is_ant_in ds M k e → ds.length = 1 := by rintro ds M k e ⟨x, rfl, _⟩; rfl
theorem retag_eA (a : Ant) : retag (eA a) = eA a := rfl
theorem pure_sure_ant : ∀ ds M k e, sp_sure_ant ds M k e → t_sure_ant (endsOf k) (fill 2 ds) M := by
  rintro ds M k e ⟨a, rfl, ha, h⟩
  refine ⟨_, rfl, rfl, ?_⟩
  refine ⟨_, rfl, ?_⟩
  refine ⟨a, rfl, ha, ?_⟩
  exact rt_of h
theorem len_sure_ant : ∀ ds M k e, sp_sure_ant ds M k e → ds.length = 1 := by rintro ds M k e ⟨x, rfl, _⟩; rfl
theorem pure_turned_way : ∀ ds M k e, sp_turned_way ds M k e → t_turned_way (endsOf k) (fill 2 ds) M := by
  rintro ds M k e ⟨w, b, rfl, h⟩
  refine if_tf (d := b) (by rw [xor_false']; exact lS_l b) ?_
  cases b
  · exact iteF ⟨by decide, rt_of h⟩
  · exact iteT ⟨by decide, rt_of h⟩
theorem len_turned_way : ∀ ds M k e, sp_turned_way ds M k e → ds.length = 2 := by rintro ds M k e ⟨w, b, rfl, _⟩; rfl
theorem pure_gone_on : ∀ ds M k e, sp_gone_on ds M k e → t_gone_on (endsOf k) (fill 2 ds) M := by
  rintro ds M k e ⟨c, w, rfl, hw, h⟩
  obtain rfl | rfl | rfl | rfl := way4 hw
  all_goals exact ⟨_, _, rfl, rfl, _, _, rfl, rfl, _, _, rfl, rfl, _, _, rfl, rfl, _, _, rfl, rfl, _, _, rfl, rfl, le_line (by show 3 ≤ 1000000; decide), rt_of h⟩
theorem len_gone_on : ∀ ds M k e, sp_gone_on ds M k e → ds.length = 2 := by rintro ds M k e ⟨w, b, rfl, _⟩; rfl
theorem pure_is_word_in : ∀ ds M k e, sp_is_word_in ds M k e → t_is_word_in (endsOf k) (fill 1 ds) M := by
  rintro ds M k e ⟨w, rfl, hl, h⟩
  refine ⟨w, rfl, by omega, ?_⟩
  refine ⟨by rw [eW_length]; exact le_line (by omega), ?_⟩
  rw [eW_length]
  show rtOf k (.bl (decide ((w.length : Int) ≤ 2000))) M
  rw [decide_eq_true (by omega : (w.length : Int) ≤ 2000)]
  exact rt_of h
theorem len_is_word_in : ∀ ds M k e, sp_is_word_in ds M k e → ds.length = 1 := by rintro ds M k e ⟨x, rfl, _⟩; rfl
theorem pure_sure_word : ∀ ds M k e, sp_sure_word ds M k e → t_sure_word (endsOf k) (fill 1 ds) M := by
  rintro ds M k e ⟨w, rfl, hl, h⟩
  exact ⟨w, rfl, hl, rt_of h⟩
theorem len_sure_word : ∀ ds M k e, sp_sure_word ds M k e → ds.length = 1 := by rintro ds M k e ⟨x, rfl, _⟩; rfl
/-! walk_cells -/
theorem walkC_snoc : ∀ (a : Ant) (w : List Bool) (b : Bool), walkC a (w ++ [b]) = walkC a w ++ [(endA a w).c]
  | _, [], _ => rfl
  | a, x :: w, b => by
    show a.c :: walkC (stepB a x) (w ++ [b]) = a.c :: (walkC (stepB a x) w ++ _)
    rw [walkC_snoc]; rfl
theorem endA_snoc : ∀ (a : Ant) (w : List Bool) (b : Bool), endA a (w ++ [b]) = stepB (endA a w) b
  | _, [], _ => rfl
  | a, x :: w, b => by
    show endA (stepB a x) (w ++ [b]) = _
    rw [endA_snoc]; rfl
theorem take_snoc {α : Type} {l : List α} {i : Nat} {x : α} (h : l[i]? = some x) : l.take (i + 1) = l.take i ++ [x] := by rw [List.take_add_one, h]; rfl
theorem sg_get {w : List Bool} {i : Nat} {d : D} (h : (sgD (eW w))[i]? = some d) : ∃ b, w[i]? = some b ∧ d = .str (lS b) := by
  rw [sgD_eW, List.getElem?_map] at h
  cases q : w[i]? with
  | none => rw [q] at h; cases h
  | some b => rw [q] at h; cases h; exact ⟨b, rfl, rfl⟩
theorem sgD_len (w : List Bool) : (sgD (eW w)).length = w.length := by rw [sgD_eW]; simp
theorem pure_walk_cells : ∀ ds M k e, sp_walk_cells ds M k e → t_walk_cells (endsOf k) (fill 5 ds) M := by
  rintro ds M k e ⟨d, a, w, rfl, hd, hw, hl, h⟩
  refine ⟨le_line (by show 0 ≤ 1000000; decide), fun p hp => ?_⟩
  refine ⟨fun i δ M' => ∃ dh x, AntD dh (endA a (w.take i)) ∧ δ = [some d, some (.str (eW w)), some (.obj p), some dh, x] ∧ M' = put M p (.lst ((walkC a (w.take i)).map eC)), ⟨d, none, by rw [List.take_zero]; exact hd, rfl, by rw [List.take_zero]; rfl⟩, ?_⟩
  rintro i δ M' hi ⟨dh, x, hdh, rfl, rfl⟩
  refine ⟨trivial, fun d' hd' => ?_, fun e => ?_⟩
  · obtain ⟨b, hb, rfl⟩ := sg_get hd'
    refine ⟨_, rfl, ?_⟩
    refine ⟨_, put_same, ?_⟩
    refine sl_ant hdh ?_
    refine ⟨_, put_same, lt_line (by rw [List.length_map, walkC_length, List.length_take]; omega), ?_⟩
    refine sl_ant hdh ?_
    refine ix2_ant hdh ?_
    refine ⟨_, b, rfl, ?_⟩
    refine ⟨_, _, rfl, turnW_ok, ?_⟩
    refine ⟨_, rfl, _, Sub.refl _, _, some (.str (lS b)), .inl rfl, ?_, ?_⟩
    · show [some d, some (.str (eW w)), some (.obj p), some (eA (stepB (endA a (w.take i)) b)), some (.str (lS b))] = _
      rw [take_snoc hb, endA_snoc]
    · rw [put_put, take_snoc hb, walkC_snoc, List.map_append]; rfl
  · have e : i = w.length := by rw [sgD_len] at e; exact e
    subst e
    rw [List.take_length]
    exact rt_of (h p hp)
theorem len_walk_cells : ∀ ds M k e, sp_walk_cells ds M k e → ds.length = 2 := by rintro ds M k e ⟨_, _, _, rfl, _⟩; rfl
end DL
/-! Readings (printed by run.py) and their proofs. -/
namespace DL
open PySem PySem.Spec PyProof.Rows L2
def t_fits_in : DTS := dSeq (dAsg (dCB rdLen (dCons (dVar 0) (dNil))) (dgName 2)) (dSeq (dAsg (dLstRg (dVar 2)) (dgName 3)) (dSeq (dFor (diES (dCons (dVar 1) (dNil))) (dgTup 2 (dgCons (dgName 4) (dgCons (dgName 5) dgNil))) (dAsg (dMade (dLc (diL (dVar 3)) (dgName 6) (dTest (dOp rdEq (dOp rdIx (dVar 0) (dOp rdMod (dOp rdAdd (dVar 6) (dVar 4)) (dVar 2))) (dVar 5))) (dVar 6) [6])) (dgName 3))) (dRet (dVar 3))))

/-! data: shapes -/
theorem lay_all {n : Nat} : ∀ {ps : List PyData}, (∀ p ∈ ps, p.canLay0 = true ∧ p.depth ≤ n) → PyData.canLayAll0 ps = true ∧ PyData.depthAll ps ≤ n
  | [], _ => ⟨by simp [PyData.canLayAll0], by simp [PyData.depthAll]⟩
  | p :: ps, h => by
    obtain ⟨h1, h2⟩ := h p List.mem_cons_self
    obtain ⟨h3, h4⟩ := lay_all (ps := ps) fun q hq => h q (List.mem_cons_of_mem _ hq)
    refine ⟨by simp [PyData.canLayAll0, h1, h3], ?_⟩
    simp only [PyData.depthAll]
    omega
theorem lay_int (i : Int) : (PyData.int i).canLay0 = true ∧ (PyData.int i).depth ≤ 0 := ⟨by simp [PyData.canLay0], by simp [PyData.depth]⟩
theorem lay_list {n : Nat} {ps : List PyData} (h : ∀ p ∈ ps, p.canLay0 = true ∧ p.depth ≤ n) : (PyData.list ps).canLay0 = true ∧ (PyData.list ps).depth ≤ n + 1 := by
  obtain ⟨h1, h2⟩ := lay_all h
  refine ⟨by simp only [PyData.canLay0]; exact h1, ?_⟩
  simp only [PyData.depth]; omega
theorem lay_tup {n : Nat} {ps : List PyData} (h : ∀ p ∈ ps, p.canLay0 = true ∧ p.depth ≤ n) : (PyData.tuple ps).canLay0 = true ∧ (PyData.tuple ps).depth ≤ n + 1 := by
  obtain ⟨h1, h2⟩ := lay_all h
  refine ⟨by simp only [PyData.canLay0]; exact h1, ?_⟩
  simp only [PyData.depth]; omega
theorem shaped_lay {p : PyData} {n : Nat} (h : p.canLay0 = true ∧ p.depth ≤ n) (hn : n ≤ 64) : SeqAt.shaped p = true := by
  unfold SeqAt.shaped
  rw [Bool.and_eq_true]
  exact ⟨h.1, decide_eq_true (by omega)⟩
theorem py_ints {M : MH} : ∀ gs : List Nat, PyL M (gs.map gD) (gs.map fun g => PyData.int (g : Nat))
  | [] => .nil
  | g :: gs => .cons (.int _) (py_ints gs)
theorem eqv_nil (ps : List PyData) : PyData.eqv (.list ps) (.list []) = ps.isEmpty := by
  cases ps <;> simp [PyData.eqv, PyData.eqvAll]
theorem eqvT_nil (ps : List PyData) : PyData.eqv (.tuple ps) (.tuple []) = ps.isEmpty := by
  cases ps <;> simp [PyData.eqv, PyData.eqvAll]
theorem isEmpty_map' {α β : Type} (f : α → β) (l : List α) : (l.map f).isEmpty = l.isEmpty := by cases l <;> rfl
/-! texts -/
theorem eW_append (a b : List Bool) : eW a ++ eW b = eW (a ++ b) := by
  show Str.mk ((eW a).cps ++ (eW b).cps) = eW (a ++ b)
  unfold eW
  rw [List.map_append]
  congr 1
  simp
theorem eW_nil : eW [] = ("" : Str) := by decide
theorem at_nat {α : Type} (xs : List α) {j : Nat} (h : j < xs.length) : atI xs (j : Int) = xs[j]? := by
  unfold atI ixN
  rw [if_pos (by omega), if_pos (by omega)]
  rfl
theorem rule_at (r : List Bool) {j : Nat} (h : j < r.length) : atI (eW r).cps.toList (j : Int) = some (if rAt r j then 108 else 114) := by
  rw [at_nat _ (by rw [eW_cps, List.length_map]; exact h), eW_cps, List.getElem?_map]
  unfold rAt
  rw [List.getElem?_eq_getElem h]
  simp [h]
/-! fits -/
theorem fitAll_snoc (r : List Bool) (g : Nat) (b : Bool) : ∀ (p : Nat) (t : List Bool), fitAll r g p (t ++ [b]) = (fitAll r g p t && (rAt r ((g + (p + t.length)) % r.length) == b))
  | p, [] => by simp [fitAll]
  | p, x :: t => by
    show ((rAt r ((g + p) % r.length) == x) && fitAll r g (p + 1) (t ++ [b])) = _
    rw [fitAll_snoc r g b (p + 1) t]
    have e : p + 1 + t.length = p + (t.length + 1) := by omega
    show _ = (((rAt r ((g + p) % r.length) == x) && fitAll r g (p + 1) t) && (rAt r ((g + (p + (t.length + 1))) % r.length) == b))
    rw [e, Bool.and_assoc]
theorem fits_snoc (r t : List Bool) (b : Bool) : fits r (t ++ [b]) = (fits r t).filter fun g => rAt r ((g + t.length) % r.length) == b := by
  unfold fits
  rw [List.filter_filter]
  apply List.filter_congr
  intro g _
  rw [fitAll_snoc, Nat.zero_add, Bool.and_comm]
theorem fits_nil (r : List Bool) : fits r [] = List.range r.length := by
  unfold fits
  rw [List.filter_eq_self]
  intro g _; rfl
theorem fits_lt {r t : List Bool} {g : Nat} (h : g ∈ fits r t) : g < r.length := List.mem_range.mp (List.mem_filter.mp h).1
theorem fits_le (r t : List Bool) : (fits r t).length ≤ r.length := by
  have h := List.length_filter_le (fun g => fitAll r g 0 t) (List.range r.length)
  rw [List.length_range] at h
  exact h
theorem en_sg {w : List Bool} {i : Nat} {d : D} (h : (enD (sgD (eW w)))[i]? = some d) : ∃ b, w[i]? = some b ∧ d = .tup [.int (i : Nat), .str (lS b)] := by
  have hl := (List.getElem?_eq_some_iff.mp h).1
  rw [enD_length] at hl
  have h1 : (sgD (eW w))[i]? = some (sgD (eW w))[i] := List.getElem?_eq_getElem hl
  obtain ⟨b, hb, e⟩ := sg_get h1
  rw [enD_get (h1.trans (by rw [e]))] at h
  cases h
  exact ⟨b, hb, rfl⟩
theorem en_get {ds : List D} {i : Nat} {d : D} (h : (enD ds)[i]? = some d) : ∃ x, ds[i]? = some x ∧ d = .tup [.int (i : Nat), x] := by
  have hl := (List.getElem?_eq_some_iff.mp h).1
  rw [enD_length] at hl
  have h1 : ds[i]? = some ds[i] := List.getElem?_eq_getElem hl
  rw [enD_get h1] at h
  cases h
  exact ⟨_, h1, rfl⟩
def pfD (r : List Bool) (i : Nat) (b : Bool) : D → Bool
  | .int g => rAt r ((g.toNat + i) % r.length) == b
  | _ => false
theorem pure_fits_in : ∀ ds M k e, sp_fits_in ds M k e → t_fits_in (endsOf k) (fill 7 ds) M := by
  rintro ds M k e ⟨r, t, rfl, hr, hl, h⟩
  have hlen : (eW r).length = r.length := eW_length r
  have hr1 := hr.1
  have hr2 := hr.2
  refine ⟨by rw [hlen]; exact le_line (by omega), ?_⟩
  refine ⟨_, rfl, ?_⟩
  refine ⟨⟨by rw [hlen]; omega, by rw [hlen]; omega⟩, fun p hp => ?_⟩
  refine ⟨_, rfl, ?_⟩
  refine ⟨fun i δ M' => ∃ p x4 x5, M p = none ∧ δ = [some (.str (eW r)), some (.str (eW t)), some (.int ((eW r).length : Nat)), some (.obj p), x4, x5, none] ∧ M' = put M p (.lst ((fits r (t.take i)).map gD)),
    ⟨p, none, none, hp, rfl, ?_⟩, ?_⟩
  · rw [List.take_zero, fits_nil, hlen]
    unfold rgD gD
    simp
  rintro i δ M' hi ⟨p, x4, x5, hp, rfl, rfl⟩
  rw [enD_length, sgD_len] at hi
  refine ⟨trivial, fun d hd => ?_, fun e => ?_⟩
  · obtain ⟨b, hb, rfl⟩ := en_sg hd
    refine ⟨_, rfl, ?_⟩
    refine ⟨_, lstOf_obj put_same, ?_⟩
    refine lc_pure (fun d => d) (pfD r i b) (lstOf_obj put_same) (by rw [List.length_map]; have := fits_le r (t.take i); omega) (fun d hd => ?_) ?_
    · obtain ⟨g, hg, rfl⟩ := List.mem_map.mp hd
      refine ⟨_, rfl, fun kb hb => ?_, fun _ kk hk => hk⟩
      have hm : (((g : Nat) : Int) + ((i : Nat) : Int)) % (((eW r).length : Nat) : Int) = (((g + i) % r.length : Nat) : Int) := by
        rw [hlen, Int.natCast_emod, Int.natCast_add]
      refine ⟨by rw [hlen]; omega, ?_⟩
      refine ⟨by rw [hlen]; exact le_line (by omega), _, (by rw [hm]; exact rule_at r (Nat.mod_lt _ (by omega))), ?_⟩
      show kb (xor false (decide (lS (rAt r ((g + i) % r.length)) = lS b))) _
      rw [xor_false', lS_eq]
      exact hb
    · refine fun q hq => ⟨_, rfl, put M q (.lst ((fits r (t.take (i + 1))).map gD)), ?_, q, some (.int (i : Nat)), some (.str (lS b)), (sub_new hp).free hq, rfl, rfl⟩
      have e : ((List.map gD (fits r (t.take i))).filter (pfD r i b)).map (fun d => d) = (fits r (t.take (i + 1))).map gD := by
        rw [List.map_id', take_snoc hb, fits_snoc, List.filter_map, List.length_take, Nat.min_eq_left hi]
        rfl
      rw [e]
      exact Sub.put (sub_new hp)
  · rw [enD_length, sgD_len] at e
    subst e
    rw [List.take_length]
    exact rt_of (h p hp)
theorem len_fits_in : ∀ ds M k e, sp_fits_in ds M k e → ds.length = 2 := by rintro ds M k e ⟨_, _, rfl, _⟩; rfl
/-! rows -/
theorem zip_snoc {α β : Type} {as : List α} {bs : List β} (h : as.length = bs.length) (a : α) (b : β) : (as ++ [a]).zip (bs ++ [b]) = as.zip bs ++ [(a, b)] := by
  rw [List.zip_append h]; rfl
theorem rowsC_snoc {cs : List Cell} {w : List Bool} (h : cs.length = w.length) (c : Cell) (b : Bool) : rowsC (cs ++ [c]) (w ++ [b]) = rowPut (rowsC cs w) c b := by
  unfold rowsC
  rw [zip_snoc h, List.foldl_append]; rfl
theorem rows_snoc (a : Ant) (w : List Bool) (b : Bool) : rows a (w ++ [b]) = rowPut (rows a w) (endA a w).c b := by
  unfold rows
  rw [walkC_snoc, rowsC_snoc (walkC_length a w)]
theorem walkC_take : ∀ (a : Ant) (w : List Bool) (i : Nat), (walkC a w).take i = walkC a (w.take i)
  | _, _, 0 => by rw [List.take_zero, List.take_zero]; rfl
  | _, [], _ + 1 => rfl
  | a, b :: w, i + 1 => by
    show a.c :: (walkC (stepB a b) w).take i = a.c :: walkC (stepB a b) (w.take i)
    rw [walkC_take]
theorem walkC_get {a : Ant} {w : List Bool} {i : Nat} {b : Bool} (h : w[i]? = some b) : (walkC a w)[i]? = some (endA a (w.take i)).c := by
  have hi := (List.getElem?_eq_some_iff.mp h).1
  have e : (walkC a w).take (i + 1) = walkC a (w.take i) ++ [(endA a (w.take i)).c] := by rw [walkC_take, take_snoc h, walkC_snoc]
  have e2 : ((walkC a w).take (i + 1))[i]? = (walkC a w)[i]? := by rw [List.getElem?_take_of_lt (Nat.lt_succ_self i)]
  rw [← e2, e, List.getElem?_append_right (by rw [walkC_length, List.length_take]; omega), walkC_length, List.length_take, Nat.min_eq_left (by omega), Nat.sub_self]
  rfl
section
variable {β : Type} {f : β → D} {M : MH} {p : Addr} {l : List (Cell × β)} {c : Cell}
theorem getD_enc (h : M p = some (.dT (encT f l))) : getD? M p (eC c) = some ((getL l c).map f) := by
  rw [getD_at h]
  show (tupKey (eC c)).map (valD (encT f l)) = _
  rw [kC_eC, Option.map_some, valD_enc]
theorem putMO_enc {v : D} {y : β} (hv : v = f y) (h : l.length ≤ 1000000) : putMO (eC c) v (.dT (encT f l)) = some (.dT (encT f (putL l c y))) := by
  subst hv
  show ((tupKey (eC c)).bind fun k => if (encT f l).length < sizeLine then some (MO.dT (putD (encT f l) k (f y))) else none) = _
  rw [kC_eC]
  show (if (encT f l).length < sizeLine then some (MO.dT (putD (encT f l) (kC c) (f y))) else none) = _
  rw [if_pos (by rw [encT_length]; exact lt_line h), putD_enc]
theorem getL_putL_self (l : List (Cell × β)) (c : Cell) (v : β) : getL (putL l c v) c = some v := by
  unfold putL
  split
  · rename_i h
    unfold getL
    induction l with
    | nil => cases h
    | cons p l ih =>
      rw [List.map_cons, List.find?_cons]
      by_cases hp : p.1 = c
      · simp [hp]
      · simp only [hp, if_false, decide_false]
        refine ih ?_
        rw [List.any_cons] at h
        simpa [hp] using h
  · rename_i h
    unfold getL
    rw [List.find?_append]
    have e : (l.find? fun p => decide (p.1 = c)) = none := by
      rw [List.find?_eq_none]
      intro x hx hc
      exact h (List.any_eq_true.mpr ⟨x, hx, hc⟩)
    rw [e]
    simp
theorem getL_putL_ne {c' : Cell} (l : List (Cell × β)) (v : β) (hc : c' ≠ c) : getL (putL l c v) c' = getL l c' := by
  unfold putL
  split
  · rename_i h
    unfold getL
    clear h
    induction l with
    | nil => rfl
    | cons p l ih =>
      rw [List.map_cons, List.find?_cons, List.find?_cons]
      by_cases hp : p.1 = c
      · have : p.1 ≠ c' := fun z => hc (z.symm.trans hp)
        simp only [hp, if_true, Ne.symm hc, decide_false]
        exact ih
      · simp only [hp, if_false]
        by_cases hp' : p.1 = c'
        · simp [hp']
        · simp only [hp', decide_false]
          exact ih
  · unfold getL
    rw [List.find?_append]
    cases q : l.find? fun p => decide (p.1 = c') with
    | some x => simp
    | none => simp [Ne.symm hc]
end
theorem put3 {M : MH} {p q : Addr} {a b c : MO} (h : p ≠ q) : put (put (put M p a) q b) p c = put (put M p c) q b := by
  rw [put_comm (Ne.symm h), put_put]
theorem eT_getD (o : Option (List Bool)) : (o.map eT).getD (.str "") = eT (o.getD []) := by
  cases o with
  | none => show D.str "" = .str (eW []); rw [eW_nil]
  | some t => rfl
theorem snoc_ind {α : Type} {P : List α → Prop} (h0 : P []) (h1 : ∀ l a, P l → P (l ++ [a])) (l : List α) : P l := by
  have : ∀ l : List α, P l.reverse := by
    intro l
    induction l with
    | nil => exact h0
    | cons a l ih => rw [List.reverse_cons]; exact h1 _ _ ih
  rw [← List.reverse_reverse l]
  exact this _
theorem row_len (a : Ant) (w : List Bool) : ∀ c, ((getL (rows a w) c).getD []).length ≤ w.length := by
  refine snoc_ind (P := fun w => ∀ c, ((getL (rows a w) c).getD []).length ≤ w.length) (fun c => Nat.le_refl _) (fun w b ih c => ?_) w
  rw [rows_snoc]
  unfold rowPut
  by_cases hc : c = (endA a w).c
  · subst hc
    rw [getL_putL_self]
    have := ih (endA a w).c
    simp
    exact this
  · rw [getL_putL_ne _ _ hc]
    have := ih c
    simp
    omega
end DL
/-! Readings (printed by run.py) and their proofs. -/
namespace DL
open PySem PySem.Spec PyProof.Rows L2
def t_turns_by_cell : DTS := dSeq (dAsg (dNewT) (dgName 2)) (dSeq (dFor (diZS (dCons (dCall sp_walk_cells (dCons (dVar 0) (dCons (dVar 1) (dNil)))) (dCons (dVar 1) (dNil)))) (dgTup 2 (dgCons (dgName 3) (dgCons (dgName 4) dgNil))) (dPutI (dVar 2) (dVar 3) (dOp rdAdd (dGet2 (dVar 2) (dVar 3) (dC (.str ""))) (dVar 4)))) (dRet (dVar 2)))

def t_told_floor : DTS := dRet (dCB rdTuple (dSorted (dLockL (dLc (diK (dVar 0)) (dgName 1) (dTest (dOp rdNe (dGetI (dVar 0) (dVar 1)) (dC (.int 0)))) (dTup (dCons (dVar 1) (dCons (dGetI (dVar 0) (dVar 1)) (dNil)))) [1]))))

def t_starts_in : DTS := dSeq (dAsg (dCall sp_turns_by_cell (dCons (dVar 1) (dCons (dVar 2) (dNil)))) (dgName 3)) (dRet (dMade (dLc (diM (dSortedD (dVar 3))) (dgName 4) (dYes) (dTup (dCons (dVar 4) (dCons (dCB rdTupleO (dCons (dCall sp_fits_in (dCons (dVar 0) (dCons (dGetI (dVar 3) (dVar 4)) (dNil)))) (dNil))) (dNil)))) [4])))

/-- a comprehension whose turns make things on the side -/
theorem lc_sub {ds : List D} {ok : MH → Prop} {M : MH} {δ : DSt} {gd : DTg} {tt : DTT} {te : DTE} {vs : List Nat} {k : List D → MH → Prop} (f : D → D) (p : D → Bool) (hok : ok M) (hl : ds.length ≤ 1000000)
    (h : ∀ d ∈ ds, ∃ δ2, gd d (wipeD δ vs) = some δ2 ∧ (∀ kb : Bool → MH → Prop, (∀ M6, Sub M M6 → kb (p d) M6) → tt δ2 M kb) ∧ (p d = true → ∀ M3, Sub M M3 → ∀ kk : DK, (∀ M6, Sub M M6 → kk (f d) M6) → te δ2 M3 kk)) (hk : k ((ds.filter p).map f) M) :
    ∃ Iv : Nat → List D → MH → Prop, Iv 0 [] M ∧ ∀ i acc M, i ≤ ds.length → acc.length ≤ i → Iv i acc M → ok M ∧
      (∀ d, ds[i]? = some d → ∃ δ2, gd d (wipeD δ vs) = some δ2 ∧ tt δ2 M fun b M3 => if b = true then te δ2 M3 fun y M4 => acc.length < sizeLine ∧ ∃ M5, Sub M5 M4 ∧ Iv (i + 1) (acc ++ [y]) M5 else ∃ M5, Sub M5 M3 ∧ Iv (i + 1) acc M5) ∧
      (i = ds.length → k acc M) := by
  refine ⟨fun i acc M' => acc = ((ds.take i).filter p).map f ∧ M' = M, ⟨by simp, rfl⟩, ?_⟩
  rintro i acc M' hi ha ⟨rfl, rfl⟩
  refine ⟨hok, fun d hd => ?_, fun e => ?_⟩
  · obtain ⟨δ2, e, h1, h2⟩ := h d (List.mem_of_getElem? hd)
    have ht : ds.take (i + 1) = ds.take i ++ [d] := by rw [List.take_add_one, hd]; rfl
    refine ⟨δ2, e, h1 _ fun M3 s3 => ?_⟩
    by_cases hp : p d = true
    · rw [if_pos hp]
      refine h2 hp M3 s3 _ fun M6 s6 => ⟨lt_line (by have := List.length_filter_le p (ds.take i); simp at ha ⊢; omega), M', s6, ?_, rfl⟩
      rw [ht, List.filter_append, List.map_append]
      simp [hp]
    · rw [if_neg hp]
      refine ⟨M', s3, ?_, rfl⟩
      rw [ht, List.filter_append, List.map_append]
      simp [hp]
  · subst e
    rw [List.take_length]
    exact hk
section
variable {β : Type}
theorem getL_mem : ∀ {l : List (Cell × β)} {c : Cell} {v : β}, (l.map (·.1)).Nodup → (c, v) ∈ l → getL l c = some v
  | [], _, _, _, h => by cases h
  | p :: l, c, v, hn, h => by
    rw [List.map_cons, List.nodup_cons] at hn
    unfold getL
    rw [List.find?_cons]
    rcases List.mem_cons.mp h with e | h
    · subst e; simp
    · have ne : p.1 ≠ c := fun z => hn.1 (by rw [z]; exact List.mem_map.mpr ⟨(c, v), h, rfl⟩)
      simp only [ne, decide_false]
      exact getL_mem hn.2 h
theorem putL_keys (l : List (Cell × β)) (c : Cell) (v : β) : (putL l c v).map (·.1) = if (l.any fun p => decide (p.1 = c)) = true then l.map (·.1) else l.map (·.1) ++ [c] := by
  unfold putL
  split
  · rw [List.map_map]
    apply List.map_congr_left
    intro p _
    show (if p.1 = c then (p.1, v) else p).1 = p.1
    split <;> rfl
  · rw [List.map_append]; rfl
theorem putL_nodup {l : List (Cell × β)} {c : Cell} {v : β} (h : (l.map (·.1)).Nodup) : ((putL l c v).map (·.1)).Nodup := by
  rw [putL_keys]
  split
  · exact h
  · rename_i hn
    rw [List.nodup_append]
    refine ⟨h, by simp, fun x hx y hy e => ?_⟩
    rw [List.mem_singleton.mp hy] at e
    subst e
    obtain ⟨p, hp, e⟩ := List.mem_map.mp hx
    exact hn (List.any_eq_true.mpr ⟨p, hp, decide_eq_true e⟩)
end
theorem rows_nodup (a : Ant) (w : List Bool) : ((rows a w).map (·.1)).Nodup := by
  refine snoc_ind (P := fun w => ((rows a w).map (·.1)).Nodup) List.nodup_nil (fun w b ih => ?_) w
  rw [rows_snoc]
  exact putL_nodup ih
theorem pure_turns_by_cell : ∀ ds M k e, sp_turns_by_cell ds M k e → t_turns_by_cell (endsOf k) (fill 5 ds) M := by
  rintro ds M k e ⟨d, a, w, rfl, hd, hw, hl, h⟩
  refine fun p hp => ⟨_, rfl, ?_⟩
  refine ⟨d, a, w, rfl, hd, hw, hl, fun q hq => ?_⟩
  have hpq : p ≠ q := ne_of_free put_same hq
  refine ⟨_, lstOf_obj put_same, ?_⟩
  have hzl : (zpD ((walkC a w).map eC) (sgD (eW w))).length = w.length := by unfold zpD; rw [List.length_zipWith, List.length_map, walkC_length, sgD_len, Nat.min_self]
  refine ⟨fun i δ M' => ∃ x3 x4, δ = [some d, some (.str (eW w)), some (.obj p), x3, x4] ∧ M' = put (put M p (.dT (encT eT (rows a (w.take i))))) q (.lst ((walkC a w).map eC)), ⟨none, none, rfl, rfl⟩, ?_⟩
  rintro i δ M' hi ⟨x3, x4, rfl, rfl⟩
  rw [hzl] at hi
  refine ⟨lstOf_obj put_same, fun d' hd' => ?_, fun e => ?_⟩
  · have hlt : i < w.length := by
      have := (List.getElem?_eq_some_iff.mp hd').1
      omega
    obtain ⟨b, hb⟩ : ∃ b, w[i]? = some b := ⟨w[i], List.getElem?_eq_getElem hlt⟩
    have hc := walkC_get (a := a) hb
    have e' : d' = .tup [eC (endA a (w.take i)).c, .str (lS b)] := by
      unfold zpD at hd'
      rw [List.getElem?_zipWith, List.getElem?_map, hc, sgD_eW, List.getElem?_map, hb] at hd'
      cases hd'
      rfl
    subst e'
    refine ⟨_, rfl, ?_⟩
    have hM : put (put M p (.dT (encT eT (rows a (w.take i))))) q (.lst ((walkC a w).map eC)) p = some (.dT (encT eT (rows a (w.take i)))) := by rw [put_ne hpq]; exact put_same
    have hrl := row_len a (w.take i) (endA a (w.take i)).c
    have hrl2 : (w.take i).length ≤ 2000 := by rw [List.length_take]; omega
    refine ⟨⟨_, hM, trivial⟩, _, getD_enc hM, ?_⟩
    rw [eT_getD]
    refine ⟨by rw [eW_length]; show _ + (lS b).length ≤ _; rw [show (lS b).length = 1 from rfl]; exact le_line (by omega), ?_⟩
    refine ⟨_, _, hM, putMO_enc (y := (getL (rows a (w.take i)) (endA a (w.take i)).c).getD [] ++ [b]) (congrArg D.str (eW_append _ [b])) (by have := rows_length a (w.take i); omega), ?_⟩
    refine ⟨_, Sub.refl _, some (eC (endA a (w.take i)).c), some (.str (lS b)), rfl, ?_⟩
    rw [put3 hpq, take_snoc hb, rows_snoc]
    rfl
  · rw [hzl] at e
    subst e
    rw [List.take_length]
    exact rt_put (by rw [put_ne (Ne.symm hpq)] at hq ⊢; exact hq) (h p hp)
theorem len_turns_by_cell : ∀ ds M k e, sp_turns_by_cell ds M k e → ds.length = 2 := by rintro ds M k e ⟨_, _, _, rfl, _⟩; rfl
/-! told_floor -/
def cD : D → Cell
  | .tup [.int x, .int y] => (x, y)
  | _ => (0, 0)
def prPd (p : Cell × Int) : PyData := .tuple [.tuple [.int p.1.1, .int p.1.2], .int p.2]
theorem pr_alike (xs : List (Cell × Int)) : PySem.W.AllAlike (xs.map prPd) ∧ PySem.W.Sortable (xs.map prPd) ∧ ∀ x ∈ xs, (prPd x).depth ≤ 50 := by
  refine ⟨PySem.W.AllAlike.of fun _ _ => by simp [prPd, PySem.W.alike, PySem.W.alikeAll], PySem.W.Sortable.tuples fun _ => ⟨_, _, rfl⟩, fun x _ => ?_⟩
  simp [prPd, PyData.depth, PyData.depthAll]
theorem py_pr (M : MH) (p : Cell × Int) : Py M (ePr p) (prPd p) := .tup (.cons (.tup (.cons (.int _) (.cons (.int _) .nil))) (.cons (.int _) .nil))
theorem pure_told_floor : ∀ ds M k e, sp_told_floor ds M k e → t_told_floor (endsOf k) (fill 2 ds) M := by
  rintro ds M k e ⟨a, l, rfl, hM, hl, hn, h⟩
  refine ⟨a, encT D.int l, hM, fun o ks => ?_⟩
  refine ⟨o, ks, _, put_same, ?_⟩
  have hit : ktD (encT D.int l) = l.map fun q => eC q.1 := by
    unfold ktD encT
    rw [List.map_map]
    rfl
  rw [hit]
  refine lc_pure (fun d => .tup [d, .int ((getL l (cD d)).getD 0)]) (fun d => decide ((getL l (cD d)).getD 0 ≠ 0)) put_same (by rw [List.length_map]; exact hl) (fun d hd => ?_) ?_
  · obtain ⟨⟨c, v⟩, hc, rfl⟩ := List.mem_map.mp hd
    have hg : getL l c = some v := getL_mem hn hc
    have hv : getD? (put M a (.rT o ks (encT D.int l))) a (eC c) = some (some (.int v)) := by
      rw [getD_at put_same]
      show (tupKey (eC c)).map (valD (encT D.int l)) = _
      rw [kC_eC, Option.map_some, valD_enc, hg]; rfl
    have hcd : cD (eC c) = c := rfl
    refine ⟨_, rfl, fun kb hb => ?_, fun _ kk hk => ?_⟩
    · refine ⟨_, hv, ?_⟩
      show kb (xor true (decide (v = 0))) _
      have e : xor true (decide (v = 0)) = decide ((getL l (cD (eC c))).getD 0 ≠ 0) := by
        rw [hcd, hg, xor_true']
        simp
      rw [e]; exact hb
    · refine ⟨_, hv, le_line (by show 2 ≤ 1000000; decide), ?_⟩
      have hk : kk (.tup [eC c, .int ((getL l (cD (eC c))).getD 0)]) _ := hk
      rw [hcd, hg] at hk
      exact hk
  · refine ⟨put_same, ?_⟩
    rw [put_put, put_eta hM]
    obtain ⟨s1, s2, s3⟩ := pr_alike (l.filter fun p => decide (p.2 ≠ 0))
    refine ⟨Cell × Int, l.filter fun p => decide (p.2 ≠ 0), ePr, prPd, ?_, ⟨fun x _ => py_pr M x, s1, s2, s3⟩, Or.inr (rt_of ?_)⟩
    · rw [List.filter_map, List.map_map]
      have e1 : l.filter ((fun d => decide ((getL l (cD d)).getD 0 ≠ 0)) ∘ fun q : Cell × Int => eC q.1) = l.filter fun p => decide (p.2 ≠ 0) := by
        apply List.filter_congr
        rintro ⟨c, v⟩ hc
        show decide ((getL l c).getD 0 ≠ 0) = decide (v ≠ 0)
        rw [getL_mem hn hc]; rfl
      rw [e1]
      apply List.map_congr_left
      rintro ⟨c, v⟩ hc
      show D.tup [eC c, .int ((getL l c).getD 0)] = ePr (c, v)
      rw [getL_mem hn (List.mem_filter.mp hc).1]; rfl
    · exact h _ (List.mergeSort_perm _ _)
theorem len_told_floor : ∀ ds M k e, sp_told_floor ds M k e → ds.length = 1 := by rintro ds M k e ⟨_, _, rfl, _⟩; rfl
/-! starts_in -/
def kc : List Key → Cell
  | [.inl x, .inl y] => (x, y)
  | _ => (0, 0)
theorem pure_starts_in : ∀ ds M k e, sp_starts_in ds M k e → t_starts_in (endsOf k) (fill 5 ds) M := by
  rintro ds M k e ⟨r, d, a, w, rfl, hr, hd, hw, hl, h⟩
  refine ⟨d, a, w, rfl, hd, hw, hl, fun p hp => ?_⟩
  refine ⟨_, rfl, ?_⟩
  have hk : (encT eT (rows a w)).map (·.1) = (rows a w).map fun q => kC q.1 := by unfold encT; rw [List.map_map]; rfl
  refine ⟨_, put_same, ?_, ?_, ?_, ?_⟩
  · rw [hk, List.map_map]
    exact PySem.W.AllAlike.of (enc := keyPd ∘ fun q : Cell × List Bool => kC q.1) fun _ _ => by simp [keyPd, kC, PySem.W.alike, PySem.W.alikeAll]
  · rw [hk, List.map_map]
    exact PySem.W.Sortable.tuples (enc := keyPd ∘ fun q : Cell × List Bool => kC q.1) fun _ => ⟨_, _, rfl⟩
  · intro x hx
    rw [hk] at hx
    obtain ⟨q, _, rfl⟩ := List.mem_map.mp hx
    simp [keyPd, kC, PyData.depth, PyData.depthAll]
  generalize hks : ((encT eT (rows a w)).map (·.1)).mergeSort (PySem.W.dataLe false keyPd) = ks
  have hp' : ks.Perm ((rows a w).map fun q => kC q.1) := by rw [← hks, ← hk]; exact List.mergeSort_perm _ _
  have hkl : ks.length ≤ 2000 := by rw [hp'.length_eq, List.length_map]; have := rows_length a w; omega
  refine lc_sub (fun d => .tup [d, .tup ((fits r ((getL (rows a w) (cD d)).getD [])).map gD)]) (fun _ => true) trivial (by rw [List.length_map]; omega) (fun d hd => ?_) ?_
  · obtain ⟨x, hx, rfl⟩ := List.mem_map.mp hd
    obtain ⟨⟨c, t⟩, hc, rfl⟩ := List.mem_map.mp (hp'.mem_iff.mp hx)
    refine ⟨_, rfl, fun kb hb => hb _ (Sub.refl _), fun _ M3 s3 kk hk => ?_⟩
    have hg : getL (rows a w) c = some t := getL_mem (rows_nodup a w) hc
    have hM : M3 p = some (.dT (encT eT (rows a w))) := s3 _ _ put_same
    have hrl := row_len a w c
    rw [hg] at hrl
    have hrl : t.length ≤ w.length := hrl
    refine ⟨_, (by show getD? M3 p (eC c) = some (some (eT t)); rw [getD_enc hM, hg]; rfl), ?_⟩
    refine ⟨r, t, rfl, hr, by omega, fun q hq => ?_⟩
    refine ⟨_, lstOf_obj put_same, Or.inl ?_⟩
    refine ⟨le_line (by show 2 ≤ 1000000; decide), ?_⟩
    have e : (fun d => D.tup [d, .tup ((fits r ((getL (rows a w) (cD d)).getD [])).map gD)]) (eC c) = .tup [eC c, .tup ((fits r t).map gD)] := by
      show D.tup [eC c, .tup ((fits r ((getL (rows a w) c).getD [])).map gD)] = _
      rw [hg]; rfl
    have hk := hk (put M3 q (.lst ((fits r t).map gD))) (s3.trans (sub_new hq))
    have hk : kk ((fun d => D.tup [d, .tup ((fits r ((getL (rows a w) (cD d)).getD [])).map gD)]) (eC c)) _ := hk
    rw [e] at hk
    exact hk
  · intro q hq
    refine ⟨put M q (.lst ((ks.map fun x => (kc x, fits r ((getL (rows a w) (kc x)).getD []))).map eS)), ?_, h _ ?_ q ((sub_new hp).free hq)⟩
    · have e : ((ks.map fun x => D.tup (x.map kD)).filter fun _ => true).map (fun d => .tup [d, .tup ((fits r ((getL (rows a w) (cD d)).getD [])).map gD)]) = (ks.map fun x => (kc x, fits r ((getL (rows a w) (kc x)).getD []))).map eS := by
        rw [List.filter_eq_self.mpr fun _ _ => rfl, List.map_map, List.map_map]
        apply List.map_congr_left
        intro x hx
        obtain ⟨⟨c, t⟩, hc, rfl⟩ := List.mem_map.mp (hp'.mem_iff.mp hx)
        rfl
      rw [e]
      exact Sub.put (sub_new hp)
    · refine (hp'.map _).trans ?_
      rw [List.map_map]
      unfold startsL
      rw [List.map_congr_left (g := fun p => (p.1, fits r p.2))]
      rintro ⟨c, t⟩ hc
      show (c, fits r ((getL (rows a w) c).getD [])) = (c, fits r t)
      rw [getL_mem (rows_nodup a w) hc]; rfl
theorem len_starts_in : ∀ ds M k e, sp_starts_in ds M k e → ds.length = 3 := by rintro ds M k e ⟨_, _, _, _, rfl, _⟩; rfl
end DL
/-! Readings (printed by run.py) and their proofs. -/
namespace DL
open PySem PySem.Spec PyProof.Rows L2
def t_floor_in : DTS := dSeq (dAsg (dCall sp_starts_in (dCons (dVar 0) (dCons (dVar 1) (dCons (dVar 2) (dNil))))) (dgName 3)) (dSeq (dIfS (dTest (dCB rdAny (dLc (diL (dVar 3)) (dgTup 2 (dgCons (dgName 4) (dgCons (dgName 5) dgNil))) (dYes) (dOp rdEq (dVar 5) (dTup (dNil))) [4, 5]))) (dRet (dC .non)) (dNext)) (dRet (dCall sp_told_floor (dCons (dCB rdDictLT (dLc (diL (dVar 3)) (dgTup 2 (dgCons (dgName 4) (dgCons (dgName 5) dgNil))) (dYes) (dTup (dCons (dVar 4) (dCons (dOp rdIx (dVar 5) (dC (.int 0))) (dNil)))) [4, 5])) (dNil)))))

def t_barred_in : DTS := dSeq (dAsg (dNewT) (dgName 2)) (dSeq (dFor (diE (dCons (dCall sp_walk_cells (dCons (dC d_HOME) (dCons (dVar 1) (dNil)))) (dNil))) (dgTup 2 (dgCons (dgName 3) (dgCons (dgName 4) dgNil))) (dSeq (dPutI (dVar 2) (dVar 4) (dOp rdAdd (dGet2 (dVar 2) (dVar 4) (dC (.str ""))) (dOp rdIx (dVar 1) (dVar 3)))) (dIfS (dTest (dOp rdEq (dCall sp_fits_in (dCons (dVar 0) (dCons (dGetI (dVar 2) (dVar 4)) (dNil)))) (dLst (dNil)))) (dRet (dVar 3)) (dNext)))) (dRet (dC .non)))

section
variable {β : Type}
theorem mergeL_go : ∀ (l acc : List (Cell × β)), ((acc ++ l).map (·.1)).Nodup → l.foldl (fun a p => putL a p.1 p.2) acc = acc ++ l
  | [], acc, _ => by simp
  | p :: l, acc, h => by
    have e : putL acc p.1 p.2 = acc ++ [p] := by
      unfold putL
      rw [if_neg]
      intro z
      obtain ⟨q, hq, e⟩ := List.any_eq_true.mp z
      have e := of_decide_eq_true e
      rw [List.map_append, List.nodup_append] at h
      exact h.2.2 q.1 (List.mem_map.mpr ⟨q, hq, rfl⟩) p.1 (by simp) e
    rw [List.foldl_cons, e, mergeL_go l (acc ++ [p]) (by rw [List.append_assoc]; exact h)]
    simp
end
theorem mergeL_nodup {l : List (Cell × Int)} (h : (l.map (·.1)).Nodup) : mergeL l = l := by
  unfold mergeL
  rw [mergeL_go l [] (by simpa using h)]; rfl
theorem mergeD_enc (l : List (Cell × Int)) : mergeD (encT D.int l) = encT D.int (mergeL l) := by
  unfold mergeD mergeL
  have : ∀ (l acc : List (Cell × Int)), (encT D.int l).foldl (fun a p => putD a p.1 p.2) (encT D.int acc) = encT D.int (l.foldl (fun a p => putL a p.1 p.2) acc) := by
    intro l
    induction l with
    | nil => intro acc; rfl
    | cons p l ih =>
      intro acc
      show (encT D.int l).foldl (fun a p => putD a p.1 p.2) (putD (encT D.int acc) (kC p.1) (D.int p.2)) = _
      rw [putD_enc, ih]; rfl
  exact this l []
theorem pairsD_pr : ∀ l : List (Cell × Int), pairsD (l.map ePr) = some (encT D.int l)
  | [] => rfl
  | p :: l => by
    show (tupKey (eC p.1)).bind (fun k' => (pairsD (l.map ePr)).map fun r' => (k', D.int p.2) :: r') = _
    rw [kC_eC, pairsD_pr l]; rfl
theorem keys_perm {β γ : Type} {L : List (Cell × β)} {l : List (Cell × γ)} (h : (L.map (·.1)).Perm (l.map (·.1))) (hn : (l.map (·.1)).Nodup) : (L.map (·.1)).Nodup := (h.nodup_iff).mpr hn
theorem starts_keys (r : List Bool) (a : Ant) (w : List Bool) : (startsL r a w).map (·.1) = (rows a w).map (·.1) := by unfold startsL; rw [List.map_map]; rfl
theorem starts_length (r : List Bool) (a : Ant) (w : List Bool) : (startsL r a w).length = (rows a w).length := by unfold startsL; rw [List.length_map]
theorem any_perm {α : Type} {p : α → Bool} {l l' : List α} (h : l.Perm l') : l.any p = l'.any p := by
  rw [Bool.eq_iff_iff, List.any_eq_true, List.any_eq_true]
  exact ⟨fun ⟨x, hx, q⟩ => ⟨x, h.mem_iff.mp hx, q⟩, fun ⟨x, hx, q⟩ => ⟨x, h.mem_iff.mpr hx, q⟩⟩
def emD : D → D
  | .tup [_, .tup gs] => .bl gs.isEmpty
  | _ => .bl false
def hdD : D → D
  | .tup [c, .tup (g :: _)] => .tup [c, g]
  | d => d
theorem shaped_gs (gs : List Nat) : SeqAt.shaped (.tuple (gs.map fun g => PyData.int (g : Nat))) = true := shaped_lay (lay_tup (n := 0) fun p hp => by obtain ⟨g, _, rfl⟩ := List.mem_map.mp hp; exact lay_int _) (by decide)
theorem shaped_gsL (gs : List Nat) : SeqAt.shaped (.list (gs.map fun g => PyData.int (g : Nat))) = true := shaped_lay (lay_list (n := 0) fun p hp => by obtain ⟨g, _, rfl⟩ := List.mem_map.mp hp; exact lay_int _) (by decide)
theorem shaped_nilT : SeqAt.shaped (.tuple []) = true := shaped_gs []
theorem shaped_nilL : SeqAt.shaped (.list []) = true := shaped_gsL []
theorem pure_floor_in : ∀ ds M k e, sp_floor_in ds M k e → t_floor_in (endsOf k) (fill 6 ds) M := by
  rintro ds M k e ⟨r, d, a, w, rfl, hr, hd, hw, hl, h⟩
  refine ⟨r, d, a, w, rfl, hr, hd, hw, hl, fun L hL p hp => ?_⟩
  have hLl : L.length ≤ 2000 := by rw [hL.length_eq, starts_length]; have := rows_length a w; omega
  refine ⟨_, rfl, ?_⟩
  refine ⟨_, lstOf_obj put_same, ?_⟩
  refine lc_all emD (lstOf_obj put_same) (by rw [List.length_map]; omega) (fun d hd => ?_) ?_
  · obtain ⟨⟨c, gs⟩, _, rfl⟩ := List.mem_map.mp hd
    refine ⟨_, rfl, fun kk hk => ?_⟩
    refine ⟨le_line (by show 0 ≤ 1000000; decide), _, _, .tup (py_ints gs), .tup .nil, shaped_gs gs, shaped_nilT, ?_⟩
    rw [xor_false', eqvT_nil, isEmpty_map']
    have hk : kk (.bl (gs.map gD).isEmpty) _ := hk
    rw [isEmpty_map'] at hk
    exact hk
  refine ⟨L.map fun p => p.2.isEmpty, ?_, ?_⟩
  · rw [List.map_map, List.map_map]
    apply List.map_congr_left
    rintro ⟨c, gs⟩ _
    show D.bl (gs.map gD).isEmpty = .bl gs.isEmpty
    rw [isEmpty_map']
  have ea : (L.map fun p => p.2.isEmpty).any id = noneFits r a w := by
    rw [List.any_map]
    exact any_perm hL
  refine if_tf ea ?_
  cases hn : noneFits r a w with
  | true => exact iteT (rt_put hp (h.1 hn))
  | false =>
    refine iteF ?_
    refine ⟨_, lstOf_obj put_same, ?_⟩
    refine lc_all hdD (lstOf_obj put_same) (by rw [List.length_map]; omega) (fun d hd => ?_) ?_
    · obtain ⟨⟨c, gs⟩, hcg, rfl⟩ := List.mem_map.mp hd
      have hne : gs.isEmpty = false := by
        cases q : gs.isEmpty with
        | false => rfl
        | true =>
          have : noneFits r a w = true := List.any_eq_true.mpr ⟨(c, gs), hL.mem_iff.mp hcg, q⟩
          rw [hn] at this; cases this
      cases gs with
      | nil => cases hne
      | cons g gs =>
        refine ⟨_, rfl, fun kk hk => ?_⟩
        exact ⟨_, _, rfl, (by show atI ((g :: gs).map gD) ((0 : Nat) : Int) = some (gD g); rw [at_nat _ (by simp)]; rfl), le_line (by show 2 ≤ 1000000; decide), hk⟩
    · have e : (L.map eS).map hdD = (L.map fun p => (p.1, ((p.2.headD 0 : Nat) : Int))).map ePr := by
        rw [List.map_map, List.map_map]
        apply List.map_congr_left
        rintro ⟨c, gs⟩ hcg
        cases gs with
        | nil =>
          have : noneFits r a w = true := List.any_eq_true.mpr ⟨(c, []), hL.mem_iff.mp hcg, rfl⟩
          rw [hn] at this; cases this
        | cons g gs => rfl
      have hkn : ((L.map fun p => (p.1, ((p.2.headD 0 : Nat) : Int))).map (·.1)).Nodup := by
        rw [List.map_map]
        have : (L.map (·.1)).Nodup := keys_perm (by have := hL.map (·.1); rw [starts_keys] at this; exact this) (rows_nodup a w)
        exact this
      refine ⟨encT D.int (L.map fun p => (p.1, ((p.2.headD 0 : Nat) : Int))), by rw [e]; exact pairsD_pr _, fun q hq => ?_⟩
      rw [mergeD_enc, mergeL_nodup hkn]
      refine ⟨q, _, rfl, put_same, by rw [List.length_map]; omega, hkn, fun L2 hL2 => ?_⟩
      refine ⟨M, (sub_new hp).trans (sub_new hq), h.2 hn L2 (hL2.trans ?_)⟩
      refine List.Perm.filter _ ?_
      unfold firstL
      exact hL.map _
theorem len_floor_in : ∀ ds M k e, sp_floor_in ds M k e → ds.length = 3 := by rintro ds M k e ⟨_, _, _, _, rfl, _⟩; rfl
/-! barred_in -/
theorem getD_get {α : Type} {l : List α} {i : Nat} {x d : α} (h : l[i]? = some x) : l.getD i d = x := by rw [List.getD_eq_getElem?_getD, h]; rfl
theorem newRow_at {w : List Bool} {i : Nat} {b : Bool} (h : w[i]? = some b) : newRow w i = (getL (rows homeA (w.take i)) (endA homeA (w.take i)).c).getD [] ++ [b] := by
  unfold newRow
  rw [getD_get (walkC_get h), getD_get h]
theorem home_ok : AntD d_HOME homeA := .inr rfl
theorem pure_barred_in : ∀ ds M k e, sp_barred_in ds M k e → t_barred_in (endsOf k) (fill 5 ds) M := by
  rintro ds M k e ⟨r, w, rfl, hr, hl, h⟩
  refine fun p hp => ⟨_, rfl, ?_⟩
  refine ⟨d_HOME, homeA, w, rfl, home_ok, (by decide : (0 : Int) ≤ 0 ∧ (0 : Int) ≤ 3), hl, fun q hq => ?_⟩
  have hpq : p ≠ q := ne_of_free put_same hq
  refine ⟨_, lstOf_obj put_same, ?_⟩
  have hzl : (enD ((walkC homeA w).map eC)).length = w.length := by rw [enD_length, List.length_map, walkC_length]
  refine ⟨fun i δ M' => (∃ x3 x4, δ = [some (.str (eW r)), some (.str (eW w)), some (.obj p), x3, x4] ∧ M' = put (put M p (.dT (encT eT (rows homeA (w.take i))))) q (.lst ((walkC homeA w).map eC))) ∧ ∀ j, j < i → (fits r (newRow w j)).isEmpty = false,
    ⟨⟨none, none, rfl, rfl⟩, fun j hj => absurd hj (Nat.not_lt_zero j)⟩, ?_⟩
  rintro i δ M' hi ⟨⟨x3, x4, rfl, rfl⟩, hprev⟩
  rw [hzl] at hi
  have hfree : ∀ o, put M p o q = none := fun o => by rw [put_ne (Ne.symm hpq)] at hq ⊢; exact hq
  refine ⟨lstOf_obj put_same, fun d' hd' => ?_, fun e => ?_⟩
  · have hlt : i < w.length := by
      have := (List.getElem?_eq_some_iff.mp hd').1
      omega
    obtain ⟨b, hb⟩ : ∃ b, w[i]? = some b := ⟨w[i], List.getElem?_eq_getElem hlt⟩
    have hc := walkC_get (a := homeA) hb
    obtain ⟨x, hx, rfl⟩ := en_get hd'
    rw [List.getElem?_map, hc] at hx
    cases hx
    refine ⟨_, rfl, ?_⟩
    have hM : put (put M p (.dT (encT eT (rows homeA (w.take i))))) q (.lst ((walkC homeA w).map eC)) p = some (.dT (encT eT (rows homeA (w.take i)))) := by rw [put_ne hpq]; exact put_same
    have hrl := row_len homeA (w.take i) (endA homeA (w.take i)).c
    have hrl2 : (w.take i).length = i := by rw [List.length_take]; omega
    refine ⟨⟨_, hM, trivial⟩, _, getD_enc hM, ?_⟩
    rw [eT_getD]
    refine ⟨by rw [eW_length]; exact le_line (by omega), _, (by rw [rule_at w hlt]), ?_⟩
    have hbw : rAt w i = b := getD_get hb
    rw [hbw]
    refine ⟨by rw [eW_length]; show _ + (lS b).length ≤ _; rw [show (lS b).length = 1 from rfl]; exact le_line (by omega), ?_⟩
    refine ⟨_, _, hM, putMO_enc (y := (getL (rows homeA (w.take i)) (endA homeA (w.take i)).c).getD [] ++ [b]) (congrArg D.str (eW_append _ [b])) (by have := rows_length homeA (w.take i); omega), ?_⟩
    rw [put3 hpq]
    have hrow : putL (rows homeA (w.take i)) (endA homeA (w.take i)).c ((getL (rows homeA (w.take i)) (endA homeA (w.take i)).c).getD [] ++ [b]) = rows homeA (w.take (i + 1)) := by
      rw [take_snoc hb, rows_snoc]; rfl
    rw [hrow]
    have hM2 : put (put M p (.dT (encT eT (rows homeA (w.take (i + 1)))))) q (.lst ((walkC homeA w).map eC)) p = some (.dT (encT eT (rows homeA (w.take (i + 1))))) := by rw [put_ne hpq]; exact put_same
    have hg2 : getL (rows homeA (w.take (i + 1))) (endA homeA (w.take i)).c = some (newRow w i) := by
      rw [← hrow, getL_putL_self, newRow_at hb]
    refine ⟨_, (by rw [getD_enc hM2, hg2]; rfl), ?_⟩
    refine ⟨r, newRow w i, rfl, hr, by rw [newRow_at hb, List.length_append, List.length_singleton]; omega, fun q2 hq2 => ?_⟩
    refine ⟨le_line (by show 0 ≤ 1000000; decide), fun q3 hq3 => ?_⟩
    have h32 : q2 ≠ q3 := ne_of_free put_same hq3
    refine ⟨_, _, .lst (by rw [put_ne h32]; exact put_same) (py_ints _), .lst put_same .nil, shaped_gsL _, shaped_nilL, ?_⟩
    rw [xor_false', eqv_nil, isEmpty_map']
    have sM : Sub M (put (put M p (.dT (encT eT (rows homeA (w.take (i + 1)))))) q (.lst ((walkC homeA w).map eC))) := (sub_new hp).trans (sub_new (hfree _))
    have s23 := (sub_new (o := .lst ((fits r (newRow w i)).map gD)) hq2).trans (sub_new (o := .lst []) hq3)
    cases hf : (fits r (newRow w i)).isEmpty with
    | true =>
      refine iteT ⟨M, sM.trans s23, ?_⟩
      have eb : barred r w = some i := by
        unfold barred
        rw [List.find?_eq_some_iff_getElem]
        refine ⟨hf, i, by simpa using hlt, by simp, fun j hj => ?_⟩
        simp only [List.getElem_range]
        rw [hprev j hj]; rfl
      rw [eb] at h
      exact h
    | false =>
      refine iteF ⟨_, s23, ⟨some (.int (i : Nat)), some (eC (endA homeA (w.take i)).c), rfl, rfl⟩, fun j hj => ?_⟩
      rcases Nat.lt_succ_iff_lt_or_eq.mp hj with hj | rfl
      · exact hprev j hj
      · exact hf
  · rw [hzl] at e
    subst e
    refine ⟨M, (sub_new hp).trans (sub_new (hfree _)), ?_⟩
    have eb : barred r w = none := by
      unfold barred
      rw [List.find?_eq_none]
      intro j hj
      rw [hprev j (List.mem_range.mp hj)]
      exact Bool.false_ne_true
    rw [eb] at h
    exact h
theorem len_barred_in : ∀ ds M k e, sp_barred_in ds M k e → ds.length = 2 := by rintro ds M k e ⟨_, _, rfl, _⟩; rfl
end DL
/-! Readings (printed by run.py) and their proofs. -/
namespace DL
open PySem PySem.Spec PyProof.Rows L2
def t_words_in : DTS := dSeq (dAsg (dLst (dCons (dC (.str "")) (dNil))) (dgName 2)) (dSeq (dFor (diR1 (dCons (dVar 1) (dNil))) (dgName 3) (dSeq (dAsg (dMade (dLc2 (diL (dVar 2)) (dgName 4) "lr" (dgName 5) (dTest (dOp (rdIsN false) (dCall sp_barred_in (dCons (dVar 0) (dCons (dOp rdAdd (dVar 4) (dVar 5)) (dNil)))) (dC .non))) (dOp rdAdd (dVar 4) (dVar 5)) [4, 5] [5])) (dgName 2)) (dIfS (dTest (dOp rdGt (dCB rdLen (dCons (dVar 2) (dNil))) (dC (.int 2000)))) (dNever) (dNext)))) (dRet (dVar 2)))

def t_starts : DTS := dSeq (dAsg (dCall sp_sure_rule (dCons (dVar 0) (dNil))) (dgName 3)) (dSeq (dAsg (dCall sp_sure_ant (dCons (dVar 1) (dNil))) (dgName 4)) (dRet (dCB rdTupleO (dCons (dCall sp_starts_in (dCons (dVar 3) (dCons (dVar 4) (dCons (dCall sp_sure_word (dCons (dVar 2) (dNil))) (dNil))))) (dNil)))))

def t_floor_of : DTS := dSeq (dAsg (dCall sp_sure_rule (dCons (dVar 0) (dNil))) (dgName 3)) (dSeq (dAsg (dCall sp_sure_ant (dCons (dVar 1) (dNil))) (dgName 4)) (dSeq (dAsg (dCall sp_floor_in (dCons (dVar 3) (dCons (dVar 4) (dCons (dCall sp_sure_word (dCons (dVar 2) (dNil))) (dNil))))) (dgName 5)) (dSeq (dIfS (dTest (dOp (rdIsN false) (dVar 5) (dC .non))) (dNever) (dNext)) (dRet (dVar 5)))))

def t_how_many_floors : DTS := dSeq (dAsg (dCall sp_sure_rule (dCons (dVar 0) (dNil))) (dgName 3)) (dSeq (dAsg (dCall sp_sure_ant (dCons (dVar 1) (dNil))) (dgName 4)) (dSeq (dAsg (dC (.int 1)) (dgName 5)) (dSeq (dFor (diL (dCall sp_starts_in (dCons (dVar 3) (dCons (dVar 4) (dCons (dCall sp_sure_word (dCons (dVar 2) (dNil))) (dNil)))))) (dgTup 2 (dgCons (dgName 6) (dgCons (dgName 7) dgNil))) (dAsg (dOp rdMul (dVar 5) (dCB rdLen (dCons (dVar 7) (dNil)))) (dgName 5))) (dRet (dVar 5)))))

def t_barred_at : DTS := dSeq (dAsg (dCall sp_sure_rule (dCons (dVar 0) (dNil))) (dgName 2)) (dRet (dCall sp_barred_in (dCons (dVar 2) (dCons (dCall sp_sure_word (dCons (dVar 1) (dNil))) (dNil)))))

def t_words_of : DTS := dSeq (dAsg (dCall sp_sure_rule (dCons (dVar 0) (dNil))) (dgName 2)) (dRet (dCall sp_words_in (dCons (dVar 2) (dCons (dCall sp_sure_within (dCons (dVar 1) (dCons (dC (.int 0)) (dCons (dC (.int 16)) (dNil))))) (dNil)))))

def t_how_many_words : DTS := dRet (dCB rdLen (dCons (dCall sp_words_of (dCons (dVar 0) (dCons (dVar 1) (dNil)))) (dNil)))

def t_is_claim_of (g_SIZES : Addr) : DTS := dSeq (dIfS (dOr (dNot (dTest (dCB (rdIsi "tuple") (dCons (dVar 0) (dCons (dC (.ty "tuple")) (dNil)))))) (dOr (dTest (dOp rdEq (dVar 0) (dTup (dNil)))) (dOr (dNot (dTest (dCB (rdIsi "str") (dCons (dOp rdIx (dVar 0) (dC (.int 0))) (dCons (dC (.ty "str")) (dNil)))))) (dTest (dOp (rdInG true g_SIZES v_SIZES) (dOp rdIx (dVar 0) (dC (.int 0))) (dC (.obj g_SIZES))))))) (dRet (dC (.bl false))) (dNext)) (dSeq (dIfS (dOr (dTest (dOp rdNe (dCB rdLen (dCons (dVar 0) (dNil))) (dOp (rdIxG g_SIZES v_SIZES) (dC (.obj g_SIZES)) (dOp rdIx (dVar 0) (dC (.int 0)))))) (dNot (dTest (dCall sp_is_rule_in (dCons (dOp rdIx (dVar 0) (dC (.int 1))) (dNil)))))) (dRet (dC (.bl false))) (dNext)) (dSeq (dPar 1 2 (dCons (dOp rdIx (dVar 0) (dC (.int 0))) (dCons (dOp rdIx (dVar 0) (dC (.int 1))) (dNil)))) (dSeq (dIfS (dTest (dOp rdEq (dVar 1) (dC (.str "turns")))) (dRet (dCall sp_is_word_in (dCons (dOp rdIx (dVar 0) (dC (.int 2))) (dNil)))) (dNext)) (dSeq (dNever) (dSeq (dNever) (dSeq (dNever) (dSeq (dNever) (dNever))))))))

def t_sure_claim : DTS := dSeq (dAsg (dCall sp_tupled (dCons (dVar 0) (dNil))) (dgName 1)) (dSeq (dIfS (dNot (dTest (dCall sp_is_claim_of (dCons (dVar 1) (dNil))))) (dNever) (dNext)) (dRet (dVar 1)))

def t_reason_in : DTS := dSeq (dPar 1 2 (dCons (dOp rdIx (dVar 0) (dC (.int 0))) (dCons (dOp rdIx (dVar 0) (dC (.int 1))) (dNil)))) (dSeq (dIfS (dTest (dOp rdEq (dVar 1) (dC (.str "turns")))) (dRet (dCall sp_floor_in (dCons (dVar 2) (dCons (dC d_HOME) (dCons (dOp rdIx (dVar 0) (dC (.int 2))) (dNil)))))) (dNext)) (dSeq (dNever) (dSeq (dNever) (dSeq (dNever) (dSeq (dNever) (dSeq (dNever) (dNever)))))))

def t_paper_in : DTS := dSeq (dPar 1 2 (dCons (dOp rdIx (dVar 0) (dC (.int 0))) (dCons (dOp rdIx (dVar 0) (dC (.int 1))) (dNil)))) (dSeq (dIfS (dTest (dOp rdEq (dVar 1) (dC (.str "turns")))) (dRet (dCall sp_barred_in (dCons (dVar 2) (dCons (dOp rdIx (dVar 0) (dC (.int 2))) (dNil))))) (dNext)) (dSeq (dNever) (dSeq (dNever) (dSeq (dNever) (dNever)))))

def t_claim_holds : DTS := dRet (dOp (rdIsN true) (dCall sp_reason_in (dCons (dCall sp_sure_claim (dCons (dVar 0) (dNil))) (dNil))) (dC .non))

def t_claim_paper : DTS := dSeq (dAsg (dCall sp_sure_claim (dCons (dVar 0) (dNil))) (dgName 1)) (dRet (dIf (dTest (dOp (rdIsN false) (dCall sp_reason_in (dCons (dVar 1) (dNil))) (dC .non))) (dCall sp_paper_in (dCons (dVar 1) (dNil))) (dC .non)))

theorem seqOf_obj {M : MH} {a : Addr} {xs : List D} (h : M a = some (.lst xs)) : seqOf M (.obj a) = some xs := by unfold seqOf; rw [lstOf_obj h]; rfl
theorem isNon_opt (o : Option Nat) : isNon (optN o) = o.isNone := by cases o <;> rfl
def nextW (r w : List Bool) : List (List Bool) := [w ++ [true], w ++ [false]].filter fun v => (barred r v).isNone
theorem nextW_le (r w : List Bool) : (nextW r w).length ≤ 2 := List.length_filter_le _ _
theorem flat_le (r : List Bool) : ∀ l : List (List Bool), (l.flatMap (nextW r)).length ≤ 2 * l.length
  | [] => Nat.le_refl _
  | w :: l => by
    rw [List.flatMap_cons, List.length_append, List.length_cons]
    have h1 := flat_le r l
    have h2 := nextW_le r w
    omega
theorem wordsK_succ (r : List Bool) (n : Nat) : wordsK r (n + 1) = (wordsK r n).flatMap (nextW r) := rfl
theorem wordsK_le (r : List Bool) : ∀ n, (wordsK r n).length ≤ 2 ^ n
  | 0 => Nat.le_refl _
  | n + 1 => by
    rw [wordsK_succ]
    have h1 := flat_le r (wordsK r n)
    have h2 := wordsK_le r n
    rw [Nat.pow_succ]; omega
theorem wordsK_len (r : List Bool) : ∀ (n : Nat) (w : List Bool), w ∈ wordsK r n → w.length = n
  | 0, w, h => by
    have : w = [] := by simpa [wordsK] using h
    subst this; rfl
  | n + 1, w, h => by
    rw [wordsK_succ, List.mem_flatMap] at h
    obtain ⟨v, hv, hw⟩ := h
    have hv := wordsK_len r n v hv
    have hw := (List.mem_filter.mp hw).1
    rcases List.mem_cons.mp hw with rfl | hw
    · simp [hv]
    · rcases List.mem_cons.mp hw with rfl | hw
      · simp [hv]
      · cases hw
theorem lr_eW : ("lr" : Str) = eW [true, false] := by decide
theorem pow6 {i : Nat} (h : i ≤ 6) : 2 ^ i ≤ 64 := by
  have := Nat.pow_le_pow_right (n := 2) (by decide) h
  simpa using this
theorem pure_words_in : ∀ ds M k e, sp_words_in ds M k e → t_words_in (endsOf k) (fill 6 ds) M := by
  rintro ds M k e ⟨r, n, rfl, hr, hn, h⟩
  refine ⟨le_line (by show 1 ≤ 1000000; decide), fun p hp => ?_⟩
  refine ⟨_, rfl, ?_⟩
  refine ⟨⟨by omega, by omega⟩, ?_⟩
  have hrg : (rgD 0 ((n : Int)).toNat).length = n := by rw [rgD_length]; omega
  refine ⟨fun i δ M' => ∃ p x3, M p = none ∧ δ = [some (.str (eW r)), some (.int n), some (.obj p), x3, none, none] ∧ M' = put M p (.lst ((wordsK r i).map eT)), ⟨p, none, hp, rfl, ?_⟩, ?_⟩
  · show put M p (.lst [.str ""]) = put M p (.lst [.str (eW [])])
    rw [eW_nil]
  rintro i δ M' hi ⟨p, x3, hp, rfl, rfl⟩
  rw [hrg] at hi
  refine ⟨trivial, fun d hd => ?_, fun e => ?_⟩
  · have hlt : i < n := by
      have := (List.getElem?_eq_some_iff.mp hd).1
      omega
    have hi6 : (wordsK r i).length ≤ 64 := Nat.le_trans (wordsK_le r i) (pow6 (by omega))
    refine ⟨_, rfl, ?_⟩
    refine ⟨_, lstOf_obj put_same, ?_⟩
    refine ⟨fun i2 acc M'' => M'' = put M p (.lst ((wordsK r i).map eT)) ∧ acc = (((wordsK r i).take i2).flatMap (nextW r)).map eT, ⟨rfl, rfl⟩, ?_⟩
    rintro i2 acc M'' hi2 ⟨rfl, rfl⟩
    refine ⟨lstOf_obj put_same, fun d hd => ?_, fun e => ?_⟩
    · rw [List.getElem?_map] at hd
      obtain ⟨w, hw, rfl⟩ := Option.map_eq_some_iff.mp hd
      have hwl := wordsK_len r i w (List.mem_of_getElem? hw)
      refine ⟨_, rfl, ?_⟩
      refine ⟨fun j acc1 M3 => M3 = put M p (.lst ((wordsK r i).map eT)) ∧ acc1 = (((wordsK r i).take i2).flatMap (nextW r)).map eT ++ (((([true, false] : List Bool).take j).map fun b => w ++ [b]).filter fun v => (barred r v).isNone).map eT, ⟨rfl, by simp⟩, ?_⟩
      rintro j acc1 M3 hj ⟨rfl, rfl⟩
      have hfl := flat_le r ((wordsK r i).take i2)
      have htl : ((wordsK r i).take i2).length ≤ 64 := by rw [List.length_take]; omega
      refine ⟨fun d1 hd1 => ?_, fun e => ?_⟩
      · rw [lr_eW] at hd1
        obtain ⟨b, hb, rfl⟩ := sg_get hd1
        have hlen : (eW w).length + (lS b).length ≤ sizeLine := by
          rw [eW_length, show (lS b).length = 1 from rfl]; exact le_line (by omega)
        refine ⟨_, rfl, ?_⟩
        refine ⟨hlen, ?_⟩
        refine ⟨r, w ++ [b], by rw [← eW_append]; rfl, hr, by rw [List.length_append, List.length_singleton]; omega, ?_⟩
        refine if_tf (d := (barred r (w ++ [b])).isNone) (by rw [xor_false', isNon_opt]) ?_
        have htk : ([true, false] : List Bool).take (j + 1) = ([true, false] : List Bool).take j ++ [b] := take_snoc hb
        cases hbn : (barred r (w ++ [b])).isNone with
        | true =>
          refine iteT ⟨hlen, ?_⟩
          refine ⟨?_, _, Sub.refl _, rfl, ?_⟩
          · rw [List.length_append, List.length_map, List.length_map]
            have hx : (((([true, false] : List Bool).take j).map fun b => w ++ [b]).filter fun v => (barred r v).isNone).length ≤ 2 := Nat.le_trans (List.length_filter_le _ _) (by rw [List.length_map, List.length_take]; exact Nat.min_le_right _ _)
            exact lt_line (by omega)
          · rw [htk, List.map_append, List.filter_append, List.map_append, List.append_assoc]
            congr 1
            show _ = _ ++ (List.filter _ [w ++ [b]]).map eT
            rw [List.filter_cons, if_pos hbn]
            congr 1
            show [D.str (eW w ++ eW [b])] = [D.str (eW (w ++ [b]))]
            rw [eW_append]
        | false =>
          refine iteF ⟨_, Sub.refl _, rfl, ?_⟩
          rw [htk, List.map_append, List.filter_append, List.map_append]
          have e0 : List.map eT (List.filter (fun v => (barred r v).isNone) (List.map (fun b => w ++ [b]) [b])) = [] := by
            show (List.filter _ [w ++ [b]]).map eT = []
            rw [List.filter_cons, if_neg (by rw [hbn]; exact Bool.false_ne_true)]; rfl
          rw [e0, List.append_nil]
      · refine ⟨_, Sub.refl _, rfl, ?_⟩
        have ej : j = 2 := e
        subst ej
        rw [take_snoc hw, List.flatMap_append, List.map_append]
        congr 1
        show _ = List.map eT ([w].flatMap (nextW r))
        rw [List.flatMap_cons, List.flatMap_nil, List.append_nil]
        rfl
    · rw [List.length_map] at e
      subst e
      rw [List.take_length]
      intro q hq
      refine ⟨_, rfl, ?_⟩
      have hfl := flat_le r (wordsK r i)
      refine ⟨_, seqOf_obj put_same, ?_⟩
      refine if_tf (d := false) (decide_eq_false ?_) (iteF ?_)
      · rw [List.length_map]; omega
      · refine ⟨put M q (.lst ((wordsK r (i + 1)).map eT)), Sub.put (sub_new hp), q, _, (sub_new hp).free hq, rfl, rfl⟩
  · rw [hrg] at e
    subst e
    exact rt_of (h p hp)
theorem len_words_in : ∀ ds M k e, sp_words_in ds M k e → ds.length = 2 := by rintro ds M k e ⟨_, _, rfl, _⟩; rfl
/-! the interface -/
theorem mulL_snoc (l : List Nat) (x : Nat) : mulL (l ++ [x]) = mulL l * x := by
  induction l with
  | nil => simp [mulL]
  | cons y l ih =>
    show y * mulL (l ++ [x]) = y * mulL l * x
    rw [ih, Nat.mul_assoc]
theorem mulL_perm {l l' : List Nat} (h : l.Perm l') : mulL l = mulL l' := by
  induction h with
  | nil => rfl
  | cons x _ ih => show x * _ = x * _; rw [ih]
  | swap x y l => show y * (x * mulL l) = x * (y * mulL l); rw [Nat.mul_left_comm]
  | trans _ _ h1 h2 => exact h1.trans h2
theorem starts_goods {r : List Bool} {a : Ant} {w : List Bool} {c : Cell} {gs : List Nat} (h : (c, gs) ∈ startsL r a w) : gs.length ≤ r.length := by
  obtain ⟨p, _, e⟩ := List.mem_map.mp h
  cases e
  exact fits_le r p.2
theorem pure_starts : ∀ ds M k e, sp_starts ds M k e → t_starts (endsOf k) (fill 5 ds) M := by
  rintro ds M k e ⟨r, a, w, rfl, hr, ha, hl, h⟩
  refine ⟨r, rfl, hr, _, rfl, ?_⟩
  refine ⟨a, rfl, ha, _, rfl, ?_⟩
  refine ⟨w, rfl, hl, ?_⟩
  refine ⟨r, eA a, a, w, rfl, hr, .inl rfl, ha.2, hl, fun L hL p hp => ?_⟩
  exact ⟨_, lstOf_obj put_same, Or.inl (rt_put hp (h L hL))⟩
theorem len_starts : ∀ ds M k e, sp_starts ds M k e → ds.length = 3 := by rintro ds M k e ⟨_, _, _, rfl, _⟩; rfl
theorem pure_floor_of : ∀ ds M k e, sp_floor_of ds M k e → t_floor_of (endsOf k) (fill 6 ds) M := by
  rintro ds M k e ⟨r, a, w, rfl, hr, ha, hl, hn, h⟩
  refine ⟨r, rfl, hr, _, rfl, ?_⟩
  refine ⟨a, rfl, ha, _, rfl, ?_⟩
  refine ⟨w, rfl, hl, ?_⟩
  refine ⟨r, eA a, a, w, rfl, hr, .inl rfl, ha.2, hl, fun z => ?_, fun _ L hL => ?_⟩
  · rw [hn] at z; cases z
  · exact ⟨_, rfl, rt_of (h L hL)⟩
theorem len_floor_of : ∀ ds M k e, sp_floor_of ds M k e → ds.length = 3 := by rintro ds M k e ⟨_, _, _, rfl, _⟩; rfl
theorem pure_how_many_floors : ∀ ds M k e, sp_how_many_floors ds M k e → t_how_many_floors (endsOf k) (fill 8 ds) M := by
  rintro ds M k e ⟨r, a, w, rfl, hr, ha, hl, h⟩
  refine ⟨r, rfl, hr, _, rfl, ?_⟩
  refine ⟨a, rfl, ha, _, rfl, ?_⟩
  refine ⟨_, rfl, ?_⟩
  refine ⟨w, rfl, hl, ?_⟩
  refine ⟨r, eA a, a, w, rfl, hr, .inl rfl, ha.2, hl, fun L hL p hp => ?_⟩
  refine ⟨_, lstOf_obj put_same, ?_⟩
  refine ⟨fun i δ M' => M' = put M p (.lst (L.map eS)) ∧ ∃ x6 x7, δ = [some (.str (eW r)), some (eA a), some (.str (eW w)), some (.str (eW r)), some (eA a), some (.int (mulL ((L.take i).map fun p => p.2.length) : Nat)), x6, x7], ⟨rfl, none, none, rfl⟩, ?_⟩
  rintro i δ M' hi ⟨rfl, x6, x7, rfl⟩
  rw [List.length_map] at hi
  refine ⟨lstOf_obj put_same, fun d hd => ?_, fun e => ?_⟩
  · rw [List.getElem?_map] at hd
    obtain ⟨⟨c, gs⟩, hcg, rfl⟩ := Option.map_eq_some_iff.mp hd
    have hgl := starts_goods (hL.mem_iff.mp (List.mem_of_getElem? hcg))
    have hr2 := hr.2
    refine ⟨_, rfl, ?_⟩
    refine ⟨_, seqOf_tup rfl, ?_⟩
    have hgm : (gs.map gD).length ≤ 12 := by rw [List.length_map]; omega
    refine ⟨.inr ⟨?_, ?_⟩, ?_⟩
    · show -(2 ^ 64 : Int) < (((gs.map gD).length : Nat) : Int); omega
    · show (((gs.map gD).length : Nat) : Int) < 2 ^ 64; omega
    · refine ⟨_, rfl, _, Sub.refl _, rfl, some (eC c), some (.tup (gs.map gD)), ?_⟩
      rw [take_snoc hcg, List.map_append, List.map_singleton, mulL_snoc, List.length_map]
      show [some _, some _, some _, some _, some _, some (D.int ((mulL ((L.take i).map fun p => p.2.length) : Nat) * (gs.length : Nat))), _, _] = _
      rw [Int.natCast_mul]
  · rw [List.length_map] at e
    subst e
    rw [List.take_length]
    refine rt_put hp ?_
    have e : mulL (L.map fun p => p.2.length) = countF r a w := mulL_perm (hL.map _)
    rw [e]
    exact h
theorem len_how_many_floors : ∀ ds M k e, sp_how_many_floors ds M k e → ds.length = 3 := by rintro ds M k e ⟨_, _, _, rfl, _⟩; rfl
theorem pure_barred_at : ∀ ds M k e, sp_barred_at ds M k e → t_barred_at (endsOf k) (fill 3 ds) M := by
  rintro ds M k e ⟨r, w, rfl, hr, hl, h⟩
  refine ⟨r, rfl, hr, _, rfl, ?_⟩
  refine ⟨w, rfl, hl, ?_⟩
  exact ⟨r, w, rfl, hr, hl, rt_of h⟩
theorem len_barred_at : ∀ ds M k e, sp_barred_at ds M k e → ds.length = 2 := by rintro ds M k e ⟨_, _, rfl, _⟩; rfl
theorem pure_words_of : ∀ ds M k e, sp_words_of ds M k e → t_words_of (endsOf k) (fill 3 ds) M := by
  rintro ds M k e ⟨r, n, rfl, hr, hn, h⟩
  refine ⟨r, rfl, hr, _, rfl, ?_⟩
  refine ⟨n, 0, 16, rfl, ⟨by omega, by omega⟩, ?_⟩
  exact ⟨r, n, rfl, hr, hn, fun p hp => rt_of (h p hp)⟩
theorem len_words_of : ∀ ds M k e, sp_words_of ds M k e → ds.length = 2 := by rintro ds M k e ⟨_, _, rfl, _⟩; rfl
theorem pure_how_many_words : ∀ ds M k e, sp_how_many_words ds M k e → t_how_many_words (endsOf k) (fill 2 ds) M := by
  rintro ds M k e ⟨r, n, rfl, hr, hn, h⟩
  refine ⟨r, n, rfl, hr, hn, fun p hp => ?_⟩
  refine ⟨_, seqOf_obj put_same, ?_⟩
  rw [List.length_map]
  exact rt_put hp h
theorem len_how_many_words : ∀ ds M k e, sp_how_many_words ds M k e → ds.length = 2 := by rintro ds M k e ⟨_, _, rfl, _⟩; rfl
/-! judge -/
theorem turns_py (M : MH) (r w : List Bool) : Py M (eTurns r w) (.tuple [.str "turns", .str (eW r), .str (eW w)]) := .tup (.cons (.str _) (.cons (.str _) (.cons (.str _) .nil)))
theorem lay_str {x : Str} (h : PyData.strOk x = true) : (PyData.str x).canLay0 = true ∧ (PyData.str x).depth ≤ 0 := ⟨by simp [PyData.canLay0, h], by simp [PyData.depth]⟩
theorem eW_ok (w : List Bool) : PyData.strOk (eW w) = true := by
  unfold PyData.strOk
  rw [Array.all_eq_true']
  intro c hc
  have hc : c ∈ (eW w).cps.toList := Array.mem_toList_iff.mpr hc
  rw [eW_cps] at hc
  obtain ⟨b, _, rfl⟩ := List.mem_map.mp hc
  cases b <;> decide
theorem turns_shaped (r w : List Bool) : SeqAt.shaped (.tuple [.str "turns", .str (eW r), .str (eW w)]) = true := shaped_lay (lay_tup (n := 0) fun p hp => by
  rcases List.mem_cons.mp hp with rfl | hp
  · exact lay_str (by decide +kernel)
  · rcases List.mem_cons.mp hp with rfl | hp
    · exact lay_str (eW_ok _)
    · rcases List.mem_cons.mp hp with rfl | hp
      · exact lay_str (eW_ok _)
      · cases hp) (by decide)
theorem pure_is_claim_of (g : Addr) : ∀ ds M k e, sp_is_claim_of ds M k e → t_is_claim_of g (endsOf k) (fill 3 ds) M := by
  rintro ds M k e ⟨r, w, rfl, hr, hl, h⟩
  refine ⟨rfl, _, _, rfl, kit_tt, iteF ?_⟩
  refine ⟨le_line (by show 0 ≤ 1000000; decide), _, _, turns_py _ r w, .tup .nil, turns_shaped r w, shaped_nilT, ?_⟩
  refine if_tf (d := false) (by rw [xor_false', eqvT_nil]; rfl) (iteF ?_)
  refine ⟨_, _, rfl, rfl, rfl, _, _, rfl, kit_ss, iteF ?_⟩
  refine ⟨_, _, rfl, rfl, _, _, rfl, rfl, List.mem_cons_self, iteF ?_⟩
  refine ⟨_, rfl, _, _, rfl, rfl, _, _, rfl, rfl, List.mem_cons_self, ?_⟩
  refine ⟨_, _, rfl, rfl, r, rfl, hr, iteF ?_⟩
  refine ⟨_, _, rfl, rfl, _, _, rfl, rfl, ?_⟩
  exact ⟨_, _, rfl, rfl, w, rfl, hl, rt_of h⟩
theorem len_is_claim_of : ∀ ds M k e, sp_is_claim_of ds M k e → ds.length = 1 := by rintro ds M k e ⟨_, _, rfl, _⟩; rfl
theorem pure_sure_claim : ∀ ds M k e, sp_sure_claim ds M k e → t_sure_claim (endsOf k) (fill 2 ds) M := by
  rintro ds M k e ⟨r, w, rfl, hr, hl, h⟩
  refine ⟨_, rfl, rfl, ?_⟩
  refine ⟨_, rfl, ?_⟩
  refine ⟨r, w, rfl, hr, hl, ?_⟩
  exact rt_of h
theorem len_sure_claim : ∀ ds M k e, sp_sure_claim ds M k e → ds.length = 1 := by rintro ds M k e ⟨_, _, rfl, _⟩; rfl
theorem pure_reason_in : ∀ ds M k e, sp_reason_in ds M k e → t_reason_in (endsOf k) (fill 6 ds) M := by
  rintro ds M k e ⟨r, w, rfl, hr, hl, h⟩
  refine ⟨_, _, rfl, rfl, _, _, rfl, rfl, ?_⟩
  refine ⟨_, _, rfl, rfl, r, d_HOME, homeA, w, rfl, hr, home_ok, (by decide : (0 : Int) ≤ 0 ∧ (0 : Int) ≤ 3), hl, fun z => rt_of (h.1 z), fun z L hL => rt_of (h.2 z L hL)⟩
theorem len_reason_in : ∀ ds M k e, sp_reason_in ds M k e → ds.length = 1 := by rintro ds M k e ⟨_, _, rfl, _⟩; rfl
theorem pure_paper_in : ∀ ds M k e, sp_paper_in ds M k e → t_paper_in (endsOf k) (fill 3 ds) M := by
  rintro ds M k e ⟨r, w, rfl, hr, hl, h⟩
  refine ⟨_, _, rfl, rfl, _, _, rfl, rfl, ?_⟩
  exact ⟨_, _, rfl, rfl, r, w, rfl, hr, hl, rt_of h⟩
theorem len_paper_in : ∀ ds M k e, sp_paper_in ds M k e → ds.length = 1 := by rintro ds M k e ⟨_, _, rfl, _⟩; rfl
theorem pure_claim_holds : ∀ ds M k e, sp_claim_holds ds M k e → t_claim_holds (endsOf k) (fill 1 ds) M := by
  rintro ds M k e ⟨r, w, rfl, hr, hl, h⟩
  refine ⟨r, w, rfl, hr, hl, ?_⟩
  refine ⟨r, w, rfl, hr, hl, fun z => ?_, fun z L hL => ?_⟩
  · rw [z] at h; exact rt_of h
  · rw [z] at h; exact rt_of h
theorem len_claim_holds : ∀ ds M k e, sp_claim_holds ds M k e → ds.length = 1 := by rintro ds M k e ⟨_, _, rfl, _⟩; rfl
theorem pure_claim_paper : ∀ ds M k e, sp_claim_paper ds M k e → t_claim_paper (endsOf k) (fill 2 ds) M := by
  rintro ds M k e ⟨r, w, rfl, hr, hl, h⟩
  refine ⟨r, w, rfl, hr, hl, _, rfl, ?_⟩
  refine ⟨r, w, rfl, hr, hl, fun z => ?_, fun z L hL => ?_⟩
  · rw [z] at h; exact ⟨r, w, rfl, hr, hl, rt_of h⟩
  · rw [z] at h; exact rt_of h
theorem len_claim_paper : ∀ ds M k e, sp_claim_paper ds M k e → ds.length = 1 := by rintro ds M k e ⟨_, _, rfl, _⟩; rfl
end DL
/-! Readings (printed by run.py) and their proofs. -/
namespace DL
open PySem PySem.Spec PyProof.Rows L2
def t__law_box : DTS := dSeq (dAsg (dIf (dTest (dOp rdLt (dVar 1) (dCB rdLen (dCons (dVar 0) (dNil))))) (dOp rdIx (dVar 0) (dVar 1)) (dC (.int 0))) (dgName 2)) (dRet (dLst (dCons (dOp rdMul (dCB rdAbs (dCons (dVar 2) (dNil))) (dCB rdInt (dCons (dOp rdGe (dCB rdAbs (dCons (dVar 2) (dNil))) (dOp rdPow (dC (.int 10)) (dC (.int 18)))) (dNil)))) (dCons (dOp rdAdd (dOp rdAdd (dOp rdMod (dCB rdInt (dCons (dVar 2) (dNil))) (dC (.int 2305843009213693951))) (dOp rdMul (dC (.int 39373)) (dVar 1))) (dC (.int 251900))) (dCons (dC (.int 0)) (dNil))))))

def t__law_take : DTS := dSeq (dIfS (dTest (dOp rdGt (dOp rdIx (dVar 0) (dC (.int 0))) (dC (.int 0)))) (dSeq (dAsg (dOp rdMod (dCB rdInt (dCons (dOp rdIx (dVar 0) (dC (.int 0))) (dNil))) (dVar 1)) (dgName 2)) (dSeq (dSetL (dVar 0) (dC (.int 0)) (dOp rdDiv (dOp rdIx (dVar 0) (dC (.int 0))) (dVar 1))) (dRet (dVar 2)))) (dNext)) (dSeq (dSetL (dVar 0) (dC (.int 2)) (dOp rdAdd (dOp rdIx (dVar 0) (dC (.int 2))) (dC (.int 1)))) (dSeq (dAsg (dOp rdMod (dCB rdInt (dCons (dOp rdMul (dOp rdAdd (dOp rdIx (dVar 0) (dC (.int 1))) (dOp rdMul (dC (.int 48271)) (dOp rdIx (dVar 0) (dC (.int 2))))) (dOp rdAdd (dC (.int 39373)) (dOp rdIx (dVar 0) (dC (.int 2))))) (dNil))) (dC (.int 2147483647))) (dgName 3)) (dSeq (dAsg (dOp rdAdd (dOp rdMod (dCB rdInt (dCons (dVar 3) (dNil))) (dC (.int 40009))) (dC (.int 7))) (dgName 4)) (dSeq (dAsg (dOp rdMod (dCB rdInt (dCons (dOp rdMul (dOp rdAdd (dOp rdAdd (dVar 3) (dOp rdIx (dVar 0) (dC (.int 2)))) (dOp rdDiv (dOp rdIx (dVar 0) (dC (.int 1))) (dC (.int 1000003)))) (dVar 4)) (dNil))) (dC (.int 2147483629))) (dgName 5)) (dRet (dOp rdMod (dCB rdInt (dCons (dOp rdDiv (dOp rdMod (dCB rdInt (dCons (dOp rdAdd (dOp rdMul (dVar 5) (dC (.int 48271))) (dVar 3)) (dNil))) (dC (.int 2147483587))) (dC (.int 64))) (dNil))) (dVar 1)))))))

def t__law_cells : DTS := dSeq (dAsg (dOrT (dCB rdListL (dSlL (dVar 0) (dNoPart) (dPart (dVar 1)))) (dLst (dCons (dC (.int 0)) (dNil)))) (dgName 2)) (dSeq (dFor (diEM (dSlL (dVar 0) (dPart (dVar 1)) (dPart (dC (.int 63))))) (dgTup 2 (dgCons (dgName 3) (dgCons (dgName 4) dgNil))) (dSeq (dAsg (dOp rdMod (dCB rdInt (dCons (dVar 3) (dNil))) (dVar 1)) (dgName 5)) (dSetL (dVar 2) (dVar 5) (dOp rdAdd (dOp rdIx (dVar 2) (dVar 5)) (dOp rdMul (dVar 4) (dOp rdAdd (dVar 3) (dC (.int 2)))))))) (dRet (dVar 2)))

def t__law_of : DTS := dRet (dOp rdIx (dVar 1) (dCall sp__law_take (dCons (dVar 0) (dCons (dCB rdLen (dCons (dVar 1) (dNil))) (dNil)))))

def t__law_same (sp : DSp) : DTS := dSeq (dIfS (dTest (dCB (rdIsi2 "list" "tuple") (dCons (dVar 1) (dCons (dTup (dCons (dC (.ty "list")) (dCons (dC (.ty "tuple")) (dNil)))) (dNil))))) (dSeq (dIfS (dOr (dTest (dOp rdNe (dCB (rdIsi "list") (dCons (dVar 0) (dCons (dC (.ty "list")) (dNil)))) (dCB (rdIsi "list") (dCons (dVar 1) (dCons (dC (.ty "list")) (dNil)))))) (dTest (dOp rdNe (dCB (rdIsi "tuple") (dCons (dVar 0) (dCons (dC (.ty "tuple")) (dNil)))) (dCB (rdIsi "tuple") (dCons (dVar 1) (dCons (dC (.ty "tuple")) (dNil))))))) (dRet (dC (.bl false))) (dNext)) (dRet (dAndV (dOp rdEq (dCB rdLen (dCons (dVar 0) (dNil))) (dCB rdLen (dCons (dVar 1) (dNil)))) (dCB rdAll (dLc (diZ (dCons (dVar 0) (dCons (dVar 1) (dNil)))) (dgTup 2 (dgCons (dgName 2) (dgCons (dgName 3) dgNil))) (dYes) (dCall sp (dCons (dVar 2) (dCons (dVar 3) (dNil)))) [2, 3]))))) (dNext)) (dSeq (dIfS (dTest (dOp (rdIsN false) (dVar 1) (dC .non))) (dRet (dOp (rdIsN false) (dVar 0) (dC .non))) (dNext)) (dSeq (dIfS (dTest (dCB (rdIsi2 "bool" "str") (dCons (dVar 1) (dCons (dTup (dCons (dC (.ty "bool")) (dCons (dC (.ty "str")) (dNil)))) (dNil))))) (dRet (dAndV (dOp rdEq (dCB (rdIsi "bool") (dCons (dVar 0) (dCons (dC (.ty "bool")) (dNil)))) (dCB (rdIsi "bool") (dCons (dVar 1) (dCons (dC (.ty "bool")) (dNil))))) (dAndV (dOp rdEq (dCB (rdIsi "str") (dCons (dVar 0) (dCons (dC (.ty "str")) (dNil)))) (dCB (rdIsi "str") (dCons (dVar 1) (dCons (dC (.ty "str")) (dNil))))) (dOp rdEq (dVar 0) (dVar 1))))) (dNext)) (dRet (dAndV (dCB (rdIsi "int") (dCons (dVar 0) (dCons (dC (.ty "int")) (dNil)))) (dAndV (dNotV (dCB (rdIsi "bool") (dCons (dVar 0) (dCons (dC (.ty "bool")) (dNil))))) (dOp rdEq (dVar 0) (dVar 1)))))))

def t__law_went : DTS := dRet (dOp rdIx (dLst (dCons (dTup (dCons (dOp rdAdd (dOp rdIx (dVar 0) (dC (.int 0))) (dC (.int 1))) (dCons (dOp rdIx (dVar 0) (dC (.int 1))) (dCons (dC (.int 0)) (dNil))))) (dCons (dTup (dCons (dOp rdIx (dVar 0) (dC (.int 0))) (dCons (dOp rdAdd (dOp rdIx (dVar 0) (dC (.int 1))) (dC (.int 1))) (dCons (dC (.int 1)) (dNil))))) (dCons (dTup (dCons (dOp rdSub (dOp rdIx (dVar 0) (dC (.int 0))) (dC (.int 1))) (dCons (dOp rdIx (dVar 0) (dC (.int 1))) (dCons (dC (.int 2)) (dNil))))) (dCons (dTup (dCons (dOp rdIx (dVar 0) (dC (.int 0))) (dCons (dOp rdSub (dOp rdIx (dVar 0) (dC (.int 1))) (dC (.int 1))) (dCons (dC (.int 3)) (dNil))))) (dNil)))))) (dVar 1))

def t__law_turned : DTS := dRet (dOp rdMod (dOp rdAdd (dVar 0) (dIf (dTest (dOp rdEq (dVar 1) (dC (.str "l")))) (dC (.int 1)) (dC (.int 3)))) (dC (.int 4)))

def t__law_step : DTS := dSeq (dAsg (dSl (dVar 2) (dNoPart) (dPart (dC (.int 2)))) (dgName 3)) (dSeq (dAsg (dGet2 (dVar 1) (dVar 3) (dC (.int 0))) (dgName 4)) (dSeq (dPutI (dVar 1) (dVar 3) (dIf (dTest (dOp rdEq (dVar 4) (dOp rdSub (dCB rdLen (dCons (dVar 0) (dNil))) (dC (.int 1))))) (dC (.int 0)) (dOp rdAdd (dVar 4) (dC (.int 1))))) (dRet (dCall sp__law_went (dCons (dVar 3) (dCons (dCall sp__law_turned (dCons (dOp rdIx (dVar 2) (dC (.int 2))) (dCons (dOp rdIx (dVar 0) (dVar 4)) (dNil)))) (dNil)))))))

theorem pure__law_box : ∀ ds M k e, sp__law_box ds M k e → t__law_box (endsOf k) (fill 3 ds) M := by
  rintro ds M k e ⟨a, i, rfl, hM, h⟩
  refine ⟨_, seqOf_obj hM, ?_⟩
  refine ⟨_, _, seqOf_obj hM, rfl, _, rfl, ?_⟩
  refine ⟨⟨by decide, by decide, by decide⟩, ?_⟩
  refine ⟨.inr ?_, ?_⟩
  · show -(2 ^ 64 : Int) < (if decide ((10 : Int) ^ ((18 : Int)).toNat ≤ (if i < 0 then -i else i)) = true then (1 : Int) else 0) ∧ (if decide ((10 : Int) ^ ((18 : Int)).toNat ≤ (if i < 0 then -i else i)) = true then (1 : Int) else 0) < 2 ^ 64
    cases (decide ((10 : Int) ^ ((18 : Int)).toNat ≤ (if i < 0 then -i else i))) <;> decide
  refine ⟨by decide, .inl ⟨by decide, by decide⟩, le_line (by show 3 ≤ 1000000; decide), fun p hp => ?_⟩
  refine rt_of (h p _ _ hp ⟨?_, ?_, ?_, Int.le_refl 0, Int.le_refl 0⟩)
  · refine Int.mul_nonneg ?_ ?_
    · show 0 ≤ (if i < 0 then -i else i)
      split <;> omega
    · show 0 ≤ (if decide ((10 : Int) ^ ((18 : Int)).toNat ≤ (if i < 0 then -i else i)) = true then (1 : Int) else 0)
      cases (decide ((10 : Int) ^ ((18 : Int)).toNat ≤ (if i < 0 then -i else i))) <;> decide
  · have := Int.emod_nonneg i (show (2305843009213693951 : Int) ≠ 0 by decide)
    omega
  · have := Int.emod_lt_of_pos i (show (0 : Int) < 2305843009213693951 by decide)
    omega
theorem len__law_box : ∀ ds M k e, sp__law_box ds M k e → ds.length = 2 := by rintro ds M k e ⟨_, _, rfl, _⟩; rfl
theorem pure__law_take : ∀ ds M k e, sp__law_take ds M k e → t__law_take (endsOf k) (fill 6 ds) M := by
  rintro ds M k e ⟨t, b, x, y, z, n, rfl, hM, ⟨hx, hy, hy2, hz, hzn⟩, hn, ⟨hb, hb2⟩, h⟩
  have hb0 : 0 < b := by omega
  refine ⟨_, _, seqOf_obj hM, rfl, ?_⟩
  by_cases hx0 : 0 < x
  · refine if_tf (d := true) (decide_eq_true hx0) (iteT ?_)
    refine ⟨_, _, seqOf_obj hM, rfl, hb0, _, rfl, ?_⟩
    refine ⟨_, _, seqOf_obj hM, rfl, ⟨hb0, by omega⟩, ?_⟩
    refine ⟨_, 0, hM, rfl, ?_⟩
    exact rt_of (h (x % b) (x / b) y z (Int.emod_nonneg _ (by omega)) (Int.emod_lt_of_pos _ hb0) ⟨Int.ediv_nonneg hx (by omega), hy, hy2, hz, by omega⟩)
  · refine if_tf (d := false) (decide_eq_false hx0) (iteF ?_)
    refine ⟨_, _, seqOf_obj hM, rfl, ?_⟩
    refine ⟨_, 2, hM, rfl, ?_⟩
    have hM1 : put M t (.lst [.int x, .int y, .int (z + 1)]) t = some (.lst [.int x, .int y, .int (z + 1)]) := put_same
    refine ⟨_, _, seqOf_obj hM1, rfl, _, _, seqOf_obj hM1, rfl, ?_⟩
    refine ⟨.inl ⟨by decide, by decide⟩, ?_⟩
    refine ⟨_, _, seqOf_obj hM1, rfl, ?_⟩
    refine ⟨.inr ⟨by omega, by omega⟩, ?_⟩
    refine ⟨by decide, _, rfl, ?_⟩
    refine ⟨by decide, _, rfl, ?_⟩
    refine ⟨_, _, seqOf_obj hM1, rfl, _, _, seqOf_obj hM1, rfl, ⟨by decide, by decide⟩, ?_⟩
    generalize (y + 48271 * (z + 1)) * (39373 + (z + 1)) % 2147483647 = once
    have ho1 := Int.emod_nonneg once (show (40009 : Int) ≠ 0 by decide)
    have ho2 := Int.emod_lt_of_pos once (show (0 : Int) < 40009 by decide)
    refine ⟨.inr ⟨by omega, by omega⟩, ?_⟩
    refine ⟨by decide, _, rfl, ?_⟩
    refine ⟨.inr ⟨by decide, by decide⟩, ?_⟩
    refine ⟨by decide, ⟨by decide, by decide⟩, hb0, ?_⟩
    exact rt_of (h _ x y (z + 1) (Int.emod_nonneg _ (by omega)) (Int.emod_lt_of_pos _ hb0) ⟨hx, hy, hy2, by omega, by omega⟩)
theorem len__law_take : ∀ ds M k e, sp__law_take ds M k e → ds.length = 2 := by rintro ds M k e ⟨_, _, _, _, _, _, rfl, _⟩; rfl
theorem cutD_to (ds : List D) (j : Nat) : cutD ds none (some (j : Int)) = ds.take j := by
  unfold cutD
  rw [HT.sIx_none, HT.sIx_nat, List.drop_zero, Nat.sub_zero, List.take_eq_take_iff]
  omega
theorem cutD_len (ds : List D) (lo hi : Option Int) : (cutD ds lo hi).length ≤ ds.length := by
  unfold cutD
  rw [List.length_take, List.length_drop]; omega
theorem pure__law_cells : ∀ ds M k e, sp__law_cells ds M k e → t__law_cells (endsOf k) (fill 6 ds) M := by
  rintro ds M k e ⟨ns, rfl, hl, h⟩
  refine ⟨_, rfl, ?_⟩
  refine fun p hp => ⟨_, lstOf_obj put_same, ?_⟩
  have e1 : cutD (ns.map D.int) none (some 1) = (ns.map D.int).take 1 := cutD_to _ 1
  -- from here on: the list and the loop
  have go : ∀ (M1 : MH) (p : Addr) (j : Int), Sub M M1 → M p = none → M1 p = some (.lst [.int j]) → (dSeq (dFor (diEM (dSlL (dVar 0) (dPart (dVar 1)) (dPart (dC (.int 63))))) (dgTup 2 (dgCons (dgName 3) (dgCons (dgName 4) dgNil))) (dSeq (dAsg (dOp rdMod (dCB rdInt (dCons (dVar 3) (dNil))) (dVar 1)) (dgName 5)) (dSetL (dVar 2) (dVar 5) (dOp rdAdd (dOp rdIx (dVar 2) (dVar 5)) (dOp rdMul (dVar 4) (dOp rdAdd (dVar 3) (dC (.int 2)))))))) (dRet (dVar 2))) (endsOf k) [some (.scl (ns.map D.int)), some (.int 1), some (.obj p), none, none, none] M1 := by
    intro M1 p j s1 hp hM1
    refine ⟨_, rfl, ?_⟩
    refine ⟨fun i δ M' => ∃ x3 x4 x5 j, δ = [some (.scl (ns.map D.int)), some (.int 1), some (.obj p), x3, x4, x5] ∧ M' p = some (.lst [.int j]) ∧ Sub M M', ⟨none, none, none, j, rfl, hM1, s1⟩, ?_⟩
    rintro i δ M' hi ⟨x3, x4, x5, j, rfl, hM', s'⟩
    refine ⟨trivial, fun d hd => ?_, fun e => ?_⟩
    · obtain ⟨x, hx, rfl⟩ := en_get hd
      obtain ⟨v, rfl⟩ : ∃ v, x = .int v := by
        have hm := List.mem_of_getElem? hx
        have hm : x ∈ ns.map D.int := List.drop_subset _ _ (List.take_subset _ _ hm)
        obtain ⟨v, _, rfl⟩ := List.mem_map.mp hm
        exact ⟨v, rfl⟩
      have hi63 : i < 64 := by
        have h1 := (List.getElem?_eq_some_iff.mp hx).1
        have h2 := cutD_len (ns.map D.int) (some 1) (some 63)
        rw [List.length_map] at h2
        omega
      refine ⟨_, rfl, ?_⟩
      refine ⟨by decide, _, rfl, ?_⟩
      have e0 : ((i : Nat) : Int) % 1 = 0 := Int.emod_one _
      refine ⟨_, _, seqOf_obj hM', (by rw [e0]; rfl), ?_⟩
      refine ⟨.inr ⟨by omega, by omega⟩, ?_⟩
      refine ⟨_, 0, hM', (by show ixN 1 (((i : Nat) : Int) % 1) = some 0; rw [e0]; rfl), ?_⟩
      refine ⟨_, Sub.refl _, some (.int (i : Nat)), some (.int v), some (.int (((i : Nat) : Int) % 1)), _, rfl, put_same, ?_⟩
      intro b o hb
      have hne : b ≠ p := fun z => by rw [z, hp] at hb; cases hb
      rw [put_ne hne]
      exact s' b o hb
    · refine ⟨put M p (.lst [.int j]), ?_, h p j hp⟩
      intro b o hb
      by_cases hne : b = p
      · subst hne; rw [put_same] at hb; cases hb; exact hM'
      · rw [put_ne hne] at hb; exact s' b o hb
  rw [e1]
  cases ns with
  | nil =>
    refine iteT ⟨le_line (by show 1 ≤ 1000000; decide), fun q hq => ⟨_, rfl, ?_⟩⟩
    exact go _ q 0 ((sub_new hp).trans (sub_new hq)) ((sub_new hp).free hq) put_same
  | cons v ns => exact iteF ⟨_, rfl, go _ p v (sub_new hp) hp put_same⟩
theorem len__law_cells : ∀ ds M k e, sp__law_cells ds M k e → ds.length = 2 := by rintro ds M k e ⟨_, rfl, _⟩; rfl
theorem pure__law_of : ∀ ds M k e, sp__law_of ds M k e → t__law_of (endsOf k) (fill 2 ds) M := by
  rintro ds M k e ⟨t, g, x, y, z, n, gs, rfl, hM, hg, hne, hT, hn, h1, h2, h⟩
  refine ⟨_, seqOf_obj hg, ?_⟩
  refine ⟨t, _, x, y, z, n, rfl, hM, hT, hn, ⟨by omega, by omega⟩, fun v x' y' z' hv0 hv hT' => ?_⟩
  obtain ⟨j, rfl⟩ : ∃ j : Nat, v = j := ⟨v.toNat, by omega⟩
  have hj : j < gs.length := by omega
  refine ⟨_, gs[j], seqOf_obj (by rw [put_ne (Ne.symm hne)]; exact hg), by rw [at_nat _ hj, List.getElem?_eq_getElem hj], ?_⟩
  exact rt_of (h _ x' y' z' (List.getElem_mem hj) hT')
theorem len__law_of : ∀ ds M k e, sp__law_of ds M k e → ds.length = 2 := by rintro ds M k e ⟨_, _, _, _, _, _, _, rfl, _⟩; rfl
/-! same -/
theorem kits : (kitB "int" "list" = some false ∧ kitB "int" "tuple" = some false ∧ kitB "int" "bool" = some false ∧ kitB "int" "str" = some false ∧ kitB "int" "int" = some true) ∧
    (kitB "str" "list" = some false ∧ kitB "str" "tuple" = some false ∧ kitB "str" "bool" = some false ∧ kitB "str" "str" = some true) ∧
    (kitB "bool" "list" = some false ∧ kitB "bool" "tuple" = some false ∧ kitB "bool" "bool" = some true ∧ kitB "bool" "str" = some false) ∧
    (kitB "NoneType" "list" = some false ∧ kitB "NoneType" "tuple" = some false) ∧ (kitB "list" "list" = some true ∧ kitB "list" "tuple" = some false) := by decide +kernel
theorem kit_tu : kitB "tuple" "list" = some false ∧ kitB "tuple" "tuple" = some true := ⟨kit_tl, kit_tt⟩
theorem tyD_lst {M : MH} {a : Addr} {xs : List D} (h : M a = some (.lst xs)) : tyD M (.obj a) = some "list" := by
  show (match M a with | some (.lst _) => some "list" | _ => none) = some "list"
  rw [h]
theorem eq_self {α : Type} [DecidableEq α] (x : α) : xor false (decide (x = x)) = true := by simp
theorem two_le : 2 ≤ sizeLine := le_line (by decide)
theorem all_true {α : Type} (l : List α) : (l.map fun _ => true).all id = true := by simp
theorem pure__law_same (n : Nat) : ∀ ds M k e, sp_sameN (n + 1) ds M k e → t__law_same (sp_same0 n) (endsOf k) (fill 4 ds) M := by
  rintro ds M k e ⟨x, y, rfl, hs, h⟩
  obtain ⟨⟨i1, i2, i3, i4, i5⟩, ⟨s1, s2, s3, s4⟩, ⟨b1, b2, b3, b4⟩, ⟨n1, n2⟩, l1, l2⟩ := kits
  have pairs : ∀ (xs ys : List D), xs.length = ys.length → xs.length ≤ 1000000 → (∀ p ∈ xs.zip ys, SameD M n p.1 p.2) → ∀ d ∈ zpD xs ys, ∃ a b, d = .tup [a, b] ∧ SameD M n a b := by
    intro xs ys _ _ hp d hd
    unfold zpD at hd
    rw [← List.map_uncurry_zip_eq_zipWith] at hd
    obtain ⟨⟨a, b⟩, hab, rfl⟩ := List.mem_map.mp hd
    exact ⟨a, b, rfl, hp _ hab⟩
  have hn0 : ∀ a b, SameD M n a b → ∀ kk : DK, kk (.bl true) M → sp_same0 n [a, b] M kk noX := by
    intro a b hab kk hk
    cases n with
    | zero => exact hab.elim
    | succ n => exact ⟨a, b, rfl, hab, hk⟩
  rcases hs with ⟨i, rfl, rfl⟩ | ⟨s, rfl, rfl⟩ | ⟨b, rfl, rfl⟩ | ⟨rfl, rfl⟩ | ⟨a, b, xs, ys, rfl, rfl, ha, hb, hl, hz, hp⟩ | ⟨xs, ys, hx, hy, hl, hz, hp⟩
  · refine ⟨two_le, rfl, rfl, _, _, _, rfl, i1, i2, iteF ?_⟩
    refine ⟨two_le, rfl, rfl, _, _, _, rfl, i3, i4, iteF ?_⟩
    refine ⟨rfl, _, _, rfl, i5, iteT ⟨rfl, _, _, rfl, i3, iteT ?_⟩⟩
    show rtOf k (.bl (xor false (decide (i = i)))) M
    rw [eq_self]; exact rt_of h
  · refine ⟨two_le, rfl, rfl, _, _, _, rfl, s1, s2, iteF ?_⟩
    refine ⟨two_le, rfl, rfl, _, _, _, rfl, s3, s4, iteT ?_⟩
    refine ⟨rfl, _, _, rfl, s3, rfl, _, _, rfl, s3, ⟨rfl, _, _, rfl, s4, rfl, _, _, rfl, s4, ?_⟩⟩
    show rtOf k (.bl (xor false (decide (s = s)))) M
    rw [eq_self]; exact rt_of h
  · refine ⟨two_le, rfl, rfl, _, _, _, rfl, b1, b2, iteF ?_⟩
    refine ⟨two_le, rfl, rfl, _, _, _, rfl, b3, b4, iteT ?_⟩
    refine ⟨rfl, _, _, rfl, b3, rfl, _, _, rfl, b3, ⟨rfl, _, _, rfl, b4, rfl, _, _, rfl, b4, ?_⟩⟩
    show rtOf k (.bl (xor false (decide (b = b)))) M
    rw [eq_self]; exact rt_of h
  · refine ⟨two_le, rfl, rfl, _, _, _, rfl, n1, n2, iteF ?_⟩
    exact rt_of h
  · refine ⟨two_le, rfl, rfl, _, _, _, tyD_lst hb, l1, l2, iteT ?_⟩
    refine ⟨rfl, _, _, tyD_lst ha, l1, rfl, _, _, tyD_lst hb, l1, ?_⟩
    refine ⟨rfl, _, _, tyD_lst ha, l2, rfl, _, _, tyD_lst hb, l2, ?_⟩
    refine ⟨_, seqOf_obj ha, _, seqOf_obj hb, ?_⟩
    refine if_tf (d := true) (by rw [hl]; exact eq_self _) (iteT ?_)
    refine .inr ⟨xs, ys, lstOf_obj ha, lstOf_obj hb, ?_⟩
    refine lc_all (fun _ => .bl true) ⟨lstOf_obj ha, lstOf_obj hb⟩ (by unfold zpD; rw [List.length_zipWith]; omega) (fun d hd => ?_) ⟨(zpD xs ys).map fun _ => true, by rw [List.map_map]; rfl, ?_⟩
    · obtain ⟨a, b, rfl, hab⟩ := pairs xs ys hl hz hp d hd
      exact ⟨_, rfl, fun kk hk => hn0 a b hab _ hk⟩
    · rw [all_true]; exact rt_of h
  · refine ⟨two_le, rfl, rfl, _, _, _, tyD_tup hy, kit_tl, kit_tt, iteT ?_⟩
    refine ⟨rfl, _, _, tyD_tup hx, kit_tl, rfl, _, _, tyD_tup hy, kit_tl, ?_⟩
    refine ⟨rfl, _, _, tyD_tup hx, kit_tt, rfl, _, _, tyD_tup hy, kit_tt, ?_⟩
    refine (rdLen_tup hx (rdLen_tup hy ?_))
    refine if_tf (d := true) (by rw [hl]; exact eq_self _) (iteT ?_)
    refine .inl ⟨xs, ys, hx, hy, ?_⟩
    refine lc_all (fun _ => .bl true) trivial (by unfold zpD; rw [List.length_zipWith]; omega) (fun d hd => ?_) ⟨(zpD xs ys).map fun _ => true, by rw [List.map_map]; rfl, ?_⟩
    · obtain ⟨a, b, rfl, hab⟩ := pairs xs ys hl hz hp d hd
      exact ⟨_, rfl, fun kk hk => hn0 a b hab _ hk⟩
    · rw [all_true]; exact rt_of h
theorem len__law_same (n : Nat) : ∀ ds M k e, sp_sameN (n + 1) ds M k e → ds.length = 2 := by rintro ds M k e ⟨_, _, rfl, _⟩; rfl
/-! steps by the law -/
theorem goA_0 (c : Cell) : goA c 0 = ⟨(c.1 + 1, c.2), 0⟩ := by simp [goA, dirW]
theorem goA_1 (c : Cell) : goA c 1 = ⟨(c.1, c.2 + 1), 1⟩ := by simp [goA, dirW]
theorem goA_2 (c : Cell) : goA c 2 = ⟨(c.1 - 1, c.2), 2⟩ := by simp [goA, dirW, Int.sub_eq_add_neg]
theorem goA_3 (c : Cell) : goA c 3 = ⟨(c.1, c.2 - 1), 3⟩ := by simp [goA, dirW, Int.sub_eq_add_neg]
theorem pure__law_went : ∀ ds M k e, sp__law_went ds M k e → t__law_went (endsOf k) (fill 2 ds) M := by
  rintro ds M k e ⟨c, w, rfl, hw, h⟩
  have h3 : 3 ≤ sizeLine := le_line (by decide)
  refine ⟨_, _, rfl, rfl, _, _, rfl, rfl, h3, _, _, rfl, rfl, _, _, rfl, rfl, h3, _, _, rfl, rfl, _, _, rfl, rfl, h3, _, _, rfl, rfl, _, _, rfl, rfl, h3, le_line (by show 4 ≤ 1000000; decide), fun p hp => ?_⟩
  obtain rfl | rfl | rfl | rfl := way4 hw
  · exact ⟨_, _, seqOf_obj put_same, rfl, rt_put hp (by rw [goA_0] at h; exact h)⟩
  · exact ⟨_, _, seqOf_obj put_same, rfl, rt_put hp (by rw [goA_1] at h; exact h)⟩
  · exact ⟨_, _, seqOf_obj put_same, rfl, rt_put hp (by rw [goA_2] at h; exact h)⟩
  · exact ⟨_, _, seqOf_obj put_same, rfl, rt_put hp (by rw [goA_3] at h; exact h)⟩
theorem len__law_went : ∀ ds M k e, sp__law_went ds M k e → ds.length = 2 := by rintro ds M k e ⟨_, _, rfl, _⟩; rfl
theorem pure__law_turned : ∀ ds M k e, sp__law_turned ds M k e → t__law_turned (endsOf k) (fill 2 ds) M := by
  rintro ds M k e ⟨w, b, rfl, h⟩
  refine if_tf (d := b) (by rw [xor_false']; exact lS_l b) ?_
  cases b
  · exact iteF ⟨by decide, rt_of h⟩
  · exact iteT ⟨by decide, rt_of h⟩
theorem len__law_turned : ∀ ds M k e, sp__law_turned ds M k e → ds.length = 2 := by rintro ds M k e ⟨_, _, rfl, _⟩; rfl
theorem colAt_ok {r : List Bool} {l : List (Cell × Int)} (hr : RuleOk r) (h : ColsOk r l) (c : Cell) : 0 ≤ colAt l c ∧ colAt l c < (r.length : Int) := by
  unfold colAt getL
  cases q : l.find? fun p => decide (p.1 = c) with
  | none => have := hr.1; simp; omega
  | some p => exact h p (List.mem_of_find?_eq_some q)
theorem putL_mem {β : Type} {l : List (Cell × β)} {c : Cell} {v : β} {q : Cell × β} (h : q ∈ putL l c v) : q ∈ l ∨ q = (c, v) := by
  unfold putL at h
  split at h
  · obtain ⟨p, hp, e⟩ := List.mem_map.mp h
    by_cases hc : p.1 = c
    · rw [if_pos hc] at e; right; rw [← e, hc]
    · rw [if_neg hc] at e; left; rw [← e]; exact hp
  · rcases List.mem_append.mp h with h | h
    · exact .inl h
    · exact .inr (List.mem_singleton.mp h)
theorem stepL_ok {r : List Bool} {l : List (Cell × Int)} {a : Ant} (hr : RuleOk r) (h : ColsOk r l) : ColsOk r (stepL r l a) := by
  intro q hq
  rcases putL_mem hq with hq | rfl
  · exact h q hq
  · have h1 := hr.1
    exact ⟨Int.emod_nonneg _ (by omega), Int.emod_lt_of_pos _ (by omega)⟩
theorem stepA_ok {r : List Bool} {l : List (Cell × Int)} {a : Ant} : WayOk (stepA r l a) := stepB_ok
theorem int_getD (o : Option Int) : (o.map D.int).getD (.int 0) = .int (o.getD 0) := by cases o <;> rfl
theorem rule_atI {r : List Bool} {i : Int} (h : 0 ≤ i ∧ i < (r.length : Int)) : atI (eW r).cps.toList i = some (if rAtI r i then 108 else 114) := by
  obtain ⟨j, rfl⟩ : ∃ j : Nat, i = j := ⟨i.toNat, by omega⟩
  exact rule_at r (by omega)
theorem pure__law_step : ∀ ds M k e, sp__law_step ds M k e → t__law_step (endsOf k) (fill 5 ds) M := by
  rintro ds M k e ⟨r, d, l, a, rfl, hr, ha, hM, hc, hl, h⟩
  have hcol := colAt_ok hr hc a.c
  have hr2 := hr.2
  refine ⟨_, rfl, ?_⟩
  refine ⟨⟨_, hM, trivial⟩, _, getD_enc hM, _, rfl, ?_⟩
  rw [int_getD]
  have fin : ∀ v : Int, v = (colAt l a.c + 1) % (r.length : Int) → ∃ o o', M d = some o ∧ putMO (eC a.c) (.int v) o = some o' ∧ (dRet (dCall sp__law_went (dCons (dVar 3) (dCons (dCall sp__law_turned (dCons (dOp rdIx (dVar 2) (dC (.int 2))) (dCons (dOp rdIx (dVar 0) (dVar 4)) (dNil)))) (dNil))))) (endsOf k) [some (.str (eW r)), some (.obj d), some (eA a), some (eC a.c), some (.int (colAt l a.c))] (put M d o') := by
    rintro v rfl
    refine ⟨_, _, hM, putMO_enc (y := (colAt l a.c + 1) % (r.length : Int)) rfl (by omega), ?_⟩
    refine ⟨_, _, rfl, rfl, ?_⟩
    refine ⟨by rw [eW_length]; exact le_line (by omega), _, rule_atI hcol, ?_⟩
    refine ⟨a.w, rAtI r (colAt l a.c), rfl, ?_⟩
    exact ⟨_, _, rfl, turnW_ok, rt_of h⟩
  refine ⟨by rw [eW_length]; exact le_line (by omega), ?_⟩
  by_cases hd : colAt l a.c = (r.length : Int) - 1
  · refine if_tf (d := true) (by rw [xor_false', eW_length]; exact decide_eq_true hd) (iteT ?_)
    refine fin 0 ?_
    rw [hd]
    have : (r.length : Int) - 1 + 1 = r.length := by omega
    rw [this, Int.emod_self]
  · refine if_tf (d := false) (by rw [xor_false', eW_length]; exact decide_eq_false hd) (iteF ?_)
    refine fin (colAt l a.c + 1) ?_
    rw [Int.emod_eq_of_lt (by omega) (by omega)]
theorem len__law_step : ∀ ds M k e, sp__law_step ds M k e → ds.length = 3 := by rintro ds M k e ⟨_, _, _, _, rfl, _⟩; rfl
end DL
/-! Readings (printed by run.py) and their proofs. -/
namespace DL
open PySem PySem.Spec PyProof.Rows L2
def t__law_lived : DTS := dSeq (dPar3 3 4 5 (dCons (dCB rdDictTT (dCons (dOp rdIx (dVar 1) (dC (.int 0))) (dNil))) (dCons (dOp rdIx (dVar 1) (dC (.int 1))) (dCons (dC (.str "")) (dNil))))) (dSeq (dAsg (dLst (dCons (dVar 4) (dNil))) (dgName 6)) (dSeq (dFor (diR1 (dCons (dVar 2) (dNil))) (dgName 7) (dSeq (dAsg (dOp rdAdd (dVar 5) (dOp rdIx (dVar 0) (dGet2 (dVar 3) (dSl (dVar 4) (dNoPart) (dPart (dC (.int 2)))) (dC (.int 0))))) (dgName 5)) (dSeq (dAsg (dCall sp__law_step (dCons (dVar 0) (dCons (dVar 3) (dCons (dVar 4) (dNil))))) (dgName 4)) (dDrop (dAppend (dVar 6) (dVar 4)))))) (dRet (dTup (dCons (dVar 5) (dCons (dVar 6) (dCons (dVar 3) (dNil))))))))

def t__law_walk : DTS := dSeq (dAsg (dLst (dNil)) (dgName 2)) (dSeq (dFor (diS (dVar 1)) (dgName 3) (dSeq (dDrop (dAppend (dVar 2) (dSl (dVar 0) (dNoPart) (dPart (dC (.int 2)))))) (dAsg (dCall sp__law_went (dCons (dSl (dVar 0) (dNoPart) (dPart (dC (.int 2)))) (dCons (dCall sp__law_turned (dCons (dOp rdIx (dVar 0) (dC (.int 2))) (dCons (dVar 3) (dNil)))) (dNil)))) (dgName 0)))) (dRet (dTup (dCons (dVar 2) (dCons (dVar 0) (dNil))))))

def t__law_rule : DTS := dSeq (dAsg (dJoin (dC (.str "")) (dLc (diR1 (dCons (dOp rdAdd (dC (.int 2)) (dCall sp__law_take (dCons (dVar 0) (dCons (dOp rdSub (dVar 1) (dC (.int 1))) (dNil))))) (dNil))) (dgName 3) (dYes) (dCall sp__law_of (dCons (dVar 0) (dCons (dLst (dCons (dC (.str "l")) (dCons (dC (.str "r")) (dNil)))) (dNil)))) [3])) (dgName 2)) (dSeq (dIfS (dOr (dAnd (dTest (dOp (rdInS false) (dC (.str "l")) (dVar 2))) (dTest (dOp (rdInS false) (dC (.str "r")) (dVar 2)))) (dTest (dOp rdEq (dCall sp__law_take (dCons (dVar 0) (dCons (dC (.int 8)) (dNil)))) (dC (.int 0))))) (dRet (dVar 2)) (dNext)) (dSeq (dAsg (dCall sp__law_take (dCons (dVar 0) (dCons (dCB rdLen (dCons (dVar 2) (dNil))) (dNil)))) (dgName 3)) (dRet (dOp rdAdd (dOp rdAdd (dSl (dVar 2) (dNoPart) (dPart (dVar 3))) (dIf (dTest (dOp rdEq (dOp rdIx (dVar 2) (dVar 3)) (dC (.str "l")))) (dC (.str "r")) (dC (.str "l")))) (dSl (dVar 2) (dPart (dOp rdAdd (dVar 3) (dC (.int 1)))) (dNoPart))))))

def stI (r : List Bool) : Nat → List (Cell × Int) × Ant → List (Cell × Int) × Ant
  | 0, s => s
  | i + 1, s => (stepL r (stI r i s).1 (stI r i s).2, stepA r (stI r i s).1 (stI r i s).2)
theorem stI_shift (r : List Bool) (s : List (Cell × Int) × Ant) : ∀ i, stI r (i + 1) s = stI r i (stepL r s.1 s.2, stepA r s.1 s.2)
  | 0 => rfl
  | i + 1 => by
    show (stepL r (stI r (i + 1) s).1 (stI r (i + 1) s).2, stepA r (stI r (i + 1) s).1 (stI r (i + 1) s).2) = _
    rw [stI_shift r s i]; rfl
theorem liveL_snoc (r : List Bool) : ∀ (i : Nat) (l : List (Cell × Int)) (a : Ant), liveL r (i + 1) l a = liveL r i l a ++ [rAtI r (colAt (stI r i (l, a)).1 (stI r i (l, a)).2.c)]
  | 0, l, a => rfl
  | i + 1, l, a => by
    show rAtI r (colAt l a.c) :: liveL r (i + 1) (stepL r l a) (stepA r l a) = rAtI r (colAt l a.c) :: (liveL r i (stepL r l a) (stepA r l a) ++ _)
    rw [liveL_snoc r i, stI_shift r (l, a) i]
theorem liveL_length (r : List Bool) : ∀ (i : Nat) (l : List (Cell × Int)) (a : Ant), (liveL r i l a).length = i
  | 0, _, _ => rfl
  | i + 1, l, a => by
    show (liveL r i _ _).length + 1 = i + 1
    rw [liveL_length]
theorem stI_ok {r : List Bool} {s : List (Cell × Int) × Ant} (hr : RuleOk r) (h1 : ColsOk r s.1) (h2 : WayOk s.2) : ∀ i, ColsOk r (stI r i s).1 ∧ WayOk (stI r i s).2 ∧ (stI r i s).1.length ≤ s.1.length + i
  | 0 => ⟨h1, h2, Nat.le_refl _⟩
  | i + 1 => by
    obtain ⟨a, b, c⟩ := stI_ok hr h1 h2 i
    refine ⟨stepL_ok hr a, stepA_ok, ?_⟩
    have := putL_length (stI r i s).1 (stI r i s).2.c ((colAt (stI r i s).1 (stI r i s).2.c + 1) % (r.length : Int))
    show (putL _ _ _).length ≤ _
    omega
theorem merge_ok {r : List Bool} : ∀ (f acc : List (Cell × Int)), ColsOk r f → ColsOk r acc → ColsOk r (f.foldl (fun l p => putL l p.1 p.2) acc) ∧ (f.foldl (fun l p => putL l p.1 p.2) acc).length ≤ acc.length + f.length
  | [], acc, _, h => ⟨h, Nat.le_refl _⟩
  | p :: f, acc, hf, h => by
    have hp : ColsOk r (putL acc p.1 p.2) := fun q hq => by
      rcases putL_mem hq with hq | rfl
      · exact h q hq
      · exact hf p List.mem_cons_self
    obtain ⟨h1, h2⟩ := merge_ok f (putL acc p.1 p.2) (fun q hq => hf q (List.mem_cons_of_mem _ hq)) hp
    have := putL_length acc p.1 p.2
    refine ⟨h1, ?_⟩
    rw [List.foldl_cons, List.length_cons]
    omega
theorem pure__law_lived : ∀ ds M k e, sp__law_lived ds M k e → t__law_lived (endsOf k) (fill 8 ds) M := by
  rintro ds M k e ⟨r, f, a, n, rfl, hr, ha, hf, hfl, hn, h⟩
  obtain ⟨hm1, hm2⟩ := merge_ok (r := r) f [] hf (fun q hq => by cases hq)
  have hm1 : ColsOk r (mergeL f) := hm1
  have hm2 : (mergeL f).length ≤ f.length := by simp only [List.length_nil, Nat.zero_add] at hm2; exact hm2
  refine ⟨_, _, rfl, rfl, encT D.int f, pairsD_pr f, fun p hp => ?_⟩
  refine ⟨_, _, rfl, rfl, ?_⟩
  refine ⟨le_line (by show 1 ≤ 1000000; decide), fun q hq => ⟨_, rfl, ?_⟩⟩
  have hpq : p ≠ q := ne_of_free put_same hq
  rw [mergeD_enc]
  refine ⟨⟨by omega, by omega⟩, ?_⟩
  have hrg : (rgD 0 ((n : Int)).toNat).length = n := by rw [rgD_length]; omega
  refine ⟨fun i δ M' => ∃ x7 ds, δ = [some (.str (eW r)), some (.tup [eF f, eA a]), some (.int n), some (.obj p), some (eA (stI r i (mergeL f, a)).2), some (.str (eW (liveL r i (mergeL f) a))), some (.obj q), x7] ∧
      M' = put (put M p (.dT (encT D.int (stI r i (mergeL f, a)).1))) q (.lst ds) ∧ ds.length = i + 1, ⟨none, [eA a], ?_, rfl, rfl⟩, ?_⟩
  · show _ = [some (.str (eW r)), some (.tup [eF f, eA a]), some (.int n), some (.obj p), some (eA a), some (.str (eW [])), some (.obj q), none]
    rw [eW_nil]; rfl
  rintro i δ M' hi ⟨x7, ds, rfl, rfl, hds⟩
  rw [hrg] at hi
  obtain ⟨c1, c2, c3⟩ := stI_ok (s := (mergeL f, a)) hr hm1 ha i
  have c3 : (stI r i (mergeL f, a)).1.length ≤ (mergeL f).length + i := c3
  refine ⟨trivial, fun d hd => ?_, fun e => ?_⟩
  · have hlt : i < n := by
      have := (List.getElem?_eq_some_iff.mp hd).1
      omega
    have hr2 := hr.2
    have hM : put (put M p (.dT (encT D.int (stI r i (mergeL f, a)).1))) q (.lst ds) p = some (.dT (encT D.int (stI r i (mergeL f, a)).1)) := by rw [put_ne hpq]; exact put_same
    refine ⟨_, rfl, ?_⟩
    refine ⟨⟨_, hM, trivial⟩, _, getD_enc hM, ?_⟩
    rw [int_getD]
    refine ⟨by rw [eW_length]; exact le_line (by omega), _, rule_atI (colAt_ok hr c1 _), ?_⟩
    refine ⟨by rw [eW_length, liveL_length]; show i + (lS _).length ≤ _; rw [show ∀ b, (lS b).length = 1 from fun b => rfl]; exact le_line (by omega), _, rfl, ?_⟩
    refine ⟨r, p, (stI r i (mergeL f, a)).1, (stI r i (mergeL f, a)).2, rfl, hr, c2, hM, c1, by omega, ?_⟩
    refine ⟨_, rfl, ?_⟩
    rw [put3 hpq]
    refine ⟨_, put_same, _, put_same, lt_line (by omega), ?_⟩
    rw [put_put]
    refine ⟨_, Sub.refl _, some d, _, ?_, rfl, by rw [List.length_append, hds]; rfl⟩
    rw [liveL_snoc, ← eW_append]
    rfl
  · rw [hrg] at e
    subst e
    refine ⟨le_line (by show 3 ≤ 1000000; decide), M, (sub_new hp).trans (sub_new ?_), h _ _⟩
    rw [put_ne (Ne.symm hpq)] at hq ⊢
    exact hq
theorem len__law_lived : ∀ ds M k e, sp__law_lived ds M k e → ds.length = 3 := by rintro ds M k e ⟨_, _, _, _, rfl, _⟩; rfl
theorem pure__law_walk : ∀ ds M k e, sp__law_walk ds M k e → t__law_walk (endsOf k) (fill 4 ds) M := by
  rintro ds M k e ⟨a, w, rfl, hw, hl, h⟩
  refine ⟨le_line (by show 0 ≤ 1000000; decide), fun p hp => ⟨_, rfl, ?_⟩⟩
  refine ⟨fun i δ M' => ∃ x, δ = [some (eA (endA a (w.take i))), some (.str (eW w)), some (.obj p), x] ∧ M' = put M p (.lst ((walkC a (w.take i)).map eC)), ⟨none, rfl, rfl⟩, ?_⟩
  rintro i δ M' hi ⟨x, rfl, rfl⟩
  refine ⟨trivial, fun d' hd' => ?_, fun e => ?_⟩
  · obtain ⟨b, hb, rfl⟩ := sg_get hd'
    refine ⟨_, rfl, ?_⟩
    refine ⟨_, put_same, ?_⟩
    refine ⟨_, put_same, lt_line (by rw [List.length_map, walkC_length, List.length_take]; omega), ?_⟩
    refine ⟨_, _, rfl, rfl, ?_⟩
    refine ⟨_, b, rfl, ?_⟩
    refine ⟨_, _, rfl, turnW_ok, ?_⟩
    refine ⟨_, rfl, _, Sub.refl _, some (.str (lS b)), ?_, ?_⟩
    · show [some (eA (stepB (endA a (w.take i)) b)), some (.str (eW w)), some (.obj p), some (.str (lS b))] = _
      rw [take_snoc hb, endA_snoc]
    · rw [put_put, take_snoc hb, walkC_snoc, List.map_append]; rfl
  · have e : i = w.length := by rw [sgD_len] at e; exact e
    subst e
    rw [List.take_length]
    exact ⟨two_le, rt_of (h p hp)⟩
theorem len__law_walk : ∀ ds M k e, sp__law_walk ds M k e → ds.length = 2 := by rintro ds M k e ⟨_, _, rfl, _⟩; rfl
/-! the law's rules -/
theorem TinV.mono {x y z n m : Int} (h : TinV x y z n) (hm : n ≤ m) : TinV x y z m := ⟨h.1, h.2.1, h.2.2.1, h.2.2.2.1, by have := h.2.2.2.2; omega⟩
theorem strJoin : ∀ w : List Bool, Str.join "" (w.map lS) = eW w
  | [] => by rw [eW_nil]; rfl
  | [b] => rfl
  | b :: c :: w => by
    show lS b ++ "" ++ Str.join "" ((c :: w).map lS) = _
    rw [strJoin (c :: w), ← eW_nil]
    show eW [b] ++ eW [] ++ eW (c :: w) = _
    rw [eW_append, eW_append]; rfl
theorem join_lS (w : List Bool) : Txt.join "" (w.map lS) = eW w := by rw [TL.join_eq]; exact strJoin w
theorem cutS_to (w : List Bool) (j : Nat) : cutS (eW w) none (some (j : Int)) = eW (w.take j) := by
  unfold cutS
  rw [HT.sIx_none, HT.sIx_nat, List.drop_zero, Nat.sub_zero, eW_cps, eW_length]
  show _ = Str.mk _
  congr 2
  rw [← List.map_take]
  congr 1
  rw [List.take_eq_take_iff]; omega
theorem cutS_from (w : List Bool) (j : Nat) : cutS (eW w) (some ((j : Int) + 1)) none = eW (w.drop (j + 1)) := by
  have e : (j : Int) + 1 = ((j + 1 : Nat) : Int) := by omega
  unfold cutS
  rw [e, HT.sIx_none, HT.sIx_nat, eW_cps, eW_length]
  show _ = Str.mk _
  congr 2
  rw [← List.map_drop, ← List.map_take]
  congr 1
  by_cases h : j + 1 ≤ w.length
  · rw [Nat.min_eq_left h, List.take_of_length_le (by rw [List.length_drop]; omega)]
  · rw [Nat.min_eq_right (by omega), Nat.sub_self, List.take_zero, List.drop_eq_nil_of_le (by omega)]
theorem if_any {c : Bool} {p q : Prop} (hp : p) (hq : q) : if c = true then p else q := by split <;> assumption
theorem sum_lS (w : List Bool) : ((w.map lS).map fun s => s.length).sum = w.length := by
  induction w with
  | nil => rfl
  | cons b w ih =>
    rw [List.map_cons, List.map_cons, List.sum_cons, ih, List.length_cons]
    show 1 + _ = _
    omega
theorem l_lS : ("l" : Str) = lS true := by decide
theorem r_lS : ("r" : Str) = lS false := by decide
theorem pure__law_rule : ∀ ds M k e, sp__law_rule ds M k e → t__law_rule (endsOf k) (fill 4 ds) M := by
  rintro ds M k e ⟨t, x, y, z, n, long, rfl, hM, hT, hn, ⟨hl1, hl2⟩, h⟩
  refine ⟨t, _, x, y, z, n, rfl, hM, hT, by omega, ⟨by omega, by omega⟩, fun v x y z hv0 hv hT => ?_⟩
  refine ⟨⟨by omega, by omega⟩, ?_⟩
  have hrg : (rgD 0 (2 + v).toNat).length = (2 + v).toNat := rgD_length _ _
  refine ⟨fun i acc M' => ∃ w x y z, w.length = i ∧ acc = w.map (fun b => D.str (lS b)) ∧ M' = put M t (tinL x y z) ∧ TinV x y z (n + 1 + i), ⟨[], x, y, z, rfl, rfl, rfl, hT.mono (by omega)⟩, ?_⟩
  rintro i acc M' hi hacc ⟨w, x, y, z, hw, rfl, rfl, hT⟩
  rw [hrg] at hi
  refine ⟨trivial, fun d hd => ?_, fun e => ?_⟩
  · refine ⟨_, rfl, ?_⟩
    refine ⟨two_le, fun g hg => ?_⟩
    have htg : t ≠ g := ne_of_free put_same hg
    refine ⟨t, g, x, y, z, n + 1 + i, _, rfl, (by rw [put_ne htg]; exact put_same), put_same, htg, hT, by omega, by show 1 ≤ 2; decide, by show 2 ≤ 1000; decide, fun d x y z hd hT => ?_⟩
    refine ⟨lt_line (by rw [List.length_map]; omega), put M t (tinL x y z), ?_, ?_⟩
    · rw [put3 htg]
      exact sub_new (by rw [put_ne (Ne.symm htg)] at hg ⊢; exact hg)
    · obtain ⟨b, rfl⟩ : ∃ b, d = .str (lS b) := by
        rcases List.mem_cons.mp hd with rfl | hd
        · exact ⟨true, by rw [l_lS]⟩
        · rcases List.mem_cons.mp hd with rfl | hd
          · exact ⟨false, by rw [r_lS]⟩
          · cases hd
      exact ⟨w ++ [b], x, y, z, by rw [List.length_append, hw]; rfl, by rw [List.map_append]; rfl, rfl, hT.mono (by omega)⟩
  · rw [hrg] at e
    have hwl : (w.length : Int) ≤ long := by omega
    have hw2 : 2 ≤ w.length := by omega
    have hw12 : w.length ≤ 12 := by omega
    refine ⟨w.map lS, by rw [List.map_map]; rfl, ?_, ?_⟩
    · rw [sum_lS, List.length_map]
      show _ + w.length * 0 ≤ _
      omega
    rw [join_lS]
    refine ⟨_, rfl, ?_⟩
    have hlen : (eW w).length ≤ sizeLine := by rw [eW_length]; exact le_line (by omega)
    have fin : ∀ x y z m, TinV x y z m → m ≤ n + 20 → rtOf k (.str (eW w)) (put M t (tinL x y z)) := fun x y z m hT hm => rt_of (h w x y z ⟨hw2, hw12⟩ hwl (hT.mono hm))
    have rest : ∀ x y z m, TinV x y z m → m ≤ n + 18 → (dSeq (dAsg (dCall sp__law_take (dCons (dVar 0) (dCons (dCB rdLen (dCons (dVar 2) (dNil))) (dNil)))) (dgName 3)) (dRet (dOp rdAdd (dOp rdAdd (dSl (dVar 2) (dNoPart) (dPart (dVar 3))) (dIf (dTest (dOp rdEq (dOp rdIx (dVar 2) (dVar 3)) (dC (.str "l")))) (dC (.str "r")) (dC (.str "l")))) (dSl (dVar 2) (dPart (dOp rdAdd (dVar 3) (dC (.int 1)))) (dNoPart))))) (endsOf k) [some (.obj t), some (.int long), some (.str (eW w)), none] (put M t (tinL x y z)) := by
      intro x y z m hT hm
      refine ⟨hlen, t, _, x, y, z, m, rfl, put_same, hT, by omega, ⟨by rw [eW_length]; omega, by rw [eW_length]; omega⟩, fun v x y z hv0 hv hT => ?_⟩
      rw [put_put]
      rw [eW_length] at hv
      obtain ⟨j, rfl⟩ : ∃ j : Nat, v = j := ⟨v.toNat, by omega⟩
      refine ⟨_, rfl, ?_⟩
      refine ⟨hlen, ?_⟩
      rw [cutS_to]
      refine ⟨hlen, _, rule_at w (by omega), ?_⟩
      have tl : (eW (w.take j)).length ≤ 12 := by rw [eW_length, List.length_take]; omega
      have dl : (eW (w.drop (j + 1))).length ≤ 12 := by rw [eW_length, List.length_drop]; omega
      have fin2 : ∀ b : Bool, (dSl (dVar 2) (dPart (dOp rdAdd (dVar 3) (dC (.int 1)))) dNoPart) [some (.obj t), some (.int long), some (.str (eW w)), some (.int j)] (put M t (tinL x y z)) fun y' M2 => rdAdd (.str (eW (w.take j) ++ lS b)) y' M2 (rtOf k) := by
        intro b
        refine ⟨hlen, ?_⟩
        rw [cutS_from]
        have e1 : eW (w.take j) ++ lS b = eW (w.take j ++ [b]) := eW_append _ [b]
        rw [e1]
        refine ⟨le_line (by rw [eW_length, eW_length, List.length_append, List.length_take, List.length_drop]; show _ + 1 + _ ≤ _; omega), ?_⟩
        rw [eW_append]
        have e2 : ((w.take j ++ [b]) ++ w.drop (j + 1)).length = w.length := by
          rw [List.length_append, List.length_append, List.length_take, List.length_drop]; show _ + 1 + _ = _; omega
        exact rt_of (h _ x y z (by unfold RuleOk; rw [e2]; exact ⟨hw2, hw12⟩) (by rw [e2]; exact hwl) (hT.mono (by omega)))
      refine if_tf (d := rAt w j) (by rw [xor_false']; exact lS_l _) ?_
      cases rAt w j
      · refine iteF ⟨le_line (by show _ + 1 ≤ _; omega), ?_⟩
        have := fin2 true
        rw [← l_lS] at this
        exact this
      · refine iteT ⟨le_line (by show _ + 1 ≤ _; omega), ?_⟩
        have := fin2 false
        rw [← r_lS] at this
        exact this
    have half : (dTest (dOp rdEq (dCall sp__law_take (dCons (dVar 0) (dCons (dC (.int 8)) (dNil)))) (dC (.int 0)))) [some (.obj t), some (.int long), some (.str (eW w)), none] (put M t (tinL x y z)) fun b M1 => if b = true then (dRet (dVar 2)) { endsOf k with nx := (dSeq (dAsg (dCall sp__law_take (dCons (dVar 0) (dCons (dCB rdLen (dCons (dVar 2) (dNil))) (dNil)))) (dgName 3)) (dRet (dOp rdAdd (dOp rdAdd (dSl (dVar 2) (dNoPart) (dPart (dVar 3))) (dIf (dTest (dOp rdEq (dOp rdIx (dVar 2) (dVar 3)) (dC (.str "l")))) (dC (.str "r")) (dC (.str "l")))) (dSl (dVar 2) (dPart (dOp rdAdd (dVar 3) (dC (.int 1)))) (dNoPart))))) (endsOf k) } [some (.obj t), some (.int long), some (.str (eW w)), none] M1 else dNext { endsOf k with nx := (dSeq (dAsg (dCall sp__law_take (dCons (dVar 0) (dCons (dCB rdLen (dCons (dVar 2) (dNil))) (dNil)))) (dgName 3)) (dRet (dOp rdAdd (dOp rdAdd (dSl (dVar 2) (dNoPart) (dPart (dVar 3))) (dIf (dTest (dOp rdEq (dOp rdIx (dVar 2) (dVar 3)) (dC (.str "l")))) (dC (.str "r")) (dC (.str "l")))) (dSl (dVar 2) (dPart (dOp rdAdd (dVar 3) (dC (.int 1)))) (dNoPart))))) (endsOf k) } [some (.obj t), some (.int long), some (.str (eW w)), none] M1 := by
      refine ⟨t, _, x, y, z, _, rfl, put_same, hT, by omega, ⟨by decide, by decide⟩, fun v x y z hv0 hv hT => ?_⟩
      rw [put_put]
      exact if_any (fin x y z _ hT (by omega)) (rest x y z _ hT (by omega))
    refine ⟨108, by decide, ?_⟩
    refine if_any ⟨114, by decide, ?_⟩ (iteF half)
    cases (xor false (decide (114 ∈ (eW w).cps.toList))) with
    | true => exact iteT (fin x y z _ hT (by omega))
    | false => exact iteF half
theorem len__law_rule : ∀ ds M k e, sp__law_rule ds M k e → ds.length = 2 := by rintro ds M k e ⟨_, _, _, _, _, _, rfl, _⟩; rfl
end DL
/-! Words and their floors: the plain law. -/
namespace DL
open PySem PySem.Spec PyProof.Rows L2
/-! ### factors -/
theorem filter_split {α : Type} (f : α → Bool) : ∀ l : List α, (l.filter fun g => f g == true).length + (l.filter fun g => f g == false).length = l.length
  | [] => rfl
  | x :: l => by
    have ih := filter_split f l
    rw [List.filter_cons, List.filter_cons]
    cases f x
    · simp; simp at ih; omega
    · simp; simp at ih; omega
theorem fits_split (r t : List Bool) : (fits r (t ++ [true])).length + (fits r (t ++ [false])).length = (fits r t).length := by
  rw [fits_snoc, fits_snoc]
  exact filter_split (fun g => rAt r ((g + t.length) % r.length)) _
def prodF (r : List Bool) (l : List (Cell × List Bool)) : Nat := mulL (l.map fun p => (fits r p.2).length)
theorem countF_prod (r : List Bool) (a : Ant) (w : List Bool) : countF r a w = prodF r (rows a w) := by
  unfold countF startsL prodF
  rw [List.map_map]; rfl
section
variable {β : Type}
theorem getL_none {l : List (Cell × β)} {c : Cell} : getL l c = none ↔ c ∉ l.map (·.1) := by
  unfold getL
  rw [Option.map_eq_none_iff, List.find?_eq_none]
  constructor
  · intro h hc
    obtain ⟨p, hp, e⟩ := List.mem_map.mp hc
    exact h p hp (decide_eq_true e)
  · intro h p hp e
    exact h (List.mem_map.mpr ⟨p, hp, of_decide_eq_true e⟩)
theorem any_getL {l : List (Cell × β)} {c : Cell} : (l.any fun p => decide (p.1 = c)) = (getL l c).isSome := by
  cases q : getL l c with
  | none =>
    have h := getL_none.mp q
    cases hh : l.any fun p => decide (p.1 = c) with
    | false => rfl
    | true =>
      obtain ⟨p, hp, e⟩ := List.any_eq_true.mp hh
      exact absurd (List.mem_map.mpr ⟨p, hp, of_decide_eq_true e⟩) h
  | some v =>
    unfold getL at q
    obtain ⟨p, hp, _⟩ := Option.map_eq_some_iff.mp q
    exact List.any_eq_true.mpr ⟨p, List.mem_of_find?_eq_some hp, by have := List.find?_some hp; exact this⟩
end
theorem prod_new {r : List Bool} {l : List (Cell × List Bool)} {c : Cell} {v : List Bool} (h : getL l c = none) : prodF r (putL l c v) = prodF r l * (fits r v).length := by
  unfold putL
  rw [any_getL, h, if_neg (by simp)]
  unfold prodF
  rw [List.map_append, List.map_singleton, mulL_snoc]
theorem prod_old {r : List Bool} {c : Cell} {t : List Bool} : ∀ {l : List (Cell × List Bool)}, (l.map (·.1)).Nodup → getL l c = some t → ∃ P, prodF r l = P * (fits r t).length ∧ ∀ v, prodF r (putL l c v) = P * (fits r v).length
  | [], _, h => by cases h
  | p :: l, hn, h => by
    rw [List.map_cons, List.nodup_cons] at hn
    by_cases hp : p.1 = c
    · have et : p.2 = t := by
        unfold getL at h
        rw [List.find?_cons] at h
        simp [hp] at h
        exact h
      refine ⟨prodF r l, by unfold prodF; rw [List.map_cons, et]; exact Nat.mul_comm _ _, fun v => ?_⟩
      have hmap : l.map (fun p => if p.1 = c then (p.1, v) else p) = l := by
        rw [List.map_congr_left (g := id), List.map_id]
        intro q hq
        have : q.1 ≠ c := fun z => hn.1 (by rw [hp, ← z]; exact List.mem_map.mpr ⟨q, hq, rfl⟩)
        show (if q.1 = c then (q.1, v) else q) = q
        rw [if_neg this]
      unfold putL
      rw [List.any_cons]
      simp only [hp, decide_true, Bool.true_or, if_true]
      rw [List.map_cons, hmap]
      unfold prodF
      simp only [hp, if_true, List.map_cons]
      exact Nat.mul_comm _ _
    · have h' : getL l c = some t := by
        unfold getL at h ⊢
        rw [List.find?_cons] at h
        simpa [hp] using h
      obtain ⟨P, h1, h2⟩ := prod_old hn.2 h'
      refine ⟨(fits r p.2).length * P, ?_, fun v => ?_⟩
      · show (fits r p.2).length * prodF r l = _
        rw [h1, Nat.mul_assoc]
      · have e : putL (p :: l) c v = p :: putL l c v := by
          unfold putL
          rw [List.any_cons]
          simp only [hp, decide_false, Bool.false_or]
          split
          · rw [List.map_cons]; simp [hp]
          · rfl
        rw [e]
        show (fits r p.2).length * prodF r (putL l c v) = _
        rw [h2 v, Nat.mul_assoc]
def isNew (a : Ant) (w : List Bool) : Bool := (getL (rows a w) (endA a w).c).isNone
theorem count_step (r : List Bool) (a : Ant) (w : List Bool) : countF r a (w ++ [true]) + countF r a (w ++ [false]) = countF r a w * (if isNew a w = true then r.length else 1) := by
  rw [countF_prod, countF_prod, countF_prod, rows_snoc, rows_snoc]
  unfold rowPut isNew
  cases q : getL (rows a w) (endA a w).c with
  | none =>
    rw [prod_new q, prod_new q, ← Nat.mul_add]
    show _ * ((fits r ([] ++ [true])).length + (fits r ([] ++ [false])).length) = _
    rw [fits_split, fits_nil, List.length_range]; rfl
  | some t =>
    obtain ⟨P, h1, h2⟩ := prod_old (r := r) (rows_nodup a w) q
    rw [h2, h2, h1, ← Nat.mul_add]
    show P * ((fits r (t ++ [true])).length + (fits r (t ++ [false])).length) = _
    rw [fits_split]
    show _ = P * (fits r t).length * 1
    rw [Nat.mul_one]
theorem putL_len {β : Type} {l : List (Cell × β)} {c : Cell} {v : β} : (putL l c v).length = l.length + (if (getL l c).isNone = true then 1 else 0) := by
  unfold putL
  rw [any_getL]
  cases getL l c <;> simp
theorem starts_step (r : List Bool) (a : Ant) (w : List Bool) (b : Bool) : (startsL r a (w ++ [b])).length = (startsL r a w).length + (if isNew a w = true then 1 else 0) := by
  rw [starts_length, starts_length, rows_snoc]
  exact putL_len
theorem rows_key (a : Ant) (w : List Bool) : ∀ c, c ∈ (rows a w).map (·.1) ↔ c ∈ walkC a w := by
  refine snoc_ind (P := fun w => ∀ c, c ∈ (rows a w).map (·.1) ↔ c ∈ walkC a w) (fun c => Iff.rfl) (fun w b ih c => ?_) w
  rw [rows_snoc, walkC_snoc]
  unfold rowPut
  rw [putL_keys, any_getL]
  have hi := ih c
  by_cases hc : c = (endA a w).c
  · subst hc
    cases q : getL (rows a w) (endA a w).c with
    | none => simp
    | some t =>
      simp only [Option.isSome_some, if_true]
      have hm : (endA a w).c ∈ (rows a w).map (·.1) := by
        apply Classical.byContradiction
        intro z
        rw [getL_none.mpr z] at q; cases q
      exact ⟨fun _ => List.mem_append_right _ (List.mem_singleton_self _), fun _ => hm⟩
  · have e : c ∈ walkC a w ++ [(endA a w).c] ↔ c ∈ walkC a w := by simp [hc]
    rw [e, ← hi]
    split
    · exact Iff.rfl
    · simp [hc]
theorem isNew_iff (a : Ant) (w : List Bool) : isNew a w = decide ((endA a w).c ∉ walkC a w) := by
  unfold isNew
  cases q : getL (rows a w) (endA a w).c with
  | none =>
    have := getL_none.mp q
    rw [rows_key] at this
    simp [this]
  | some t =>
    have : (endA a w).c ∈ walkC a w := by
      rw [← rows_key]
      apply Classical.byContradiction
      intro z
      rw [getL_none.mpr z] at q; cases q
    simp [this]
/-! ### nothing fits -/
theorem mulL_zero : ∀ {l : List Nat}, mulL l = 0 ↔ 0 ∈ l
  | [] => by simp [mulL]
  | x :: l => by
    show x * mulL l = 0 ↔ _
    rw [Nat.mul_eq_zero, mulL_zero (l := l), List.mem_cons]
    constructor
    · rintro (h | h)
      · exact .inl h.symm
      · exact .inr h
    · rintro (h | h)
      · exact .inl h.symm
      · exact .inr h
theorem none_iff (r : List Bool) (a : Ant) (w : List Bool) : noneFits r a w = decide (countF r a w = 0) := by
  unfold noneFits countF
  rw [Bool.eq_iff_iff, List.any_eq_true, decide_eq_true_iff, mulL_zero, List.mem_map]
  constructor
  · rintro ⟨p, hp, h⟩
    exact ⟨p, hp, by rw [List.isEmpty_iff] at h; rw [h]; rfl⟩
  · rintro ⟨p, hp, h⟩
    exact ⟨p, hp, by rw [List.isEmpty_iff]; exact List.length_eq_zero_iff.mp h⟩
theorem count_zero_step {r : List Bool} {a : Ant} {w : List Bool} (h : countF r a w = 0) (b : Bool) : countF r a (w ++ [b]) = 0 := by
  have e := count_step r a w
  rw [h, Nat.zero_mul] at e
  cases b <;> omega
/-- at a word that fits: one more letter -/
theorem count_next {r : List Bool} {a : Ant} {w : List Bool} (h : countF r a w ≠ 0) (b : Bool) : countF r a (w ++ [b]) = 0 ↔ (fits r ((getL (rows a w) (endA a w).c).getD [] ++ [b])).isEmpty = true := by
  rw [countF_prod] at h ⊢
  rw [rows_snoc]
  unfold rowPut
  rw [List.isEmpty_iff, ← List.length_eq_zero_iff]
  cases q : getL (rows a w) (endA a w).c with
  | none =>
    rw [prod_new q, Nat.mul_eq_zero]
    exact ⟨fun z => z.resolve_left h, .inr⟩
  | some t =>
    obtain ⟨P, h1, h2⟩ := prod_old (r := r) (rows_nodup a w) q
    rw [h2, Nat.mul_eq_zero]
    have hP : P ≠ 0 := fun z => h (by rw [h1, z, Nat.zero_mul])
    exact ⟨fun z => z.resolve_left hP, .inr⟩
/-! ### bars -/
theorem newRow_old {w : List Bool} {b : Bool} {i : Nat} (h : i < w.length) : newRow (w ++ [b]) i = newRow w i := by
  have hb : (w ++ [b])[i]? = some w[i] := by rw [List.getElem?_append_left h, List.getElem?_eq_getElem h]
  rw [newRow_at hb, newRow_at (List.getElem?_eq_getElem h), List.take_append_of_le_length (Nat.le_of_lt h)]
theorem newRow_last (w : List Bool) (b : Bool) : newRow (w ++ [b]) w.length = (getL (rows homeA w) (endA homeA w).c).getD [] ++ [b] := by
  have hb : (w ++ [b])[w.length]? = some b := by simp
  rw [newRow_at hb, List.take_append_of_le_length (Nat.le_refl _), List.take_length]
theorem find_congr' {α : Type} {p q : α → Bool} : ∀ {l : List α}, (∀ x ∈ l, p x = q x) → l.find? p = l.find? q
  | [], _ => rfl
  | x :: l, h => by
    rw [List.find?_cons, List.find?_cons, h x List.mem_cons_self, find_congr' fun y hy => h y (List.mem_cons_of_mem _ hy)]
theorem barred_snoc (r w : List Bool) (b : Bool) : barred r (w ++ [b]) = (barred r w).or (if (fits r ((getL (rows homeA w) (endA homeA w).c).getD [] ++ [b])).isEmpty = true then some w.length else none) := by
  unfold barred
  rw [List.length_append, List.length_singleton, List.range_succ, List.find?_append]
  congr 1
  · exact find_congr' fun i hi => by rw [newRow_old (List.mem_range.mp hi)]
  · rw [List.find?_cons, newRow_last, List.find?_nil]
    split
    · rename_i h; rw [if_pos h]
    · rename_i h; rw [if_neg (by rw [h]; exact Bool.false_ne_true)]
theorem barred_iff (r : List Bool) (w : List Bool) : barred r w = none ↔ countF r homeA w ≠ 0 := by
  refine snoc_ind (P := fun w => barred r w = none ↔ countF r homeA w ≠ 0) ⟨fun _ => (by decide : (1 : Nat) ≠ 0), fun _ => rfl⟩ (fun w b ih => ?_) w
  rw [barred_snoc]
  by_cases h : countF r homeA w = 0
  · have h1 : barred r w ≠ none := fun z => ih.mp z h
    rw [count_zero_step h]
    cases q : barred r w with
    | none => exact absurd q h1
    | some p => simp
  · rw [ih.mpr h, Option.none_or]
    have hc := count_next h b
    split
    · rename_i hf
      have := hc.mpr hf
      simp [this]
    · rename_i hf
      have : countF r homeA (w ++ [b]) ≠ 0 := fun z => hf (hc.mp z)
      simp [this]
theorem barred_last {r w : List Bool} {b : Bool} (h : countF r homeA w ≠ 0) (h0 : countF r homeA (w ++ [b]) = 0) : barred r (w ++ [b]) = some w.length := by
  rw [barred_snoc, (barred_iff r w).mpr h, Option.none_or, if_pos ((count_next h b).mp h0)]
/-! ### wherever the ant stands -/
def rotC (q : Int) (c : Cell) : Cell := if q = 0 then (c.1, c.2) else if q = 1 then (-c.2, c.1) else if q = 2 then (-c.1, -c.2) else (c.2, -c.1)
def trC (a : Ant) (c : Cell) : Cell := (a.c.1 + (rotC a.w c).1, a.c.2 + (rotC a.w c).2)
theorem rotC_dir {q w : Int} (hq : 0 ≤ q ∧ q ≤ 3) (hw : 0 ≤ w ∧ w ≤ 3) (c : Cell) : rotC q (c.1 + (dirW w).1, c.2 + (dirW w).2) = ((rotC q c).1 + (dirW ((w + q) % 4)).1, (rotC q c).2 + (dirW ((w + q) % 4)).2) := by
  obtain rfl | rfl | rfl | rfl := way4 hq
  all_goals obtain rfl | rfl | rfl | rfl := way4 hw
  all_goals simp [rotC, dirW, Int.neg_add, Int.sub_eq_add_neg]
theorem trC_inj {a : Ant} {c d : Cell} (h : trC a c = trC a d) : c = d := by
  obtain ⟨h1, h2⟩ := Prod.ext_iff.mp h
  have h1 : a.c.1 + (rotC a.w c).1 = a.c.1 + (rotC a.w d).1 := h1
  have h2 : a.c.2 + (rotC a.w c).2 = a.c.2 + (rotC a.w d).2 := h2
  have h1 : (rotC a.w c).1 = (rotC a.w d).1 := by omega
  have h2 : (rotC a.w c).2 = (rotC a.w d).2 := by omega
  unfold rotC at h1 h2
  by_cases w0 : a.w = 0
  · rw [if_pos w0, if_pos w0] at h1 h2
    exact Prod.ext h1 h2
  · rw [if_neg w0, if_neg w0] at h1 h2
    by_cases w1 : a.w = 1
    · rw [if_pos w1, if_pos w1] at h1 h2
      have h1 : -c.2 = -d.2 := h1
      exact Prod.ext h2 (by omega)
    · rw [if_neg w1, if_neg w1] at h1 h2
      by_cases w2 : a.w = 2
      · rw [if_pos w2, if_pos w2] at h1 h2
        have h1 : -c.1 = -d.1 := h1
        have h2 : -c.2 = -d.2 := h2
        exact Prod.ext (by omega) (by omega)
      · rw [if_neg w2, if_neg w2] at h1 h2
        have h1 : c.2 = d.2 := h1
        have h2 : -c.1 = -d.1 := h2
        exact Prod.ext (by omega) h1
theorem walk_tr (a : Ant) (ha : WayOk a) : ∀ (w : List Bool) (x y : Ant), WayOk x → y.c = trC a x.c → y.w = (x.w + a.w) % 4 → walkC y w = (walkC x w).map (trC a)
  | [], _, _, _, _, _ => rfl
  | b :: w, x, y, hx, h1, h2 => by
    show y.c :: walkC (stepB y b) w = trC a x.c :: (walkC (stepB x b) w).map (trC a)
    have ht : turnW y.w b = (turnW x.w b + a.w) % 4 := by
      rw [h2]
      unfold turnW
      cases b <;> simp <;> omega
    rw [h1, walk_tr a ha w (stepB x b) (stepB y b) stepB_ok ?_ ht]
    show (y.c.1 + (dirW (turnW y.w b)).1, y.c.2 + (dirW (turnW y.w b)).2) = trC a (x.c.1 + (dirW (turnW x.w b)).1, x.c.2 + (dirW (turnW x.w b)).2)
    unfold trC
    rw [rotC_dir ha turnW_ok, ht, h1]
    unfold trC
    simp [Int.add_assoc]
theorem getL_map {β : Type} {T : Cell → Cell} (hT : ∀ c d, T c = T d → c = d) (l : List (Cell × β)) (c : Cell) : getL (l.map fun p => (T p.1, p.2)) (T c) = getL l c := by
  unfold getL
  induction l with
  | nil => rfl
  | cons p l ih =>
    rw [List.map_cons, List.find?_cons, List.find?_cons]
    by_cases h : p.1 = c
    · simp [h]
    · have h' : T p.1 ≠ T c := fun z => h (hT _ _ z)
      simp only [h, h', decide_false]
      exact ih
theorem putL_map {β : Type} {T : Cell → Cell} (hT : ∀ c d, T c = T d → c = d) (l : List (Cell × β)) (c : Cell) (v : β) : putL (l.map fun p => (T p.1, p.2)) (T c) v = (putL l c v).map fun p => (T p.1, p.2) := by
  unfold putL
  rw [any_getL, any_getL, getL_map hT]
  split
  · rw [List.map_map, List.map_map]
    apply List.map_congr_left
    intro p _
    show (if T p.1 = T c then (T p.1, v) else (T p.1, p.2)) = (T (if p.1 = c then (p.1, v) else p).1, (if p.1 = c then (p.1, v) else p).2)
    by_cases h : p.1 = c
    · rw [if_pos h, if_pos (by rw [h])]
    · rw [if_neg h, if_neg fun z => h (hT _ _ z)]
  · rw [List.map_append]; rfl
theorem rowsC_map {T : Cell → Cell} (hT : ∀ c d, T c = T d → c = d) (cs : List Cell) (w : List Bool) : rowsC (cs.map T) w = (rowsC cs w).map fun p => (T p.1, p.2) := by
  unfold rowsC
  have : ∀ (cs : List Cell) (w : List Bool) (l : List (Cell × List Bool)), ((cs.map T).zip w).foldl (fun l p => rowPut l p.1 p.2) (l.map fun p => (T p.1, p.2)) = ((cs.zip w).foldl (fun l p => rowPut l p.1 p.2) l).map fun p => (T p.1, p.2) := by
    intro cs
    induction cs with
    | nil => intro w l; rfl
    | cons c cs ih =>
      intro w l
      cases w with
      | nil => rfl
      | cons b w =>
        rw [List.map_cons, List.zip_cons_cons, List.zip_cons_cons, List.foldl_cons, List.foldl_cons, ← ih]
        congr 1
        unfold rowPut
        rw [getL_map hT, putL_map hT]
  exact this cs w []
theorem count_home {a : Ant} (ha : WayOk a) (r w : List Bool) : countF r a w = countF r homeA w := by
  have h := walk_tr a ha w homeA a (by decide : (0 : Int) ≤ 0 ∧ (0 : Int) ≤ 3) (by unfold trC rotC homeA; obtain h | h | h | h := way4 ha <;> simp [h]) (by show a.w = (0 + a.w) % 4; have := ha.1; have := ha.2; omega)
  rw [countF_prod, countF_prod]
  unfold rows
  rw [h, rowsC_map (fun c d => trC_inj)]
  unfold prodF
  rw [List.map_map]; rfl
end DL
/-! Trails gone back: order of floors, runs of steps, and the steps undone. -/
namespace DL
open PySem PySem.Spec PyProof.Rows L2
/-! ### order -/
def cLt (a b : Cell) : Prop := a.1 < b.1 ∨ (a.1 = b.1 ∧ a.2 < b.2)
instance (a b : Cell) : Decidable (cLt a b) := by unfold cLt; infer_instance
theorem cLt_irr {a : Cell} (h : cLt a a) : False := by unfold cLt at h; omega
theorem cLt_asym {a b : Cell} (h : cLt a b) (h' : cLt b a) : False := by unfold cLt at h h'; omega
theorem cellLt_of {a b : Cell} (h : cLt a b) : cellLt a b = true := by
  unfold cellLt
  rw [HT.lexLt_cons, HT.lexLt_cons, HT.lexLt_nil_nil]
  unfold cLt at h
  by_cases e : a.1 = b.1
  · rw [if_pos e]
    by_cases e2 : a.2 = b.2
    · omega
    · rw [if_neg e2]; exact decide_eq_true (by omega)
  · rw [if_neg e]; exact decide_eq_true (by omega)
def Srt (L : List (Cell × Int)) : Prop := L.Pairwise fun p q => cLt p.1 q.1
theorem le_pr : PySem.W.dataLe false prPd = fun p q => decide (cLt p.1 q.1 ∨ (p.1 = q.1 ∧ p.2 ≤ q.2)) := by
  funext p q
  show (!PySem.W.dataLt (prPd q) (prPd p)) = _
  unfold prPd
  rw [PySem.W.dataLt_pair (by simp [PySem.W.alike, PySem.W.alikeAll]) (by simp [PySem.W.alike]), PySem.W.dataLt_ii, PySem.W.dataLt_int]
  simp only [PyData.eqv, PyData.eqvAll, beq_iff_eq, Bool.and_true, Bool.and_eq_true]
  obtain ⟨⟨a, b⟩, v⟩ := p
  obtain ⟨⟨a', b'⟩, v'⟩ := q
  simp only [cLt, Prod.mk.injEq]
  by_cases h1 : a' = a <;> by_cases h2 : b' = b <;> by_cases h3 : v' = v
  all_goals simp [h1, h2, h3]
  all_goals (try (rw [Bool.eq_iff_iff]; simp))
  all_goals omega
theorem sort_pr {l : List (Cell × Int)} (hn : (l.map (·.1)).Nodup) : Srt (l.mergeSort (PySem.W.dataLe false prPd)) := by
  have h1 : (l.mergeSort (PySem.W.dataLe false prPd)).Pairwise fun p q => PySem.W.dataLe false prPd p q = true := by
    rw [le_pr]
    refine List.pairwise_mergeSort (le := fun p q : Cell × Int => decide (cLt p.1 q.1 ∨ (p.1 = q.1 ∧ p.2 ≤ q.2))) (fun a b c x y => ?_) (fun a b => ?_) l
    · have x := of_decide_eq_true x
      have y := of_decide_eq_true y
      refine decide_eq_true ?_
      rcases x with x | ⟨x, x'⟩
      · rcases y with y | ⟨y, _⟩
        · left; unfold cLt at *; omega
        · left; rw [← y]; exact x
      · rcases y with y | ⟨y, y'⟩
        · left; rw [x]; exact y
        · right; exact ⟨x.trans y, Int.le_trans x' y'⟩
    · rw [Bool.or_eq_true, decide_eq_true_iff, decide_eq_true_iff]
      by_cases e : a.1 = b.1
      · rcases Int.le_total a.2 b.2 with z | z
        · exact .inl (.inr ⟨e, z⟩)
        · exact .inr (.inr ⟨e.symm, z⟩)
      · have : a.1.1 ≠ b.1.1 ∨ a.1.2 ≠ b.1.2 := by
          apply Classical.byContradiction
          intro z
          exact e (Prod.ext (by omega) (by omega))
        unfold cLt
        omega
  have h2 : (l.mergeSort (PySem.W.dataLe false prPd)).Pairwise fun p q => p.1 ≠ q.1 := by
    have hp := (List.mergeSort_perm l (PySem.W.dataLe false prPd)).map (·.1)
    have := (hp.nodup_iff).mpr hn
    unfold List.Nodup at this
    rw [List.pairwise_map] at this
    exact this
  refine (h1.and h2).imp fun {p q} h => ?_
  rw [le_pr] at h
  have z := of_decide_eq_true h.1
  rcases z with z | z
  · exact z
  · exact absurd z.1 h.2
/-- a floor of the colours l, as it is told -/
structure Canon (l L : List (Cell × Int)) : Prop where
  perm : L.Perm (l.filter fun p => decide (p.2 ≠ 0))
  srt : Srt L
theorem Srt.nodup {L : List (Cell × Int)} (h : Srt L) : (L.map (·.1)).Nodup := by
  unfold List.Nodup
  rw [List.pairwise_map]
  exact h.imp fun {p q} z (e : p.1 = q.1) => cLt_irr (a := q.1) (by rw [e] at z; exact z)
theorem Canon.nz {l L : List (Cell × Int)} (h : Canon l L) : ∀ p ∈ L, p.2 ≠ 0 := fun p hp => of_decide_eq_true (List.mem_filter.mp (h.perm.mem_iff.mp hp)).2
theorem Canon.mem {l L : List (Cell × Int)} (h : Canon l L) {p : Cell × Int} (hp : p ∈ L) : p ∈ l := (List.mem_filter.mp (h.perm.mem_iff.mp hp)).1
theorem Canon.len {l L : List (Cell × Int)} (h : Canon l L) : L.length ≤ l.length := by rw [h.perm.length_eq]; exact List.length_filter_le _ _
theorem getL_mem' {β : Type} {l : List (Cell × β)} {c : Cell} {v : β} (q : getL l c = some v) : (c, v) ∈ l := by
  unfold getL at q
  obtain ⟨p, h1, h2⟩ := Option.map_eq_some_iff.mp q
  have h3 := List.find?_some h1
  have e : p = (c, v) := Prod.ext (of_decide_eq_true h3) h2
  rw [← e]; exact List.mem_of_find?_eq_some h1
theorem col_mem {L : List (Cell × Int)} (hs : Srt L) (hz : ∀ p ∈ L, p.2 ≠ 0) (c : Cell) (v : Int) : (c, v) ∈ L ↔ colAt L c = v ∧ v ≠ 0 := by
  constructor
  · intro h
    exact ⟨by unfold colAt; rw [getL_mem hs.nodup h]; rfl, hz _ h⟩
  · rintro ⟨h, h0⟩
    unfold colAt at h
    cases q : getL L c with
    | none => rw [q] at h; exact absurd h.symm h0
    | some u => rw [q] at h; have : u = v := h; subst this; exact getL_mem' q
theorem srt_ext : ∀ {L K : List (Cell × Int)}, Srt L → Srt K → (∀ p, p ∈ L ↔ p ∈ K) → L = K
  | [], [], _, _, _ => rfl
  | [], q :: K, _, _, h => absurd ((h q).mpr List.mem_cons_self) (List.not_mem_nil)
  | p :: L, [], _, _, h => absurd ((h p).mp List.mem_cons_self) (List.not_mem_nil)
  | p :: L, q :: K, hL, hK, h => by
    have hL' := List.pairwise_cons.mp hL
    have hK' := List.pairwise_cons.mp hK
    have e : p = q := by
      rcases List.mem_cons.mp ((h p).mp List.mem_cons_self) with e | e
      · exact e
      · rcases List.mem_cons.mp ((h q).mpr List.mem_cons_self) with e' | e'
        · exact e'.symm
        · exact (cLt_asym (hK'.1 p e) (hL'.1 q e')).elim
    subst e
    rw [srt_ext hL'.2 hK'.2 fun x => ?_]
    constructor
    · intro hx
      rcases List.mem_cons.mp ((h x).mp (List.mem_cons_of_mem _ hx)) with e | e
      · subst e; exact (cLt_irr (hL'.1 _ hx)).elim
      · exact e
    · intro hx
      rcases List.mem_cons.mp ((h x).mpr (List.mem_cons_of_mem _ hx)) with e | e
      · subst e; exact (cLt_irr (hK'.1 _ hx)).elim
      · exact e
theorem floor_ext {L K : List (Cell × Int)} (hL : Srt L) (zL : ∀ p ∈ L, p.2 ≠ 0) (hK : Srt K) (zK : ∀ p ∈ K, p.2 ≠ 0) (h : ∀ c, colAt L c = colAt K c) : L = K :=
  srt_ext hL hK fun ⟨c, v⟩ => by rw [col_mem hL zL, col_mem hK zK, h]
theorem colAt_put (l : List (Cell × Int)) (c d : Cell) (v : Int) : colAt (putL l c v) d = if d = c then v else colAt l d := by
  unfold colAt
  by_cases h : d = c
  · subst h; rw [getL_putL_self, if_pos rfl]; rfl
  · rw [getL_putL_ne _ _ h, if_neg h]
theorem Canon.col {l L : List (Cell × Int)} (h : Canon l L) (hn : (l.map (·.1)).Nodup) (c : Cell) : colAt L c = colAt l c := by
  unfold colAt
  cases q : getL l c with
  | none =>
    have hc := getL_none.mp q
    have : getL L c = none := getL_none.mpr fun z => by
      obtain ⟨p, hpm, e⟩ := List.mem_map.mp z
      exact hc (List.mem_map.mpr ⟨p, h.mem hpm, e⟩)
    rw [this]
  | some v =>
    have hm := getL_mem' q
    by_cases hv : v = 0
    · subst hv
      have : getL L c = none := getL_none.mpr fun z => by
        obtain ⟨⟨c', v'⟩, hpm, e⟩ := List.mem_map.mp z
        have e : c' = c := e
        subst e
        have h1 := getL_mem hn (h.mem hpm)
        rw [q] at h1
        exact h.nz _ hpm (Option.some.inj h1).symm
      rw [this]; rfl
    · rw [getL_mem h.srt.nodup (h.perm.mem_iff.mpr (List.mem_filter.mpr ⟨hm, decide_eq_true hv⟩))]
/-! ### runs of steps, on the plane or on a ring -/
abbrev Sl := List (Cell × Int) × Ant
abbrev Sf := (Cell → Int) × Ant
def wI (r : List Bool) (W : Ant → Ant) : Nat → Sl → Sl
  | 0, s => s
  | i + 1, s => (stepL r (wI r W i s).1 (wI r W i s).2, W (stepA r (wI r W i s).1 (wI r W i s).2))
def wB (r : List Bool) (W : Ant → Ant) (s : Sl) (i : Nat) : Bool := rAtI r (colAt (wI r W i s).1 (wI r W i s).2.c)
def trW (r : List Bool) (W : Ant → Ant) (s : Sl) (n : Nat) : List (Cell × Bool) := (List.range n).map fun i => ((wI r W i s).2.c, wB r W s i)
def fS (r : List Bool) (W : Ant → Ant) (s : Sf) : Sf := (fun d => if d = s.2.c then (s.1 s.2.c + 1) % (r.length : Int) else s.1 d, W (stepB s.2 (rAtI r (s.1 s.2.c))))
def fI (r : List Bool) (W : Ant → Ant) : Nat → Sf → Sf
  | 0, s => s
  | i + 1, s => fS r W (fI r W i s)
def toF (s : Sl) : Sf := (colAt s.1, s.2)
theorem wI_f (r : List Bool) (W : Ant → Ant) (s : Sl) : ∀ i, toF (wI r W i s) = fI r W i (toF s)
  | 0 => rfl
  | i + 1 => by
    show toF _ = fS r W (fI r W i (toF s))
    rw [← wI_f r W s i]
    refine Prod.ext (funext fun d => ?_) rfl
    exact colAt_put _ _ _ _
def fB (r : List Bool) (s : Sf) : Bool := rAtI r (s.1 s.2.c)
theorem wB_f (r : List Bool) (W : Ant → Ant) (s : Sl) (i : Nat) : wB r W s i = fB r (fI r W i (toF s)) := by rw [← wI_f]; rfl
theorem wC_f (r : List Bool) (W : Ant → Ant) (s : Sl) (i : Nat) : (wI r W i s).2 = (fI r W i (toF s)).2 := by rw [← wI_f]; rfl
theorem trW_f (r : List Bool) (W : Ant → Ant) (s : Sl) (n : Nat) : trW r W s n = (List.range n).map fun i => ((fI r W i (toF s)).2.c, fB r (fI r W i (toF s))) := by
  unfold trW
  apply List.map_congr_left
  intro i _
  rw [wB_f, wC_f]
theorem trW_length (r : List Bool) (W : Ant → Ant) (s : Sl) (n : Nat) : (trW r W s n).length = n := by simp [trW]
theorem trW_snoc (r : List Bool) (W : Ant → Ant) (s : Sl) (n : Nat) : trW r W s (n + 1) = trW r W s n ++ [((wI r W n s).2.c, wB r W s n)] := by
  unfold trW
  rw [List.range_succ, List.map_append]; rfl
/-! what a way of going on keeps -/
structure WOk (W : Ant → Ant) (On : Cell → Prop) : Prop where
  w : ∀ a, (W a).w = a.w
  on : ∀ a, On (W a).c
  back : ∀ c w, On c → 0 ≤ w ∧ w ≤ 3 → (W (goA (W (goA c w)).c ((w + 2) % 4))).c = c
theorem dir_back {w : Int} (h : 0 ≤ w ∧ w ≤ 3) : dirW ((w + 2) % 4) = (-(dirW w).1, -(dirW w).2) := by
  obtain rfl | rfl | rfl | rfl := way4 h <;> decide
theorem plane_ok : WOk id fun _ => True := ⟨fun _ => rfl, fun _ => trivial, fun c w _ h => by
  show (goA (goA c w).c ((w + 2) % 4)).c = c
  unfold goA
  rw [dir_back h]
  refine Prod.ext ?_ ?_
  · show c.1 + (dirW w).1 + -(dirW w).1 = c.1; omega
  · show c.2 + (dirW w).2 + -(dirW w).2 = c.2; omega⟩
def wrapA (p q : Int) (a : Ant) : Ant := ⟨(a.c.1 % p, a.c.2 % q), a.w⟩
def OnR (p q : Int) (c : Cell) : Prop := (0 ≤ c.1 ∧ c.1 < p) ∧ (0 ≤ c.2 ∧ c.2 < q)
theorem ring_ok {p q : Int} (hp : 0 < p) (hq : 0 < q) : WOk (wrapA p q) (OnR p q) := ⟨fun _ => rfl,
  fun a => ⟨⟨Int.emod_nonneg _ (by omega), Int.emod_lt_of_pos _ hp⟩, Int.emod_nonneg _ (by omega), Int.emod_lt_of_pos _ hq⟩, fun c w h hw => by
    unfold goA
    rw [dir_back hw]
    refine Prod.ext ?_ ?_
    · show ((c.1 + (dirW w).1) % p + -(dirW w).1) % p = c.1
      rw [Int.emod_add_emod, show c.1 + (dirW w).1 + -(dirW w).1 = c.1 by omega]
      exact Int.emod_eq_of_lt h.1.1 h.1.2
    · show ((c.2 + (dirW w).2) % q + -(dirW w).2) % q = c.2
      rw [Int.emod_add_emod, show c.2 + (dirW w).2 + -(dirW w).2 = c.2 by omega]
      exact Int.emod_eq_of_lt h.2.1 h.2.2⟩
/-! ### the rule and the standing that go back -/
def bwR (r : List Bool) : List Bool := r.reverse.map fun b => !b
def bwC (r : List Bool) (v : Int) : Int := ((r.length : Int) - v) % (r.length : Int)
def bwS (r : List Bool) (W : Ant → Ant) (s : Sf) : Sf := (fun c => bwC r (s.1 c), W (goA s.2.c ((s.2.w + 2) % 4)))
theorem bwR_length (r : List Bool) : (bwR r).length = r.length := by simp [bwR]
theorem bwR_ok {r : List Bool} (h : RuleOk r) : RuleOk (bwR r) := by unfold RuleOk; rw [bwR_length]; exact h
theorem bwR_at {r : List Bool} {i : Nat} (h : i < r.length) : rAt (bwR r) i = !rAt r (r.length - 1 - i) := by
  have h2 : r.length - 1 - i < r.length := by omega
  unfold rAt
  rw [List.getD_eq_getElem?_getD, List.getD_eq_getElem?_getD, bwR, List.getElem?_map, List.getElem?_reverse h, List.getElem?_eq_getElem h2]
  rfl
theorem turn_back {w : Int} (h : 0 ≤ w ∧ w ≤ 3) (b : Bool) : turnW ((turnW w b + 2) % 4) (!b) = (w + 2) % 4 := by
  unfold turnW
  cases b <;> simp <;> omega
structure FOk (r : List Bool) (On : Cell → Prop) (s : Sf) : Prop where
  on : On s.2.c
  w : 0 ≤ s.2.w ∧ s.2.w ≤ 3
  col : ∀ c, 0 ≤ s.1 c ∧ s.1 c < (r.length : Int)
section
variable {r : List Bool} {W : Ant → Ant} {On : Cell → Prop}
theorem fS_ok (hr : RuleOk r) (hW : WOk W On) {s : Sf} (h : FOk r On s) : FOk r On (fS r W s) := by
  have h1 := hr.1
  refine ⟨hW.on _, by rw [show (fS r W s).2.w = (stepB s.2 (rAtI r (s.1 s.2.c))).w from hW.w _]; exact turnW_ok, fun c => ?_⟩
  show 0 ≤ (if c = s.2.c then (s.1 s.2.c + 1) % (r.length : Int) else s.1 c) ∧ (if c = s.2.c then (s.1 s.2.c + 1) % (r.length : Int) else s.1 c) < _
  split
  · exact ⟨Int.emod_nonneg _ (by omega), Int.emod_lt_of_pos _ (by omega)⟩
  · exact h.col c
theorem fI_ok (hr : RuleOk r) (hW : WOk W On) {s : Sf} (h : FOk r On s) : ∀ i, FOk r On (fI r W i s)
  | 0 => h
  | i + 1 => fS_ok hr hW (fI_ok hr hW h i)
theorem bw_cell (hr : RuleOk r) (hW : WOk W On) {s : Sf} (h : FOk r On s) : (bwS r W (fS r W s)).2.c = s.2.c := by
  show (W (goA (W (stepB s.2 (rAtI r (s.1 s.2.c)))).c (((W (stepB s.2 (rAtI r (s.1 s.2.c)))).w + 2) % 4))).c = s.2.c
  rw [hW.w]
  exact hW.back s.2.c _ h.on turnW_ok
theorem bw_col (hr : RuleOk r) (hW : WOk W On) {s : Sf} (h : FOk r On s) : (bwS r W (fS r W s)).1 s.2.c = (r.length : Int) - 1 - s.1 s.2.c := by
  obtain ⟨h1, h2⟩ := h.col s.2.c
  show bwC r (if s.2.c = s.2.c then (s.1 s.2.c + 1) % (r.length : Int) else s.1 s.2.c) = _
  rw [if_pos rfl]
  unfold bwC
  by_cases e : s.1 s.2.c + 1 = r.length
  · rw [e, Int.emod_self, Int.sub_zero, Int.emod_self]; omega
  · rw [Int.emod_eq_of_lt (by omega : 0 ≤ s.1 s.2.c + 1) (by omega), Int.emod_eq_of_lt (by omega) (by omega)]; omega
theorem bw_let (hr : RuleOk r) (hW : WOk W On) {s : Sf} (h : FOk r On s) : fB (bwR r) (bwS r W (fS r W s)) = !fB r s := by
  unfold fB
  rw [bw_cell hr hW h, bw_col hr hW h]
  obtain ⟨h1, h2⟩ := h.col s.2.c
  unfold rAtI
  rw [bwR_at (by omega)]
  congr 2
  omega
theorem bw_step (hr : RuleOk r) (hW : WOk W On) {s : Sf} (h : FOk r On s) : fS (bwR r) W (bwS r W (fS r W s)) = bwS r W s := by
  have hc := bw_cell hr hW h
  have hcol := bw_col hr hW h
  have hl := bw_let hr hW h
  obtain ⟨h1, h2⟩ := h.col s.2.c
  have hr1 := hr.1
  refine Prod.ext ?_ ?_
  · funext d
    show (if d = (bwS r W (fS r W s)).2.c then ((bwS r W (fS r W s)).1 (bwS r W (fS r W s)).2.c + 1) % ((bwR r).length : Int) else (bwS r W (fS r W s)).1 d) = bwC r (s.1 d)
    rw [hc, hcol, bwR_length]
    by_cases e : d = s.2.c
    · rw [if_pos e, e]
      unfold bwC
      congr 1; omega
    · rw [if_neg e]
      show bwC r (if d = s.2.c then _ else s.1 d) = _
      rw [if_neg e]
  · have hw : (bwS r W (fS r W s)).2.w = (turnW s.2.w (fB r s) + 2) % 4 := by
      show (W (goA _ (((W (stepB s.2 (rAtI r (s.1 s.2.c)))).w + 2) % 4))).w = _
      rw [hW.w, hW.w]; rfl
    show W (goA (bwS r W (fS r W s)).2.c (turnW (bwS r W (fS r W s)).2.w (fB (bwR r) (bwS r W (fS r W s))))) = W (goA s.2.c ((s.2.w + 2) % 4))
    rw [hc, hw, hl, turn_back h.w]
theorem bw_run (hr : RuleOk r) (hW : WOk W On) {s : Sf} (h : FOk r On s) (n : Nat) : ∀ j, j ≤ n → fI (bwR r) W j (bwS r W (fI r W n s)) = bwS r W (fI r W (n - j) s)
  | 0, _ => rfl
  | j + 1, hj => by
    show fS (bwR r) W (fI (bwR r) W j (bwS r W (fI r W n s))) = _
    rw [bw_run hr hW h n j (by omega)]
    have e : n - j = (n - (j + 1)) + 1 := by omega
    rw [e]
    exact bw_step hr hW (fI_ok hr hW h _)
theorem bw_trace (hr : RuleOk r) (hW : WOk W On) {s t : Sl} (h : FOk r On (toF s)) (n : Nat) (ht : toF t = bwS r W (fI r W n (toF s))) : trW (bwR r) W t n = ((trW r W s n).reverse).map fun p => (p.1, !p.2) := by
  rw [trW_f, trW_f, ht]
  have e : ((List.range n).map fun i => ((fI r W i (toF s)).2.c, fB r (fI r W i (toF s)))).reverse = (List.range n).map fun k => ((fI r W (n - 1 - k) (toF s)).2.c, fB r (fI r W (n - 1 - k) (toF s))) := by
    rw [← List.map_reverse, ← PySem.W.krv_range, List.map_map]; rfl
  rw [e, List.map_map]
  apply List.map_congr_left
  intro j hj
  have hj := List.mem_range.mp hj
  rw [bw_run hr hW h n j (by omega)]
  have e2 : n - j = (n - 1 - j) + 1 := by omega
  rw [e2]
  have hk := fI_ok hr hW h (n - 1 - j)
  show ((bwS r W (fS r W (fI r W (n - 1 - j) (toF s)))).2.c, fB (bwR r) (bwS r W (fS r W (fI r W (n - 1 - j) (toF s))))) = _
  rw [bw_cell hr hW hk, bw_let hr hW hk]; rfl
/-! rounds -/
def Rnd (r : List Bool) (W : Ant → Ant) (s : Sf) (m : Nat) : Prop := fI r W m s = s
theorem bw_round (hr : RuleOk r) (hW : WOk W On) {s : Sf} (h : FOk r On s) {m : Nat} (hm : Rnd r W s m) : Rnd (bwR r) W (bwS r W s) m := by
  have e := bw_run hr hW h m m (Nat.le_refl _)
  rw [hm, Nat.sub_self] at e
  exact e
theorem bwC_bwC {v : Int} (h : 0 ≤ v ∧ v < (r.length : Int)) : bwC r (bwC r v) = v := by
  unfold bwC
  by_cases e : v = 0
  · subst e; simp
  · rw [Int.emod_eq_of_lt (by omega : 0 ≤ (r.length : Int) - v) (by omega), show (r.length : Int) - ((r.length : Int) - v) = v by omega]
    exact Int.emod_eq_of_lt h.1 h.2
theorem bw_inj (hr : RuleOk r) (hW : WOk W On) {s t : Sf} (hs : FOk r On (fS r W s)) (h : FOk r On s) (h' : FOk r On t) (e : bwS r W (fS r W s) = bwS r W (fS r W t)) : fS r W s = fS r W t := by
  have hc : s.2.c = t.2.c := by rw [← bw_cell hr hW h, ← bw_cell hr hW h', e]
  have hcol : (fS r W s).1 = (fS r W t).1 := by
    funext c
    have z := congrFun (congrArg Prod.fst e) c
    have z : bwC r ((fS r W s).1 c) = bwC r ((fS r W t).1 c) := z
    rw [← bwC_bwC ((fS_ok hr hW h).col c), z, bwC_bwC ((fS_ok hr hW h').col c)]
  have hl : fB r s = fB r t := by
    have a := bw_let hr hW h
    have b := bw_let hr hW h'
    rw [e, b] at a
    exact (Bool.not_inj a).symm
  refine Prod.ext hcol ?_
  have hw : turnW s.2.w (fB r s) = turnW t.2.w (fB r t) := by
    have z := congrArg (fun s : Sf => s.2.w) e
    have z1 : (bwS r W (fS r W s)).2.w = (bwS r W (fS r W t)).2.w := z
    have f : ∀ u : Sf, (bwS r W (fS r W u)).2.w = (turnW u.2.w (fB r u) + 2) % 4 := fun u => by
      show (W (goA _ (((W (stepB u.2 (rAtI r (u.1 u.2.c)))).w + 2) % 4))).w = _
      rw [hW.w, hW.w]; rfl
    rw [f, f] at z1
    have t1 := turnW_ok (w := s.2.w) (b := fB r s)
    have t2 := turnW_ok (w := t.2.w) (b := fB r t)
    omega
  show W (goA s.2.c (turnW s.2.w (fB r s))) = W (goA t.2.c (turnW t.2.w (fB r t)))
  rw [hc, hw]
/-- a round of the way back is one of the way -/
theorem round_of_bw (hr : RuleOk r) (hW : WOk W On) {s : Sf} (h : FOk r On s) {m L : Nat} (h1 : 1 ≤ m) (hmL : m < L) (hL : Rnd r W s L) (hm : Rnd (bwR r) W (bwS r W s) m) : Rnd r W s (L - m) := by
  have e := bw_run hr hW h L m (by omega)
  rw [hL] at e
  rw [hm] at e
  -- bwS s = bwS (fI (L - m) s)
  have eL : fI r W L s = fS r W (fI r W (L - 1) s) := by
    obtain ⟨k, rfl⟩ : ∃ k, L = k + 1 := ⟨L - 1, by omega⟩
    rfl
  have em : fI r W (L - m) s = fS r W (fI r W (L - m - 1) s) := by
    obtain ⟨k, hk⟩ : ∃ k, L - m = k + 1 := ⟨L - m - 1, by omega⟩
    rw [hk]; rfl
  have hs : s = fS r W (fI r W (L - 1) s) := hL.symm.trans eL
  have e' : bwS r W (fS r W (fI r W (L - 1) s)) = bwS r W (fS r W (fI r W (L - m - 1) s)) := by rw [← hs, ← em]; exact e
  have z := bw_inj hr hW (fS_ok hr hW (fI_ok hr hW h _)) (fI_ok hr hW h _) (fI_ok hr hW h _) e'
  rw [← em, ← eL, hL] at z
  exact z.symm
end
end DL
/-! Words told from the end, the letters exchanged: as many floors. -/
namespace DL
open PySem PySem.Spec PyProof.Rows L2
def bwW (w : List Bool) : List Bool := w.reverse.map fun b => !b
theorem bwW_length (w : List Bool) : (bwW w).length = w.length := by simp [bwW]
theorem bwW_cons (b : Bool) (w : List Bool) : bwW (b :: w) = bwW w ++ [!b] := by simp [bwW]
theorem bwW_bwW (w : List Bool) : bwW (bwW w) = w := by simp [bwW, List.map_reverse, Function.comp_def]
theorem bwR_bwR (r : List Bool) : bwR (bwR r) = r := bwW_bwW r
theorem bwW_get {w : List Bool} {i : Nat} {b : Bool} (h : w[i]? = some b) : (bwW w)[w.length - 1 - i]? = some (!b) := by
  have hi := (List.getElem?_eq_some_iff.mp h).1
  unfold bwW
  rw [List.getElem?_map, List.getElem?_reverse (by omega), show w.length - 1 - (w.length - 1 - i) = i by omega, h]
  rfl
def bwA (a : Ant) : Ant := goA a.c ((a.w + 2) % 4)
theorem bwA_ok {a : Ant} (h : WayOk a) : WayOk (bwA a) := ⟨by show 0 ≤ (a.w + 2) % 4; omega, by show (a.w + 2) % 4 ≤ 3; omega⟩
theorem bwA_step (a : Ant) (b : Bool) : (bwA (stepB a b)).c = a.c := plane_ok.back a.c _ trivial turnW_ok
theorem step_bwA {a : Ant} (h : WayOk a) (b : Bool) : stepB (bwA (stepB a b)) (!b) = bwA a := by
  show goA (bwA (stepB a b)).c (turnW ((turnW a.w b + 2) % 4) (!b)) = goA a.c ((a.w + 2) % 4)
  rw [bwA_step, turn_back h]
theorem walk_bw : ∀ (w : List Bool) (a : Ant), WayOk a → walkC (bwA (endA a w)) (bwW w) = (walkC a w).reverse ∧ endA (bwA (endA a w)) (bwW w) = bwA a
  | [], a, _ => ⟨rfl, rfl⟩
  | b :: w, a, h => by
    obtain ⟨h1, h2⟩ := walk_bw w (stepB a b) stepB_ok
    have e : endA a (b :: w) = endA (stepB a b) w := rfl
    rw [bwW_cons, walkC_snoc, endA_snoc, e, h1, h2, bwA_step, step_bwA h]
    refine ⟨?_, rfl⟩
    show _ = (a.c :: walkC (stepB a b) w).reverse
    rw [List.reverse_cons]
/-! rows as parts of the walk -/
def rowF (cs : List Cell) (w : List Bool) (c : Cell) : List Bool := ((cs.zip w).filter fun p => decide (p.1 = c)).map (·.2)
theorem rowF_snoc {cs : List Cell} {w : List Bool} (h : cs.length = w.length) (d : Cell) (b : Bool) (c : Cell) : rowF (cs ++ [d]) (w ++ [b]) c = rowF cs w c ++ (if d = c then [b] else []) := by
  unfold rowF
  rw [zip_snoc h, List.filter_append, List.map_append]
  congr 1
  by_cases e : d = c <;> simp [e]
theorem row_is (a : Ant) (w : List Bool) : ∀ c, (getL (rows a w) c).getD [] = rowF (walkC a w) w c := by
  refine snoc_ind (P := fun w => ∀ c, (getL (rows a w) c).getD [] = rowF (walkC a w) w c) (fun c => rfl) (fun w b ih c => ?_) w
  rw [rows_snoc, walkC_snoc, rowF_snoc (walkC_length a w), ← ih]
  unfold rowPut
  by_cases hc : c = (endA a w).c
  · subst hc
    rw [getL_putL_self, if_pos rfl]; rfl
  · rw [getL_putL_ne _ _ hc, if_neg (Ne.symm hc), List.append_nil]
theorem prod_keys (r : List Bool) (a : Ant) (w : List Bool) : countF r a w = mulL (((rows a w).map (·.1)).map fun c => (fits r (rowF (walkC a w) w c)).length) := by
  rw [countF_prod]
  unfold prodF
  rw [List.map_map]
  congr 1
  apply List.map_congr_left
  rintro ⟨c, t⟩ hp
  show (fits r t).length = (fits r (rowF (walkC a w) w c)).length
  rw [← row_is, getL_mem (rows_nodup a w) hp]; rfl
theorem perm_nodup {α : Type} [DecidableEq α] : ∀ {l k : List α}, l.Nodup → k.Nodup → (∀ x, x ∈ l ↔ x ∈ k) → l.Perm k
  | [], k, _, _, h => by
    cases k with
    | nil => exact .nil
    | cons y k => exact absurd ((h y).mpr List.mem_cons_self) List.not_mem_nil
  | x :: l, k, hl, hk, h => by
    have hx := (h x).mp List.mem_cons_self
    have hl' := List.nodup_cons.mp hl
    refine (List.Perm.cons x (perm_nodup hl'.2 (hk.erase x) fun y => ?_)).trans (List.perm_cons_erase hx).symm
    rw [hk.mem_erase_iff, ← h y, List.mem_cons]
    constructor
    · intro hy
      exact ⟨fun e => hl'.1 (e ▸ hy), .inr hy⟩
    · rintro ⟨h1, h2⟩
      exact h2.resolve_left h1
theorem len_sub {α : Type} [DecidableEq α] : ∀ {l k : List α}, l.Nodup → (∀ x ∈ l, x ∈ k) → l.length ≤ k.length
  | [], _, _, _ => Nat.zero_le _
  | x :: l, k, hl, h => by
    have hl' := List.nodup_cons.mp hl
    have hx := h x List.mem_cons_self
    have := len_sub (l := l) (k := k.erase x) hl'.2 fun y hy => (List.mem_erase_of_ne (fun (e : y = x) => hl'.1 (by rw [← e]; exact hy))).mpr (h y (List.mem_cons_of_mem _ hy))
    rw [List.length_erase_of_mem hx] at this
    have := List.length_pos_of_mem hx
    rw [List.length_cons]; omega
/-! fits -/
theorem fitAll_of {r : List Bool} {g : Nat} : ∀ {p : Nat} {t : List Bool}, (∀ i b, t[i]? = some b → rAt r ((g + (p + i)) % r.length) = b) → fitAll r g p t = true
  | _, [], _ => rfl
  | p, x :: t, h => by
    show ((rAt r ((g + p) % r.length) == x) && fitAll r g (p + 1) t) = true
    rw [Bool.and_eq_true]
    refine ⟨?_, fitAll_of fun i b hb => ?_⟩
    · have := h 0 x rfl
      rw [Nat.add_zero] at this
      simpa using this
    · have := h (i + 1) b (by simpa using hb)
      rw [← this]
      congr 2; omega
theorem fitAll_at {r : List Bool} {g : Nat} : ∀ {p : Nat} {t : List Bool} {i : Nat} {b : Bool}, fitAll r g p t = true → t[i]? = some b → rAt r ((g + (p + i)) % r.length) = b
  | p, [], i, b, _, h => by simp at h
  | p, x :: t, 0, b, hf, h => by
    have hf : ((rAt r ((g + p) % r.length) == x) && fitAll r g (p + 1) t) = true := hf
    rw [Bool.and_eq_true] at hf
    have e : x = b := by simpa using h
    subst e
    simpa using hf.1
  | p, x :: t, i + 1, b, hf, h => by
    have hf : ((rAt r ((g + p) % r.length) == x) && fitAll r g (p + 1) t) = true := hf
    rw [Bool.and_eq_true] at hf
    have := fitAll_at (i := i) hf.2 (by simpa using h)
    rw [show p + (i + 1) = p + 1 + i by omega]
    exact this
def phi (n m g : Nat) : Nat := (n * (m + 1) - g - m) % n
theorem phi_at {n m g q : Nat} (hn : 0 < n) (hg : g < n) (hq : q < m) : (phi n m g + q) % n = n - 1 - (g + (m - 1 - q)) % n := by
  unfold phi
  rw [Nat.mod_add_mod]
  generalize hX : g + (m - 1 - q) = X
  have hdm := Nat.div_add_mod X n
  have hlt := Nat.mod_lt X hn
  generalize X / n = k at hdm
  generalize X % n = ρ at hdm hlt
  have hm : m ≤ n * m := Nat.le_mul_of_pos_left m hn
  have hk : k ≤ m := by
    apply Classical.byContradiction
    intro z
    have : n * (m + 1) ≤ n * k := Nat.mul_le_mul_left n (by omega)
    rw [Nat.mul_add] at this
    omega
  obtain ⟨d, rfl⟩ : ∃ d, m = k + d := ⟨m - k, by omega⟩
  have e : n * (k + d + 1) = n * k + n * d + n := by rw [Nat.mul_add, Nat.mul_add, Nat.mul_one]
  rw [Nat.mul_add] at hm
  have e2 : n * (k + d + 1) - g - (k + d) + q = n * d + (n - 1 - ρ) := by omega
  rw [e2, Nat.mul_add_mod, Nat.mod_eq_of_lt (by omega)]
theorem phi_lt {n m g : Nat} (hn : 0 < n) : phi n m g < n := Nat.mod_lt _ hn
theorem phi_sum {n m g : Nat} (hn : 0 < n) (hg : g < n) : (phi n m g + (g + m)) % n = 0 := by
  unfold phi
  rw [Nat.mod_add_mod]
  have hm : m ≤ n * m := Nat.le_mul_of_pos_left m hn
  have e : n * (m + 1) = n * m + n := by rw [Nat.mul_add, Nat.mul_one]
  rw [show n * (m + 1) - g - m + (g + m) = n * (m + 1) by omega, Nat.mul_mod_right]
theorem phi_inj {n m g g' : Nat} (hn : 0 < n) (hg : g < n) (hg' : g' < n) (h : phi n m g = phi n m g') : g = g' := by
  have go : ∀ g g' : Nat, g < n → g' < n → phi n m g = phi n m g' → g ≤ g' := by
    intro g g' hg hg' h
    have a := phi_sum (m := m) hn hg
    have b := phi_sum (m := m) hn hg'
    rw [h] at a
    have z := Nat.sub_mod_eq_zero_of_mod_eq (a.trans b.symm)
    rw [show phi n m g' + (g + m) - (phi n m g' + (g' + m)) = g - g' by omega, Nat.mod_eq_of_lt (by omega)] at z
    omega
  exact Nat.le_antisymm (go g g' hg hg' h) (go g' g hg' hg h.symm)
theorem fits_bw_mem {r t : List Bool} {g : Nat} (h : g ∈ fits (bwR r) (bwW t)) : phi r.length t.length g ∈ fits r t := by
  have hg := fits_lt h
  rw [bwR_length] at hg
  have hn : 0 < r.length := by omega
  have hf := (List.mem_filter.mp h).2
  refine List.mem_filter.mpr ⟨List.mem_range.mpr (phi_lt hn), fitAll_of fun q b hb => ?_⟩
  have hq := (List.getElem?_eq_some_iff.mp hb).1
  have z := fitAll_at hf (bwW_get hb)
  rw [bwR_length, Nat.zero_add, bwR_at (Nat.mod_lt _ hn)] at z
  rw [Nat.zero_add, phi_at hn hg hq]
  exact Bool.not_inj z
theorem fits_nodup (r t : List Bool) : (fits r t).Nodup := List.filter_sublist.nodup List.nodup_range
theorem fits_bw_le (r t : List Bool) : (fits (bwR r) (bwW t)).length ≤ (fits r t).length := by
  have hn : ((fits (bwR r) (bwW t)).map (phi r.length t.length)).Nodup := by
    unfold List.Nodup
    rw [List.pairwise_map]
    have h := fits_nodup (bwR r) (bwW t)
    unfold List.Nodup at h
    refine h.imp_of_mem fun {a b} ha hb hne e => hne ?_
    have h1 := fits_lt ha
    have h2 := fits_lt hb
    rw [bwR_length] at h1 h2
    exact phi_inj (by omega) h1 h2 e
  have := len_sub hn (k := fits r t) fun x hx => by
    obtain ⟨g, hg, rfl⟩ := List.mem_map.mp hx
    exact fits_bw_mem hg
  rwa [List.length_map] at this
theorem fits_bw (r t : List Bool) : (fits (bwR r) (bwW t)).length = (fits r t).length := by
  refine Nat.le_antisymm (fits_bw_le r t) ?_
  have := fits_bw_le (bwR r) (bwW t)
  rw [bwR_bwR, bwW_bwW] at this
  exact this
/-! the whole word -/
theorem bwW_append (u v : List Bool) : bwW (u ++ v) = bwW v ++ bwW u := by simp [bwW]
theorem rowF_cons (d : Cell) (b : Bool) (cs : List Cell) (w : List Bool) (c : Cell) : rowF (d :: cs) (b :: w) c = (if d = c then [b] else []) ++ rowF cs w c := by
  unfold rowF
  rw [List.zip_cons_cons, List.filter_cons]
  by_cases e : d = c <;> simp [e]
theorem rowF_bw : ∀ {cs : List Cell} {w : List Bool}, cs.length = w.length → ∀ c, rowF cs.reverse (bwW w) c = bwW (rowF cs w c)
  | [], [], _, c => rfl
  | [], _ :: _, h, c => by cases h
  | _ :: _, [], h, c => by cases h
  | d :: cs, b :: w, h, c => by
    have h' : cs.length = w.length := by simpa using h
    rw [List.reverse_cons, bwW_cons, rowF_snoc (by rw [List.length_reverse, bwW_length]; exact h'), rowF_bw h', rowF_cons, bwW_append]
    congr 1
    split <;> rfl
theorem keys_bw {a : Ant} (ha : WayOk a) (w : List Bool) : ((rows (bwA (endA a w)) (bwW w)).map (·.1)).Perm ((rows a w).map (·.1)) :=
  perm_nodup (rows_nodup _ _) (rows_nodup _ _) fun c => by rw [rows_key, rows_key, (walk_bw w a ha).1, List.mem_reverse]
theorem count_bw {a : Ant} (ha : WayOk a) (r w : List Bool) : countF (bwR r) (bwA (endA a w)) (bwW w) = countF r a w := by
  rw [prod_keys, prod_keys, mulL_perm ((keys_bw ha w).map _)]
  congr 1
  apply List.map_congr_left
  intro c _
  rw [(walk_bw w a ha).1, rowF_bw (walkC_length a w), fits_bw]
theorem rows_home {a : Ant} (ha : WayOk a) (w : List Bool) : (rows a w).length = (rows homeA w).length := by
  have h := walk_tr a ha w homeA a (by decide : (0 : Int) ≤ 0 ∧ (0 : Int) ≤ 3) (by unfold trC rotC homeA; obtain h | h | h | h := way4 ha <;> simp [h]) (by show a.w = (0 + a.w) % 4; have := ha.1; have := ha.2; omega)
  unfold rows
  rw [h, rowsC_map (fun c d => trC_inj), List.length_map]
theorem home_way : WayOk homeA := ⟨by decide, by decide⟩
theorem count_bw_home (r w : List Bool) : countF (bwR r) homeA (bwW w) = countF r homeA w := by
  rw [← count_home (bwA_ok (endA_ok (w := w) home_way)), count_bw home_way]
theorem starts_bw_home (r w : List Bool) : (startsL (bwR r) homeA (bwW w)).length = (startsL r homeA w).length := by
  rw [starts_length, starts_length, ← rows_home (bwA_ok (endA_ok (w := w) home_way))]
  have := (keys_bw home_way w).length_eq
  rw [List.length_map, List.length_map] at this
  exact this
theorem barred_bw (r w : List Bool) : (barred (bwR r) (bwW w)).isNone = (barred r w).isNone := by
  have h1 := barred_iff (bwR r) (bwW w)
  have h2 := barred_iff r w
  rw [count_bw_home] at h1
  rw [Bool.eq_iff_iff, Option.isNone_iff_eq_none, Option.isNone_iff_eq_none, h1, h2]
/-! letters, counts, words on a cell: from the trace -/
def trBw (l : List (Cell × Bool)) : List (Cell × Bool) := (l.reverse).map fun p => (p.1, !p.2)
theorem tr_letters (l : List (Cell × Bool)) : (trBw l).map (·.2) = bwW (l.map (·.2)) := by simp [trBw, bwW, Function.comp_def]
theorem tr_cells (l : List (Cell × Bool)) : (trBw l).map (·.1) = (l.map (·.1)).reverse := by simp [trBw, Function.comp_def]
def onC (l : List (Cell × Bool)) (c : Cell) : List Bool := (l.filter fun p => decide (p.1 = c)).map (·.2)
theorem onC_bw (l : List (Cell × Bool)) (c : Cell) : onC (trBw l) c = bwW (onC l c) := by
  unfold onC trBw bwW
  rw [List.filter_map, List.map_map, List.filter_reverse, List.map_reverse, ← List.map_reverse, ← List.map_reverse, List.map_map]
  congr 1
theorem bw_count (w : List Bool) : (bwW w).count true = w.count false ∧ (bwW w).count false = w.count true := by
  have : ∀ w : List Bool, (w.map fun b => !b).count true = w.count false ∧ (w.map fun b => !b).count false = w.count true := by
    intro w
    induction w with
    | nil => exact ⟨rfl, rfl⟩
    | cons b w ih =>
      obtain ⟨h1, h2⟩ := ih
      rw [List.map_cons]
      cases b <;> simp [h1, h2]
  unfold bwW
  obtain ⟨h1, h2⟩ := this w.reverse
  rw [List.count_reverse] at h1 h2
  exact ⟨h1, h2⟩
/-! visits -/
def visL (cs : List Cell) : List (Cell × Int) := cs.foldl (fun l c => putL l c ((getL l c).getD 0 + 1)) []
theorem visL_snoc (cs : List Cell) (c : Cell) : visL (cs ++ [c]) = putL (visL cs) c ((getL (visL cs) c).getD 0 + 1) := by unfold visL; rw [List.foldl_append]; rfl
theorem visL_nodup (cs : List Cell) : ((visL cs).map (·.1)).Nodup := by
  refine snoc_ind (P := fun cs => ((visL cs).map (·.1)).Nodup) List.nodup_nil (fun cs c ih => ?_) cs
  rw [visL_snoc]; exact putL_nodup ih
theorem visL_col (cs : List Cell) : ∀ c, colAt (visL cs) c = (cs.count c : Nat) := by
  refine snoc_ind (P := fun cs => ∀ c, colAt (visL cs) c = (cs.count c : Nat)) (fun c => rfl) (fun cs d ih c => ?_) cs
  rw [visL_snoc, colAt_put, List.count_append]
  by_cases h : c = d
  · subst h
    rw [if_pos rfl]
    have := ih c
    unfold colAt at this
    rw [this]; simp
  · rw [if_neg h, ih]; simp [Ne.symm h]
theorem visL_len (cs : List Cell) : (visL cs).length ≤ cs.length := by
  refine snoc_ind (P := fun cs => (visL cs).length ≤ cs.length) (Nat.le_refl _) (fun cs c ih => ?_) cs
  rw [visL_snoc, List.length_append, List.length_singleton]
  have := putL_length (visL cs) c ((getL (visL cs) c).getD 0 + 1)
  omega
theorem vis_bw {l : List (Cell × Bool)} {L K : List (Cell × Int)} (hL : Canon (visL ((trBw l).map (·.1))) L) (hK : Canon (visL (l.map (·.1))) K) : L = K := by
  refine floor_ext hL.srt hL.nz hK.srt hK.nz fun c => ?_
  rw [hL.col (visL_nodup _), hK.col (visL_nodup _), visL_col, visL_col, tr_cells, List.count_reverse]
/-- a cell that is told, and how often -/
theorem vis_often {l : List (Cell × Bool)} {K : List (Cell × Int)} (hK : Canon (visL (l.map (·.1))) K) {c : Cell} {v : Int} (h : (c, v) ∈ K) : v = ((onC l c).length : Nat) := by
  have e := ((col_mem hK.srt hK.nz c v).mp h).1
  rw [hK.col (visL_nodup _), visL_col] at e
  rw [← e]
  unfold onC
  rw [List.length_map, ← List.countP_eq_length_filter, List.count_eq_countP, List.countP_map]
  congr 1
  refine congrArg (fun f => List.countP f l) (funext fun p => ?_)
  show (p.1 == c) = decide (p.1 = c)
  rw [Bool.eq_iff_iff]; simp
end DL
/-! Sides: order of cells and of sides, tables, counts over a run. -/
namespace DL
open PySem PySem.Spec PyProof.Rows L2
/-! ### order by keys -/
structure KOrd {κ : Type} (kd : κ → PyData) (lt : κ → κ → Prop) : Prop where
  al : ∀ a b, PySem.W.alike (kd a) (kd b) = true
  dl : ∀ a b, PySem.W.dataLt (kd a) (kd b) = true ↔ lt a b
  eqv : ∀ a b, PyData.eqv (kd a) (kd b) = true → a = b
  tot : ∀ a b, a ≠ b → lt a b ∨ lt b a
  irr : ∀ a b, lt a b → lt b a → False
def vPd (v : List Int) : PyData := .tuple (v.map .int)
def qPd {κ : Type} (kd : κ → PyData) (p : κ × List Int) : PyData := .tuple [kd p.1, vPd p.2]
theorem alike_ints : ∀ xs ys : List Int, PySem.W.alikeAll (xs.map PyData.int) (ys.map PyData.int) = true
  | [], _ => by rw [List.map_nil, PySem.W.alikeAll]
  | _ :: _, [] => by rw [List.map_nil, List.map_cons, PySem.W.alikeAll]
  | x :: xs, y :: ys => by
    rw [List.map_cons, List.map_cons, PySem.W.alikeAll, alike_ints xs ys, Bool.and_true, PySem.W.alike]
theorem alike_v (v u : List Int) : PySem.W.alike (vPd v) (vPd u) = true := by
  unfold vPd; rw [PySem.W.alike]; exact alike_ints v u
section
variable {κ : Type} {kd : κ → PyData} {lt : κ → κ → Prop}
def SrtG (lt : κ → κ → Prop) (L : List (κ × List Int)) : Prop := L.Pairwise fun p q => lt p.1 q.1
theorem alike_q (O : KOrd kd lt) (p q : κ × List Int) : PySem.W.alike (qPd kd p) (qPd kd q) = true := by
  unfold qPd
  simp only [PySem.W.alike, PySem.W.alikeAll, O.al, alike_v, Bool.and_true]
theorem sortG (O : KOrd kd lt) {l : List (κ × List Int)} (hn : (l.map (·.1)).Nodup) : SrtG lt (l.mergeSort (PySem.W.dataLe false (qPd kd))) := by
  have h1 : (l.mergeSort (PySem.W.dataLe false (qPd kd))).Pairwise fun p q => PySem.W.dataLe false (qPd kd) p q = true := PySem.W.sort_pairwise (PySem.W.sortLe_total _ _ _) l
  have h2 : (l.mergeSort (PySem.W.dataLe false (qPd kd))).Pairwise fun p q => p.1 ≠ q.1 := by
    have hp := (List.mergeSort_perm l (PySem.W.dataLe false (qPd kd))).map (·.1)
    have := (hp.nodup_iff).mpr hn
    unfold List.Nodup at this
    rw [List.pairwise_map] at this
    exact this
  refine (h1.and h2).imp fun {p q} h => ?_
  rcases O.tot _ _ h.2 with z | z
  · exact z
  · exfalso
    have h3 : (!PySem.W.dataLt (qPd kd q) (qPd kd p)) = true := h.1
    unfold qPd at h3
    rw [PySem.W.dataLt_pair (O.al _ _) (alike_v _ _), if_neg fun e => h.2 (O.eqv _ _ e).symm, (O.dl _ _).mpr z] at h3
    cases h3
theorem SrtG.nodup (O : KOrd kd lt) {L : List (κ × List Int)} (h : SrtG lt L) : (L.map (·.1)).Nodup := by
  unfold List.Nodup
  rw [List.pairwise_map]
  exact h.imp fun {p q} z (e : p.1 = q.1) => O.irr p.1 q.1 z (by rw [e] at z ⊢; exact z)
theorem srtG_ext (O : KOrd kd lt) : ∀ {L K : List (κ × List Int)}, SrtG lt L → SrtG lt K → (∀ p, p ∈ L ↔ p ∈ K) → L = K
  | [], [], _, _, _ => rfl
  | [], q :: K, _, _, h => absurd ((h q).mpr List.mem_cons_self) (List.not_mem_nil)
  | p :: L, [], _, _, h => absurd ((h p).mp List.mem_cons_self) (List.not_mem_nil)
  | p :: L, q :: K, hL, hK, h => by
    have hL' := List.pairwise_cons.mp hL
    have hK' := List.pairwise_cons.mp hK
    have e : p = q := by
      rcases List.mem_cons.mp ((h p).mp List.mem_cons_self) with e | e
      · exact e
      · rcases List.mem_cons.mp ((h q).mpr List.mem_cons_self) with e' | e'
        · exact e'.symm
        · exact (O.irr _ _ (hK'.1 p e) (hL'.1 q e')).elim
    subst e
    rw [srtG_ext O hL'.2 hK'.2 fun x => ?_]
    constructor
    · intro hx
      rcases List.mem_cons.mp ((h x).mp (List.mem_cons_of_mem _ hx)) with e | e
      · subst e; exact (O.irr _ _ (hL'.1 _ hx) (hL'.1 _ hx)).elim
      · exact e
    · intro hx
      rcases List.mem_cons.mp ((h x).mpr (List.mem_cons_of_mem _ hx)) with e | e
      · subst e; exact (O.irr _ _ (hK'.1 _ hx) (hK'.1 _ hx)).elim
      · exact e
end
def cKd (c : Cell) : PyData := .tuple [.int c.1, .int c.2]
def nPd (k : NK) : PyData := .tuple [cKd k.1, cKd k.2]
def nLt (a b : NK) : Prop := cLt a.1 b.1 ∨ (a.1 = b.1 ∧ cLt a.2 b.2)
theorem cKd_eq (c d : Cell) : PyData.eqv (cKd c) (cKd d) = true ↔ c = d := by
  have e : PyData.eqv (cKd c) (cKd d) = ((c.1 == d.1) && ((c.2 == d.2) && true)) := by simp only [cKd, PyData.eqv, PyData.eqvAll]
  rw [e]
  simp [Prod.ext_iff]
theorem cell_tot {a b : Cell} (h : a ≠ b) : cLt a b ∨ cLt b a := by
  have : a.1 ≠ b.1 ∨ a.2 ≠ b.2 := by
    apply Classical.byContradiction
    intro z
    exact h (Prod.ext (by omega) (by omega))
  unfold cLt
  omega
theorem cOrd : KOrd cKd cLt where
  al := fun a b => by simp [cKd, PySem.W.alike, PySem.W.alikeAll]
  dl := fun a b => by
    unfold cKd
    rw [PySem.W.dataLt_ii]
    exact decide_eq_true_iff
  eqv := fun a b => (cKd_eq a b).mp
  tot := fun a b => cell_tot
  irr := fun a b => cLt_asym
theorem nOrd : KOrd nPd nLt where
  al := fun a b => by simp [nPd, PySem.W.alike, PySem.W.alikeAll, cOrd.al]
  dl := fun a b => by
    unfold nPd nLt
    rw [PySem.W.dataLt_pair (cOrd.al _ _) (cOrd.al _ _)]
    by_cases h : a.1 = b.1
    · rw [if_pos ((cKd_eq _ _).mpr h)]
      by_cases h2 : a.2 = b.2
      · rw [if_pos ((cKd_eq _ _).mpr h2)]
        constructor
        · intro z; cases z
        · rintro (z | z)
          · rw [h] at z; exact (cLt_irr z).elim
          · rw [h2] at z; exact (cLt_irr z.2).elim
      · rw [if_neg fun z => h2 ((cKd_eq _ _).mp z), cOrd.dl]
        constructor
        · intro z; exact .inr ⟨h, z⟩
        · rintro (z | z)
          · rw [h] at z; exact (cLt_irr z).elim
          · exact z.2
    · rw [if_neg fun z => h ((cKd_eq _ _).mp z), cOrd.dl]
      constructor
      · intro z; exact .inl z
      · rintro (z | z)
        · exact z
        · exact absurd z.1 h
  eqv := fun a b h => by
    have e : PyData.eqv (nPd a) (nPd b) = (PyData.eqv (cKd a.1) (cKd b.1) && (PyData.eqv (cKd a.2) (cKd b.2) && true)) := by simp only [nPd, PyData.eqv, PyData.eqvAll]
    rw [e, Bool.and_true, Bool.and_eq_true] at h
    exact Prod.ext ((cKd_eq _ _).mp h.1) ((cKd_eq _ _).mp h.2)
  tot := fun a b h => by
    unfold nLt
    by_cases h1 : a.1 = b.1
    · have h2 : a.2 ≠ b.2 := fun z => h (Prod.ext h1 z)
      rcases cell_tot h2 with z | z
      · exact .inl (.inr ⟨h1, z⟩)
      · exact .inr (.inr ⟨h1.symm, z⟩)
    · rcases cell_tot h1 with z | z
      · exact .inl (.inl z)
      · exact .inr (.inl z)
  irr := fun a b h1 h2 => by
    unfold nLt at h1 h2
    rcases h1 with h1 | h1 <;> rcases h2 with h2 | h2
    · exact cLt_asym h1 h2
    · rw [h2.1] at h1; exact cLt_irr h1
    · rw [h1.1] at h2; exact cLt_irr h2
    · exact cLt_asym h1.2 h2.2
/-! ### tables -/
section
variable {κ β : Type} [DecidableEq κ]
def getX (l : List (κ × β)) (c : κ) : Option β := (l.find? fun p => decide (p.1 = c)).map (·.2)
def putX (l : List (κ × β)) (c : κ) (v : β) : List (κ × β) := if (l.any fun p => decide (p.1 = c)) = true then l.map (fun p => if p.1 = c then (p.1, v) else p) else l ++ [(c, v)]
theorem getX_self (l : List (κ × β)) (c : κ) (v : β) : getX (putX l c v) c = some v := by
  unfold putX
  split
  · rename_i h
    unfold getX
    induction l with
    | nil => cases h
    | cons p l ih =>
      rw [List.map_cons, List.find?_cons]
      by_cases hp : p.1 = c
      · simp [hp]
      · simp only [hp, if_false, decide_false]
        refine ih ?_
        rw [List.any_cons] at h
        simpa [hp] using h
  · rename_i h
    unfold getX
    rw [List.find?_append]
    have e : (l.find? fun p => decide (p.1 = c)) = none := by
      rw [List.find?_eq_none]
      intro x hx hc
      exact h (List.any_eq_true.mpr ⟨x, hx, hc⟩)
    rw [e]
    simp
theorem getX_ne {c c' : κ} (l : List (κ × β)) (v : β) (hc : c' ≠ c) : getX (putX l c v) c' = getX l c' := by
  unfold putX
  split
  · rename_i h
    unfold getX
    clear h
    induction l with
    | nil => rfl
    | cons p l ih =>
      rw [List.map_cons, List.find?_cons, List.find?_cons]
      by_cases hp : p.1 = c
      · have : p.1 ≠ c' := fun z => hc (z.symm.trans hp)
        simp only [hp, if_true, Ne.symm hc, decide_false]
        exact ih
      · simp only [hp, if_false]
        by_cases hp' : p.1 = c'
        · simp [hp']
        · simp only [hp', decide_false]
          exact ih
  · unfold getX
    rw [List.find?_append]
    cases l.find? fun p => decide (p.1 = c') with
    | some x => rfl
    | none => simp [Ne.symm hc]
theorem getX_mem : ∀ {l : List (κ × β)} {c : κ} {v : β}, (l.map (·.1)).Nodup → (c, v) ∈ l → getX l c = some v
  | [], _, _, _, h => by cases h
  | p :: l, c, v, hn, h => by
    rw [List.map_cons, List.nodup_cons] at hn
    unfold getX
    rw [List.find?_cons]
    rcases List.mem_cons.mp h with e | h
    · subst e; simp
    · have ne : p.1 ≠ c := fun z => hn.1 (by rw [z]; exact List.mem_map.mpr ⟨(c, v), h, rfl⟩)
      simp only [ne, decide_false]
      exact getX_mem hn.2 h
theorem getX_mem' {l : List (κ × β)} {c : κ} {v : β} (q : getX l c = some v) : (c, v) ∈ l := by
  unfold getX at q
  obtain ⟨p, h1, h2⟩ := Option.map_eq_some_iff.mp q
  have h3 := List.find?_some h1
  have e : p = (c, v) := Prod.ext (of_decide_eq_true h3) h2
  rw [← e]; exact List.mem_of_find?_eq_some h1
theorem mem_getX {l : List (κ × β)} (hn : (l.map (·.1)).Nodup) (p : κ × β) : p ∈ l ↔ getX l p.1 = some p.2 := ⟨fun h => getX_mem hn h, getX_mem'⟩
theorem putX_keys (l : List (κ × β)) (c : κ) (v : β) : (putX l c v).map (·.1) = if (l.any fun p => decide (p.1 = c)) = true then l.map (·.1) else l.map (·.1) ++ [c] := by
  unfold putX
  split
  · rw [List.map_map]
    apply List.map_congr_left
    intro p _
    show (if p.1 = c then (p.1, v) else p).1 = p.1
    split <;> rfl
  · rw [List.map_append]; rfl
theorem putX_nodup {l : List (κ × β)} {c : κ} {v : β} (h : (l.map (·.1)).Nodup) : ((putX l c v).map (·.1)).Nodup := by
  rw [putX_keys]
  split
  · exact h
  · rename_i hn
    rw [List.nodup_append]
    refine ⟨h, by simp, fun x hx y hy e => ?_⟩
    rw [List.mem_singleton.mp hy] at e
    subst e
    obtain ⟨p, hp, e⟩ := List.mem_map.mp hx
    exact hn (List.any_eq_true.mpr ⟨p, hp, decide_eq_true e⟩)
theorem putX_len (l : List (κ × β)) (c : κ) (v : β) : (putX l c v).length ≤ l.length + 1 := by
  unfold putX
  split
  · simp
  · simp
theorem putX_new {l : List (κ × β)} {c : κ} (v : β) (h : c ∉ l.map (·.1)) : putX l c v = l ++ [(c, v)] := by
  unfold putX
  rw [if_neg]
  intro z
  obtain ⟨p, hp, e⟩ := List.any_eq_true.mp z
  exact h (List.mem_map.mpr ⟨p, hp, of_decide_eq_true e⟩)
end
/-! ### counts over a run -/
def cnt4 (ws : List Int) : List Int := [((ws.count 0 : Nat) : Int), ((ws.count 1 : Nat) : Int), ((ws.count 2 : Nat) : Int), ((ws.count 3 : Nat) : Int)]
def rowOf (as : List Ant) (c : Cell) : List Int := (as.filter fun a => decide (a.c = c)).map (·.w)
def entE (as : List Ant) (a : Ant) : Cell × List Int := (a.c, cnt4 (rowOf as a.c))
def EntOk (as : List Ant) (E : List (Cell × List Int)) : Prop := SrtG cLt E ∧ (∀ p, p ∈ E ↔ ∃ a ∈ as, p = entE as a) ∧ E.length ≤ as.length
def mnC (a b : Cell) : Cell := if cLt b a then b else a
def mxC (a b : Cell) : Cell := if cLt a b then b else a
def keyC (a b : Cell) : NK := (mnC a b, mxC a b)
abbrev Prs := List (Cell × Cell)
def crN (qs : Prs) (c d : Cell) : Int := ((qs.count (c, d) : Nat) : Int)
def crV (qs : Prs) (k : NK) : List Int := [crN qs k.1 k.2, crN qs k.2 k.1]
def CrOk (qs : Prs) (E : List (NK × List Int)) : Prop := SrtG nLt E ∧ (∀ p, p ∈ E ↔ ∃ q ∈ qs, p = (keyC q.1 q.2, crV qs (keyC q.1 q.2))) ∧ E.length ≤ qs.length
def up1 (v : List Int) (b : Bool) : List Int := match v with
  | [x, y] => if b = true then [x + 1, y] else [x, y + 1]
  | v => v
def crF (l : List (NK × List Int)) (q : Cell × Cell) : List (NK × List Int) := putX l (keyC q.1 q.2) (up1 ((getX l (keyC q.1 q.2)).getD [0, 0]) (decide (cLt q.1 q.2)))
def crL (qs : Prs) : List (NK × List Int) := qs.foldl crF []
theorem crL_snoc (qs : Prs) (q : Cell × Cell) : crL (qs ++ [q]) = crF (crL qs) q := by unfold crL; rw [List.foldl_append]; rfl
theorem crL_nodup (qs : Prs) : ((crL qs).map (·.1)).Nodup := by
  refine snoc_ind (P := fun qs => ((crL qs).map (·.1)).Nodup) List.nodup_nil (fun cs c ih => ?_) qs
  rw [crL_snoc]; exact putX_nodup ih
theorem crL_len (qs : Prs) : (crL qs).length ≤ qs.length := by
  refine snoc_ind (P := fun qs => (crL qs).length ≤ qs.length) (Nat.le_refl _) (fun cs c ih => ?_) qs
  rw [crL_snoc, List.length_append, List.length_singleton]
  have := putX_len (crL cs) (keyC c.1 c.2) (up1 ((getX (crL cs) (keyC c.1 c.2)).getD [0, 0]) (decide (cLt c.1 c.2)))
  unfold crF
  omega
theorem key_cases {a b : Cell} (h : a ≠ b) : (cLt a b ∧ keyC a b = (a, b)) ∨ (cLt b a ∧ ¬ cLt a b ∧ keyC a b = (b, a)) := by
  unfold keyC mnC mxC
  rcases cell_tot h with z | z
  · left; refine ⟨z, ?_⟩
    rw [if_neg fun y => cLt_asym z y, if_pos z]
  · right; refine ⟨z, fun y => cLt_asym z y, ?_⟩
    rw [if_pos z, if_neg fun y => cLt_asym z y]
theorem key_lt {a b : Cell} (h : a ≠ b) : cLt (keyC a b).1 (keyC a b).2 := by
  rcases key_cases h with ⟨z, e⟩ | ⟨z, _, e⟩ <;> rw [e] <;> exact z
theorem key_symm {a b : Cell} (h : a ≠ b) : keyC b a = keyC a b := by
  rcases key_cases h with ⟨z, e⟩ | ⟨z, _, e⟩
  · rw [e]
    rcases key_cases (Ne.symm h) with ⟨y, e'⟩ | ⟨y, _, e'⟩
    · exact (cLt_asym z y).elim
    · exact e'
  · rw [e]
    rcases key_cases (Ne.symm h) with ⟨y, e'⟩ | ⟨y, _, e'⟩
    · exact e'
    · exact (cLt_asym z y).elim
theorem crN_snoc (qs : Prs) (q : Cell × Cell) (c d : Cell) : crN (qs ++ [q]) c d = crN qs c d + if q = (c, d) then 1 else 0 := by
  unfold crN
  rw [List.count_append]
  by_cases h : q = (c, d)
  · subst h; simp
  · rw [if_neg h]; simp [h]
theorem crL_get (qs : Prs) : (∀ q ∈ qs, q.1 ≠ q.2) → ∀ k : NK, cLt k.1 k.2 → (getX (crL qs) k).getD [0, 0] = crV qs k ∧ ((getX (crL qs) k).isSome = true ↔ ∃ q ∈ qs, keyC q.1 q.2 = k) := by
  refine snoc_ind (P := fun qs => (∀ q ∈ qs, q.1 ≠ q.2) → ∀ k : NK, cLt k.1 k.2 → (getX (crL qs) k).getD [0, 0] = crV qs k ∧ ((getX (crL qs) k).isSome = true ↔ ∃ q ∈ qs, keyC q.1 q.2 = k)) (fun _ k _ => ⟨rfl, by simp [crL, getX]⟩) (fun qs q ih hq k hk => ?_) qs
  have ih := ih fun x hx => hq x (List.mem_append_left _ hx)
  have hne := hq q (List.mem_append_right _ List.mem_cons_self)
  rw [crL_snoc]
  unfold crF
  by_cases h : k = keyC q.1 q.2
  · subst h
    obtain ⟨i1, i2⟩ := ih _ hk
    rw [getX_self, i1]
    refine ⟨?_, by simp⟩
    show up1 (crV qs (keyC q.1 q.2)) (decide (cLt q.1 q.2)) = _
    unfold crV up1
    rw [crN_snoc, crN_snoc]
    rcases key_cases hne with ⟨z, e⟩ | ⟨z, y, e⟩
    · rw [e]
      have h1 : q = (q.1, q.2) := rfl
      have h2 : q ≠ (q.2, q.1) := fun z => hne (by have := congrArg Prod.fst z; exact this)
      simp only [decide_eq_true z, if_true, if_neg h2, Int.add_zero]
    · rw [e]
      have h2 : q ≠ (q.2, q.1) := fun z => hne (by have := congrArg Prod.fst z; exact this)
      simp only [decide_eq_false y, Bool.false_eq_true, if_false, if_neg h2, Int.add_zero, if_true]
  · obtain ⟨i1, i2⟩ := ih k hk
    rw [getX_ne _ _ h, i1]
    have n1 : q ≠ (k.1, k.2) := fun z => h (by
      rcases key_cases hne with ⟨_, e⟩ | ⟨y, _, e⟩
      · rw [e]; exact z.symm
      · rw [z] at y; exact (cLt_asym hk y).elim)
    have n2 : q ≠ (k.2, k.1) := fun z => h (by
      rcases key_cases hne with ⟨y, e⟩ | ⟨y, _, e⟩
      · rw [z] at y; exact (cLt_asym hk y).elim
      · rw [e, z])
    refine ⟨?_, ?_⟩
    · unfold crV; rw [crN_snoc, crN_snoc, if_neg n1, if_neg n2, Int.add_zero, Int.add_zero]
    · rw [i2]
      constructor
      · rintro ⟨x, hx, e⟩; exact ⟨x, List.mem_append_left _ hx, e⟩
      · rintro ⟨x, hx, e⟩
        rcases List.mem_append.mp hx with hx | hx
        · exact ⟨x, hx, e⟩
        · rw [List.mem_singleton.mp hx] at e; exact absurd e.symm h
theorem crL_keys (qs : Prs) (hq : ∀ q ∈ qs, q.1 ≠ q.2) : ∀ p ∈ crL qs, cLt p.1.1 p.1.2 := by
  revert hq
  refine snoc_ind (P := fun qs => (∀ q ∈ qs, q.1 ≠ q.2) → ∀ p ∈ crL qs, cLt p.1.1 p.1.2) (fun _ p hp => by cases hp) (fun qs q ih hq p hp => ?_) qs
  have h1 : p.1 ∈ (crF (crL qs) q).map (·.1) := by rw [← crL_snoc]; exact List.mem_map.mpr ⟨p, hp, rfl⟩
  unfold crF at h1
  rw [putX_keys] at h1
  have h2 : p.1 ∈ (crL qs).map (·.1) ∨ p.1 = keyC q.1 q.2 := by
    split at h1
    · exact .inl h1
    · rcases List.mem_append.mp h1 with h | h
      · exact .inl h
      · exact .inr (List.mem_singleton.mp h)
  rcases h2 with h2 | h2
  · obtain ⟨p', hp', e⟩ := List.mem_map.mp h2
    rw [← e]
    exact ih (fun x hx => hq x (List.mem_append_left _ hx)) p' hp'
  · rw [h2]; exact key_lt (hq q (List.mem_append_right _ List.mem_cons_self))
theorem crL_mem (qs : Prs) (hq : ∀ q ∈ qs, q.1 ≠ q.2) (p : NK × List Int) : p ∈ crL qs ↔ ∃ q ∈ qs, p = (keyC q.1 q.2, crV qs (keyC q.1 q.2)) := by
  rw [mem_getX (crL_nodup qs)]
  constructor
  · intro h
    have hk := crL_keys qs hq p (getX_mem' h)
    obtain ⟨i1, i2⟩ := crL_get qs hq p.1 hk
    obtain ⟨q, hqm, e⟩ := i2.mp (by rw [h]; rfl)
    rw [h] at i1
    exact ⟨q, hqm, by rw [e]; exact Prod.ext rfl i1⟩
  · rintro ⟨q, hqm, rfl⟩
    obtain ⟨i1, i2⟩ := crL_get qs hq (keyC q.1 q.2) (key_lt (hq q hqm))
    have := i2.mpr ⟨q, hqm, rfl⟩
    show getX (crL qs) (keyC q.1 q.2) = some (crV qs (keyC q.1 q.2))
    cases z : getX (crL qs) (keyC q.1 q.2) with
    | none => rw [z] at this; cases this
    | some v => rw [z] at i1; rw [← i1]; rfl
theorem cr_ok {qs : Prs} (hq : ∀ q ∈ qs, q.1 ≠ q.2) {E : List (NK × List Int)} (hp : E.Perm (crL qs)) (hs : SrtG nLt E) : CrOk qs E := ⟨hs, fun p => by rw [hp.mem_iff]; exact crL_mem qs hq p, by rw [hp.length_eq]; exact crL_len qs⟩
def IsMost (cs : List Cell) (m : Int) : Prop := (∃ c ∈ cs, ((cs.count c : Nat) : Int) = m) ∧ ∀ c ∈ cs, ((cs.count c : Nat) : Int) ≤ m
end DL
/-! Steps, backward, rings, sides: specs. -/
namespace DL
open PySem PySem.Spec PyProof.Rows L2
theorem takes_w0 {X : Cx} : Takes X w0.W := fun _ _ x => by
  obtain ⟨_, _, _, _, _, _, _, _, _, _, _, _, _, _, _, _, z⟩ := x
  exact z.elim
/-- a FLOOR, ascending -/
structure FlOk (n : Nat) (f : Floor) : Prop where
  len : f.length ≤ 2000
  each : ∀ p ∈ f, CellOk p.1 ∧ 1 ≤ p.2 ∧ p.2 ≤ (n : Int) - 1
  srt : Srt f
theorem FlOk.floor {n : Nat} {f : Floor} (h : FlOk n f) : FloorOk n f := ⟨h.len, h.each, fun i p q hp hq => cellLt_of (by
  have z := List.pairwise_iff_getElem.mp h.srt
  obtain ⟨h1, e1⟩ := List.getElem?_eq_some_iff.mp hp
  obtain ⟨h2, e2⟩ := List.getElem?_eq_some_iff.mp hq
  have := z i (i + 1) h1 h2 (Nat.lt_succ_self i)
  rwa [e1, e2] at this)⟩
theorem FlOk.nodup {n : Nat} {f : Floor} (h : FlOk n f) : (f.map (·.1)).Nodup := h.srt.nodup
theorem FlOk.cols {r : List Bool} {f : Floor} (h : FlOk r.length f) : ColsOk r f := fun p hp => by
  have := h.each p hp
  omega
/-- a standing as it is passed in -/
structure StD (d : D) (n : Nat) (f : Floor) (a : Ant) : Prop where
  re : retag d = eSt f a
  pl : plainN 7 d = true
  fl : FlOk n f
  an : AntOk a
def sp_told_floorS : DSp := fun ds M k _ => ∃ a, ∃ l : List (Cell × Int), ds = [.obj a] ∧ M a = some (.dT (encT D.int l)) ∧ l.length ≤ 1000000 ∧ (l.map (·.1)).Nodup ∧ ∀ L, Canon l L → k (eF L) M
def sp_other_letter : DSp := fun ds M k _ => ∃ b, ds = [.str (lS b)] ∧ k (.str (lS (!b))) M
def notW (w : List Bool) : List Bool := w.map fun b => !b
def sp_mirrored_rule : DSp := fun ds M k _ => ∃ r : List Bool, ds = [.str (eW r)] ∧ RuleOk r ∧ k (.str (eW (notW r))) M
def sp_sure_cell : DSp := fun ds M k _ => ∃ c : Cell, ds = [eC c] ∧ CellOk c ∧ k (eC c) M
def sp_letter_in : DSp := fun ds M k _ => ∃ r d, ∃ l : List (Cell × Int), ∃ a, ds = [.str (eW r), .obj d, eA a] ∧ RuleOk r ∧ M d = some (.dT (encT D.int l)) ∧ ColsOk r l ∧ k (.str (lS (rAtI r (colAt l a.c)))) M
def sp_stepped_in : DSp := fun ds M k _ => ∃ r d, ∃ l : List (Cell × Int), ∃ a, ds = [.str (eW r), .obj d, eA a] ∧ RuleOk r ∧ M d = some (.dT (encT D.int l)) ∧ ColsOk r l ∧ l.length ≤ 100000 ∧ k (eA (stepA r l a)) (put M d (.dT (encT D.int (stepL r l a))))
def eLs (w : List Bool) : List D := w.map fun b => D.str (lS b)
def eAs (l : List Ant) : List D := l.map eA
def wLet (r : List Bool) (W : Ant → Ant) (s : Sl) (n : Nat) : List Bool := (trW r W s n).map (·.2)
def wAnts (r : List Bool) (W : Ant → Ant) (s : Sl) (n : Nat) : List Ant := (List.range n).map fun i => (wI r W i s).2
structure FRun (r : List Bool) (f : Floor) : Prop where
  ru : RuleOk r
  c : ColsOk r f
  nd : (f.map (·.1)).Nodup
  len : f.length ≤ 2000
def sp_lived : DSp := fun ds M k _ => ∃ r f a, ∃ n : Nat, ds = [.str (eW r), eSt f a, .int n] ∧ FRun r f ∧ n ≤ 20000 ∧
  ∀ M' p q x, Sub M M' → M' p = some (.lst (eLs (wLet r id (f, a) n))) → M' q = some (.lst (eAs (wAnts r id (f, a) (n + 1)))) → k (.tup [.obj p, .obj q, x]) M'
def sp_after_in : DSp := fun ds M k _ => ∃ r f a, ∃ n : Nat, ds = [.str (eW r), eSt f a, .int n] ∧ FRun r f ∧ n ≤ 20000 ∧
  ∀ L, Canon (wI r id n (f, a)).1 L → k (.tup [eF L, eA (wI r id n (f, a)).2]) M
def sp_after : DSp := fun ds M k _ => ∃ r d f a, ∃ n : Nat, ds = [.str (eW r), d, .int n] ∧ RuleOk r ∧ StD d r.length f a ∧ n ≤ 20000 ∧
  ∀ L, Canon (wI r id n (f, a)).1 L → k (.tup [eF L, eA (wI r id n (f, a)).2]) M
def sp_turns_of : DSp := fun ds M k _ => ∃ r d f a, ∃ n : Nat, ds = [.str (eW r), d, .int n] ∧ RuleOk r ∧ StD d r.length f a ∧ n ≤ 20000 ∧ k (.str (eW (wLet r id (f, a) n))) M
def sp_visits : DSp := fun ds M k _ => ∃ r d f a, ∃ n : Nat, ds = [.str (eW r), d, .int n] ∧ RuleOk r ∧ StD d r.length f a ∧ n ≤ 20000 ∧ ∀ L, Canon (visL ((trW r id (f, a) n).map (·.1))) L → k (eF L) M
def bwF (r : List Bool) (f : Floor) : Floor := f.map fun p => (p.1, (r.length : Int) - p.2)
def sp_backward_in : DSp := fun ds M k _ => ∃ r f a, ds = [.str (eW r), eSt f a] ∧ RuleOk r ∧ f.length ≤ 2000 ∧ (0 ≤ a.w ∧ a.w ≤ 3) ∧ k (.tup [.str (eW (bwR r)), eSt (bwF r f) (bwA a)]) M
def sp_backward : DSp := fun ds M k _ => ∃ r d f a, ds = [.str (eW r), d] ∧ RuleOk r ∧ StD d r.length f a ∧ k (.tup [.str (eW (bwR r)), eSt (bwF r f) (bwA a)]) M
def sp_backward_rule : DSp := fun ds M k _ => ∃ r, ds = [.str (eW r)] ∧ RuleOk r ∧ k (.str (eW (bwR r))) M
def eR (p q : Int) : D := .tup [.int p, .int q]
def RingOk (p q : Int) : Prop := (2 ≤ p ∧ p ≤ 12) ∧ (2 ≤ q ∧ q ≤ 12)
def sp_is_ring_in : DSp := fun ds M k _ => ∃ p q, ds = [eR p q] ∧ RingOk p q ∧ k (.bl true) M
def sp_sure_ring : DSp := fun ds M k _ => ∃ p q, ds = [eR p q] ∧ RingOk p q ∧ k (eR p q) M
def sp_is_on_ring : DSp := fun ds M k _ => ∃ p q d, ∃ c : Cell, ds = [eR p q, d] ∧ (d = eC c ∨ ∃ w : Int, d = .tup [.int c.1, .int c.2, .int w]) ∧ OnR p q c ∧ k (.bl true) M
structure RSt (r : List Bool) (p q : Int) (f : Floor) (a : Ant) : Prop where
  ru : RuleOk r
  ring : RingOk p q
  fl : FlOk r.length f
  an : AntOk a
  on : OnR p q a.c
  each : ∀ x ∈ f, OnR p q x.1
def sp_is_ring_standing_in : DSp := fun ds M k _ => ∃ r p q f a, ds = [.str (eW r), eR p q, eSt f a] ∧ RSt r p q f a ∧ k (.bl true) M
def sp_sure_ring_standing : DSp := fun ds M k _ => ∃ r p q d f a, ds = [.str (eW r), eR p q, d] ∧ RSt r p q f a ∧ retag d = eSt f a ∧ plainN 7 d = true ∧ k (eSt f a) M
def sp_wrapped : DSp := fun ds M k _ => ∃ p q a, ds = [eR p q, eA a] ∧ (0 < p ∧ 0 < q) ∧ k (eA (wrapA p q a)) M
def sp_ring_after_in : DSp := fun ds M k _ => ∃ r p q f a, ∃ n : Nat, ds = [.str (eW r), eR p q, eSt f a, .int n] ∧ FRun r f ∧ (0 < p ∧ 0 < q) ∧ n ≤ 20000 ∧
  ∀ L, Canon (wI r (wrapA p q) n (f, a)).1 L → k (.tup [eF L, eA (wI r (wrapA p q) n (f, a)).2]) M
def RoundK (r : List Bool) (W : Ant → Ant) (s : Sf) (most : Nat) (k : Nat → Prop) (e : Prop) : Prop := (∀ m, 1 ≤ m → m ≤ most → Rnd r W s m → (∀ j, 1 ≤ j → j < m → ¬ Rnd r W s j) → k m) ∧ ((∀ m, 1 ≤ m → m ≤ most → ¬ Rnd r W s m) → e)
def sp_ring_round_in : DSp := fun ds M k _ => ∃ r p q f a, ∃ n : Nat, ds = [.str (eW r), eR p q, eSt f a, .int n] ∧ FRun r f ∧ (0 < p ∧ 0 < q) ∧ n ≤ 20000 ∧ RoundK r (wrapA p q) (toF (f, a)) n (fun m => k (.int m) M) (k .non M)
def sp_ring_after : DSp := fun ds M k _ => ∃ r p q d f a, ∃ n : Nat, ds = [.str (eW r), eR p q, d, .int n] ∧ RSt r p q f a ∧ retag d = eSt f a ∧ plainN 7 d = true ∧ n ≤ 20000 ∧
  ∀ L, Canon (wI r (wrapA p q) n (f, a)).1 L → k (.tup [eF L, eA (wI r (wrapA p q) n (f, a)).2]) M
def sp_ring_word : DSp := fun ds M k _ => ∃ r p q d f a, ∃ n : Nat, ds = [.str (eW r), eR p q, d, .int n] ∧ RSt r p q f a ∧ retag d = eSt f a ∧ plainN 7 d = true ∧ n ≤ 20000 ∧ k (.str (eW (wLet r (wrapA p q) (f, a) n))) M
def sp_ring_round : DSp := fun ds M k e => ∃ r p q d f a, ds = [.str (eW r), eR p q, d] ∧ RSt r p q f a ∧ retag d = eSt f a ∧ plainN 7 d = true ∧ RoundK r (wrapA p q) (toF (f, a)) 20000 (fun m => k (.int m) M) (e M)
def sp_lived_by : DSp := fun ds M k _ => ∃ r d f a, ∃ n : Nat, ds = [.str (eW r), d, .int n] ∧ RuleOk r ∧ StD d r.length f a ∧ n ≤ 20000 ∧
  ∀ M' p q, Sub M M' → M' p = some (.lst (eLs (wLet r id (f, a) n))) → M' q = some (.lst (eAs (wAnts r id (f, a) (n + 1)))) → k (.tup [.obj p, .obj q]) M'
def sp_turns_counted : DSp := fun ds M k _ => ∃ r d f a, ∃ n : Nat, ds = [.str (eW r), d, .int n] ∧ RuleOk r ∧ StD d r.length f a ∧ n ≤ 20000 ∧ k (.tup [.int ((wLet r id (f, a) n).count true : Nat), .int ((wLet r id (f, a) n).count false : Nat)]) M
def sp_cell_word : DSp := fun ds M k _ => ∃ r d f a, ∃ n : Nat, ∃ c, ds = [.str (eW r), d, .int n, eC c] ∧ RuleOk r ∧ StD d r.length f a ∧ n ≤ 20000 ∧ CellOk c ∧ k (.str (eW (onC (trW r id (f, a) n) c))) M
/-! the law's own -/
def sp__law_laid : DSp := sp_told_floorS
def Near (c : Cell) : Prop := (-2 ≤ c.1 ∧ c.1 ≤ 2) ∧ (-2 ≤ c.2 ∧ c.2 ≤ 2)
structure FNear (n : Nat) (f : Floor) : Prop where
  fl : FlOk n f
  len : f.length ≤ 6
  near : ∀ p ∈ f, Near p.1
structure ANear (a : Ant) : Prop where
  near : Near a.c
  w : 0 ≤ a.w ∧ a.w ≤ 3
def sp__law_floor : DSp := fun ds M k _ => ∃ t r x y z n, ds = [.obj t, .str (eW r), .int 6, .int 2] ∧ RuleOk r ∧ M t = some (tinL x y z) ∧ TinV x y z n ∧ n ≤ 100000 ∧ ∀ f M' x' y' z', FNear r.length f → TinV x' y' z' (n + 30) → Sub (put M t (tinL x' y' z')) M' → k (eF f) M'
def sp__law_ant : DSp := fun ds M k _ => ∃ t x y z n, ds = [.obj t, .int 2] ∧ M t = some (tinL x y z) ∧ TinV x y z n ∧ n ≤ 200000 ∧ ∀ a x' y' z', ANear a → TinV x' y' z' (n + 3) → k (eA a) (put M t (tinL x' y' z'))
def sp__law_stand : DSp := fun ds M k _ => ∃ t r x y z n, ds = [.obj t, .str (eW r)] ∧ RuleOk r ∧ M t = some (tinL x y z) ∧ TinV x y z n ∧ n ≤ 100000 ∧ ∀ f a M' x' y' z', FNear r.length f → ANear a → TinV x' y' z' (n + 33) → Sub (put M t (tinL x' y' z')) M' → k (eSt f a) M'
def sp__law_swapped : DSp := fun ds M k _ => ∃ w : List Bool, ds = [.str (eW w)] ∧ w.length ≤ 20000 ∧ k (.str (eW (notW w))) M
def sp__law_pick : DSp := fun ds M k _ => ∃ t g x y z n, ∃ gs : List D, ds = [.obj t, .obj g, .int 4] ∧ M t = some (tinL x y z) ∧ M g = some (.lst gs) ∧ TinV x y z n ∧ n ≤ 100000 ∧ gs.length ≤ 100000 ∧
  ∀ fs M' q x' y' z', (∀ d ∈ fs, d ∈ gs) → fs.length ≤ 4 → TinV x' y' z' (n + 4) → Sub (put M t (tinL x' y' z')) M' → M' q = some (.lst fs) → k (.obj q) M'
def sp__law_lap_oneR : DSp := fun ds M k e => ∃ t x y z n, ds = [.obj t] ∧ M t = some (tinL x y z) ∧ TinV x y z n ∧ n ≤ 10000 ∧ ∀ M' x' y' z', TinV x' y' z' (n + 200) → Sub (put M t (tinL x' y' z')) M' → k (.bl true) M' ∧ e M'
def sp__law_lap_heard (g : Addr) : DSp := fun ds M k _ => ∃ t x y z n, ds = [.obj g, .obj t] ∧ M t = some (tinL x y z) ∧ TinV x y z n ∧ n ≤ 10000 ∧ ∀ M' x' y' z', TinV x' y' z' (n + 200) → Sub (put M t (tinL x' y' z')) M' → k (.bl true) M'
def sp_law : DSp := fun ds M k _ => ∃ ns : List Int, ds = [.scl (ns.map D.int)] ∧ ns.length ≤ 63 ∧ ∀ M', Sub M M' → k (.bl true) M'
end DL
/-! A run carried along by a map of cells and ways. -/
namespace DL
open PySem PySem.Spec PyProof.Rows L2
def Way (w : Int) : Prop := 0 ≤ w ∧ w ≤ 3
instance (w : Int) : Decidable (Way w) := by unfold Way; infer_instance
structure Mot (φ : Cell → Cell) (ψ : Int → Int) (x : Bool) : Prop where
  inj : ∀ c d, φ c = φ d → c = d
  turn : ∀ w b, Way w → ψ (turnW w b) = turnW (ψ w) (xor x b)
  go : ∀ c w, Way w → φ (c.1 + (dirW w).1, c.2 + (dirW w).2) = ((φ c).1 + (dirW (ψ w)).1, (φ c).2 + (dirW (ψ w)).2)
  ok : ∀ w, Way w → Way (ψ w)
def mapA (φ : Cell → Cell) (ψ : Int → Int) (a : Ant) : Ant := ⟨φ a.c, ψ a.w⟩
def xR (x : Bool) (r : List Bool) : List Bool := r.map fun b => xor x b
theorem xR_len (x : Bool) (r : List Bool) : (xR x r).length = r.length := by simp [xR]
theorem xR_true (r : List Bool) : xR true r = notW r := by unfold xR notW; congr 1; funext b; cases b <;> rfl
theorem xR_false (r : List Bool) : xR false r = r := by unfold xR; simp
theorem xR_at {x : Bool} {r : List Bool} {i : Int} (h : 0 ≤ i ∧ i < (r.length : Int)) : rAtI (xR x r) i = xor x (rAtI r i) := by
  unfold rAtI rAt xR
  have hl : i.toNat < r.length := by omega
  rw [List.getD_eq_getElem?_getD, List.getD_eq_getElem?_getD, List.getElem?_map, List.getElem?_eq_getElem hl]; rfl
theorem turn_way (w : Int) (b : Bool) (h : Way w) : Way (turnW w b) := by
  unfold turnW Way
  split <;> omega
section
variable {φ : Cell → Cell} {ψ : Int → Int} {x : Bool} {r : List Bool}
structure RelF (φ : Cell → Cell) (ψ : Int → Int) (n : Nat) (s s' : Sf) : Prop where
  col : ∀ c, s'.1 (φ c) = s.1 c
  ant : s'.2 = mapA φ ψ s.2
  way : Way s.2.w
  rng : ∀ c, 0 ≤ s.1 c ∧ s.1 c < (n : Int)
theorem relF_step (m : Mot φ ψ x) (hr : RuleOk r) {s s' : Sf} (h : RelF φ ψ r.length s s') : RelF φ ψ r.length (fS r id s) (fS (xR x r) id s') ∧ fB (xR x r) s' = xor x (fB r s) := by
  have hc : s'.2.c = φ s.2.c := by rw [h.ant]; rfl
  have hb : fB (xR x r) s' = xor x (fB r s) := by
    unfold fB
    rw [hc, h.col, xR_at (h.rng _)]
  refine ⟨⟨fun c => ?_, ?_, ?_, fun c => ?_⟩, hb⟩
  · show (if φ c = s'.2.c then (s'.1 s'.2.c + 1) % ((xR x r).length : Int) else s'.1 (φ c)) = if c = s.2.c then (s.1 s.2.c + 1) % (r.length : Int) else s.1 c
    rw [hc, h.col, h.col, xR_len]
    by_cases e : c = s.2.c
    · rw [if_pos (by rw [e]), if_pos e]
    · rw [if_neg fun z => e (m.inj _ _ z), if_neg e]
  · show stepB s'.2 (fB (xR x r) s') = mapA φ ψ (stepB s.2 (fB r s))
    rw [hb, h.ant]
    show goA (φ s.2.c) (turnW (ψ s.2.w) (xor x (fB r s))) = _
    rw [← m.turn _ _ h.way]
    unfold stepB goA mapA
    have := m.go s.2.c (turnW s.2.w (fB r s)) (turn_way _ _ h.way)
    rw [this]
  · exact turn_way _ _ h.way
  · show 0 ≤ (if c = s.2.c then (s.1 s.2.c + 1) % (r.length : Int) else s.1 c) ∧ (if c = s.2.c then (s.1 s.2.c + 1) % (r.length : Int) else s.1 c) < (r.length : Int)
    have := hr.1
    split
    · exact ⟨Int.emod_nonneg _ (by omega), Int.emod_lt_of_pos _ (by omega)⟩
    · exact h.rng c
theorem relF_run (m : Mot φ ψ x) (hr : RuleOk r) {s s' : Sf} (h : RelF φ ψ r.length s s') : ∀ i, RelF φ ψ r.length (fI r id i s) (fI (xR x r) id i s')
  | 0 => h
  | i + 1 => (relF_step m hr (relF_run m hr h i)).1
theorem ants_rel (m : Mot φ ψ x) (hr : RuleOk r) {s s' : Sl} (h : RelF φ ψ r.length (toF s) (toF s')) (n : Nat) : wAnts (xR x r) id s' n = (wAnts r id s n).map (mapA φ ψ) := by
  unfold wAnts
  rw [List.map_map]
  apply List.map_congr_left
  intro i _
  rw [wC_f, (relF_run m hr h i).ant, ← wC_f]; rfl
theorem ants_way (m : Mot φ ψ x) (hr : RuleOk r) {s s' : Sl} (h : RelF φ ψ r.length (toF s) (toF s')) (n : Nat) : ∀ a ∈ wAnts r id s n, Way a.w := by
  intro a ha
  unfold wAnts at ha
  obtain ⟨i, _, rfl⟩ := List.mem_map.mp ha
  rw [wC_f]
  exact (relF_run m hr h i).way
theorem tr_rel (m : Mot φ ψ x) (hr : RuleOk r) {s s' : Sl} (h : RelF φ ψ r.length (toF s) (toF s')) (n : Nat) : trW (xR x r) id s' n = (trW r id s n).map fun p => (φ p.1, xor x p.2) := by
  unfold trW
  rw [List.map_map]
  apply List.map_congr_left
  intro i _
  show ((wI (xR x r) id i s').2.c, wB (xR x r) id s' i) = (φ (wI r id i s).2.c, xor x (wB r id s i))
  rw [wC_f, (relF_run m hr h i).ant, wB_f, (relF_step m hr (relF_run m hr h i)).2, ← wC_f, ← wB_f]; rfl
theorem let_rel (m : Mot φ ψ x) (hr : RuleOk r) {s s' : Sl} (h : RelF φ ψ r.length (toF s) (toF s')) (n : Nat) : wLet (xR x r) id s' n = xR x (wLet r id s n) := by
  unfold wLet
  rw [tr_rel m hr h, List.map_map]
  unfold xR
  rw [List.map_map]; rfl
end
/-! neighbours differ -/
theorem dir_ne (w : Int) : dirW w ≠ (0, 0) := by
  unfold dirW
  split
  · decide
  · split
    · decide
    · split <;> decide
def prsA (as : List Ant) : Prs := (as.zip as.tail).map fun q => (q.1.c, q.2.c)
theorem ants_tail (r : List Bool) (s : Sl) (n : Nat) : (wAnts r id s (n + 1)).tail = (List.range n).map fun i => (wI r id (i + 1) s).2 := by
  unfold wAnts
  rw [List.range_succ_eq_map, List.map_cons, List.tail_cons, List.map_map]; rfl
theorem ants_pairs (r : List Bool) (s : Sl) (n : Nat) : (wAnts r id s (n + 1)).zip (wAnts r id s (n + 1)).tail = (List.range n).map fun i => ((wI r id i s).2, (wI r id (i + 1) s).2) := by
  rw [ants_tail]
  apply List.ext_getElem?
  intro i
  rw [List.zip_eq_zipWith, List.getElem?_zipWith]
  by_cases h : i < n
  · unfold wAnts
    rw [List.getElem?_map, List.getElem?_map, List.getElem?_map, List.getElem?_range h, List.getElem?_range (by omega)]; rfl
  · rw [List.getElem?_eq_none (l := (List.range n).map fun i => (wI r id (i + 1) s).2) (by rw [List.length_map, List.length_range]; omega), List.getElem?_eq_none (l := (List.range n).map fun i => ((wI r id i s).2, (wI r id (i + 1) s).2)) (by rw [List.length_map, List.length_range]; omega)]
    cases (wAnts r id s (n + 1))[i]? <;> rfl
theorem step_ne (r : List Bool) (s : Sl) (i : Nat) : (wI r id i s).2.c ≠ (wI r id (i + 1) s).2.c := by
  intro h
  have h : (wI r id i s).2.c = ((wI r id i s).2.c.1 + (dirW (turnW (wI r id i s).2.w (rAtI r (colAt (wI r id i s).1 (wI r id i s).2.c)))).1, (wI r id i s).2.c.2 + (dirW (turnW (wI r id i s).2.w (rAtI r (colAt (wI r id i s).1 (wI r id i s).2.c)))).2) := h
  refine dir_ne (turnW (wI r id i s).2.w (rAtI r (colAt (wI r id i s).1 (wI r id i s).2.c))) ?_
  have h1 := congrArg Prod.fst h
  have h2 := congrArg Prod.snd h
  refine Prod.ext ?_ ?_
  · show _ = (0 : Int)
    have h1 : (wI r id i s).2.c.1 = (wI r id i s).2.c.1 + _ := h1
    omega
  · show _ = (0 : Int)
    have h2 : (wI r id i s).2.c.2 = (wI r id i s).2.c.2 + _ := h2
    omega
theorem pairs_ne (r : List Bool) (s : Sl) (n : Nat) : ∀ q ∈ prsA (wAnts r id s (n + 1)), q.1 ≠ q.2 := by
  intro q hq
  unfold prsA at hq
  rw [ants_pairs, List.map_map] at hq
  obtain ⟨i, _, rfl⟩ := List.mem_map.mp hq
  exact step_ne r s i
/-! ### what is counted, carried along -/
section
variable {φ : Cell → Cell} {ψ θ : Int → Int} {x : Bool}
def pick4 (f : Int → Int) (v : List Int) : List Int := [v.getD (f 0).toNat 0, v.getD (f 1).toNat 0, v.getD (f 2).toNat 0, v.getD (f 3).toNat 0]
theorem cnt4_at (ws : List Int) {v : Int} (h : Way v) : (cnt4 ws).getD v.toNat 0 = ((ws.count v : Nat) : Int) := by
  obtain rfl | rfl | rfl | rfl := way4 h <;> rfl
structure Back (ψ θ : Int → Int) : Prop where
  ok : ∀ w, Way w → Way (θ w)
  to : ∀ u v, Way u → Way v → (ψ u = v ↔ u = θ v)
theorem count_map (b : Back ψ θ) {v : Int} (hv : Way v) : ∀ {ws : List Int}, (∀ w ∈ ws, Way w) → (ws.map ψ).count v = ws.count (θ v)
  | [], _ => rfl
  | w :: ws, h => by
    rw [List.map_cons, List.count_cons, List.count_cons, count_map b hv fun u hu => h u (List.mem_cons_of_mem _ hu)]
    have := b.to w v (h w List.mem_cons_self) hv
    by_cases e : ψ w = v
    · rw [if_pos (beq_iff_eq.mpr e), if_pos (beq_iff_eq.mpr (this.mp e))]
    · rw [if_neg fun z => e (beq_iff_eq.mp z), if_neg fun z => e (this.mpr (beq_iff_eq.mp z))]
theorem way0 : Way 0 := by unfold Way; omega
theorem way1 : Way 1 := by unfold Way; omega
theorem way2 : Way 2 := by unfold Way; omega
theorem way3 : Way 3 := by unfold Way; omega
theorem cnt4_map (b : Back ψ θ) {ws : List Int} (h : ∀ w ∈ ws, Way w) : cnt4 (ws.map ψ) = pick4 θ (cnt4 ws) := by
  unfold pick4
  rw [cnt4_at _ (b.ok 0 way0), cnt4_at _ (b.ok 1 way1), cnt4_at _ (b.ok 2 way2), cnt4_at _ (b.ok 3 way3)]
  unfold cnt4
  rw [count_map b way0 h, count_map b way1 h, count_map b way2 h, count_map b way3 h]
theorem rowOf_map (inj : ∀ c d, φ c = φ d → c = d) (as : List Ant) (c : Cell) : rowOf (as.map (mapA φ ψ)) (φ c) = (rowOf as c).map ψ := by
  unfold rowOf
  rw [List.filter_map, List.map_map, List.map_map]
  have e : ((fun a : Ant => decide (a.c = φ c)) ∘ mapA φ ψ) = fun a => decide (a.c = c) := by
    funext a
    show decide (φ a.c = φ c) = decide (a.c = c)
    by_cases h : a.c = c
    · rw [h]; simp
    · rw [decide_eq_false h, decide_eq_false fun z => h (inj _ _ z)]
  rw [e]; rfl
theorem rowOf_way {as : List Ant} (h : ∀ a ∈ as, Way a.w) (c : Cell) : ∀ w ∈ rowOf as c, Way w := by
  intro w hw
  unfold rowOf at hw
  obtain ⟨a, ha, rfl⟩ := List.mem_map.mp hw
  exact h a (List.mem_filter.mp ha).1
theorem ent_map (inj : ∀ c d, φ c = φ d → c = d) (b : Back ψ θ) {as : List Ant} (hw : ∀ a ∈ as, Way a.w) {E E' S : List (Cell × List Int)} (h : EntOk as E) (h' : EntOk (as.map (mapA φ ψ)) E') (hp : S.Perm (E.map fun p => (φ p.1, pick4 θ p.2))) (hs : SrtG cLt S) : E' = S := by
  refine srtG_ext cOrd h'.1 hs fun p => ?_
  rw [h'.2.1, hp.mem_iff, List.mem_map]
  constructor
  · rintro ⟨a', ha', rfl⟩
    obtain ⟨a, ha, rfl⟩ := List.mem_map.mp ha'
    refine ⟨entE as a, (h.2.1 _).mpr ⟨a, ha, rfl⟩, ?_⟩
    show (φ a.c, pick4 θ (cnt4 (rowOf as a.c))) = (φ a.c, cnt4 (rowOf (as.map (mapA φ ψ)) (φ a.c)))
    rw [rowOf_map inj, cnt4_map b (rowOf_way hw _)]
  · rintro ⟨q, hq, rfl⟩
    obtain ⟨a, ha, rfl⟩ := (h.2.1 _).mp hq
    refine ⟨mapA φ ψ a, List.mem_map.mpr ⟨a, ha, rfl⟩, ?_⟩
    show (φ a.c, pick4 θ (cnt4 (rowOf as a.c))) = (φ a.c, cnt4 (rowOf (as.map (mapA φ ψ)) (φ a.c)))
    rw [rowOf_map inj, cnt4_map b (rowOf_way hw _)]
theorem ent_nodup (inj : ∀ c d, φ c = φ d → c = d) {E : List (Cell × List Int)} (h : SrtG cLt E) : ((E.map fun p => (φ p.1, pick4 θ p.2)).map (·.1)).Nodup := by
  have e : (E.map fun p => (φ p.1, pick4 θ p.2)).map (·.1) = (E.map (·.1)).map φ := by rw [List.map_map, List.map_map]; rfl
  rw [e]
  have := h.nodup cOrd
  unfold List.Nodup at this ⊢
  rw [List.pairwise_map]
  exact this.imp fun {a b} z y => z (inj _ _ y)
def crM (φ : Cell → Cell) (p : NK × List Int) : NK × List Int := (keyC (φ p.1.1) (φ p.1.2), if cLt (φ p.1.1) (φ p.1.2) then p.2 else p.2.reverse)
theorem crN_map (inj : ∀ c d, φ c = φ d → c = d) (qs : Prs) (c d : Cell) : crN (qs.map fun q => (φ q.1, φ q.2)) (φ c) (φ d) = crN qs c d := by
  unfold crN
  congr 1
  induction qs with
  | nil => rfl
  | cons q qs ih =>
    rw [List.map_cons, List.count_cons, List.count_cons, ih]
    by_cases h : q = (c, d)
    · subst h; simp
    · have : ¬ (φ q.1, φ q.2) = (φ c, φ d) := fun z => h (Prod.ext (inj _ _ (congrArg Prod.fst z)) (inj _ _ (congrArg Prod.snd z)))
      rw [if_neg fun z => this (beq_iff_eq.mp z), if_neg fun z => h (beq_iff_eq.mp z)]
theorem crM_of (inj : ∀ c d, φ c = φ d → c = d) (qs : Prs) {q : Cell × Cell} (hq : q.1 ≠ q.2) : crM φ (keyC q.1 q.2, crV qs (keyC q.1 q.2)) = (keyC (φ q.1) (φ q.2), crV (qs.map fun q => (φ q.1, φ q.2)) (keyC (φ q.1) (φ q.2))) := by
  have hne : φ q.1 ≠ φ q.2 := fun z => hq (inj _ _ z)
  have core : ∀ a b : Cell, a ≠ b → crM φ ((a, b), crV qs (a, b)) = (keyC (φ a) (φ b), crV (qs.map fun q => (φ q.1, φ q.2)) (keyC (φ a) (φ b))) := by
    intro a b hab
    have hf : φ a ≠ φ b := fun z => hab (inj _ _ z)
    unfold crM
    dsimp only
    rcases key_cases hf with ⟨z, e⟩ | ⟨_, y, e⟩
    · rw [if_pos z, e]
      unfold crV
      dsimp only
      rw [crN_map inj, crN_map inj]
    · rw [if_neg y, e]
      unfold crV
      dsimp only
      rw [crN_map inj, crN_map inj]; rfl
  rcases key_cases hq with ⟨_, e⟩ | ⟨_, _, e⟩
  · rw [e]; exact core _ _ hq
  · rw [e, core _ _ (Ne.symm hq), key_symm hne]
theorem cr_map (inj : ∀ c d, φ c = φ d → c = d) {qs : Prs} (hq : ∀ q ∈ qs, q.1 ≠ q.2) {E E' S : List (NK × List Int)} (h : CrOk qs E) (h' : CrOk (qs.map fun q => (φ q.1, φ q.2)) E') (hp : S.Perm (E.map (crM φ))) (hs : SrtG nLt S) : E' = S := by
  refine srtG_ext nOrd h'.1 hs fun p => ?_
  rw [h'.2.1, hp.mem_iff, List.mem_map]
  constructor
  · rintro ⟨q', hq', rfl⟩
    obtain ⟨q, hqm, rfl⟩ := List.mem_map.mp hq'
    exact ⟨_, (h.2.1 _).mpr ⟨q, hqm, rfl⟩, crM_of inj qs (hq q hqm)⟩
  · rintro ⟨p', hp', rfl⟩
    obtain ⟨q, hqm, rfl⟩ := (h.2.1 _).mp hp'
    exact ⟨_, List.mem_map.mpr ⟨q, hqm, rfl⟩, crM_of inj qs (hq q hqm)⟩
theorem crM_inj (inj : ∀ c d, φ c = φ d → c = d) {a b : NK} (ha : cLt a.1 a.2) (hb : cLt b.1 b.2) (h : keyC (φ a.1) (φ a.2) = keyC (φ b.1) (φ b.2)) : a = b := by
  have na : φ a.1 ≠ φ a.2 := fun z => cLt_irr (a := a.2) (by have := inj _ _ z; rw [this] at ha; exact ha)
  have nb : φ b.1 ≠ φ b.2 := fun z => cLt_irr (a := b.2) (by have := inj _ _ z; rw [this] at hb; exact hb)
  rcases key_cases na with ⟨_, e⟩ | ⟨_, _, e⟩ <;> rcases key_cases nb with ⟨_, e'⟩ | ⟨_, _, e'⟩ <;> rw [e, e'] at h
  · exact Prod.ext (inj _ _ (congrArg Prod.fst h)) (inj _ _ (congrArg Prod.snd h))
  · have h1 := inj _ _ (congrArg Prod.fst h)
    have h2 := inj _ _ (congrArg Prod.snd h)
    rw [h1, h2] at ha
    exact (cLt_asym ha hb).elim
  · have h1 := inj _ _ (congrArg Prod.fst h)
    have h2 := inj _ _ (congrArg Prod.snd h)
    rw [h1, h2] at ha
    exact (cLt_asym ha hb).elim
  · exact Prod.ext (inj _ _ (congrArg Prod.snd h)) (inj _ _ (congrArg Prod.fst h))
theorem cr_keys {qs : Prs} (hq : ∀ q ∈ qs, q.1 ≠ q.2) {E : List (NK × List Int)} (h : CrOk qs E) : ∀ p ∈ E, cLt p.1.1 p.1.2 := fun p hp => by
  obtain ⟨q, hqm, rfl⟩ := (h.2.1 _).mp hp
  exact key_lt (hq q hqm)
theorem cr_nodup (inj : ∀ c d, φ c = φ d → c = d) {E : List (NK × List Int)} (hk : ∀ p ∈ E, cLt p.1.1 p.1.2) (h : SrtG nLt E) : ((E.map (crM φ)).map (·.1)).Nodup := by
  unfold List.Nodup
  rw [List.pairwise_map, List.pairwise_map]
  refine (List.Pairwise.and_mem.mp h).imp fun {p q} ⟨hp, hq, z⟩ y => ?_
  have e := crM_inj inj (hk p hp) (hk q hq) y
  rw [e] at z
  exact nOrd.irr _ _ z z
theorem most_map (inj : ∀ c d, φ c = φ d → c = d) {cs : List Cell} {m m' : Int} (h : IsMost cs m) (h' : IsMost (cs.map φ) m') : m' = m := by
  have e : ∀ c, (cs.map φ).count (φ c) = cs.count c := by
    intro c
    induction cs with
    | nil => rfl
    | cons d cs ih =>
      have ih : (cs.map φ).count (φ c) = cs.count c := by
        clear h h'
        clear ih
        induction cs with
        | nil => rfl
        | cons d cs ih =>
          rw [List.map_cons, List.count_cons, List.count_cons, ih]
          by_cases h : d = c
          · subst h; simp
          · rw [if_neg fun z => h (inj _ _ (beq_iff_eq.mp z)), if_neg fun z => h (beq_iff_eq.mp z)]
      rw [List.map_cons, List.count_cons, List.count_cons, ih]
      by_cases h : d = c
      · subst h; simp
      · rw [if_neg fun z => h (inj _ _ (beq_iff_eq.mp z)), if_neg fun z => h (beq_iff_eq.mp z)]
  obtain ⟨⟨c, hc, e1⟩, h1⟩ := h
  obtain ⟨⟨d, hd, e2⟩, h2⟩ := h'
  obtain ⟨d0, hd0, rfl⟩ := List.mem_map.mp hd
  rw [e] at e2
  have h3 := h1 d0 hd0
  have h4 := h2 (φ c) (List.mem_map.mpr ⟨c, hc, rfl⟩)
  rw [e] at h4
  omega
theorem onC_map (inj : ∀ c d, φ c = φ d → c = d) (l : List (Cell × Bool)) (c : Cell) : onC (l.map fun p => (φ p.1, xor x p.2)) (φ c) = xR x (onC l c) := by
  unfold onC xR
  rw [List.filter_map, List.map_map, List.map_map]
  have e : ((fun p : Cell × Bool => decide (p.1 = φ c)) ∘ fun p : Cell × Bool => (φ p.1, xor x p.2)) = fun p => decide (p.1 = c) := by
    funext p
    show decide (φ p.1 = φ c) = decide (p.1 = c)
    by_cases h : p.1 = c
    · rw [h]; simp
    · rw [decide_eq_false h, decide_eq_false fun z => h (inj _ _ z)]
  rw [e]; rfl
theorem notW_count (w : List Bool) : (notW w).count true = w.count false ∧ (notW w).count false = w.count true := by
  induction w with
  | nil => exact ⟨rfl, rfl⟩
  | cons b w ih =>
    obtain ⟨h1, h2⟩ := ih
    unfold notW at h1 h2 ⊢
    rw [List.map_cons]
    cases b <;> simp [h1, h2]
/-- floors led along -/
theorem col_map (inj : ∀ c d, φ c = φ d → c = d) {f L : Floor} (hn : (f.map (·.1)).Nodup) (hp : L.Perm (f.map fun p => (φ p.1, p.2))) (hL : Srt L) (c : Cell) : colAt L (φ c) = colAt f c := by
  unfold colAt
  congr 1
  cases q : getL f c with
  | some v =>
    exact getL_mem hL.nodup (hp.mem_iff.mpr (List.mem_map.mpr ⟨(c, v), getL_mem' q, rfl⟩))
  | none =>
    cases q' : getL L (φ c) with
    | none => rfl
    | some v =>
      exfalso
      obtain ⟨p, hpm, e⟩ := List.mem_map.mp (hp.mem_iff.mp (getL_mem' q'))
      have e1 : p.1 = c := inj _ _ (congrArg Prod.fst e)
      exact getL_none.mp q (List.mem_map.mpr ⟨p, hpm, e1⟩)
theorem relF_of (inj : ∀ c d, φ c = φ d → c = d) {r : List Bool} (hr : RuleOk r) {f L : Floor} {a : Ant} (hf : FlOk r.length f) (hw : Way a.w) (hp : L.Perm (f.map fun p => (φ p.1, p.2))) (hL : Srt L) : RelF φ ψ r.length (toF (f, a)) (toF (L, mapA φ ψ a)) :=
  ⟨fun c => col_map inj hf.nodup hp hL c, rfl, hw, fun c => by
    show 0 ≤ colAt f c ∧ colAt f c < _
    unfold colAt
    cases q : getL f c with
    | none => exact ⟨Int.le_refl _, by have := hr.1; show (0 : Int) < _; omega⟩
    | some v =>
      have := (hf.each _ (getL_mem' q)).2
      show 0 ≤ v ∧ v < _
      omega⟩
end
/-! ### lines -/
inductive LK | a | d | x | y
  deriving DecidableEq
def kS : LK → Str
  | .a => "a" | .d => "d" | .x => "x" | .y => "y"
def lnC (κ : LK) (s : Int) (c : Cell) : Cell := match κ with
  | .x => (s - c.1, c.2)
  | .y => (c.1, s - c.2)
  | .a => (s - c.2, s - c.1)
  | .d => (c.2 + s, c.1 - s)
def lnT : LK → List Int
  | .a => [3, 2, 1, 0]
  | .d => [1, 0, 3, 2]
  | .x => [2, 1, 0, 3]
  | .y => [0, 3, 2, 1]
def lnW (κ : LK) (w : Int) : Int := (lnT κ).getD w.toNat 0
theorem line_mot (κ : LK) (s : Int) : Mot (lnC κ s) (lnW κ) true where
  inj := fun c d h => by
    have h1 := congrArg Prod.fst h
    have h2 := congrArg Prod.snd h
    cases κ <;> simp only [lnC] at h1 h2 <;> exact Prod.ext (by omega) (by omega)
  turn := fun w b h => by
    obtain rfl | rfl | rfl | rfl := way4 h <;> cases κ <;> cases b <;> decide
  go := fun c w h => by
    obtain rfl | rfl | rfl | rfl := way4 h <;> cases κ <;> simp only [lnC, lnW, lnT, dirW] <;> refine Prod.ext ?_ ?_ <;> simp <;> omega
  ok := fun w h => by
    obtain rfl | rfl | rfl | rfl := way4 h <;> cases κ <;> decide
theorem line_back (κ : LK) : Back (lnW κ) (lnW κ) where
  ok := fun w h => by
    obtain rfl | rfl | rfl | rfl := way4 h <;> cases κ <;> decide
  to := fun u v h h' => by
    obtain rfl | rfl | rfl | rfl := way4 h <;> obtain rfl | rfl | rfl | rfl := way4 h' <;> cases κ <;> decide
/-! ### moves -/
def qt1 (c : Cell) : Cell := (-c.2, c.1)
def qtN : Nat → Cell → Cell
  | 0, c => c
  | n + 1, c => qt1 (qtN n c)
def qt (q : Int) (c : Cell) : Cell := qtN (q % 4).toNat c
def shf (b c : Cell) : Cell := (c.1 + b.1, c.2 + b.2)
def mvC (q : Int) (b : Cell) (c : Cell) : Cell := shf b (qt q c)
def mvW (q : Int) (w : Int) : Int := (w + q) % 4
theorem q_cases (q : Int) : (q % 4).toNat = 0 ∧ q % 4 = 0 ∨ (q % 4).toNat = 1 ∧ q % 4 = 1 ∨ (q % 4).toNat = 2 ∧ q % 4 = 2 ∨ (q % 4).toNat = 3 ∧ q % 4 = 3 := by omega
theorem qt_inj (q : Int) (c d : Cell) (h : qt q c = qt q d) : c = d := by
  unfold qt at h
  have h1 := congrArg Prod.fst h
  have h2 := congrArg Prod.snd h
  rcases q_cases q with ⟨e, _⟩ | ⟨e, _⟩ | ⟨e, _⟩ | ⟨e, _⟩ <;> rw [e] at h1 h2 <;> simp only [qtN, qt1] at h1 h2 <;> exact Prod.ext (by omega) (by omega)
theorem mv_mot (q : Int) (b : Cell) : Mot (mvC q b) (mvW q) false where
  inj := fun c d h => by
    unfold mvC shf at h
    have h1 := congrArg Prod.fst h
    have h2 := congrArg Prod.snd h
    dsimp only at h1 h2
    exact qt_inj q c d (Prod.ext (by omega) (by omega))
  turn := fun w bb h => by
    rw [Bool.false_xor]
    unfold mvW turnW
    split <;> omega
  go := fun c w h => by
    unfold mvC shf qt mvW
    obtain rfl | rfl | rfl | rfl := way4 h <;> rcases q_cases q with ⟨e, e'⟩ | ⟨e, e'⟩ | ⟨e, e'⟩ | ⟨e, e'⟩ <;> rw [e] <;> (first
      | rw [show ((0 : Int) + q) % 4 = q % 4 by omega, e']
      | rw [show ((1 : Int) + q) % 4 = (1 + q % 4) % 4 by omega, e']
      | rw [show ((2 : Int) + q) % 4 = (2 + q % 4) % 4 by omega, e']
      | rw [show ((3 : Int) + q) % 4 = (3 + q % 4) % 4 by omega, e']) <;> simp [qtN, qt1, dirW] <;> (try constructor) <;> omega
  ok := fun w h => by unfold mvW Way; omega
theorem mv_back (q : Int) : Back (mvW q) (fun v => (v - q) % 4) where
  ok := fun w h => by unfold Way; omega
  to := fun u v h h' => by
    unfold Way at h h'
    unfold mvW
    omega
/-! ### parity -/
def sumA (a : Ant) : Int := a.c.1 + (a.c.2 + a.w)
def sumC (c : Cell) : Int := c.1 + c.2
def along (a : Ant) (c : Cell) : Bool := decide ((sumA a - sumC c) % 2 = 0)
theorem along_line (κ : LK) (s : Int) {a : Ant} (h : Way a.w) (c : Cell) : (along (mapA (lnC κ s) (lnW κ) a) (lnC κ s c) == along a c) = (decide (κ = .x) || decide (κ = .y)) := by
  obtain ⟨⟨x, y⟩, w⟩ := a
  have h : Way w := h
  unfold along sumA sumC mapA
  rw [Bool.eq_iff_iff, beq_iff_eq, decide_eq_decide]
  obtain rfl | rfl | rfl | rfl := way4 h <;> cases κ <;> simp [lnC, lnW, lnT] <;> omega
end DL
/-! Readings (printed by run.py) and their proofs. -/
namespace DL
open PySem PySem.Spec PyProof.Rows L2
def t_other_letter : DTS := dRet (dIf (dTest (dOp rdEq (dVar 0) (dC (.str "l")))) (dC (.str "r")) (dC (.str "l")))

def t_mirrored_rule : DTS := dRet (dJoin (dC (.str "")) (dLc (diS (dCall sp_sure_rule (dCons (dVar 0) (dNil)))) (dgName 1) (dYes) (dCall sp_other_letter (dCons (dVar 1) (dNil))) [1]))

def t_sure_cell : DTS := dSeq (dAsg (dCall sp_tupled (dCons (dVar 0) (dNil))) (dgName 1)) (dSeq (dIfS (dNot (dTest (dCall sp_is_cell_in (dCons (dVar 1) (dNil))))) (dNever) (dNext)) (dRet (dVar 1)))

def t_is_floor_in : DTS := dSeq (dIfS (dOr (dNot (dTest (dCB (rdIsi "tuple") (dCons (dVar 1) (dCons (dC (.ty "tuple")) (dNil)))))) (dTest (dOp rdGt (dCB rdLen (dCons (dVar 1) (dNil))) (dC (.int 2000))))) (dNever) (dNext)) (dSeq (dIfS (dNot (dTest (dCB rdAll (dLc (diT (dVar 1)) (dgName 2) (dYes) (dAndV (dCall sp_is_long (dCons (dVar 2) (dCons (dC (.int 2)) (dNil)))) (dAndV (dCall sp_is_cell_in (dCons (dOp rdIx (dVar 2) (dC (.int 0))) (dNil))) (dCall sp_is_within (dCons (dOp rdIx (dVar 2) (dC (.int 1))) (dCons (dC (.int 1)) (dCons (dOp rdSub (dCB rdLen (dCons (dVar 0) (dNil))) (dC (.int 1))) (dNil))))))) [2])))) (dNever) (dNext)) (dRet (dCB rdAll (dLc (diZ (dCons (dVar 1) (dCons (dSl (dVar 1) (dPart (dC (.int 1))) (dNoPart)) (dNil)))) (dgTup 2 (dgCons (dgName 3) (dgCons (dgName 4) dgNil))) (dYes) (dOp rdLt (dOp rdIx (dVar 3) (dC (.int 0))) (dOp rdIx (dVar 4) (dC (.int 0)))) [3, 4]))))

def t_is_standing_in : DTS := dRet (dAndV (dCall sp_is_long (dCons (dVar 1) (dCons (dC (.int 2)) (dNil)))) (dAndV (dCall sp_is_floor_in (dCons (dVar 0) (dCons (dOp rdIx (dVar 1) (dC (.int 0))) (dNil)))) (dCall sp_is_ant_in (dCons (dOp rdIx (dVar 1) (dC (.int 1))) (dNil)))))

def t_sure_standing : DTS := dSeq (dAsg (dCall sp_tupled (dCons (dVar 1) (dNil))) (dgName 2)) (dSeq (dIfS (dNot (dTest (dCall sp_is_standing_in (dCons (dVar 0) (dCons (dVar 2) (dNil)))))) (dNever) (dNext)) (dRet (dVar 2)))

def t_letter_in : DTS := dRet (dOp rdIx (dVar 0) (dGet2 (dVar 1) (dSl (dVar 2) (dNoPart) (dPart (dC (.int 2)))) (dC (.int 0))))

def t_stepped_in : DTS := dSeq (dAsg (dSl (dVar 2) (dNoPart) (dPart (dC (.int 2)))) (dgName 3)) (dSeq (dAsg (dGet2 (dVar 1) (dVar 3) (dC (.int 0))) (dgName 4)) (dSeq (dPutI (dVar 1) (dVar 3) (dOp rdMod (dOp rdAdd (dVar 4) (dC (.int 1))) (dCB rdLen (dCons (dVar 0) (dNil))))) (dRet (dCall sp_gone_on (dCons (dVar 3) (dCons (dCall sp_turned_way (dCons (dOp rdIx (dVar 2) (dC (.int 2))) (dCons (dOp rdIx (dVar 0) (dVar 4)) (dNil)))) (dNil)))))))

/-! rules -/
def swD : D → D
  | .str s => .str (lS (!(decide (s = lS true))))
  | d => d
theorem swD_lS (b : Bool) : swD (.str (lS b)) = .str (lS (!b)) := by
  show D.str (lS (!(decide (lS b = lS true)))) = _
  rw [lS_eq]; cases b <;> rfl
theorem sw_map (w : List Bool) : (sgD (eW w)).map swD = ((notW w).map lS).map D.str := by
  rw [sgD_eW, List.map_map]
  unfold notW
  rw [List.map_map, List.map_map]
  apply List.map_congr_left
  intro b _
  exact swD_lS b
theorem rdJoin_lS {w : List Bool} {M : MH} {k : DK} (hl : w.length ≤ 1000000) (h : k (.str (eW w)) M) : rdJoin "" ((w.map lS).map D.str) M k := by
  refine ⟨w.map lS, rfl, ?_, ?_⟩
  · rw [sum_lS, List.length_map]
    show _ + w.length * 0 ≤ _
    omega
  · rw [join_lS]; exact h
theorem pure_other_letter : ∀ ds M k e, sp_other_letter ds M k e → t_other_letter (endsOf k) (fill 1 ds) M := by
  rintro ds M k e ⟨b, rfl, h⟩
  refine if_tf (d := b) (by rw [xor_false']; exact lS_l b) ?_
  cases b
  · have h : k (.str (lS true)) M := h
    rw [← l_lS] at h
    exact iteF (rt_of h)
  · have h : k (.str (lS false)) M := h
    rw [← r_lS] at h
    exact iteT (rt_of h)
theorem len_other_letter : ∀ ds M k e, sp_other_letter ds M k e → ds.length = 1 := by rintro ds M k e ⟨x, rfl, _⟩; rfl
theorem pure_mirrored_rule : ∀ ds M k e, sp_mirrored_rule ds M k e → t_mirrored_rule (endsOf k) (fill 2 ds) M := by
  rintro ds M k e ⟨r, rfl, hr, h⟩
  have hr2 := hr.2
  refine ⟨r, rfl, hr, ?_⟩
  refine lc_all (ds := sgD (eW r)) swD trivial (by rw [sgD_eW, List.length_map]; omega) (fun d hd => ⟨_, rfl, fun kk hk => ?_⟩) ?_
  · rw [sgD_eW] at hd
    obtain ⟨b, _, rfl⟩ := List.mem_map.mp hd
    rw [swD_lS] at hk
    exact ⟨b, rfl, hk⟩
  · rw [sw_map]
    exact rdJoin_lS (by unfold notW; rw [List.length_map]; omega) (rt_of h)
theorem len_mirrored_rule : ∀ ds M k e, sp_mirrored_rule ds M k e → ds.length = 1 := by rintro ds M k e ⟨x, rfl, _⟩; rfl
theorem retag_eC (c : Cell) : retag (eC c) = eC c := rfl
theorem pure_sure_cell : ∀ ds M k e, sp_sure_cell ds M k e → t_sure_cell (endsOf k) (fill 2 ds) M := by
  rintro ds M k e ⟨c, rfl, hc, h⟩
  refine ⟨_, rfl, rfl, ?_⟩
  refine ⟨_, rfl, ?_⟩
  exact ⟨c, rfl, hc, rt_of h⟩
theorem len_sure_cell : ∀ ds M k e, sp_sure_cell ds M k e → ds.length = 1 := by rintro ds M k e ⟨x, rfl, _⟩; rfl
/-! floors -/
theorem get_eF {f : Floor} {d : D} (h : d ∈ f.map ePr) : ∃ p, p ∈ f ∧ d = ePr p := by
  obtain ⟨p, hp, rfl⟩ := List.mem_map.mp h
  exact ⟨p, hp, rfl⟩
theorem zp_pairs (f : Floor) : zpD (f.map ePr) ((f.drop 1).map ePr) = (f.zip (f.drop 1)).map fun q => D.tup [ePr q.1, ePr q.2] := by
  unfold zpD
  rw [List.zipWith_map, ← List.map_uncurry_zip_eq_zipWith]; rfl
theorem zip_next {f : Floor} {q : (Cell × Int) × (Cell × Int)} (h : q ∈ f.zip (f.drop 1)) : ∃ i, f[i]? = some q.1 ∧ f[i + 1]? = some q.2 := by
  obtain ⟨i, hi⟩ := List.getElem?_of_mem h
  rw [List.getElem?_zip_eq_some] at hi
  refine ⟨i, hi.1, ?_⟩
  have := hi.2
  rw [List.getElem?_drop] at this
  rw [Nat.add_comm]; exact this
theorem sl_rest {x : D} {f : Floor} {k : DK} {M : MH} (hx : x = eF f) (h : ∀ d, tupOf d = some ((f.drop 1).map ePr) → k d M) : rdSl x (some 1) none M k := by
  subst hx
  have e : cutD (f.map ePr) (some 1) none = (f.drop 1).map ePr := by
    have e1 : (1 : Int) = ((1 : Nat) : Int) := rfl
    unfold cutD
    rw [HT.sIx_none, e1, HT.sIx_nat, List.map_drop]
    by_cases hl : 1 ≤ (f.map ePr).length
    · rw [Nat.min_eq_left hl, List.take_of_length_le (by rw [List.length_drop]; omega)]
    · have : f.map ePr = [] := List.length_eq_zero_iff.mp (by omega)
      rw [this]; rfl
  refine ⟨fun z => h _ ?_, fun z => ?_⟩
  · have e1 : (1 : Int) = ((1 : Nat) : Int) := rfl
    have z1 := z.1
    rw [e1, HT.sIx_nat] at z1
    have : f = [] := List.length_eq_zero_iff.mp (by rw [List.length_map] at z1; omega)
    subst this; rfl
  · rw [e]; exact h _ rfl
theorem lt_cells (a b : Cell) (h : cellLt a b = true) (k : DK) (M : MH) (hk : k (.bl true) M) : rdLt (eC a) (eC b) M k := by
  refine ⟨[a.1, a.2], [b.1, b.2], rfl, rfl, ?_⟩
  have h : HT.lexLt [a.1, a.2] [b.1, b.2] = true := h
  rw [h]; exact hk
theorem pure_is_floor_in : ∀ ds M k e, sp_is_floor_in ds M k e → t_is_floor_in (endsOf k) (fill 5 ds) M := by
  rintro ds M k e ⟨r, f, rfl, hr, ⟨h1, h2, h3⟩, h⟩
  have hr1 := hr.1
  have hr2 := hr.2
  refine ⟨rfl, _, _, rfl, kit_tt, iteF ?_⟩
  refine ⟨_, seqOf_tup (d := eF f) rfl, ?_⟩
  refine if_tf (d := false) (decide_eq_false (by rw [List.length_map]; omega)) (iteF ?_)
  refine ⟨f.map ePr, rfl, ?_⟩
  refine lc_all (fun _ => .bl true) trivial (by rw [List.length_map]; omega) (fun d hd => ?_) ?_
  · obtain ⟨p, hp, rfl⟩ := get_eF hd
    obtain ⟨hc, hv1, hv2⟩ := h2 p hp
    refine ⟨_, rfl, fun kk hk => ?_⟩
    refine ⟨_, _, 2, rfl, rfl, iteT ?_⟩
    refine ⟨_, _, rfl, rfl, p.1, rfl, hc, iteT ?_⟩
    refine ⟨_, _, rfl, rfl, ?_⟩
    refine ⟨by rw [eW_length]; exact le_line (by omega), p.2, 1, ((eW r).length : Nat) - 1, rfl, ?_⟩
    rw [eW_length, decide_eq_true hv1, decide_eq_true hv2]
    exact hk
  refine ⟨f.map fun _ => true, by rw [List.map_map, List.map_map]; rfl, ?_⟩
  refine if_tf (d := false) (by rw [all_true]; rfl) (iteF ?_)
  generalize hx : eF f = x
  refine sl_rest hx.symm fun d hd => ?_
  refine .inl ⟨f.map ePr, (f.drop 1).map ePr, by rw [← hx]; rfl, hd, ?_⟩
  rw [zp_pairs]
  refine lc_all (fun _ => .bl true) trivial (by rw [List.length_map, List.length_zip]; omega) (fun d hd => ?_) ?_
  · obtain ⟨q, hq, rfl⟩ := List.mem_map.mp hd
    obtain ⟨i, g1, g2⟩ := zip_next hq
    refine ⟨_, rfl, fun kk hk => ?_⟩
    exact ⟨_, _, rfl, rfl, _, _, rfl, rfl, lt_cells _ _ (h3 i _ _ g1 g2) _ _ hk⟩
  · refine ⟨(f.zip (f.drop 1)).map fun _ => true, by rw [List.map_map, List.map_map]; rfl, ?_⟩
    rw [all_true]; exact rt_of h
theorem len_is_floor_in : ∀ ds M k e, sp_is_floor_in ds M k e → ds.length = 2 := by rintro ds M k e ⟨_, _, rfl, _⟩; rfl
theorem pure_told_floorS : ∀ ds M k e, sp_told_floorS ds M k e → t_told_floor (endsOf k) (fill 2 ds) M := by
  rintro ds M k e ⟨a, l, rfl, hM, hl, hn, h⟩
  refine ⟨a, encT D.int l, hM, fun o ks => ?_⟩
  refine ⟨o, ks, _, put_same, ?_⟩
  have hit : ktD (encT D.int l) = l.map fun q => eC q.1 := by
    unfold ktD encT
    rw [List.map_map]
    rfl
  rw [hit]
  refine lc_pure (fun d => .tup [d, .int ((getL l (cD d)).getD 0)]) (fun d => decide ((getL l (cD d)).getD 0 ≠ 0)) put_same (by rw [List.length_map]; exact hl) (fun d hd => ?_) ?_
  · obtain ⟨⟨c, v⟩, hc, rfl⟩ := List.mem_map.mp hd
    have hg : getL l c = some v := getL_mem hn hc
    have hv : getD? (put M a (.rT o ks (encT D.int l))) a (eC c) = some (some (.int v)) := by
      rw [getD_at put_same]
      show (tupKey (eC c)).map (valD (encT D.int l)) = _
      rw [kC_eC, Option.map_some, valD_enc, hg]; rfl
    have hcd : cD (eC c) = c := rfl
    refine ⟨_, rfl, fun kb hb => ?_, fun _ kk hk => ?_⟩
    · refine ⟨_, hv, ?_⟩
      show kb (xor true (decide (v = 0))) _
      have e : xor true (decide (v = 0)) = decide ((getL l (cD (eC c))).getD 0 ≠ 0) := by
        rw [hcd, hg, xor_true']
        simp
      rw [e]; exact hb
    · refine ⟨_, hv, two_le, ?_⟩
      have hk : kk (.tup [eC c, .int ((getL l (cD (eC c))).getD 0)]) _ := hk
      rw [hcd, hg] at hk
      exact hk
  · refine ⟨put_same, ?_⟩
    rw [put_put, put_eta hM]
    obtain ⟨s1, s2, s3⟩ := pr_alike (l.filter fun p => decide (p.2 ≠ 0))
    refine ⟨Cell × Int, l.filter fun p => decide (p.2 ≠ 0), ePr, prPd, ?_, ⟨fun x _ => py_pr M x, s1, s2, s3⟩, Or.inr (rt_of ?_)⟩
    · rw [List.filter_map, List.map_map]
      have e1 : l.filter ((fun d => decide ((getL l (cD d)).getD 0 ≠ 0)) ∘ fun q : Cell × Int => eC q.1) = l.filter fun p => decide (p.2 ≠ 0) := by
        apply List.filter_congr
        rintro ⟨c, v⟩ hc
        show decide ((getL l c).getD 0 ≠ 0) = decide (v ≠ 0)
        rw [getL_mem hn hc]; rfl
      rw [e1]
      apply List.map_congr_left
      rintro ⟨c, v⟩ hc
      show D.tup [eC c, .int ((getL l c).getD 0)] = ePr (c, v)
      rw [getL_mem hn (List.mem_filter.mp hc).1]; rfl
    · exact h _ ⟨List.mergeSort_perm _ _, sort_pr ((List.filter_sublist.map _).nodup hn)⟩
theorem len_told_floorS : ∀ ds M k e, sp_told_floorS ds M k e → ds.length = 1 := by rintro ds M k e ⟨_, _, rfl, _⟩; rfl
/-! standings -/
theorem pure_is_standing_in : ∀ ds M k e, sp_is_standing_in ds M k e → t_is_standing_in (endsOf k) (fill 2 ds) M := by
  rintro ds M k e ⟨r, f, a, rfl, hr, hf, ha, h⟩
  refine ⟨_, _, 2, rfl, rfl, iteT ?_⟩
  refine ⟨_, _, rfl, rfl, r, f, rfl, hr, hf, iteT ?_⟩
  exact ⟨_, _, rfl, rfl, a, rfl, ha, rt_of h⟩
theorem len_is_standing_in : ∀ ds M k e, sp_is_standing_in ds M k e → ds.length = 2 := by rintro ds M k e ⟨_, _, _, rfl, _⟩; rfl
theorem pure_sure_standing : ∀ ds M k e, sp_sure_standing ds M k e → t_sure_standing (endsOf k) (fill 3 ds) M := by
  rintro ds M k e ⟨r, d, f, a, rfl, hr, hd, hp, hf, ha, h⟩
  refine ⟨d, rfl, hp, ?_⟩
  rw [hd]
  refine ⟨_, rfl, ?_⟩
  exact ⟨r, f, a, rfl, hr, hf, ha, rt_of h⟩
theorem len_sure_standing : ∀ ds M k e, sp_sure_standing ds M k e → ds.length = 2 := by rintro ds M k e ⟨_, _, _, _, rfl, _⟩; rfl
/-! a step -/
theorem pure_letter_in : ∀ ds M k e, sp_letter_in ds M k e → t_letter_in (endsOf k) (fill 3 ds) M := by
  rintro ds M k e ⟨r, d, l, a, rfl, hr, hM, hc, h⟩
  have hr2 := hr.2
  refine ⟨⟨_, hM, trivial⟩, ?_⟩
  refine ⟨_, getD_enc hM, ?_⟩
  rw [int_getD]
  exact ⟨by rw [eW_length]; exact le_line (by omega), _, rule_atI (colAt_ok hr hc _), rt_of h⟩
theorem len_letter_in : ∀ ds M k e, sp_letter_in ds M k e → ds.length = 3 := by rintro ds M k e ⟨_, _, _, _, rfl, _⟩; rfl
theorem pure_stepped_in : ∀ ds M k e, sp_stepped_in ds M k e → t_stepped_in (endsOf k) (fill 5 ds) M := by
  rintro ds M k e ⟨r, d, l, a, rfl, hr, hM, hc, hl, h⟩
  have hr1 := hr.1
  have hr2 := hr.2
  refine ⟨_, rfl, ?_⟩
  refine ⟨⟨_, hM, trivial⟩, _, getD_enc hM, ?_⟩
  rw [int_getD]
  refine ⟨_, rfl, ?_⟩
  refine ⟨by rw [eW_length]; exact le_line (by omega), ?_⟩
  rw [eW_length]
  refine ⟨by omega, ?_⟩
  refine ⟨_, _, hM, putMO_enc (y := (colAt l a.c + 1) % (r.length : Int)) rfl (by omega), ?_⟩
  refine ⟨_, _, rfl, rfl, ?_⟩
  refine ⟨by rw [eW_length]; exact le_line (by omega), _, rule_atI (colAt_ok hr hc _), ?_⟩
  refine ⟨a.w, rAtI r (colAt l a.c), rfl, ?_⟩
  exact ⟨_, _, rfl, turnW_ok, rt_of h⟩
theorem len_stepped_in : ∀ ds M k e, sp_stepped_in ds M k e → ds.length = 3 := by rintro ds M k e ⟨_, _, _, _, rfl, _⟩; rfl
end DL
/-! Readings (printed by run.py) and their proofs. -/
namespace DL
open PySem PySem.Spec PyProof.Rows L2
def t_lived : DTS := dSeq (dPar 3 4 (dCons (dCB rdDictTT (dCons (dOp rdIx (dVar 1) (dC (.int 0))) (dNil))) (dCons (dOp rdIx (dVar 1) (dC (.int 1))) (dNil)))) (dSeq (dPar 5 6 (dCons (dLst (dNil)) (dCons (dLst (dCons (dVar 4) (dNil))) (dNil)))) (dSeq (dFor (diR1 (dCons (dVar 2) (dNil))) (dgName 7) (dSeq (dDrop (dAppend (dVar 5) (dCall sp_letter_in (dCons (dVar 0) (dCons (dVar 3) (dCons (dVar 4) (dNil))))))) (dSeq (dAsg (dCall sp_stepped_in (dCons (dVar 0) (dCons (dVar 3) (dCons (dVar 4) (dNil))))) (dgName 4)) (dDrop (dAppend (dVar 6) (dVar 4)))))) (dRet (dTup (dCons (dVar 5) (dCons (dVar 6) (dCons (dVar 3) (dNil))))))))

def t_after_in : DTS := dSeq (dPar 3 4 (dCons (dCB rdDictTT (dCons (dOp rdIx (dVar 1) (dC (.int 0))) (dNil))) (dCons (dOp rdIx (dVar 1) (dC (.int 1))) (dNil)))) (dSeq (dFor (diR1 (dCons (dCB rdAbs (dCons (dVar 2) (dNil))) (dNil))) (dgName 5) (dAsg (dIf (dTest (dOp rdGt (dVar 2) (dC (.int 0)))) (dCall sp_stepped_in (dCons (dVar 0) (dCons (dVar 3) (dCons (dVar 4) (dNil))))) (dNeverE)) (dgName 4))) (dRet (dTup (dCons (dCall sp_told_floorS (dCons (dVar 3) (dNil))) (dCons (dVar 4) (dNil))))))

def t_after : DTS := dSeq (dAsg (dCall sp_sure_rule (dCons (dVar 0) (dNil))) (dgName 3)) (dSeq (dAsg (dCall sp_sure_standing (dCons (dVar 3) (dCons (dVar 1) (dNil)))) (dgName 4)) (dRet (dCall sp_after_in (dCons (dVar 3) (dCons (dVar 4) (dCons (dCall sp_sure_within (dCons (dVar 2) (dCons (dUn rdNeg (dC (.int 20000))) (dCons (dC (.int 20000)) (dNil))))) (dNil)))))))

def t_turns_of : DTS := dSeq (dAsg (dCall sp_sure_rule (dCons (dVar 0) (dNil))) (dgName 3)) (dSeq (dAsg (dCall sp_sure_standing (dCons (dVar 3) (dCons (dVar 1) (dNil)))) (dgName 4)) (dRet (dJoinO (dC (.str "")) (dOp rdIx (dCall sp_lived (dCons (dVar 3) (dCons (dVar 4) (dCons (dCall sp_sure_within (dCons (dVar 2) (dCons (dC (.int 0)) (dCons (dC (.int 20000)) (dNil))))) (dNil))))) (dC (.int 0))))))

def t_visits : DTS := dSeq (dAsg (dCall sp_sure_rule (dCons (dVar 0) (dNil))) (dgName 3)) (dSeq (dAsg (dCall sp_sure_standing (dCons (dVar 3) (dCons (dVar 1) (dNil)))) (dgName 4)) (dSeq (dAsg (dNewT) (dgName 5)) (dSeq (dFor (diM (dSlL (dOp rdIx (dCall sp_lived (dCons (dVar 3) (dCons (dVar 4) (dCons (dCall sp_sure_within (dCons (dVar 2) (dCons (dC (.int 0)) (dCons (dC (.int 20000)) (dNil))))) (dNil))))) (dC (.int 1))) (dNoPart) (dPart (dUn rdNeg (dC (.int 1)))))) (dgName 6) (dPutI (dVar 5) (dSl (dVar 6) (dNoPart) (dPart (dC (.int 2)))) (dOp rdAdd (dGet2 (dVar 5) (dSl (dVar 6) (dNoPart) (dPart (dC (.int 2)))) (dC (.int 0))) (dC (.int 1))))) (dRet (dCall sp_told_floorS (dCons (dVar 5) (dNil)))))))

def t_lived_by : DTS := dSeq (dAsg (dCall sp_sure_rule (dCons (dVar 0) (dNil))) (dgName 3)) (dSeq (dAsg (dCall sp_sure_standing (dCons (dVar 3) (dCons (dVar 1) (dNil)))) (dgName 4)) (dSeq (dAsg (dCall sp_lived (dCons (dVar 3) (dCons (dVar 4) (dCons (dCall sp_sure_within (dCons (dVar 2) (dCons (dC (.int 0)) (dCons (dC (.int 20000)) (dNil))))) (dNil))))) (dgTup 3 (dgCons (dgName 5) (dgCons (dgName 6) (dgCons (dgName 7) dgNil))))) (dRet (dTup (dCons (dVar 5) (dCons (dVar 6) (dNil)))))))

def t_turns_counted : DTS := dSeq (dAsg (dOp rdIx (dCall sp_lived_by (dCons (dVar 0) (dCons (dVar 1) (dCons (dVar 2) (dNil))))) (dC (.int 0))) (dgName 3)) (dRet (dTup (dCons (dCount (dVar 3) (dC (.str "l"))) (dCons (dCount (dVar 3) (dC (.str "r"))) (dNil)))))

def t_cell_word : DTS := dSeq (dAsg (dCall sp_lived_by (dCons (dVar 0) (dCons (dVar 1) (dCons (dVar 2) (dNil))))) (dgTup 2 (dgCons (dgName 4) (dgCons (dgName 5) dgNil)))) (dSeq (dAsg (dCall sp_sure_cell (dCons (dVar 3) (dNil))) (dgName 6)) (dRet (dJoin (dC (.str "")) (dLc (diZ (dCons (dVar 4) (dCons (dVar 5) (dNil)))) (dgTup 2 (dgCons (dgName 7) (dgCons (dgName 8) dgNil))) (dTest (dOp rdEq (dSl (dVar 8) (dNoPart) (dPart (dC (.int 2)))) (dVar 6))) (dVar 7) [7, 8]))))

theorem eLs_eq (w : List Bool) : eLs w = (w.map lS).map D.str := by unfold eLs; rw [List.map_map]; rfl
section
variable {r : List Bool} {W : Ant → Ant} {s : Sl}
theorem wI_ok (hr : RuleOk r) (hc : ColsOk r s.1) (hn : (s.1.map (·.1)).Nodup) : ∀ i, ColsOk r (wI r W i s).1 ∧ ((wI r W i s).1.map (·.1)).Nodup ∧ (wI r W i s).1.length ≤ s.1.length + i
  | 0 => ⟨hc, hn, Nat.le_refl _⟩
  | i + 1 => by
    obtain ⟨h1, h2, h3⟩ := wI_ok hr hc hn i
    have := putL_length (wI r W i s).1 (wI r W i s).2.c ((colAt (wI r W i s).1 (wI r W i s).2.c + 1) % (r.length : Int))
    refine ⟨stepL_ok hr h1, putL_nodup h2, ?_⟩
    show (putL _ _ _).length ≤ _
    omega
theorem wLet_snoc (n : Nat) : wLet r W s (n + 1) = wLet r W s n ++ [wB r W s n] := by unfold wLet; rw [trW_snoc, List.map_append]; rfl
theorem wLet_length (n : Nat) : (wLet r W s n).length = n := by unfold wLet; rw [List.length_map, trW_length]
theorem wAnts_snoc (n : Nat) : wAnts r W s (n + 1) = wAnts r W s n ++ [(wI r W n s).2] := by unfold wAnts; rw [List.range_succ, List.map_append]; rfl
theorem wAnts_length (n : Nat) : (wAnts r W s n).length = n := by simp [wAnts]
end
theorem StD.run {d : D} {r : List Bool} {f : Floor} {a : Ant} (h : StD d r.length f a) (hr : RuleOk r) : FRun r f := ⟨hr, h.fl.cols, h.fl.nodup, h.fl.len⟩
theorem eLs_snoc (w : List Bool) (b : Bool) : eLs (w ++ [b]) = eLs w ++ [.str (lS b)] := by unfold eLs; rw [List.map_append]; rfl
theorem eAs_snoc (l : List Ant) (a : Ant) : eAs (l ++ [a]) = eAs l ++ [eA a] := by unfold eAs; rw [List.map_append]; rfl
theorem rg_nat (n : Nat) : (rgD 0 ((n : Int)).toNat).length = n := by rw [rgD_length]; omega
theorem pure_lived : ∀ ds M k e, sp_lived ds M k e → t_lived (endsOf k) (fill 8 ds) M := by
  rintro ds M k e ⟨r, f, a, n, rfl, ⟨hr, hc, hnd, hfl⟩, hn, h⟩
  have hr2 := hr.2
  refine ⟨_, _, rfl, rfl, encT D.int f, pairsD_pr f, fun p hp => ?_⟩
  rw [mergeD_enc, mergeL_nodup hnd]
  refine ⟨_, _, rfl, rfl, ?_⟩
  refine ⟨le_line (by show 0 ≤ 1000000; decide), fun q hq => ?_⟩
  refine ⟨le_line (by show 1 ≤ 1000000; decide), fun s hs => ?_⟩
  have hpq : p ≠ q := ne_of_free put_same hq
  have hqs : q ≠ s := ne_of_free put_same hs
  have hps : p ≠ s := ne_of_free (by rw [put_ne hpq]; exact put_same) hs
  have mq : M q = none := (sub_new hp).free hq
  have ms : M s = none := ((sub_new hp).trans (sub_new hq)).free hs
  have s0 := (sub_new (o := .dT (encT D.int f)) hp).trans ((sub_new (o := .lst []) hq).trans (sub_new (o := .lst [eA a]) hs))
  refine ⟨⟨by omega, by omega⟩, ?_⟩
  refine ⟨fun i δ M' => ∃ x7, δ = [some (.str (eW r)), some (eSt f a), some (.int n), some (.obj p), some (eA (wI r id i (f, a)).2), some (.obj q), some (.obj s), x7] ∧
    M' p = some (.dT (encT D.int (wI r id i (f, a)).1)) ∧ M' q = some (.lst (eLs (wLet r id (f, a) i))) ∧ M' s = some (.lst (eAs (wAnts r id (f, a) (i + 1)))) ∧ Sub M M', ⟨none, rfl, ?_, ?_, put_same, s0⟩, ?_⟩
  · rw [put_ne hps, put_ne hpq]; exact put_same
  · rw [put_ne hqs]; exact put_same
  rintro i δ M' hi ⟨x7, rfl, hp', hq', hs', sM⟩
  rw [rg_nat] at hi
  obtain ⟨c1, c2, c3⟩ := wI_ok (W := id) (s := (f, a)) hr hc hnd i
  have c3 : (wI r id i (f, a)).1.length ≤ f.length + i := c3
  refine ⟨trivial, fun d hd => ?_, fun e => ?_⟩
  · have hlt : i < n := by
      have := (List.getElem?_eq_some_iff.mp hd).1
      rw [rg_nat] at this; exact this
    refine ⟨_, rfl, ?_⟩
    refine ⟨_, hq', ?_⟩
    refine ⟨r, p, _, _, rfl, hr, hp', c1, ?_⟩
    refine ⟨_, hq', lt_line (by unfold eLs; rw [List.length_map, wLet_length]; omega), ?_⟩
    refine ⟨r, p, _, _, rfl, hr, (by rw [put_ne hpq]; exact hp'), c1, by omega, ?_⟩
    refine ⟨_, rfl, ?_⟩
    have hs2 : put (put M' q (.lst (eLs (wLet r id (f, a) i) ++ [.str (lS (wB r id (f, a) i))]))) p (.dT (encT D.int (wI r id (i + 1) (f, a)).1)) s = some (.lst (eAs (wAnts r id (f, a) (i + 1)))) := by
      rw [put_ne (Ne.symm hps), put_ne (Ne.symm hqs)]; exact hs'
    refine ⟨_, hs2, _, hs2, lt_line (by unfold eAs; rw [List.length_map, wAnts_length]; omega), ?_⟩
    refine ⟨_, Sub.refl _, some d, rfl, ?_, ?_, ?_, ?_⟩
    · rw [put_ne hps]; exact put_same
    · rw [put_ne hqs, put_ne (Ne.symm hpq), put_same, wLet_snoc, eLs_snoc]; rfl
    · rw [put_same, wAnts_snoc (i + 1), eAs_snoc]; rfl
    · exact sub_put (sub_put (sub_put sM mq) hp) ms
  · rw [rg_nat] at e
    subst e
    exact ⟨le_line (by show 3 ≤ 1000000; decide), M', Sub.refl _, h M' q s _ sM hq' hs'⟩
theorem len_lived : ∀ ds M k e, sp_lived ds M k e → ds.length = 3 := by rintro ds M k e ⟨_, _, _, _, rfl, _⟩; rfl
theorem abs_nat (n : Nat) : (if (n : Int) < 0 then -(n : Int) else (n : Int)) = (n : Int) := if_neg (by omega)
theorem pure_after_in : ∀ ds M k e, sp_after_in ds M k e → t_after_in (endsOf k) (fill 6 ds) M := by
  rintro ds M k e ⟨r, f, a, n, rfl, ⟨hr, hc, hnd, hfl⟩, hn, h⟩
  refine ⟨_, _, rfl, rfl, encT D.int f, pairsD_pr f, fun p hp => ?_⟩
  rw [mergeD_enc, mergeL_nodup hnd]
  refine ⟨_, _, rfl, rfl, ?_⟩
  have hab := abs_nat n
  have hrg : (rgD 0 (if (n : Int) < 0 then -(n : Int) else (n : Int)).toNat).length = n := by rw [hab]; exact rg_nat n
  refine ⟨⟨by rw [hab]; omega, by rw [hab]; omega⟩, ?_⟩
  refine ⟨fun i δ M' => ∃ x5, δ = [some (.str (eW r)), some (eSt f a), some (.int n), some (.obj p), some (eA (wI r id i (f, a)).2), x5] ∧
    M' p = some (.dT (encT D.int (wI r id i (f, a)).1)) ∧ Sub M M', ⟨none, rfl, put_same, sub_new hp⟩, ?_⟩
  rintro i δ M' hi ⟨x5, rfl, hp', sM⟩
  rw [hrg] at hi
  obtain ⟨c1, c2, c3⟩ := wI_ok (W := id) (s := (f, a)) hr hc hnd i
  have c3 : (wI r id i (f, a)).1.length ≤ f.length + i := c3
  refine ⟨trivial, fun d hd => ?_, fun e => ?_⟩
  · have hlt : i < n := by
      have := (List.getElem?_eq_some_iff.mp hd).1
      rw [hrg] at this; exact this
    refine ⟨_, rfl, ?_⟩
    refine if_tf (d := true) (decide_eq_true (by omega)) (iteT ?_)
    refine ⟨r, p, _, _, rfl, hr, hp', c1, by omega, ?_⟩
    exact ⟨_, rfl, _, Sub.refl _, some d, rfl, put_same, sub_put sM hp⟩
  · rw [hrg] at e
    subst e
    exact ⟨p, _, rfl, hp', by omega, c2, fun L hL => ⟨two_le, M, sM, h L hL⟩⟩
theorem len_after_in : ∀ ds M k e, sp_after_in ds M k e → ds.length = 3 := by rintro ds M k e ⟨_, _, _, _, rfl, _⟩; rfl
theorem pure_after : ∀ ds M k e, sp_after ds M k e → t_after (endsOf k) (fill 5 ds) M := by
  rintro ds M k e ⟨r, d, f, a, n, rfl, hr, hd, hn, h⟩
  refine ⟨r, rfl, hr, _, rfl, ?_⟩
  refine ⟨r, d, f, a, rfl, hr, hd.re, hd.pl, hd.fl.floor, hd.an, _, rfl, ?_⟩
  refine ⟨(n : Int), -20000, 20000, rfl, ⟨by omega, by omega⟩, ?_⟩
  exact ⟨r, f, a, n, rfl, hd.run hr, hn, fun L hL => rt_of (h L hL)⟩
theorem len_after : ∀ ds M k e, sp_after ds M k e → ds.length = 3 := by rintro ds M k e ⟨_, _, _, _, _, rfl, _⟩; rfl
theorem pure_turns_of : ∀ ds M k e, sp_turns_of ds M k e → t_turns_of (endsOf k) (fill 5 ds) M := by
  rintro ds M k e ⟨r, d, f, a, n, rfl, hr, hd, hn, h⟩
  refine ⟨r, rfl, hr, _, rfl, ?_⟩
  refine ⟨r, d, f, a, rfl, hr, hd.re, hd.pl, hd.fl.floor, hd.an, _, rfl, ?_⟩
  refine ⟨(n : Int), 0, 20000, rfl, ⟨by omega, by omega⟩, ?_⟩
  refine ⟨r, f, a, n, rfl, hd.run hr, hn, fun M' p q x sM hp hq => ?_⟩
  refine ⟨_, _, rfl, rfl, ?_⟩
  refine ⟨_, seqOf_obj hp, ?_⟩
  rw [eLs_eq]
  exact rdJoin_lS (by rw [wLet_length]; omega) ⟨M, sM, h⟩
theorem len_turns_of : ∀ ds M k e, sp_turns_of ds M k e → ds.length = 3 := by rintro ds M k e ⟨_, _, _, _, _, rfl, _⟩; rfl
theorem cut_last (ds : List D) : cutD ds none (some (-1)) = ds.dropLast := by
  unfold cutD
  have e1 : HT.sIx ds.length 0 none = 0 := HT.sIx_none _ _
  have e2 : HT.sIx ds.length ds.length (some (-1)) = ds.length - 1 := by
    unfold HT.sIx
    simp
    omega
  rw [e1, e2, List.drop_zero, Nat.sub_zero, List.dropLast_eq_take]
theorem ants_last (r : List Bool) (W : Ant → Ant) (s : Sl) (n : Nat) : (eAs (wAnts r W s (n + 1))).dropLast = eAs (wAnts r W s n) := by
  rw [wAnts_snoc, eAs_snoc]; simp
theorem pure_visits : ∀ ds M k e, sp_visits ds M k e → t_visits (endsOf k) (fill 7 ds) M := by
  rintro ds M k e ⟨r, d, f, a, n, rfl, hr, hd, hn, h⟩
  refine ⟨r, rfl, hr, _, rfl, ?_⟩
  refine ⟨r, d, f, a, rfl, hr, hd.re, hd.pl, hd.fl.floor, hd.an, _, rfl, ?_⟩
  refine fun p hp => ⟨_, rfl, ?_⟩
  refine ⟨(n : Int), 0, 20000, rfl, ⟨by omega, by omega⟩, ?_⟩
  refine ⟨r, f, a, n, rfl, hd.run hr, hn, fun M1 p1 q x sM hp1 hq => ?_⟩
  refine ⟨_, _, rfl, rfl, ?_⟩
  refine ⟨_, lstOf_obj hq, ?_⟩
  rw [cut_last, ants_last]
  have hlen : (eAs (wAnts r id (f, a) n)).length = n := by unfold eAs; rw [List.length_map, wAnts_length]
  have hcs : ((trW r id (f, a) n).map (·.1)).length = n := by rw [List.length_map, trW_length]
  have s1 : Sub M M1 := (sub_new hp).trans sM
  refine ⟨fun i δ M' => ∃ x6, δ = [some (.str (eW r)), some d, some (.int n), some (.str (eW r)), some (eSt f a), some (.obj p), x6] ∧
    M' p = some (.dT (encT D.int (visL (((trW r id (f, a) n).map (·.1)).take i)))) ∧ Sub M M', ⟨none, rfl, sM _ _ put_same, s1⟩, ?_⟩
  rintro i δ M' hi ⟨x6, rfl, hp', s'⟩
  rw [hlen] at hi
  refine ⟨trivial, fun d' hd' => ?_, fun e => ?_⟩
  · have hlt : i < n := by
      have := (List.getElem?_eq_some_iff.mp hd').1
      rw [hlen] at this; exact this
    have ed : d' = eA (wI r id i (f, a)).2 := by
      unfold eAs wAnts at hd'
      rw [List.getElem?_map, List.getElem?_map, List.getElem?_range hlt] at hd'
      cases hd'; rfl
    subst ed
    have hci : ((trW r id (f, a) n).map (·.1))[i]? = some (wI r id i (f, a)).2.c := by
      unfold trW
      rw [List.getElem?_map, List.getElem?_map, List.getElem?_range hlt]; rfl
    have hvl := visL_len (((trW r id (f, a) n).map (·.1)).take i)
    rw [List.length_take, hcs] at hvl
    refine ⟨_, rfl, ?_⟩
    refine ⟨⟨_, hp', trivial⟩, _, getD_enc hp', ?_⟩
    rw [int_getD]
    refine ⟨_, _, hp', putMO_enc (y := (getL (visL (((trW r id (f, a) n).map (·.1)).take i)) (wI r id i (f, a)).2.c).getD 0 + 1) rfl (by omega), ?_⟩
    refine ⟨_, Sub.refl _, some _, rfl, ?_, sub_put s' hp⟩
    rw [put_same, take_snoc hci, visL_snoc]
  · rw [hlen] at e
    subst e
    rw [List.take_of_length_le (by rw [hcs]; exact Nat.le_refl _)] at hp'
    have hvl := visL_len ((trW r id (f, a) i).map (·.1))
    rw [hcs] at hvl
    exact ⟨p, _, rfl, hp', by omega, visL_nodup _, fun L hL => ⟨M, s', h L hL⟩⟩
theorem len_visits : ∀ ds M k e, sp_visits ds M k e → ds.length = 3 := by rintro ds M k e ⟨_, _, _, _, _, rfl, _⟩; rfl
/-! sides -/
theorem pure_lived_by : ∀ ds M k e, sp_lived_by ds M k e → t_lived_by (endsOf k) (fill 8 ds) M := by
  rintro ds M k e ⟨r, d, f, a, n, rfl, hr, hd, hn, h⟩
  refine ⟨r, rfl, hr, _, rfl, ?_⟩
  refine ⟨r, d, f, a, rfl, hr, hd.re, hd.pl, hd.fl.floor, hd.an, _, rfl, ?_⟩
  refine ⟨(n : Int), 0, 20000, rfl, ⟨by omega, by omega⟩, ?_⟩
  refine ⟨r, f, a, n, rfl, hd.run hr, hn, fun M1 p q x sM hp hq => ?_⟩
  refine ⟨_, rfl, ?_⟩
  exact ⟨two_le, M1, Sub.refl _, h M1 p q sM hp hq⟩
theorem len_lived_by : ∀ ds M k e, sp_lived_by ds M k e → ds.length = 3 := by rintro ds M k e ⟨_, _, _, _, _, rfl, _⟩; rfl
theorem cnt_lS (w : List Bool) (b : Bool) : ((w.map lS).countP fun y => decide (y = lS b)) = w.count b := by
  rw [List.countP_map, List.count_eq_countP]
  refine congrArg (fun f => List.countP f w) (funext fun x => ?_)
  exact lS_eq x b
theorem pure_turns_counted : ∀ ds M k e, sp_turns_counted ds M k e → t_turns_counted (endsOf k) (fill 4 ds) M := by
  rintro ds M k e ⟨r, d, f, a, n, rfl, hr, hd, hn, h⟩
  refine ⟨r, d, f, a, n, rfl, hr, hd, hn, fun M1 p q sM hp hq => ?_⟩
  refine ⟨_, _, rfl, rfl, ?_⟩
  refine ⟨_, rfl, ?_⟩
  rw [eLs_eq] at hp
  refine ⟨⟨_, lstOf_obj hp⟩, _, _, lstOf_obj hp, rfl, ?_⟩
  refine ⟨⟨_, lstOf_obj hp⟩, _, _, lstOf_obj hp, rfl, ?_⟩
  rw [l_lS, r_lS, cnt_lS, cnt_lS]
  exact ⟨two_le, M, sM, h⟩
theorem len_turns_counted : ∀ ds M k e, sp_turns_counted ds M k e → ds.length = 3 := by rintro ds M k e ⟨_, _, _, _, _, rfl, _⟩; rfl
def cPd (c : Cell) : PyData := .tuple [.int c.1, .int c.2]
theorem py_cell (M : MH) (c : Cell) : Py M (eC c) (cPd c) := .tup (.cons (.int _) (.cons (.int _) .nil))
theorem lay_cell (c : Cell) : (cPd c).canLay0 = true ∧ (cPd c).depth ≤ 1 := lay_tup (n := 0) fun p hp => by
  rcases List.mem_cons.mp hp with rfl | hp
  · exact lay_int _
  · rw [List.mem_singleton.mp hp]; exact lay_int _
theorem shaped_cell (c : Cell) : SeqAt.shaped (cPd c) = true := shaped_lay (lay_cell c) (by decide)
theorem cPd_eqv (c d : Cell) : PyData.eqv (cPd c) (cPd d) = decide (c = d) := by
  have e : PyData.eqv (cPd c) (cPd d) = ((c.1 == d.1) && ((c.2 == d.2) && true)) := by simp only [cPd, PyData.eqv, PyData.eqvAll]
  rw [e, Bool.eq_iff_iff]
  simp [Prod.ext_iff]
def stepD (p : Cell × Bool × Ant) : D := .tup [.str (lS p.2.1), eA p.2.2]
def onD (c : Cell) : D → Bool
  | .tup [_, .tup (.int x :: .int y :: _)] => decide ((x, y) = c)
  | _ => false
def firstD : D → D
  | .tup [x, _] => x
  | d => d
theorem zip_run (r : List Bool) (s : Sl) (n : Nat) : zpD (eLs (wLet r id s n)) (eAs (wAnts r id s (n + 1))) = (List.range n).map fun i => D.tup [.str (lS (wB r id s i)), eA (wI r id i s).2] := by
  apply List.ext_getElem?
  intro i
  unfold zpD
  rw [List.getElem?_zipWith]
  by_cases h : i < n
  · unfold eLs wLet trW eAs wAnts
    rw [List.getElem?_map, List.getElem?_map, List.getElem?_map, List.getElem?_map, List.getElem?_map, List.getElem?_map, List.getElem?_range h, List.getElem?_range (by omega)]
    rfl
  · have e1 : (eLs (wLet r id s n))[i]? = none := List.getElem?_eq_none (by unfold eLs; rw [List.length_map, wLet_length]; omega)
    have e2 : ((List.range n).map fun i => D.tup [.str (lS (wB r id s i)), eA (wI r id i s).2])[i]? = none := List.getElem?_eq_none (by rw [List.length_map, List.length_range]; omega)
    rw [e1, e2]
theorem pure_cell_word : ∀ ds M k e, sp_cell_word ds M k e → t_cell_word (endsOf k) (fill 9 ds) M := by
  rintro ds M k e ⟨r, d, f, a, n, c, rfl, hr, hd, hn, hc, h⟩
  refine ⟨r, d, f, a, n, rfl, hr, hd, hn, fun M1 p q sM hp hq => ?_⟩
  refine ⟨_, rfl, ?_⟩
  refine ⟨c, rfl, hc, _, rfl, ?_⟩
  refine .inr ⟨_, _, lstOf_obj hp, lstOf_obj hq, ?_⟩
  rw [zip_run]
  refine lc_pure firstD (onD c) ⟨lstOf_obj hp, lstOf_obj hq⟩ (by rw [List.length_map, List.length_range]; omega) (fun d' hd' => ?_) ?_
  · obtain ⟨i, _, rfl⟩ := List.mem_map.mp hd'
    refine ⟨_, rfl, fun kb hb => ?_, fun _ kk hk => hk⟩
    refine ⟨_, _, py_cell _ (wI r id i (f, a)).2.c, py_cell _ c, shaped_cell _, shaped_cell _, ?_⟩
    rw [cPd_eqv, xor_false']
    exact hb
  · have e : (((List.range n).map fun i => D.tup [.str (lS (wB r id (f, a) i)), eA (wI r id i (f, a)).2]).filter (onD c)).map firstD = ((onC (trW r id (f, a) n) c).map lS).map D.str := by
      unfold onC trW
      rw [List.filter_map, List.filter_map, List.map_map, List.map_map, List.map_map, List.map_map]
      rfl
    rw [e]
    refine rdJoin_lS ?_ ⟨M, sM, h⟩
    unfold onC
    rw [List.length_map]
    have := List.length_filter_le (fun p : Cell × Bool => decide (p.1 = c)) (trW r id (f, a) n)
    rw [trW_length] at this
    omega
theorem len_cell_word : ∀ ds M k e, sp_cell_word ds M k e → ds.length = 4 := by rintro ds M k e ⟨_, _, _, _, _, _, rfl, _⟩; rfl
end DL
/-! Readings (printed by run.py) and their proofs. -/
namespace DL
open PySem PySem.Spec PyProof.Rows L2
def t_backward_in : DTS := dSeq (dAsg (dVar 1) (dgTup 2 (dgCons (dgName 2) (dgCons (dgName 3) dgNil)))) (dSeq (dAsg (dVar 3) (dgTup 3 (dgCons (dgName 4) (dgCons (dgName 5) (dgCons (dgName 6) dgNil))))) (dSeq (dAsg (dCB rdTuple (dLc (diT (dVar 2)) (dgTup 2 (dgCons (dgName 8) (dgCons (dgName 9) dgNil))) (dYes) (dTup (dCons (dVar 8) (dCons (dOp rdSub (dCB rdLen (dCons (dVar 0) (dNil))) (dVar 9)) (dNil)))) [8, 9])) (dgName 7)) (dRet (dTup (dCons (dCall sp_mirrored_rule (dCons (dRev (dVar 0)) (dNil))) (dCons (dTup (dCons (dVar 7) (dCons (dTup (dCons (dOp rdSub (dVar 4) (dOp rdIx (dOp rdIx (dC d_WAYS) (dVar 6)) (dC (.int 0)))) (dCons (dOp rdSub (dVar 5) (dOp rdIx (dOp rdIx (dC d_WAYS) (dVar 6)) (dC (.int 1)))) (dCons (dOp rdMod (dOp rdAdd (dVar 6) (dC (.int 2))) (dC (.int 4))) (dNil))))) (dNil)))) (dNil)))))))

def t_backward : DTS := dSeq (dAsg (dCall sp_sure_rule (dCons (dVar 0) (dNil))) (dgName 2)) (dRet (dCall sp_backward_in (dCons (dVar 2) (dCons (dCall sp_sure_standing (dCons (dVar 2) (dCons (dVar 1) (dNil)))) (dNil)))))

def t_backward_rule : DTS := dRet (dCall sp_mirrored_rule (dCons (dRev (dCall sp_sure_rule (dCons (dVar 0) (dNil)))) (dNil)))

def t_is_ring_in : DTS := dRet (dAndV (dCall sp_is_long (dCons (dVar 0) (dCons (dC (.int 2)) (dNil)))) (dCB rdAll (dLc (diT (dVar 0)) (dgName 1) (dYes) (dCall sp_is_within (dCons (dVar 1) (dCons (dC (.int 2)) (dCons (dC (.int 12)) (dNil))))) [1])))

def t_sure_ring : DTS := dSeq (dAsg (dCall sp_tupled (dCons (dVar 0) (dNil))) (dgName 1)) (dSeq (dIfS (dNot (dTest (dCall sp_is_ring_in (dCons (dVar 1) (dNil))))) (dNever) (dNext)) (dRet (dVar 1)))

def t_is_on_ring : DTS := dRet (dAndV (dChain rdLe rdLt (dC (.int 0)) (dOp rdIx (dVar 1) (dC (.int 0))) (dOp rdIx (dVar 0) (dC (.int 0)))) (dChain rdLe rdLt (dC (.int 0)) (dOp rdIx (dVar 1) (dC (.int 1))) (dOp rdIx (dVar 0) (dC (.int 1)))))

def t_is_ring_standing_in : DTS := dSeq (dIfS (dOr (dNot (dTest (dCall sp_is_long (dCons (dVar 2) (dCons (dC (.int 2)) (dNil)))))) (dOr (dNot (dTest (dCall sp_is_floor_in (dCons (dVar 0) (dCons (dOp rdIx (dVar 2) (dC (.int 0))) (dNil)))))) (dNot (dTest (dCall sp_is_ant_in (dCons (dOp rdIx (dVar 2) (dC (.int 1))) (dNil))))))) (dNever) (dNext)) (dRet (dAndV (dCall sp_is_on_ring (dCons (dVar 1) (dCons (dOp rdIx (dVar 2) (dC (.int 1))) (dNil)))) (dCB rdAll (dLc (diT (dOp rdIx (dVar 2) (dC (.int 0)))) (dgTup 2 (dgCons (dgName 3) (dgCons (dgName 4) dgNil))) (dYes) (dCall sp_is_on_ring (dCons (dVar 1) (dCons (dVar 3) (dNil)))) [3, 4]))))

def t_sure_ring_standing : DTS := dSeq (dAsg (dCall sp_tupled (dCons (dVar 2) (dNil))) (dgName 3)) (dSeq (dIfS (dNot (dTest (dCall sp_is_ring_standing_in (dCons (dVar 0) (dCons (dVar 1) (dCons (dVar 3) (dNil))))))) (dNever) (dNext)) (dRet (dVar 3)))

def t_wrapped : DTS := dRet (dTup (dCons (dOp rdMod (dOp rdIx (dVar 1) (dC (.int 0))) (dOp rdIx (dVar 0) (dC (.int 0)))) (dCons (dOp rdMod (dOp rdIx (dVar 1) (dC (.int 1))) (dOp rdIx (dVar 0) (dC (.int 1)))) (dCons (dOp rdIx (dVar 1) (dC (.int 2))) (dNil)))))

def t_ring_after_in : DTS := dSeq (dPar 4 5 (dCons (dCB rdDictTT (dCons (dOp rdIx (dVar 2) (dC (.int 0))) (dNil))) (dCons (dOp rdIx (dVar 2) (dC (.int 1))) (dNil)))) (dSeq (dFor (diR1 (dCons (dCB rdAbs (dCons (dVar 3) (dNil))) (dNil))) (dgName 6) (dAsg (dIf (dTest (dOp rdGt (dVar 3) (dC (.int 0)))) (dCall sp_wrapped (dCons (dVar 1) (dCons (dCall sp_stepped_in (dCons (dVar 0) (dCons (dVar 4) (dCons (dVar 5) (dNil))))) (dNil)))) (dNeverE)) (dgName 5))) (dRet (dTup (dCons (dCall sp_told_floorS (dCons (dVar 4) (dNil))) (dCons (dVar 5) (dNil))))))

def t_ring_round_in : DTS := dSeq (dPar3 4 5 6 (dCons (dCB rdDictTT (dCons (dOp rdIx (dVar 2) (dC (.int 0))) (dNil))) (dCons (dOp rdIx (dVar 2) (dC (.int 1))) (dCons (dCB rdDictTT (dCons (dOp rdIx (dVar 2) (dC (.int 0))) (dNil))) (dNil))))) (dSeq (dAsg (dNewT) (dgName 7)) (dSeq (dFor (diR2 (dCons (dC (.int 1)) (dCons (dOp rdAdd (dVar 3) (dC (.int 1))) (dNil)))) (dgName 8) (dSeq (dAsg (dSl (dVar 5) (dNoPart) (dPart (dC (.int 2)))) (dgName 9)) (dSeq (dAsg (dCall sp_wrapped (dCons (dVar 1) (dCons (dCall sp_stepped_in (dCons (dVar 0) (dCons (dVar 4) (dCons (dVar 5) (dNil))))) (dNil)))) (dgName 5)) (dSeq (dIfS (dTest (dOp rdEq (dGetI (dVar 4) (dVar 9)) (dGet2 (dVar 6) (dVar 9) (dC (.int 0))))) (dDrop (dPopT (dVar 7) (dCons (dVar 9) (dCons (dC .non) (dNil))))) (dPutI (dVar 7) (dVar 9) (dC (.bl true)))) (dIfS (dAnd (dTest (dOp rdEq (dVar 5) (dOp rdIx (dVar 2) (dC (.int 1))))) (dTest (dOp rdEqE (dVar 7) (dNewT)))) (dRet (dVar 8)) (dNext)))))) (dRet (dC .non))))

def t_ring_after : DTS := dSeq (dAsg (dCall sp_sure_rule (dCons (dVar 0) (dNil))) (dgName 4)) (dSeq (dAsg (dCall sp_sure_ring (dCons (dVar 1) (dNil))) (dgName 5)) (dSeq (dAsg (dCall sp_sure_ring_standing (dCons (dVar 4) (dCons (dVar 5) (dCons (dVar 2) (dNil))))) (dgName 6)) (dRet (dCall sp_ring_after_in (dCons (dVar 4) (dCons (dVar 5) (dCons (dVar 6) (dCons (dCall sp_sure_within (dCons (dVar 3) (dCons (dUn rdNeg (dC (.int 20000))) (dCons (dC (.int 20000)) (dNil))))) (dNil)))))))))

def t_ring_word : DTS := dSeq (dAsg (dCall sp_sure_rule (dCons (dVar 0) (dNil))) (dgName 4)) (dSeq (dAsg (dCall sp_sure_ring (dCons (dVar 1) (dNil))) (dgName 5)) (dSeq (dAsg (dCall sp_sure_ring_standing (dCons (dVar 4) (dCons (dVar 5) (dCons (dVar 2) (dNil))))) (dgTup 2 (dgCons (dgName 6) (dgCons (dgName 7) dgNil)))) (dSeq (dPar 8 9 (dCons (dCB rdDictTT (dCons (dVar 6) (dNil))) (dCons (dLst (dNil)) (dNil)))) (dSeq (dFor (diR1 (dCons (dCall sp_sure_within (dCons (dVar 3) (dCons (dC (.int 0)) (dCons (dC (.int 20000)) (dNil))))) (dNil))) (dgName 10) (dSeq (dDrop (dAppend (dVar 9) (dCall sp_letter_in (dCons (dVar 4) (dCons (dVar 8) (dCons (dVar 7) (dNil))))))) (dAsg (dCall sp_wrapped (dCons (dVar 5) (dCons (dCall sp_stepped_in (dCons (dVar 4) (dCons (dVar 8) (dCons (dVar 7) (dNil))))) (dNil)))) (dgName 7)))) (dRet (dJoinO (dC (.str "")) (dVar 9)))))))

def t_ring_round (ex : DSt → MH → Prop) : DTS := dSeq (dAsg (dCall sp_sure_rule (dCons (dVar 0) (dNil))) (dgName 3)) (dSeq (dAsg (dCall sp_sure_ring (dCons (dVar 1) (dNil))) (dgName 4)) (dSeq (dAsg (dCall sp_ring_round_in (dCons (dVar 3) (dCons (dVar 4) (dCons (dCall sp_sure_ring_standing (dCons (dVar 3) (dCons (dVar 4) (dCons (dVar 2) (dNil))))) (dCons (dC (.int 20000)) (dNil)))))) (dgName 5)) (dSeq (dIfS (dTest (dOp (rdIsN false) (dVar 5) (dC .non))) (dRaise ex) (dNext)) (dRet (dVar 5)))))

theorem revS_eW (w : List Bool) : revS (eW w) = eW w.reverse := by
  unfold revS
  rw [eW_cps, ← List.map_reverse]; rfl
def subD (n : Int) : D → D
  | .tup [c, .int v] => .tup [c, .int (n - v)]
  | d => d
theorem pure_backward_in : ∀ ds M k e, sp_backward_in ds M k e → t_backward_in (endsOf k) (fill 10 ds) M := by
  rintro ds M k e ⟨r, f, a, rfl, hr, hf, hw, h⟩
  have hr2 := hr.2
  have hlen : (eW r).length ≤ sizeLine := by rw [eW_length]; exact le_line (by omega)
  refine ⟨_, rfl, ⟨_, rfl, ?_⟩⟩
  refine ⟨f.map ePr, rfl, ?_⟩
  refine lc_all (subD (r.length : Int)) trivial (by rw [List.length_map]; omega) (fun d hd => ?_) ?_
  · obtain ⟨p, hp, rfl⟩ := get_eF hd
    refine ⟨_, rfl, fun kk hk => ⟨hlen, two_le, ?_⟩⟩
    rw [eW_length]
    exact hk
  have e1 : (f.map ePr).map (subD (r.length : Int)) = (bwF r f).map ePr := by
    unfold bwF
    rw [List.map_map, List.map_map]; rfl
  rw [e1]
  refine .inr ⟨_, rfl, ?_⟩
  refine ⟨hlen, r.reverse, by rw [revS_eW], ⟨by rw [List.length_reverse]; exact hr.1, by rw [List.length_reverse]; exact hr.2⟩, ?_⟩
  obtain ⟨⟨x, y⟩, w⟩ := a
  have l3 : 3 ≤ sizeLine := le_line (by decide)
  have hw : 0 ≤ w ∧ w ≤ 3 := hw
  obtain rfl | rfl | rfl | rfl := way4 hw
  all_goals exact ⟨_, _, rfl, rfl, _, _, rfl, rfl, _, _, rfl, rfl, _, _, rfl, rfl, by decide, l3, two_le, two_le, rt_of h⟩
theorem len_backward_in : ∀ ds M k e, sp_backward_in ds M k e → ds.length = 2 := by rintro ds M k e ⟨_, _, _, rfl, _⟩; rfl
theorem pure_backward : ∀ ds M k e, sp_backward ds M k e → t_backward (endsOf k) (fill 3 ds) M := by
  rintro ds M k e ⟨r, d, f, a, rfl, hr, hd, h⟩
  refine ⟨r, rfl, hr, _, rfl, ?_⟩
  refine ⟨r, d, f, a, rfl, hr, hd.re, hd.pl, hd.fl.floor, hd.an, ?_⟩
  exact ⟨r, f, a, rfl, hr, hd.fl.len, hd.an.2, rt_of h⟩
theorem len_backward : ∀ ds M k e, sp_backward ds M k e → ds.length = 2 := by rintro ds M k e ⟨_, _, _, _, rfl, _⟩; rfl
theorem pure_backward_rule : ∀ ds M k e, sp_backward_rule ds M k e → t_backward_rule (endsOf k) (fill 1 ds) M := by
  rintro ds M k e ⟨r, rfl, hr, h⟩
  have hr2 := hr.2
  refine ⟨r, rfl, hr, ?_⟩
  refine ⟨by rw [eW_length]; exact le_line (by omega), ?_⟩
  exact ⟨r.reverse, by rw [revS_eW], ⟨by rw [List.length_reverse]; exact hr.1, by rw [List.length_reverse]; exact hr.2⟩, rt_of h⟩
theorem len_backward_rule : ∀ ds M k e, sp_backward_rule ds M k e → ds.length = 1 := by rintro ds M k e ⟨_, rfl, _⟩; rfl
/-! rings -/
theorem pure_is_ring_in : ∀ ds M k e, sp_is_ring_in ds M k e → t_is_ring_in (endsOf k) (fill 2 ds) M := by
  rintro ds M k e ⟨p, q, rfl, ⟨⟨h1, h2⟩, h3, h4⟩, h⟩
  refine ⟨_, _, 2, rfl, rfl, iteT ?_⟩
  refine ⟨_, rfl, ?_⟩
  refine lc_all (fun _ => .bl true) trivial (by show 2 ≤ 1000000; decide) (fun d hd => ?_) ?_
  · rcases List.mem_cons.mp hd with rfl | hd
    · refine ⟨_, rfl, fun kk hk => ⟨p, 2, 12, rfl, ?_⟩⟩
      rw [decide_eq_true h1, decide_eq_true h2]; exact hk
    · rw [List.mem_singleton.mp hd]
      refine ⟨_, rfl, fun kk hk => ⟨q, 2, 12, rfl, ?_⟩⟩
      rw [decide_eq_true h3, decide_eq_true h4]; exact hk
  · exact ⟨[true, true], rfl, rt_of h⟩
theorem len_is_ring_in : ∀ ds M k e, sp_is_ring_in ds M k e → ds.length = 1 := by rintro ds M k e ⟨_, _, rfl, _⟩; rfl
theorem pure_sure_ring : ∀ ds M k e, sp_sure_ring ds M k e → t_sure_ring (endsOf k) (fill 2 ds) M := by
  rintro ds M k e ⟨p, q, rfl, hp, h⟩
  refine ⟨_, rfl, rfl, ?_⟩
  refine ⟨_, rfl, ?_⟩
  exact ⟨p, q, rfl, hp, rt_of h⟩
theorem len_sure_ring : ∀ ds M k e, sp_sure_ring ds M k e → ds.length = 1 := by rintro ds M k e ⟨_, _, rfl, _⟩; rfl
theorem pure_is_on_ring : ∀ ds M k e, sp_is_on_ring ds M k e → t_is_on_ring (endsOf k) (fill 2 ds) M := by
  rintro ds M k e ⟨p, q, d, c, rfl, hd, ⟨⟨h1, h2⟩, h3, h4⟩, h⟩
  have fin : rtOf k (.bl (decide (c.2 < q))) M := by rw [decide_eq_true h4]; exact rt_of h
  rcases hd with rfl | ⟨w, rfl⟩
  · refine ⟨_, _, rfl, rfl, if_tf (d := true) (decide_eq_true h1) (iteT ⟨_, _, rfl, rfl, ?_⟩)⟩
    refine if_tf (d := true) (decide_eq_true h2) (iteT ?_)
    exact ⟨_, _, rfl, rfl, if_tf (d := true) (decide_eq_true h3) (iteT ⟨_, _, rfl, rfl, fin⟩)⟩
  · refine ⟨_, _, rfl, rfl, if_tf (d := true) (decide_eq_true h1) (iteT ⟨_, _, rfl, rfl, ?_⟩)⟩
    refine if_tf (d := true) (decide_eq_true h2) (iteT ?_)
    exact ⟨_, _, rfl, rfl, if_tf (d := true) (decide_eq_true h3) (iteT ⟨_, _, rfl, rfl, fin⟩)⟩
theorem len_is_on_ring : ∀ ds M k e, sp_is_on_ring ds M k e → ds.length = 2 := by rintro ds M k e ⟨_, _, _, _, rfl, _⟩; rfl
theorem pure_is_ring_standing_in : ∀ ds M k e, sp_is_ring_standing_in ds M k e → t_is_ring_standing_in (endsOf k) (fill 5 ds) M := by
  rintro ds M k e ⟨r, p, q, f, a, rfl, hs, h⟩
  have hfl := hs.fl.len
  refine ⟨_, _, 2, rfl, rfl, iteF ?_⟩
  refine ⟨_, _, rfl, rfl, r, f, rfl, hs.ru, hs.fl.floor, iteF ?_⟩
  refine ⟨_, _, rfl, rfl, a, rfl, hs.an, iteF ?_⟩
  refine ⟨_, _, rfl, rfl, p, q, _, a.c, rfl, .inr ⟨a.w, rfl⟩, hs.on, iteT ?_⟩
  refine ⟨_, _, rfl, rfl, f.map ePr, rfl, ?_⟩
  refine lc_all (fun _ => .bl true) trivial (by rw [List.length_map]; omega) (fun d hd => ?_) ?_
  · obtain ⟨x, hx, rfl⟩ := get_eF hd
    exact ⟨_, rfl, fun kk hk => ⟨p, q, _, x.1, rfl, .inl rfl, hs.each x hx, hk⟩⟩
  · refine ⟨f.map fun _ => true, by rw [List.map_map, List.map_map]; rfl, ?_⟩
    rw [all_true]; exact rt_of h
theorem len_is_ring_standing_in : ∀ ds M k e, sp_is_ring_standing_in ds M k e → ds.length = 3 := by rintro ds M k e ⟨_, _, _, _, _, rfl, _⟩; rfl
theorem pure_sure_ring_standing : ∀ ds M k e, sp_sure_ring_standing ds M k e → t_sure_ring_standing (endsOf k) (fill 4 ds) M := by
  rintro ds M k e ⟨r, p, q, d, f, a, rfl, hs, hd, hp, h⟩
  refine ⟨d, rfl, hp, ?_⟩
  rw [hd]
  refine ⟨_, rfl, ?_⟩
  exact ⟨r, p, q, f, a, rfl, hs, rt_of h⟩
theorem len_sure_ring_standing : ∀ ds M k e, sp_sure_ring_standing ds M k e → ds.length = 3 := by rintro ds M k e ⟨_, _, _, _, _, _, rfl, _⟩; rfl
theorem pure_wrapped : ∀ ds M k e, sp_wrapped ds M k e → t_wrapped (endsOf k) (fill 2 ds) M := by
  rintro ds M k e ⟨p, q, a, rfl, ⟨hp, hq⟩, h⟩
  exact ⟨_, _, rfl, rfl, _, _, rfl, rfl, hp, _, _, rfl, rfl, _, _, rfl, rfl, hq, _, _, rfl, rfl, le_line (by show 3 ≤ 1000000; decide), rt_of h⟩
theorem len_wrapped : ∀ ds M k e, sp_wrapped ds M k e → ds.length = 2 := by rintro ds M k e ⟨_, _, _, rfl, _⟩; rfl
theorem RSt.run {r : List Bool} {p q : Int} {f : Floor} {a : Ant} (h : RSt r p q f a) : FRun r f := ⟨h.ru, h.fl.cols, h.fl.nodup, h.fl.len⟩
theorem RSt.pos {r : List Bool} {p q : Int} {f : Floor} {a : Ant} (h : RSt r p q f a) : 0 < p ∧ 0 < q := by
  obtain ⟨⟨h1, _⟩, h2, _⟩ := h.ring
  omega
theorem pure_ring_after_in : ∀ ds M k e, sp_ring_after_in ds M k e → t_ring_after_in (endsOf k) (fill 7 ds) M := by
  rintro ds M k e ⟨r, p, q, f, a, n, rfl, ⟨hr, hc, hnd, hfl⟩, hpq, hn, h⟩
  refine ⟨_, _, rfl, rfl, encT D.int f, pairsD_pr f, fun c hc' => ?_⟩
  rw [mergeD_enc, mergeL_nodup hnd]
  refine ⟨_, _, rfl, rfl, ?_⟩
  have hab := abs_nat n
  have hrg : (rgD 0 (if (n : Int) < 0 then -(n : Int) else (n : Int)).toNat).length = n := by rw [hab]; exact rg_nat n
  refine ⟨⟨by rw [hab]; omega, by rw [hab]; omega⟩, ?_⟩
  refine ⟨fun i δ M' => ∃ x6, δ = [some (.str (eW r)), some (eR p q), some (eSt f a), some (.int n), some (.obj c), some (eA (wI r (wrapA p q) i (f, a)).2), x6] ∧
    M' c = some (.dT (encT D.int (wI r (wrapA p q) i (f, a)).1)) ∧ Sub M M', ⟨none, rfl, put_same, sub_new hc'⟩, ?_⟩
  rintro i δ M' hi ⟨x6, rfl, hp', sM⟩
  rw [hrg] at hi
  obtain ⟨c1, c2, c3⟩ := wI_ok (W := wrapA p q) (s := (f, a)) hr hc hnd i
  have c3 : (wI r (wrapA p q) i (f, a)).1.length ≤ f.length + i := c3
  refine ⟨trivial, fun d hd => ?_, fun e => ?_⟩
  · have hlt : i < n := by
      have := (List.getElem?_eq_some_iff.mp hd).1
      rw [hrg] at this; exact this
    refine ⟨_, rfl, ?_⟩
    refine if_tf (d := true) (decide_eq_true (by omega)) (iteT ?_)
    refine ⟨r, c, _, _, rfl, hr, hp', c1, by omega, ?_⟩
    refine ⟨p, q, _, rfl, hpq, ?_⟩
    exact ⟨_, rfl, _, Sub.refl _, some d, rfl, put_same, sub_put sM hc'⟩
  · rw [hrg] at e
    subst e
    exact ⟨c, _, rfl, hp', by omega, c2, fun L hL => ⟨two_le, M, sM, h L hL⟩⟩
theorem len_ring_after_in : ∀ ds M k e, sp_ring_after_in ds M k e → ds.length = 4 := by rintro ds M k e ⟨_, _, _, _, _, _, rfl, _⟩; rfl
theorem pure_ring_after : ∀ ds M k e, sp_ring_after ds M k e → t_ring_after (endsOf k) (fill 7 ds) M := by
  rintro ds M k e ⟨r, p, q, d, f, a, n, rfl, hs, hd, hpl, hn, h⟩
  refine ⟨r, rfl, hs.ru, _, rfl, ?_⟩
  refine ⟨p, q, rfl, hs.ring, _, rfl, ?_⟩
  refine ⟨r, p, q, d, f, a, rfl, hs, hd, hpl, _, rfl, ?_⟩
  refine ⟨(n : Int), -20000, 20000, rfl, ⟨by omega, by omega⟩, ?_⟩
  exact ⟨r, p, q, f, a, n, rfl, hs.run, hs.pos, hn, fun L hL => rt_of (h L hL)⟩
theorem len_ring_after : ∀ ds M k e, sp_ring_after ds M k e → ds.length = 4 := by rintro ds M k e ⟨_, _, _, _, _, _, _, rfl, _⟩; rfl
theorem pure_ring_word : ∀ ds M k e, sp_ring_word ds M k e → t_ring_word (endsOf k) (fill 11 ds) M := by
  rintro ds M k e ⟨r, p, q, d, f, a, n, rfl, hs, hd, hpl, hn, h⟩
  have hr := hs.ru
  have hc := hs.fl.cols
  have hnd := hs.fl.nodup
  have hfl := hs.fl.len
  refine ⟨r, rfl, hr, _, rfl, ?_⟩
  refine ⟨p, q, rfl, hs.ring, _, rfl, ?_⟩
  refine ⟨r, p, q, d, f, a, rfl, hs, hd, hpl, _, rfl, ?_⟩
  refine ⟨encT D.int f, pairsD_pr f, fun c hc' => ?_⟩
  rw [mergeD_enc, mergeL_nodup hnd]
  refine ⟨le_line (by show 0 ≤ 1000000; decide), fun u hu => ?_⟩
  have hcu : c ≠ u := ne_of_free put_same hu
  have mu : M u = none := (sub_new hc').free hu
  refine ⟨(n : Int), 0, 20000, rfl, ⟨by omega, by omega⟩, ?_⟩
  refine ⟨⟨by omega, by omega⟩, ?_⟩
  refine ⟨fun i δ M' => ∃ x10, δ = [some (.str (eW r)), some (eR p q), some d, some (.int n), some (.str (eW r)), some (eR p q), some (eF f), some (eA (wI r (wrapA p q) i (f, a)).2), some (.obj c), some (.obj u), x10] ∧
    M' c = some (.dT (encT D.int (wI r (wrapA p q) i (f, a)).1)) ∧ M' u = some (.lst (eLs (wLet r (wrapA p q) (f, a) i))) ∧ Sub M M', ⟨none, rfl, by rw [put_ne hcu]; exact put_same, put_same, (sub_new hc').trans (sub_new hu)⟩, ?_⟩
  rintro i δ M' hi ⟨x10, rfl, hp', hu', sM⟩
  rw [rg_nat] at hi
  obtain ⟨c1, c2, c3⟩ := wI_ok (W := wrapA p q) (s := (f, a)) hr hc hnd i
  have c3 : (wI r (wrapA p q) i (f, a)).1.length ≤ f.length + i := c3
  refine ⟨trivial, fun d hd => ?_, fun e => ?_⟩
  · have hlt : i < n := by
      have := (List.getElem?_eq_some_iff.mp hd).1
      rw [rg_nat] at this; exact this
    refine ⟨_, rfl, ?_⟩
    refine ⟨_, hu', ?_⟩
    refine ⟨r, c, _, _, rfl, hr, hp', c1, ?_⟩
    refine ⟨_, hu', lt_line (by unfold eLs; rw [List.length_map, wLet_length]; omega), ?_⟩
    refine ⟨r, c, _, _, rfl, hr, (by rw [put_ne hcu]; exact hp'), c1, by omega, ?_⟩
    refine ⟨p, q, _, rfl, hs.pos, ?_⟩
    refine ⟨_, rfl, _, Sub.refl _, some d, rfl, put_same, ?_, sub_put (sub_put sM mu) hc'⟩
    rw [put_ne (Ne.symm hcu), put_same, wLet_snoc, eLs_snoc]; rfl
  · rw [rg_nat] at e
    subst e
    refine ⟨_, seqOf_obj hu', ?_⟩
    rw [eLs_eq]
    exact rdJoin_lS (by rw [wLet_length]; omega) ⟨M, sM, h⟩
theorem len_ring_word : ∀ ds M k e, sp_ring_word ds M k e → ds.length = 4 := by rintro ds M k e ⟨_, _, _, _, _, _, _, rfl, _⟩; rfl
/-! the round -/
section
variable {β : Type}
def dropL (l : List (Cell × β)) (c : Cell) : List (Cell × β) := l.filter fun p => decide (p.1 ≠ c)
theorem dropD_enc {f : β → D} (l : List (Cell × β)) (c : Cell) : dropD (encT f l) (kC c) = encT f (dropL l c) := by
  unfold dropD dropL encT
  rw [List.filter_map]
  congr 1
  apply List.filter_congr
  intro p _
  show decide (kC p.1 ≠ kC c) = decide (p.1 ≠ c)
  by_cases h : p.1 = c
  · simp [h]
  · have h' : kC p.1 ≠ kC c := fun z => h (kC_inj z)
    rw [decide_eq_true h, decide_eq_true h']
theorem getL_drop (l : List (Cell × β)) (c d : Cell) : (getL (dropL l c) d).isSome = (if d = c then false else (getL l d).isSome) := by
  rw [← any_getL, ← any_getL, Bool.eq_iff_iff]
  unfold dropL
  rw [List.any_filter]
  by_cases h : d = c
  · rw [if_pos h]
    simp only [List.any_eq_true, Bool.and_eq_true, decide_eq_true_eq, Bool.false_eq_true, iff_false]
    rintro ⟨p, _, h1, h2⟩
    exact h1 (h2.trans h)
  · rw [if_neg h, List.any_eq_true, List.any_eq_true]
    constructor
    · rintro ⟨p, hp, z⟩
      rw [Bool.and_eq_true] at z
      exact ⟨p, hp, z.2⟩
    · rintro ⟨p, hp, z⟩
      refine ⟨p, hp, ?_⟩
      rw [Bool.and_eq_true]
      exact ⟨decide_eq_true fun e => h ((of_decide_eq_true z).symm.trans e), z⟩
theorem getL_put_some (l : List (Cell × β)) (c d : Cell) (v : β) : (getL (putL l c v) d).isSome = (if d = c then true else (getL l d).isSome) := by
  by_cases h : d = c
  · subst h; rw [getL_putL_self, if_pos rfl]; rfl
  · rw [getL_putL_ne _ _ h, if_neg h]
theorem empty_iff {l : List (Cell × β)} : l.isEmpty = true ↔ ∀ c, (getL l c).isSome = false := by
  cases l with
  | nil => exact ⟨fun _ _ => rfl, fun _ => rfl⟩
  | cons p l =>
    constructor
    · intro h; cases h
    · intro h
      have := h p.1
      unfold getL at this
      simp at this
end
def unD : Unit → D := fun _ => .bl true
def aPd (a : Ant) : PyData := .tuple [.int a.c.1, .int a.c.2, .int a.w]
theorem py_ant (M : MH) (a : Ant) : Py M (eA a) (aPd a) := .tup (.cons (.int _) (.cons (.int _) (.cons (.int _) .nil)))
theorem shaped_ant (a : Ant) : SeqAt.shaped (aPd a) = true := shaped_lay (lay_tup (n := 0) fun p hp => by
  rcases List.mem_cons.mp hp with rfl | hp
  · exact lay_int _
  · rcases List.mem_cons.mp hp with rfl | hp
    · exact lay_int _
    · rw [List.mem_singleton.mp hp]; exact lay_int _) (by decide)
theorem aPd_eqv (a b : Ant) : PyData.eqv (aPd a) (aPd b) = decide (a = b) := by
  have e : PyData.eqv (aPd a) (aPd b) = ((a.c.1 == b.c.1) && ((a.c.2 == b.c.2) && ((a.w == b.w) && true))) := by simp only [aPd, PyData.eqv, PyData.eqvAll]
  rw [e, Bool.eq_iff_iff]
  obtain ⟨⟨x, y⟩, w⟩ := a
  obtain ⟨⟨x', y'⟩, w'⟩ := b
  simp
  constructor
  · rintro ⟨h1, h2, h3⟩; exact ⟨⟨h1, h2⟩, h3⟩
  · rintro ⟨⟨h1, h2⟩, h3⟩; exact ⟨h1, h2, h3⟩
theorem rnd_iff (r : List Bool) (W : Ant → Ant) (s : Sl) (m : Nat) : Rnd r W (toF s) m ↔ (wI r W m s).2 = s.2 ∧ ∀ c, colAt (wI r W m s).1 c = colAt s.1 c := by
  unfold Rnd
  rw [← wI_f]
  constructor
  · intro h
    refine ⟨?_, fun c => ?_⟩
    · show (toF (wI r W m s)).2 = (toF s).2
      rw [h]
    · show (toF (wI r W m s)).1 c = (toF s).1 c
      rw [h]
  · rintro ⟨h1, h2⟩
    exact Prod.ext (funext h2) h1
theorem ite_bool {b : Bool} {p q : Prop} (h1 : b = true → p) (h2 : b = false → q) : if b = true then p else q := by
  cases b
  · exact iteF (h2 rfl)
  · exact iteT (h1 rfl)
/-- the loop of the round -/
def RIv (r : List Bool) (p q : Int) (f : Floor) (a : Ant) (n : Nat) (c g u : Addr) (M : MH) (i : Nat) (δ : DSt) (M' : MH) : Prop :=
  ∃ x8 x9, ∃ ul : List (Cell × Unit), δ = [some (.str (eW r)), some (eR p q), some (eSt f a), some (.int n), some (.obj c), some (eA (wI r (wrapA p q) i (f, a)).2), some (.obj g), some (.obj u), x8, x9] ∧
    M' c = some (.dT (encT D.int (wI r (wrapA p q) i (f, a)).1)) ∧ M' g = some (.dT (encT D.int f)) ∧ M' u = some (.dT (encT unD ul)) ∧ ul.length ≤ i ∧ (∀ d, (getL ul d).isSome = !decide (colAt (wI r (wrapA p q) i (f, a)).1 d = colAt f d)) ∧
    (∀ j, 1 ≤ j → j ≤ i → ¬ Rnd r (wrapA p q) (toF (f, a)) j) ∧ Sub M M'
theorem pure_ring_round_in : ∀ ds M k e, sp_ring_round_in ds M k e → t_ring_round_in (endsOf k) (fill 10 ds) M := by
  rintro ds M k e ⟨r, p, q, f, a, n, rfl, ⟨hr, hc, hnd, hfl⟩, hpq, hn, hk⟩
  have hr1 := hr.1
  refine ⟨_, _, rfl, rfl, encT D.int f, pairsD_pr f, fun c hc' => ?_⟩
  rw [mergeD_enc, mergeL_nodup hnd]
  refine ⟨_, _, rfl, rfl, _, _, rfl, rfl, encT D.int f, pairsD_pr f, fun g hg => ?_⟩
  rw [mergeD_enc, mergeL_nodup hnd]
  refine fun u hu => ⟨_, rfl, ?_⟩
  have hcg : c ≠ g := ne_of_free put_same hg
  have hgu : g ≠ u := ne_of_free put_same hu
  have hcu : c ≠ u := ne_of_free (by rw [put_ne hcg]; exact put_same) hu
  have mg : M g = none := (sub_new hc').free hg
  have mu : M u = none := ((sub_new hc').trans (sub_new hg)).free hu
  have s0 := (sub_new (o := .dT (encT D.int f)) hc').trans ((sub_new (o := .dT (encT D.int f)) hg).trans (sub_new (o := .dT []) hu))
  refine ⟨⟨by decide, by decide, by omega, by omega⟩, ?_⟩
  have hrg : (rgD 1 ((n : Int) + 1 - 1).toNat).length = n := by rw [rgD_length]; omega
  refine ⟨RIv r p q f a n c g u M,
    ⟨none, none, [], rfl, by rw [put_ne hcu, put_ne hcg]; exact put_same, by rw [put_ne hgu]; exact put_same, put_same, Nat.le_refl _, fun d => ?_, fun j h1 h2 => by omega, s0⟩, ?_⟩
  · show false = !decide (colAt f d = colAt f d)
    simp
  rintro i δ M' hi ⟨x8, x9, ul, rfl, hp', hg', hu', hul, hun, hno, sM⟩
  rw [hrg] at hi
  obtain ⟨c1, c2, c3⟩ := wI_ok (W := wrapA p q) (s := (f, a)) hr hc hnd i
  have c3 : (wI r (wrapA p q) i (f, a)).1.length ≤ f.length + i := c3
  refine ⟨trivial, fun d hd => ?_, fun e => ?_⟩
  · have hlt : i < n := by
      have := (List.getElem?_eq_some_iff.mp hd).1
      rw [hrg] at this; exact this
    have ed : d = .int (1 + (i : Nat)) := by
      rw [rgD_get (by omega)] at hd
      cases hd; rfl
    subst ed
    refine ⟨_, rfl, ?_⟩
    refine ⟨_, rfl, ?_⟩
    refine ⟨r, c, _, _, rfl, hr, hp', c1, by omega, ?_⟩
    refine ⟨p, q, _, rfl, hpq, ?_⟩
    refine ⟨_, rfl, ?_⟩
    generalize hl : (wI r (wrapA p q) i (f, a)).1 = l at *
    generalize ha' : (wI r (wrapA p q) i (f, a)).2 = h0 at *
    have hl1 : (wI r (wrapA p q) (i + 1) (f, a)).1 = stepL r l h0 := by rw [← hl, ← ha']; rfl
    have ha1 : (wI r (wrapA p q) (i + 1) (f, a)).2 = wrapA p q (stepA r l h0) := by rw [← hl, ← ha']; rfl
    have hstep : ∀ d, colAt (stepL r l h0) d = if d = h0.c then (colAt l h0.c + 1) % (r.length : Int) else colAt l d := fun d => colAt_put _ _ _ _
    have hM2c : put M' c (.dT (encT D.int (stepL r l h0))) c = some (.dT (encT D.int (stepL r l h0))) := put_same
    have hM2g : put M' c (.dT (encT D.int (stepL r l h0))) g = some (.dT (encT D.int f)) := by rw [put_ne (Ne.symm hcg)]; exact hg'
    have hM2u : put M' c (.dT (encT D.int (stepL r l h0))) u = some (.dT (encT unD ul)) := by rw [put_ne (Ne.symm hcu)]; exact hu'
    have sM2 : Sub M (put M' c (.dT (encT D.int (stepL r l h0)))) := sub_put sM hc'
    generalize put M' c (.dT (encT D.int (stepL r l h0))) = M2 at hM2c hM2g hM2u sM2
    -- what the tail wants
    have tail : ∀ (M3 : MH) (ul' : List (Cell × Unit)), M3 c = some (.dT (encT D.int (stepL r l h0))) → M3 g = some (.dT (encT D.int f)) → M3 u = some (.dT (encT unD ul')) → ul'.length ≤ i + 1 → (∀ d, (getL ul' d).isSome = !decide (colAt (stepL r l h0) d = colAt f d)) → Sub M M3 →
        (dIfS (dAnd (dTest (dOp rdEq (dVar 5) (dOp rdIx (dVar 2) (dC (.int 1))))) (dTest (dOp rdEqE (dVar 7) (dNewT)))) (dRet (dVar 8)) (dNext)) { endsOf k with nx := fun δ' M' => ∃ M'', Sub M'' M' ∧ RIv r p q f a n c g u M (i + 1) δ' M'', bk := fun δ' M' => dRet (dC .non) (endsOf k) δ' M', ct := fun δ' M' => ∃ M'', Sub M'' M' ∧ RIv r p q f a n c g u M (i + 1) δ' M'' }
          [some (.str (eW r)), some (eR p q), some (eSt f a), some (.int n), some (.obj c), some (eA (wrapA p q (stepA r l h0))), some (.obj g), some (.obj u), some (.int (1 + (i : Nat))), some (eC h0.c)] M3 := by
      intro M3 ul' m1 m2 m3 hlen hget s3
      have goon : ¬ Rnd r (wrapA p q) (toF (f, a)) (i + 1) → ∀ M4, Sub M3 M4 → ∃ M'', Sub M'' M4 ∧ RIv r p q f a n c g u M (i + 1) [some (.str (eW r)), some (eR p q), some (eSt f a), some (.int n), some (.obj c), some (eA (wrapA p q (stepA r l h0))), some (.obj g), some (.obj u), some (.int (1 + (i : Nat))), some (eC h0.c)] M'' := by
        intro hnot M4 s4
        refine ⟨M3, s4, _, _, ul', by rw [ha1], by rw [hl1]; exact m1, m2, m3, hlen, by rw [hl1]; exact hget, fun j h1 h2 => ?_, s3⟩
        by_cases hj : j = i + 1
        · rw [hj]; exact hnot
        · exact hno j h1 (by omega)
      refine ⟨_, _, rfl, rfl, ?_⟩
      refine ⟨_, _, py_ant _ (wrapA p q (stepA r l h0)), py_ant _ a, shaped_ant _, shaped_ant _, ?_⟩
      rw [aPd_eqv, xor_false']
      refine ite_bool (fun hyes => ?_) (fun hno' => ?_)
      · have hyes := of_decide_eq_true hyes
        refine fun v hv => ⟨u, v, _, rfl, rfl, (by rw [put_ne (ne_of_free m3 hv)]; exact m3), put_same, ?_⟩
        have hem : (encT unD ul').isEmpty = ul'.isEmpty := by unfold encT; exact isEmpty_map' _ _
        rw [hem]
        refine ite_bool (fun he => ?_) (fun he => ?_)
        · have hR : Rnd r (wrapA p q) (toF (f, a)) (i + 1) := by
            rw [rnd_iff, hl1, ha1]
            refine ⟨hyes, fun d => ?_⟩
            have := empty_iff.mp he d
            rw [hget] at this
            simpa using this
          have := hk.1 (i + 1) (by omega) (by omega) hR fun j h1 h2 => hno j h1 (by omega)
          refine ⟨M, s3.trans (sub_new hv), ?_⟩
          have e1 : (1 : Int) + (i : Nat) = ((i + 1 : Nat) : Int) := by omega
          rw [e1]; exact this
        · refine goon (fun hR => ?_) _ (sub_new hv)
          rw [rnd_iff, hl1] at hR
          have : ul'.isEmpty = true := empty_iff.mpr fun d => by rw [hget, hR.2 d]; simp
          rw [this] at he; cases he
      · have hno' := of_decide_eq_false hno'
        refine goon (fun hR => ?_) _ (Sub.refl _)
        rw [rnd_iff, ha1] at hR
        exact hno' hR.1
    have hgl : getL (stepL r l h0) h0.c = some ((colAt l h0.c + 1) % (r.length : Int)) := getL_putL_self _ _ _
    have hgd : getD? M2 c (eC h0.c) = some (some (.int ((colAt l h0.c + 1) % (r.length : Int)))) := by rw [getD_enc hM2c, hgl]; rfl
    refine ⟨_, hgd, ?_⟩
    refine ⟨⟨_, hM2g, trivial⟩, _, getD_enc hM2g, ?_⟩
    rw [int_getD]
    show if (xor false (decide ((colAt l h0.c + 1) % (r.length : Int) = colAt f h0.c))) = true then _ else _
    rw [xor_false']
    refine ite_bool (fun hyes => ?_) (fun hno' => ?_)
    · have hyes := of_decide_eq_true hyes
      refine ⟨⟨_, hM2u⟩, _, _, _, _, rfl, hM2u, kC_eC h0.c, fun v hv => ?_, fun hv => ?_⟩
      · refine tail _ (dropL ul h0.c) (by rw [put_ne hcu]; exact hM2c) (by rw [put_ne hgu]; exact hM2g) (by rw [put_same, dropD_enc]) (by have := List.length_filter_le (fun p : Cell × Unit => decide (p.1 ≠ h0.c)) ul; unfold dropL; omega) (fun d => ?_) (sub_put sM2 mu)
        rw [getL_drop, hstep, hun]
        by_cases hd : d = h0.c
        · rw [if_pos hd, if_pos hd, hd]; simp [hyes]
        · rw [if_neg hd, if_neg hd]
      · refine tail _ ul hM2c hM2g hM2u (by omega) (fun d => ?_) sM2
        rw [hstep]
        by_cases hd : d = h0.c
        · rw [if_pos hd, hd]
          rw [valD_enc] at hv
          have : getL ul h0.c = none := by
            cases q2 : getL ul h0.c with
            | none => rfl
            | some v => rw [q2] at hv; cases hv
          rw [this]; simp [hyes]
        · rw [if_neg hd]; exact hun d
    · have hno' := of_decide_eq_false hno'
      refine ⟨_, _, hM2u, putMO_enc (y := ()) rfl (by omega), ?_⟩
      have := putL_length ul h0.c ()
      refine tail _ (putL ul h0.c ()) (by rw [put_ne hcu]; exact hM2c) (by rw [put_ne hgu]; exact hM2g) put_same (by omega) (fun d => ?_) (sub_put sM2 mu)
      rw [getL_put_some, hstep, hun]
      by_cases hd : d = h0.c
      · rw [if_pos hd, if_pos hd, hd]; simp [hno']
      · rw [if_neg hd, if_neg hd]
  · rw [hrg] at e
    subst e
    exact ⟨M, sM, hk.2 fun m h1 h2 => hno m h1 h2⟩
theorem len_ring_round_in : ∀ ds M k e, sp_ring_round_in ds M k e → ds.length = 4 := by rintro ds M k e ⟨_, _, _, _, _, _, rfl, _⟩; rfl
theorem pure_ring_round : ∀ ds M k e, sp_ring_round ds M k e → t_ring_round (fun _ M' => e M') (endsOf k) (fill 6 ds) M := by
  rintro ds M k e ⟨r, p, q, d, f, a, rfl, hs, hd, hpl, hk⟩
  refine ⟨r, rfl, hs.ru, _, rfl, ?_⟩
  refine ⟨p, q, rfl, hs.ring, _, rfl, ?_⟩
  refine ⟨r, p, q, d, f, a, rfl, hs, hd, hpl, ?_⟩
  refine ⟨r, p, q, f, a, 20000, rfl, hs.run, hs.pos, by decide, fun m h1 h2 h3 h4 => ?_, fun hno => ?_⟩
  · refine ⟨_, rfl, ?_⟩
    exact rt_of (hk.1 m h1 h2 h3 h4)
  · refine ⟨_, rfl, ?_⟩
    exact hk.2 hno
theorem len_ring_round : ∀ ds M k e, sp_ring_round ds M k e → ds.length = 3 := by rintro ds M k e ⟨_, _, _, _, _, _, rfl, _⟩; rfl
end DL
/-! Readings (printed by run.py) and their proofs. -/
namespace DL
open PySem PySem.Spec PyProof.Rows L2
def t__law_laid : DTS := dRet (dCB rdTuple (dSorted (dLockL (dLc (diK (dVar 0)) (dgName 1) (dTest (dOp rdNe (dGetI (dVar 0) (dVar 1)) (dC (.int 0)))) (dTup (dCons (dVar 1) (dCons (dGetI (dVar 0) (dVar 1)) (dNil)))) [1]))))

def t__law_swapped : DTS := dRet (dJoin (dC (.str "")) (dLc (diS (dVar 0)) (dgName 1) (dYes) (dIf (dTest (dOp rdEq (dVar 1) (dC (.str "l")))) (dC (.str "r")) (dC (.str "l"))) [1]))

def t__law_ant : DTS := dRet (dTup (dCons (dOp rdSub (dCall sp__law_take (dCons (dVar 0) (dCons (dOp rdAdd (dOp rdMul (dC (.int 2)) (dVar 1)) (dC (.int 1))) (dNil)))) (dVar 1)) (dCons (dOp rdSub (dCall sp__law_take (dCons (dVar 0) (dCons (dOp rdAdd (dOp rdMul (dC (.int 2)) (dVar 1)) (dC (.int 1))) (dNil)))) (dVar 1)) (dCons (dCall sp__law_take (dCons (dVar 0) (dCons (dC (.int 4)) (dNil)))) (dNil)))))

def t__law_floor : DTS := dSeq (dAsg (dNewT) (dgName 4)) (dSeq (dFor (diR1 (dCons (dCall sp__law_take (dCons (dVar 0) (dCons (dOp rdAdd (dVar 2) (dC (.int 1))) (dNil)))) (dNil))) (dgName 5) (dSeq (dAsg (dTup (dCons (dOp rdSub (dCall sp__law_take (dCons (dVar 0) (dCons (dOp rdAdd (dOp rdMul (dC (.int 2)) (dVar 3)) (dC (.int 1))) (dNil)))) (dVar 3)) (dCons (dOp rdSub (dCall sp__law_take (dCons (dVar 0) (dCons (dOp rdAdd (dOp rdMul (dC (.int 2)) (dVar 3)) (dC (.int 1))) (dNil)))) (dVar 3)) (dNil)))) (dgName 6)) (dPutI (dVar 4) (dVar 6) (dCall sp__law_take (dCons (dVar 0) (dCons (dCB rdLen (dCons (dVar 1) (dNil))) (dNil))))))) (dRet (dCall sp__law_laid (dCons (dVar 4) (dNil)))))

def t__law_stand : DTS := dRet (dTup (dCons (dCall sp__law_floor (dCons (dVar 0) (dCons (dVar 1) (dCons (dC (.int 6)) (dCons (dC (.int 2)) (dNil)))))) (dCons (dCall sp__law_ant (dCons (dVar 0) (dCons (dC (.int 2)) (dNil)))) (dNil))))

def t__law_pick : DTS := dSeq (dPar 3 4 (dCons (dCB rdListO (dCons (dVar 1) (dNil))) (dCons (dLst (dNil)) (dNil)))) (dSeq (dFor (diR1 (dCons (dCB rdMin2 (dCons (dCB rdInt (dCons (dVar 2) (dNil))) (dCons (dCB rdLen (dCons (dVar 3) (dNil))) (dNil)))) (dNil))) (dgName 5) (dDrop (dAppend (dVar 4) (dPopAt (dVar 3) (dCall sp__law_take (dCons (dVar 0) (dCons (dCB rdLen (dCons (dVar 3) (dNil))) (dNil)))))))) (dRet (dVar 4)))

def t__law_lap_heard (g__law_lap_one : Addr) : DTS := dSeq (dAsg (dTup (dCons (dC .non) (dCons (dC .non) (dNil)))) (dgTup 2 (dgCons (dgName 2) (dgCons (dgName 3) dgNil)))) (dSeq (dTry (fun ex => dAsg (dCallLX ex 0 g__law_lap_one sp__law_lap_oneR (dCons (dVar 1) (dNil))) (dgName 3)) (dAsg (dC (.bl true)) (dgName 2))) (dRet (dIf (dTest (dOp (rdIsN false) (dVar 2) (dC .non))) (dVar 3) (dVar 2))))

theorem sub_upd {M0 M2 : MH} {t : Addr} {o o' : MO} (s : Sub (put M0 t o) M2) : Sub (put M0 t o') (put M2 t o') := fun a u e => by
  by_cases h : a = t
  · subst h; rw [put_same] at e ⊢; exact e
  · rw [put_ne h] at e ⊢
    exact s a u (by rw [put_ne h]; exact e)
theorem sub_at {M0 M2 : MH} {t : Addr} {o : MO} (s : Sub (put M0 t o) M2) : M2 t = some o := s _ _ put_same
theorem free_upd {M : MH} {t p : Addr} {o u : MO} (ht : M t = some u) (hp : M p = none) : put M t o p = none := by
  rw [put_ne (Ne.symm (ne_of_free ht hp))]; exact hp
theorem pure__law_laid : ∀ ds M k e, sp__law_laid ds M k e → t__law_laid (endsOf k) (fill 2 ds) M := pure_told_floorS
theorem len__law_laid : ∀ ds M k e, sp__law_laid ds M k e → ds.length = 1 := len_told_floorS
theorem pure__law_swapped : ∀ ds M k e, sp__law_swapped ds M k e → t__law_swapped (endsOf k) (fill 2 ds) M := by
  rintro ds M k e ⟨w, rfl, hl, h⟩
  refine lc_all (ds := sgD (eW w)) swD trivial (by rw [sgD_eW, List.length_map]; omega) (fun d hd => ⟨_, rfl, fun kk hk => ?_⟩) ?_
  · rw [sgD_eW] at hd
    obtain ⟨b, _, rfl⟩ := List.mem_map.mp hd
    rw [swD_lS] at hk
    refine if_tf (d := b) (by rw [xor_false']; exact lS_l b) ?_
    cases b
    · have hk : kk (.str (lS true)) M := hk
      rw [← l_lS] at hk
      exact iteF hk
    · have hk : kk (.str (lS false)) M := hk
      rw [← r_lS] at hk
      exact iteT hk
  · rw [sw_map]
    exact rdJoin_lS (by unfold notW; rw [List.length_map]; omega) (rt_of h)
theorem len__law_swapped : ∀ ds M k e, sp__law_swapped ds M k e → ds.length = 1 := by rintro ds M k e ⟨x, rfl, _⟩; rfl
theorem pure__law_ant : ∀ ds M k e, sp__law_ant ds M k e → t__law_ant (endsOf k) (fill 2 ds) M := by
  rintro ds M k e ⟨t, x, y, z, n, rfl, hM, hT, hn, h⟩
  refine ⟨.inl ⟨by decide, by decide⟩, t, _, x, y, z, n, rfl, hM, hT, by omega, ⟨by decide, by decide⟩, fun v1 x y z h1 h1' hT => ?_⟩
  refine ⟨.inl ⟨by decide, by decide⟩, t, _, x, y, z, _, rfl, put_same, hT, by omega, ⟨by decide, by decide⟩, fun v2 x y z h2 h2' hT => ?_⟩
  rw [put_put]
  refine ⟨t, _, x, y, z, _, rfl, put_same, hT, by omega, ⟨by decide, by decide⟩, fun v3 x y z h3 h3' hT => ?_⟩
  rw [put_put]
  refine ⟨le_line (by show 3 ≤ 1000000; decide), ?_⟩
  exact rt_of (h ⟨(v1 - 2, v2 - 2), v3⟩ x y z ⟨⟨⟨by show -2 ≤ v1 - 2; omega, by show v1 - 2 ≤ 2; omega⟩, by show -2 ≤ v2 - 2; omega, by show v2 - 2 ≤ 2; omega⟩, h3, by show v3 ≤ 3; omega⟩ (hT.mono (by omega)))
theorem len__law_ant : ∀ ds M k e, sp__law_ant ds M k e → ds.length = 2 := by rintro ds M k e ⟨_, _, _, _, _, rfl, _⟩; rfl
theorem near_ok {c : Cell} (h : Near c) : CellOk c := by
  obtain ⟨⟨h1, h2⟩, h3, h4⟩ := h
  exact ⟨⟨by omega, by omega⟩, by omega, by omega⟩
theorem pure__law_floor : ∀ ds M k e, sp__law_floor ds M k e → t__law_floor (endsOf k) (fill 7 ds) M := by
  rintro ds M k e ⟨t, r, x, y, z, n, rfl, hr, hM, hT, hn, h⟩
  have hr1 := hr.1
  have hr2 := hr.2
  refine fun p hp => ⟨_, rfl, ?_⟩
  have htp : t ≠ p := ne_of_free hM hp
  refine ⟨t, _, x, y, z, n, rfl, by rw [put_ne htp]; exact hM, hT, by omega, ⟨by decide, by decide⟩, fun v x y z hv0 hv hT => ?_⟩
  refine ⟨⟨by omega, by omega⟩, ?_⟩
  have hrg : (rgD 0 v.toNat).length = v.toNat := rgD_length _ _
  have hv6 : v.toNat ≤ 6 := by omega
  refine ⟨fun i δ M' => ∃ x y z, ∃ l : List (Cell × Int), ∃ x5 x6, δ = [some (.obj t), some (.str (eW r)), some (.int 6), some (.int 2), some (.obj p), x5, x6] ∧ M' p = some (.dT (encT D.int l)) ∧ TinV x y z (n + 1 + 3 * (i : Nat)) ∧ (l.map (·.1)).Nodup ∧ l.length ≤ i ∧
    (∀ q ∈ l, Near q.1 ∧ 0 ≤ q.2 ∧ q.2 < (r.length : Int)) ∧ Sub (put M t (tinL x y z)) M', ⟨x, y, z, [], none, none, rfl, by rw [put_ne (Ne.symm htp)]; exact put_same, hT.mono (by omega), List.nodup_nil, Nat.le_refl _, (fun q hq => by cases hq), ?_⟩, ?_⟩
  · rw [put_comm (Ne.symm htp)]
    exact sub_new (free_upd hM hp)
  rintro i δ M' hi ⟨x, y, z, l, x5, x6, rfl, hp', hT, hnd, hll, hq, sM⟩
  rw [hrg] at hi
  refine ⟨trivial, fun d hd => ?_, fun e => ?_⟩
  · have hlt : i < v.toNat := by
      have := (List.getElem?_eq_some_iff.mp hd).1
      rw [hrg] at this; exact this
    refine ⟨_, rfl, ?_⟩
    refine ⟨.inl ⟨by decide, by decide⟩, t, _, x, y, z, _, rfl, sub_at sM, hT, by omega, ⟨by decide, by decide⟩, fun v1 x y z h1 h1' hT => ?_⟩
    refine ⟨.inl ⟨by decide, by decide⟩, t, _, x, y, z, _, rfl, put_same, hT, by omega, ⟨by decide, by decide⟩, fun v2 x y z h2 h2' hT => ?_⟩
    rw [put_put]
    refine ⟨two_le, _, rfl, ?_⟩
    refine ⟨by rw [eW_length]; exact le_line (by omega), ?_⟩
    rw [eW_length]
    refine ⟨t, _, x, y, z, _, rfl, put_same, hT, by omega, ⟨by omega, by omega⟩, fun v3 x y z h3 h3' hT => ?_⟩
    rw [put_put]
    refine ⟨_, _, (by rw [put_ne (Ne.symm htp)]; exact hp'), putMO_enc (l := l) (c := (v1 - 2, v2 - 2)) (f := D.int) (y := v3) rfl (by omega), ?_⟩
    have hpl := putL_length l (v1 - 2, v2 - 2) v3
    refine ⟨_, Sub.refl _, x, y, z, putL l (v1 - 2, v2 - 2) v3, some d, _, rfl, put_same, hT.mono (by omega), putL_nodup hnd, by omega, fun q hq' => ?_, sub_put (sub_upd sM) (free_upd hM hp)⟩
    rcases putL_mem hq' with hq' | rfl
    · exact hq q hq'
    · exact ⟨⟨⟨by show -2 ≤ v1 - 2; omega, by show v1 - 2 ≤ 2; omega⟩, by show -2 ≤ v2 - 2; omega, by show v2 - 2 ≤ 2; omega⟩, h3, h3'⟩
  · rw [hrg] at e
    refine ⟨p, l, rfl, hp', by omega, hnd, fun L hL => ?_⟩
    refine ⟨M', Sub.refl _, h L M' x y z ⟨⟨?_, fun q hq' => ?_, hL.srt⟩, ?_, fun q hq' => (hq q (hL.mem hq')).1⟩ (hT.mono (by omega)) sM⟩
    · have := hL.len; omega
    · obtain ⟨a1, a2, a3⟩ := hq q (hL.mem hq')
      have := hL.nz q hq'
      exact ⟨near_ok a1, by omega, by omega⟩
    · have := hL.len; omega
theorem len__law_floor : ∀ ds M k e, sp__law_floor ds M k e → ds.length = 4 := by rintro ds M k e ⟨_, _, _, _, _, _, rfl, _⟩; rfl
theorem pure__law_stand : ∀ ds M k e, sp__law_stand ds M k e → t__law_stand (endsOf k) (fill 2 ds) M := by
  rintro ds M k e ⟨t, r, x, y, z, n, rfl, hr, hM, hT, hn, h⟩
  refine ⟨t, r, x, y, z, n, rfl, hr, hM, hT, hn, fun f M1 x y z hf hT s => ?_⟩
  refine ⟨t, x, y, z, _, rfl, sub_at s, hT, by omega, fun a x y z ha hT => ?_⟩
  exact ⟨two_le, rt_of (h f a _ x y z hf ha (hT.mono (by omega)) (sub_upd s))⟩
theorem len__law_stand : ∀ ds M k e, sp__law_stand ds M k e → ds.length = 2 := by rintro ds M k e ⟨_, _, _, _, _, _, rfl, _⟩; rfl
theorem par_list {i j v : Nat} {B : DTE} {E : DEnds} {δ : DSt} {M : MH} {x : D} {gs : List D} (hv : δ[v]? = some (some x)) (hg : seqOf M x = some gs) (h : ∀ p, M p = none → B δ (put M p (.lst gs)) fun y M2 => E.nx ((δ.set i (some (.obj p))).set j (some y)) M2) :
    dPar i j (dCons (dCB rdListO (dCons (dVar v) dNil)) (dCons B dNil)) E δ M := by
  unfold dPar dCons dCB dVar
  simp only [hv]
  show (match seqOf M x with
    | some ds => ∀ p, M p = none → _
    | none => False)
  rw [hg]
  exact h
theorem pure__law_pick : ∀ ds M k e, sp__law_pick ds M k e → t__law_pick (endsOf k) (fill 6 ds) M := by
  rintro ds M k e ⟨t, g, x, y, z, n, gs, rfl, hM, hg, hT, hn, hgl, h⟩
  unfold t__law_pick dSeq
  refine par_list (v := 1) (x := .obj g) rfl (seqOf_obj hg) fun p hp => ?_
  have htp : t ≠ p := ne_of_free hM hp
  refine ⟨le_line (by show 0 ≤ 1000000; decide), fun q hq => ?_⟩
  have hpq : p ≠ q := ne_of_free put_same hq
  have htq : t ≠ q := ne_of_free (by rw [put_ne htp]; exact hM) hq
  have mq : M q = none := (sub_new hp).free hq
  have hp1 : put (put M p (.lst gs)) q (.lst []) p = some (.lst gs) := by rw [put_ne hpq]; exact put_same
  refine ⟨_, seqOf_obj hp1, ?_⟩
  have hN : ∃ N : Nat, (if ((gs.length : Nat) : Int) < 4 then ((gs.length : Nat) : Int) else 4) = (N : Int) ∧ N ≤ 4 ∧ N ≤ gs.length := by
    by_cases hl : ((gs.length : Nat) : Int) < 4
    · exact ⟨gs.length, by rw [if_pos hl], by omega, Nat.le_refl _⟩
    · exact ⟨4, by rw [if_neg hl]; rfl, Nat.le_refl _, by omega⟩
  obtain ⟨N, eN, hN4, hNl⟩ := hN
  have hrg : (rgD 0 (if ((gs.length : Nat) : Int) < 4 then ((gs.length : Nat) : Int) else 4).toNat).length = N := by rw [eN]; exact rg_nat N
  refine ⟨⟨by rw [eN]; omega, by rw [eN]; omega⟩, ?_⟩
  refine ⟨fun i δ M' => ∃ x y z ps fs x5, δ = [some (.obj t), some (.obj g), some (.int 4), some (.obj p), some (.obj q), x5] ∧ M' p = some (.lst ps) ∧ M' q = some (.lst fs) ∧ TinV x y z (n + (i : Nat)) ∧ ps.length + i = gs.length ∧ fs.length = i ∧
    (∀ d ∈ ps, d ∈ gs) ∧ (∀ d ∈ fs, d ∈ gs) ∧ Sub (put M t (tinL x y z)) M', ⟨x, y, z, gs, [], none, rfl, hp1, put_same, hT.mono (by omega), rfl, rfl, fun d hd => hd, (fun d hd => by cases hd), ?_⟩, ?_⟩
  · rw [put_eta hM]
    exact (sub_new hp).trans (sub_new hq)
  rintro i δ M' hi ⟨x, y, z, ps, fs, x5, rfl, hp', hq', hT, hpl, hfl, hps, hfs, sM⟩
  rw [hrg] at hi
  refine ⟨trivial, fun d hd => ?_, fun e => ?_⟩
  · have hlt : i < N := by
      have := (List.getElem?_eq_some_iff.mp hd).1
      rw [hrg] at this; exact this
    refine ⟨_, rfl, ?_⟩
    refine ⟨_, hq', _, hp', _, seqOf_obj hp', ?_⟩
    refine ⟨t, _, x, y, z, _, rfl, sub_at sM, hT, by omega, ⟨by omega, by omega⟩, fun v x y z hv0 hv hT => ?_⟩
    have hj : v.toNat < ps.length := by omega
    refine ⟨_, (by rw [put_ne (Ne.symm htp)]; exact hp'), hv0, by omega, _, List.getElem?_eq_getElem hj, ?_⟩
    refine ⟨fs, (by rw [put_ne (Ne.symm hpq), put_ne (Ne.symm htq)]; exact hq'), lt_line (by omega), ?_⟩
    refine ⟨_, Sub.refl _, x, y, z, ps.eraseIdx v.toNat, fs ++ [ps[v.toNat]], some d, rfl, (by rw [put_ne hpq]; exact put_same), put_same, hT.mono (by omega), ?_, by rw [List.length_append, hfl]; rfl, fun d hd => hps d (List.mem_of_mem_eraseIdx hd), fun d hd => ?_,
      sub_put (sub_put (sub_upd sM) (free_upd hM hp)) (free_upd hM mq)⟩
    · rw [List.length_eraseIdx_of_lt hj]; omega
    · rcases List.mem_append.mp hd with hd | hd
      · exact hfs d hd
      · rw [List.mem_singleton.mp hd]
        exact hps _ (List.getElem_mem hj)
  · rw [hrg] at e
    exact rt_of (h fs M' q x y z hfs (by omega) (hT.mono (by omega)) sM hq')
theorem len__law_pick : ∀ ds M k e, sp__law_pick ds M k e → ds.length = 3 := by rintro ds M k e ⟨_, _, _, _, _, _, _, rfl, _⟩; rfl
theorem pure__law_lap_heard (g : Addr) : ∀ ds M k e, sp__law_lap_heard g ds M k e → t__law_lap_heard g (endsOf k) (fill 4 ds) M := by
  rintro ds M k e ⟨t, x, y, z, n, rfl, hM, hT, hn, h⟩
  refine ⟨two_le, _, rfl, ?_⟩
  refine ⟨rfl, t, x, y, z, n, rfl, hM, hT, hn, fun M' x y z hT s => ⟨⟨_, rfl, ?_⟩, ⟨_, rfl, ?_⟩⟩⟩
  · exact rt_of (h M' x y z hT s)
  · exact rt_of (h M' x y z hT s)
theorem len__law_lap_heard (g : Addr) : ∀ ds M k e, sp__law_lap_heard g ds M k e → ds.length = 2 := by rintro ds M k e ⟨_, _, _, _, _, rfl, _⟩; rfl
end DL
/-! Readings (printed by run.py) and their proofs. -/
namespace DL
open PySem PySem.Spec PyProof.Rows L2
theorem seq_cut {t u : DTS} {E : DEnds} {δ : DSt} {M : MH} (Q : DSt → MH → Prop) (h1 : ∀ δ' M', Q δ' M' → u E δ' M') (h2 : ∀ N : DSt → MH → Prop, (∀ δ' M', Q δ' M' → N δ' M') → t { E with nx := N } δ M) : dSeq t u E δ M := h2 (u E) h1
/-! equal data are the same -/
theorem zip_self {α : Type} {l : List α} {p : α × α} (h : p ∈ l.zip l) : p.1 = p.2 ∧ p.1 ∈ l := by
  obtain ⟨i, hi⟩ := List.getElem?_of_mem h
  rw [List.getElem?_zip_eq_some] at hi
  exact ⟨Option.some.inj (hi.1.symm.trans hi.2), List.mem_of_getElem? hi.1⟩
theorem same_plain {M : MH} : ∀ (n : Nat) (d : D), plainN n d = true → SameD M (n + 1) d d
  | 0, d, h => by
    cases d with
    | non => exact .inr (.inr (.inr (.inl ⟨rfl, rfl⟩)))
    | bl b => exact .inr (.inr (.inl ⟨b, rfl, rfl⟩))
    | int i => exact .inl ⟨i, rfl, rfl⟩
    | str s => exact .inr (.inl ⟨s, rfl, rfl⟩)
    | _ => cases h
  | n + 1, d, h => by
    have go : ∀ ds, tupOf d = some ds → (decide (ds.length ≤ 1000000) && ds.all (plainN n)) = true → SameD M (n + 2) d d := fun ds hd h => by
      rw [Bool.and_eq_true] at h
      refine .inr (.inr (.inr (.inr (.inr ⟨ds, ds, hd, hd, rfl, of_decide_eq_true h.1, fun p hp => ?_⟩))))
      obtain ⟨e, hm⟩ := zip_self hp
      rw [← e]
      exact same_plain n p.1 (List.all_eq_true.mp h.2 _ hm)
    cases d with
    | non => exact .inr (.inr (.inr (.inl ⟨rfl, rfl⟩)))
    | bl b => exact .inr (.inr (.inl ⟨b, rfl, rfl⟩))
    | int i => exact .inl ⟨i, rfl, rfl⟩
    | str s => exact .inr (.inl ⟨s, rfl, rfl⟩)
    | tup ds => exact go ds rfl (by rw [plainN] at h; exact h)
    | ftup ds => exact go ds rfl (by rw [plainN] at h; exact h)
    | _ => cases h
theorem same_lists {M : MH} {n : Nat} {a b : Addr} {xs : List D} (ha : M a = some (.lst xs)) (hb : M b = some (.lst xs)) (hl : xs.length ≤ 1000000) (h : ∀ d ∈ xs, plainN n d = true) : SameD M (n + 2) (.obj a) (.obj b) :=
  .inr (.inr (.inr (.inr (.inl ⟨a, b, xs, xs, rfl, rfl, ha, hb, rfl, hl, fun p hp => by
    obtain ⟨e, hm⟩ := zip_self hp
    rw [← e]
    exact same_plain n p.1 (h _ hm)⟩))))
theorem plain_pr (p : Cell × Int) : plainN 5 (ePr p) = true := by simp [plainN, ePr, eC]
theorem plain_eF {f : Floor} (h : f.length ≤ 1000000) : plainN 6 (eF f) = true := by
  unfold eF
  rw [plainN, Bool.and_eq_true]
  refine ⟨decide_eq_true (by rw [List.length_map]; exact h), List.all_eq_true.mpr fun d hd => ?_⟩
  obtain ⟨p, _, rfl⟩ := List.mem_map.mp hd
  exact plain_pr p
theorem plain_eA (a : Ant) : plainN 6 (eA a) = true := by simp [plainN, eA]
theorem plain_eSt {f : Floor} {a : Ant} (h : f.length ≤ 1000000) : plainN 7 (eSt f a) = true := by
  unfold eSt
  rw [plainN, Bool.and_eq_true]
  refine ⟨decide_eq_true (by show 2 ≤ 1000000; omega), ?_⟩
  rw [List.all_cons, List.all_cons, plain_eF h, plain_eA]; rfl
theorem retag_pr (p : Cell × Int) : retag (ePr p) = ePr p := rfl
theorem all_pr (f : Floor) : (f.map ePr).all isPr = true := by
  rw [List.all_map, List.all_eq_true]
  intro p _; rfl
theorem retagL_pr (f : Floor) : retagL (f.map ePr) = f.map ePr := by
  rw [retagL_map, List.map_map]
  apply List.map_congr_left
  intro p _; rfl
theorem retag_eF (f : Floor) : retag (eF f) = eF f := by
  unfold eF
  rw [retag, all_pr, if_pos rfl, retagL_pr]
theorem retag_tF (f : Floor) : retag (.tup (f.map ePr)) = eF f := by
  rw [retag, all_pr, if_pos rfl, retagL_pr]; rfl
theorem retag_eSt (f : Floor) (a : Ant) : retag (eSt f a) = eSt f a := by
  have e : retag (eSt f a) = .tup [retag (eF f), retag (eA a)] := rfl
  rw [e, retag_eF, retag_eA]; rfl
theorem retag_tSt {f : Floor} (a : Ant) (h : f.length ≤ 1) : retag (.tup [.tup (f.map ePr), eA a]) = eSt f a := by
  have e : retag (.tup [.tup (f.map ePr), eA a]) = .tup [retag (.tup (f.map ePr)), retag (eA a)] := by
    cases f with
    | nil => rfl
    | cons p f =>
      cases f with
      | nil => rfl
      | cons _ _ => simp at h
  rw [e, retag_tF, retag_eA]; rfl
theorem plain_tSt {f : Floor} (a : Ant) (h : f.length ≤ 1000000) : plainN 7 (.tup [.tup (f.map ePr), eA a]) = true := by
  have e : plainN 6 (.tup (f.map ePr)) = true := by
    rw [plainN, Bool.and_eq_true]
    refine ⟨decide_eq_true (by rw [List.length_map]; exact h), List.all_eq_true.mpr fun d hd => ?_⟩
    obtain ⟨p, _, rfl⟩ := List.mem_map.mp hd
    exact plain_pr p
  rw [plainN, Bool.and_eq_true]
  refine ⟨decide_eq_true (by show 2 ≤ 1000000; omega), ?_⟩
  rw [List.all_cons, List.all_cons, e, plain_eA]; rfl
/-! the contrary floor -/
section
variable {r : List Bool} {f : Floor} {a : Ant}
theorem bwF_ok (h : FlOk r.length f) : FlOk r.length (bwF r f) := by
  refine ⟨by unfold bwF; rw [List.length_map]; exact h.len, fun p hp => ?_, ?_⟩
  · obtain ⟨q, hq, rfl⟩ := List.mem_map.mp hp
    obtain ⟨h1, h2, h3⟩ := h.each q hq
    exact ⟨h1, by show 1 ≤ (r.length : Int) - q.2; omega, by show (r.length : Int) - q.2 ≤ (r.length : Int) - 1; omega⟩
  · unfold Srt bwF
    rw [List.pairwise_map]
    exact h.srt
theorem FlOk.nz {n : Nat} (h : FlOk n f) : ∀ p ∈ f, p.2 ≠ 0 := fun p hp => by have := h.each p hp; omega
theorem bwF_col (h : FlOk r.length f) (hr : RuleOk r) (c : Cell) : colAt (bwF r f) c = bwC r (colAt f c) := by
  have hg : getL (bwF r f) c = (getL f c).map fun v => (r.length : Int) - v := by
    unfold getL bwF
    rw [List.find?_map, Option.map_map, Option.map_map]; rfl
  unfold colAt
  rw [hg]
  cases q : getL f c with
  | none =>
    show (0 : Int) = bwC r 0
    unfold bwC
    rw [Int.sub_zero, Int.emod_self]
  | some v =>
    obtain ⟨_, h2, h3⟩ := h.each _ (getL_mem' q)
    show (r.length : Int) - v = ((r.length : Int) - v) % (r.length : Int)
    rw [Int.emod_eq_of_lt (by omega) (by omega)]
theorem FlOk.fok (h : FlOk r.length f) (hr : RuleOk r) {On : Cell → Prop} (hon : On a.c) (hw : 0 ≤ a.w ∧ a.w ≤ 3) : FOk r On (toF (f, a)) := ⟨hon, hw, fun c => colAt_ok hr h.cols c⟩
/-- the standing from which a trail is gone back -/
theorem bw_start {W : Ant → Ant} {On : Cell → Prop} (hr : RuleOk r) {L : Floor} {s : Sl} {N : Nat} (hnd : (s.1.map (·.1)).Nodup) (hc : ColsOk r s.1) (hL : Canon (wI r W N s).1 L) (hLf : FlOk r.length L) :
    toF (bwF r L, W (goA (wI r W N s).2.c (((wI r W N s).2.w + 2) % 4))) = bwS r W (fI r W N (toF s)) := by
  rw [← wI_f]
  refine Prod.ext (funext fun c => ?_) rfl
  show colAt (bwF r L) c = bwC r (colAt (wI r W N s).1 c)
  rw [bwF_col hLf hr, hL.col (wI_ok hr hc hnd N).2.1]
end
/-! bounds -/
def Bd (K : Int) (c : Cell) : Prop := (-K ≤ c.1 ∧ c.1 ≤ K) ∧ (-K ≤ c.2 ∧ c.2 ≤ K)
theorem Bd.mono {K K' : Int} {c : Cell} (h : Bd K c) (hk : K ≤ K') : Bd K' c := by
  obtain ⟨⟨h1, h2⟩, h3, h4⟩ := h
  exact ⟨⟨by omega, by omega⟩, by omega, by omega⟩
theorem Bd.go {K : Int} {c : Cell} {w : Int} (h : Bd K c) (hw : 0 ≤ w ∧ w ≤ 3) : Bd (K + 1) (goA c w).c := by
  obtain ⟨⟨h1, h2⟩, h3, h4⟩ := h
  obtain rfl | rfl | rfl | rfl := way4 hw
  · rw [goA_0]; exact ⟨⟨by show -(K + 1) ≤ c.1 + 1; omega, by show c.1 + 1 ≤ K + 1; omega⟩, by show -(K + 1) ≤ c.2; omega, by show c.2 ≤ K + 1; omega⟩
  · rw [goA_1]; exact ⟨⟨by show -(K + 1) ≤ c.1; omega, by show c.1 ≤ K + 1; omega⟩, by show -(K + 1) ≤ c.2 + 1; omega, by show c.2 + 1 ≤ K + 1; omega⟩
  · rw [goA_2]; exact ⟨⟨by show -(K + 1) ≤ c.1 - 1; omega, by show c.1 - 1 ≤ K + 1; omega⟩, by show -(K + 1) ≤ c.2; omega, by show c.2 ≤ K + 1; omega⟩
  · rw [goA_3]; exact ⟨⟨by show -(K + 1) ≤ c.1; omega, by show c.1 ≤ K + 1; omega⟩, by show -(K + 1) ≤ c.2 - 1; omega, by show c.2 - 1 ≤ K + 1; omega⟩
theorem run_bd {r : List Bool} {s : Sl} (h1 : ∀ p ∈ s.1, Bd 2 p.1) (h2 : Bd 2 s.2.c) : ∀ i : Nat, (∀ p ∈ (wI r id i s).1, Bd (2 + (i : Nat)) p.1) ∧ Bd (2 + (i : Nat)) (wI r id i s).2.c
  | 0 => ⟨fun p hp => (h1 p hp).mono (by omega), h2.mono (by omega)⟩
  | i + 1 => by
    obtain ⟨a1, a2⟩ := run_bd (r := r) h1 h2 i
    refine ⟨fun p hp => ?_, ?_⟩
    · rcases putL_mem hp with hp | rfl
      · exact (a1 p hp).mono (by omega)
      · exact a2.mono (by omega)
    · have := a2.go (turnW_ok (w := (wI r id i s).2.w) (b := rAtI r (colAt (wI r id i s).1 (wI r id i s).2.c)))
      exact this.mono (by omega)
theorem Bd.cell {K : Int} {c : Cell} (h : Bd K c) (hk : K ≤ 1000000) : CellOk c := by
  obtain ⟨⟨h1, h2⟩, h3, h4⟩ := h
  exact ⟨⟨by omega, by omega⟩, by omega, by omega⟩
theorem run_way {r : List Bool} {W : Ant → Ant} {s : Sl} (hW : ∀ a, (W a).w = a.w) (h : 0 ≤ s.2.w ∧ s.2.w ≤ 3) : ∀ i : Nat, 0 ≤ (wI r W i s).2.w ∧ (wI r W i s).2.w ≤ 3
  | 0 => h
  | i + 1 => by
    show 0 ≤ (W (stepA r _ _)).w ∧ (W (stepA r _ _)).w ≤ 3
    rw [hW]; exact turnW_ok
theorem notW_rev (w : List Bool) : (notW w).reverse = bwW w := by unfold notW bwW; rw [List.map_reverse]
end DL
/-! Sides, moves, lines: specs (k77). -/
namespace DL
open PySem PySem.Spec PyProof.Rows L2
def c_KINDS : Dc := .tup [.str "a", .str "d", .str "x", .str "y"]
abbrev d_KINDS : D := konD c_KINDS
def c_T4 (κ : LK) : Dc := .tup ((lnT κ).map Dc.int)
def tabW : List (Str × Dc) := [("a", .tup [.int 3, .int 2, .int 1, .int 0]), ("d", .tup [.int 1, .int 0, .int 3, .int 2]), ("x", .tup [.int 2, .int 1, .int 0, .int 3]), ("y", .tup [.int 0, .int 3, .int 2, .int 1])]
def v_WAYS_BY : List (Str × D) := tabW.map fun q => (q.1, konD q.2)
def eV (v : List Int) : D := .tup (v.map D.int)
def eE (p : Cell × List Int) : D := .tup [eC p.1, eV p.2]
def eX (p : NK × List Int) : D := .tup [kN p.1, eV p.2]
def encN (l : List (NK × List Int)) : List (NK × D) := l.map fun p => (p.1, eV p.2)
theorem encN_len (l : List (NK × List Int)) : (encN l).length = l.length := by simp [encN]
theorem valD_encN (l : List (NK × List Int)) (k : NK) : valD (encN l) k = (getX l k).map eV := by
  induction l with
  | nil => rfl
  | cons p l ih =>
    unfold valD getX encN at *
    rw [List.map_cons, List.find?_cons, List.find?_cons]
    by_cases h : p.1 = k
    · simp [h]
    · simp only [h, decide_false]
      exact ih
theorem putD_encN (l : List (NK × List Int)) (k : NK) (v : List Int) : putD (encN l) k (eV v) = encN (putX l k v) := by
  unfold putD putX
  have e : ((encN l).any fun kv => decide (kv.1 = k)) = l.any fun p => decide (p.1 = k) := by
    unfold encN; rw [List.any_map]; rfl
  rw [e]
  split
  · unfold encN
    rw [List.map_map, List.map_map]
    apply List.map_congr_left
    intro p _
    show (if p.1 = k then (p.1, eV v) else (p.1, eV p.2)) = ((if p.1 = k then (p.1, v) else p).1, eV (if p.1 = k then (p.1, v) else p).2)
    split <;> rfl
  · unfold encN; rw [List.map_append]; rfl
/-! lines, moves -/
def eL (κ : LK) (s : Int) : D := .tup [.str (kS κ), .int s]
def LOk (s : Int) : Prop := -4000000 ≤ s ∧ s ≤ 4000000
def sp_is_line_in : DSp := fun ds M k _ => ∃ κ s, ds = [eL κ s] ∧ LOk s ∧ k (.bl true) M
def sp_sure_line : DSp := fun ds M k _ => ∃ κ s, ds = [eL κ s] ∧ LOk s ∧ k (eL κ s) M
def sp_beyond : DSp := fun ds M k _ => ∃ κ s c, ds = [eL κ s, eC c] ∧ k (eC (lnC κ s c)) M
def mapF (φ : Cell → Cell) (f : Floor) : Floor := f.map fun p => (φ p.1, p.2)
def sp_floor_beyond : DSp := fun ds M k _ => ∃ κ s f, ds = [eL κ s, eF f] ∧ f.length ≤ 2000 ∧ (f.map (·.1)).Nodup ∧ ∀ L, L.Perm (mapF (lnC κ s) f) → Srt L → k (eF L) M
def sp_cell_beyond : DSp := fun ds M k _ => ∃ κ s c, ds = [eL κ s, eC c] ∧ LOk s ∧ CellOk c ∧ k (eC (lnC κ s c)) M
def sp_reflected : DSp := fun ds M k _ => ∃ r d f a κ s, ds = [.str (eW r), d, eL κ s] ∧ RuleOk r ∧ StD d r.length f a ∧ LOk s ∧ ∀ L, L.Perm (mapF (lnC κ s) f) → Srt L → k (.tup [.str (eW (notW r)), eSt L (mapA (lnC κ s) (lnW κ) a)]) M
def sp_quarter_turned : DSp := fun ds M k _ => ∃ c q, ds = [eC c, .int q] ∧ k (eC (qt q c)) M
def sp_turned_in : DSp := fun ds M k _ => ∃ f q, ds = [eF f, .int q] ∧ f.length ≤ 2000 ∧ (f.map (·.1)).Nodup ∧ ∀ L, L.Perm (mapF (qt q) f) → Srt L → k (eF L) M
def sp_shifted_in : DSp := fun ds M k _ => ∃ f b, ds = [eF f, eC b] ∧ f.length ≤ 2000 ∧ k (eF (mapF (shf b) f)) M
def sp_moved_in : DSp := fun ds M k _ => ∃ f a q b, ds = [eSt f a, .int q, eC b] ∧ f.length ≤ 2000 ∧ (f.map (·.1)).Nodup ∧ ∀ L, L.Perm (mapF (mvC q b) f) → Srt L → k (eSt L (mapA (mvC q b) (mvW q) a)) M
def sp_moved : DSp := fun ds M k _ => ∃ r d f a q b, ds = [.str (eW r), d, .int q, eC b] ∧ RuleOk r ∧ StD d r.length f a ∧ (-1000000 ≤ q ∧ q ≤ 1000000) ∧ CellOk b ∧ ∀ L, L.Perm (mapF (mvC q b) f) → Srt L → k (eSt L (mapA (mvC q b) (mvW q) a)) M
/-! sides -/
def sp_told_counts : DSp := fun ds M k _ => ∃ a, ds = [.obj a] ∧ ((∃ l : List (Cell × List Int), M a = some (.dT (encT eV l)) ∧ l.length ≤ 1000000 ∧ (l.map (·.1)).Nodup ∧ ∀ S, S.Perm l → SrtG cLt S → k (.tup (S.map eE)) M) ∨
  (∃ l : List (NK × List Int), M a = some (.dN (encN l)) ∧ l.length ≤ 1000000 ∧ (l.map (·.1)).Nodup ∧ ∀ S, S.Perm l → SrtG nLt S → k (.tup (S.map eX)) M))
def sp_counted : DSp := fun ds M k _ => ∃ a, ∃ ws : List Int, ds = [.obj a] ∧ M a = some (.lst (ws.map D.int)) ∧ ws.length ≤ 1000000 ∧ k (eV (cnt4 ws)) M
def rowS (b : Bool) : Str := if b then "row" else "column"
def sp_entered_along : DSp := fun ds M k _ => ∃ a c, ds = [eA a, eC c] ∧ AntOk a ∧ CellOk c ∧ k (.str (rowS (along a c))) M
def runA (r : List Bool) (f : Floor) (a : Ant) (n : Nat) : List Ant := wAnts r id (f, a) (n + 1)
structure Asked (ds : List D) (r : List Bool) (f : Floor) (a : Ant) (n : Nat) : Prop where
  ds : ∃ d, ds = [.str (eW r), d, .int n] ∧ StD d r.length f a
  ru : RuleOk r
  n : n ≤ 20000
def sp_goes : DSp := fun ds M k _ => ∃ r f a n, Asked ds r f a n ∧ k (eV (cnt4 ((runA r f a n).tail.map (·.w)))) M
def sp_entries : DSp := fun ds M k _ => ∃ r f a n, Asked ds r f a n ∧ ∀ E, EntOk (runA r f a n).tail E → k (.tup (E.map eE)) M
def sp_crossings : DSp := fun ds M k _ => ∃ r f a n, Asked ds r f a n ∧ ∀ E, CrOk (prsA (runA r f a n)) E → k (.tup (E.map eX)) M
def sp_most_entered : DSp := fun ds M k _ => ∃ r f a n, Asked ds r f a n ∧ ∀ m x, IsMost ((runA r f a n).map (·.c)) m → k (.tup [.int m, x]) M
/-! the law's own -/
def sp__law_way : DSp := fun ds M k _ => ∃ κ w, ds = [.str (kS κ), .int w] ∧ Way w ∧ k (.int (lnW κ w)) M
def sp__law_lap_one : DSp := fun ds M k _ => ∃ t x y z n, ds = [.obj t] ∧ M t = some (tinL x y z) ∧ TinV x y z n ∧ n ≤ 10000 ∧ ∀ M' x' y' z', TinV x' y' z' (n + 200) → Sub (put M t (tinL x' y' z')) M' → k (.bl true) M'
end DL
/-! Readings (printed by run.py) and their proofs. -/
namespace DL
open PySem PySem.Spec PyProof.Rows L2
def t_quarter_turned : DTS := dSeq (dAsg (dVar 0) (dgTup 2 (dgCons (dgName 2) (dgCons (dgName 3) dgNil)))) (dSeq (dFor (diR1 (dCons (dOp rdMod (dVar 1) (dC (.int 4))) (dNil))) (dgName 4) (dPar 2 3 (dCons (dUn rdNeg (dVar 3)) (dCons (dVar 2) (dNil))))) (dRet (dTup (dCons (dVar 2) (dCons (dVar 3) (dNil))))))

def t_turned_in : DTS := dRet (dCB rdTuple (dSorted (dLc (diT (dVar 0)) (dgTup 2 (dgCons (dgName 2) (dgCons (dgName 3) dgNil))) (dYes) (dTup (dCons (dCall sp_quarter_turned (dCons (dVar 2) (dCons (dVar 1) (dNil)))) (dCons (dVar 3) (dNil)))) [2, 3])))

def t_shifted_in : DTS := dRet (dCB rdTuple (dLc (diT (dVar 0)) (dgTup 2 (dgCons (dgName 2) (dgCons (dgName 3) dgNil))) (dYes) (dTup (dCons (dTup (dCons (dOp rdAdd (dOp rdIx (dVar 2) (dC (.int 0))) (dOp rdIx (dVar 1) (dC (.int 0)))) (dCons (dOp rdAdd (dOp rdIx (dVar 2) (dC (.int 1))) (dOp rdIx (dVar 1) (dC (.int 1)))) (dNil)))) (dCons (dVar 3) (dNil)))) [2, 3]))

def t_moved_in : DTS := dSeq (dAsg (dVar 0) (dgTup 2 (dgCons (dgName 3) (dgCons (dgName 4) dgNil)))) (dSeq (dAsg (dCall sp_quarter_turned (dCons (dSl (dVar 4) (dNoPart) (dPart (dC (.int 2)))) (dCons (dVar 1) (dNil)))) (dgTup 2 (dgCons (dgName 5) (dgCons (dgName 6) dgNil)))) (dRet (dTup (dCons (dCall sp_shifted_in (dCons (dCall sp_turned_in (dCons (dVar 3) (dCons (dVar 1) (dNil)))) (dCons (dVar 2) (dNil)))) (dCons (dTup (dCons (dOp rdAdd (dVar 5) (dOp rdIx (dVar 2) (dC (.int 0)))) (dCons (dOp rdAdd (dVar 6) (dOp rdIx (dVar 2) (dC (.int 1)))) (dCons (dOp rdMod (dOp rdAdd (dOp rdIx (dVar 4) (dC (.int 2))) (dVar 1)) (dC (.int 4))) (dNil))))) (dNil))))))

def t_moved : DTS := dSeq (dAsg (dCall sp_sure_standing (dCons (dCall sp_sure_rule (dCons (dVar 0) (dNil))) (dCons (dVar 1) (dNil)))) (dgName 4)) (dSeq (dAsg (dCall sp_sure_within (dCons (dVar 2) (dCons (dUn rdNeg (dC (.int 1000000))) (dCons (dC (.int 1000000)) (dNil))))) (dgName 5)) (dRet (dCall sp_moved_in (dCons (dVar 4) (dCons (dVar 5) (dCons (dCall sp_sure_cell (dCons (dVar 3) (dNil))) (dNil)))))))

def t_is_line_in : DTS := dSeq (dIfS (dOr (dNot (dTest (dCall sp_is_long (dCons (dVar 0) (dCons (dC (.int 2)) (dNil)))))) (dOr (dNot (dTest (dCB (rdIsi "str") (dCons (dOp rdIx (dVar 0) (dC (.int 0))) (dCons (dC (.ty "str")) (dNil)))))) (dTest (dOp (rdInT true) (dOp rdIx (dVar 0) (dC (.int 0))) (dC d_KINDS))))) (dRet (dC (.bl false))) (dNext)) (dRet (dAndV (dCall sp_is_number (dCons (dOp rdIx (dVar 0) (dC (.int 1))) (dNil))) (dOp rdLe (dCB rdAbs (dCons (dOp rdIx (dVar 0) (dC (.int 1))) (dNil))) (dC (.int 4000000)))))

def t_sure_line : DTS := dSeq (dAsg (dCall sp_tupled (dCons (dVar 0) (dNil))) (dgName 1)) (dSeq (dIfS (dNot (dTest (dCall sp_is_line_in (dCons (dVar 1) (dNil))))) (dNever) (dNext)) (dRet (dVar 1)))

def t_beyond : DTS := dSeq (dAsg (dVar 0) (dgTup 2 (dgCons (dgName 2) (dgCons (dgName 3) dgNil)))) (dSeq (dAsg (dVar 1) (dgTup 2 (dgCons (dgName 4) (dgCons (dgName 5) dgNil)))) (dSeq (dIfS (dTest (dOp rdEq (dVar 2) (dC (.str "x")))) (dRet (dTup (dCons (dOp rdSub (dVar 3) (dVar 4)) (dCons (dVar 5) (dNil))))) (dNext)) (dSeq (dIfS (dTest (dOp rdEq (dVar 2) (dC (.str "y")))) (dRet (dTup (dCons (dVar 4) (dCons (dOp rdSub (dVar 3) (dVar 5)) (dNil))))) (dNext)) (dRet (dIf (dTest (dOp rdEq (dVar 2) (dC (.str "a")))) (dTup (dCons (dOp rdSub (dVar 3) (dVar 5)) (dCons (dOp rdSub (dVar 3) (dVar 4)) (dNil)))) (dTup (dCons (dOp rdAdd (dVar 5) (dVar 3)) (dCons (dOp rdSub (dVar 4) (dVar 3)) (dNil)))))))))

def t_floor_beyond : DTS := dRet (dCB rdTuple (dSorted (dLc (diT (dVar 1)) (dgTup 2 (dgCons (dgName 2) (dgCons (dgName 3) dgNil))) (dYes) (dTup (dCons (dCall sp_beyond (dCons (dVar 0) (dCons (dVar 2) (dNil)))) (dCons (dVar 3) (dNil)))) [2, 3])))

def t_cell_beyond : DTS := dSeq (dAsg (dCall sp_sure_line (dCons (dVar 0) (dNil))) (dgName 2)) (dSeq (dAsg (dCall sp_tupled (dCons (dVar 1) (dNil))) (dgName 3)) (dSeq (dIfS (dOr (dNot (dTest (dCall sp_is_long (dCons (dVar 3) (dCons (dC (.int 2)) (dNil)))))) (dNot (dTest (dCB rdAll (dLc (diT (dVar 3)) (dgName 4) (dYes) (dAndV (dCall sp_is_number (dCons (dVar 4) (dNil))) (dOp rdLe (dCB rdAbs (dCons (dVar 4) (dNil))) (dC (.int 1000000)))) [4]))))) (dNever) (dNext)) (dRet (dCall sp_beyond (dCons (dVar 2) (dCons (dVar 3) (dNil)))))))

def t_reflected (g_WAYS_BY : Addr) : DTS := dSeq (dAsg (dCall sp_sure_rule (dCons (dVar 0) (dNil))) (dgName 3)) (dSeq (dAsg (dCall sp_sure_standing (dCons (dVar 3) (dCons (dVar 1) (dNil)))) (dgTup 2 (dgCons (dgName 4) (dgCons (dgName 5) dgNil)))) (dSeq (dAsg (dCall sp_sure_line (dCons (dVar 2) (dNil))) (dgName 6)) (dRet (dTup (dCons (dCall sp_mirrored_rule (dCons (dVar 3) (dNil))) (dCons (dTup (dCons (dCall sp_floor_beyond (dCons (dVar 6) (dCons (dVar 4) (dNil)))) (dCons (dOp rdAdd (dCall sp_beyond (dCons (dVar 6) (dCons (dSl (dVar 5) (dNoPart) (dPart (dC (.int 2)))) (dNil)))) (dTup (dCons (dOp rdIx (dOp (rdIxG g_WAYS_BY v_WAYS_BY) (dC (.obj g_WAYS_BY)) (dOp rdIx (dVar 6) (dC (.int 0)))) (dOp rdIx (dVar 5) (dC (.int 2)))) (dNil)))) (dNil)))) (dNil)))))))

theorem eF_items (f : Floor) : tupOf (eF f) = some (f.map ePr) := rfl
theorem pure_quarter_turned : ∀ ds M k e, sp_quarter_turned ds M k e → t_quarter_turned (endsOf k) (fill 5 ds) M := by
  rintro ds M k e ⟨c, q, rfl, h⟩
  refine ⟨_, rfl, ?_⟩
  refine ⟨by decide, ?_⟩
  have h4 : (q % 4).toNat ≤ 3 := by omega
  have hrg : (rgD 0 (q % 4).toNat).length = (q % 4).toNat := rgD_length _ _
  refine ⟨⟨by omega, by omega⟩, ?_⟩
  refine ⟨fun i δ M' => ∃ x4, δ = [some (eC c), some (.int q), some (.int (qtN i c).1), some (.int (qtN i c).2), x4] ∧ M' = M, ⟨none, rfl, rfl⟩, ?_⟩
  rintro i δ M' hi ⟨x4, rfl, rfl⟩
  refine ⟨trivial, fun d hd => ?_, fun e => ?_⟩
  · refine ⟨_, rfl, ?_⟩
    exact ⟨_, Sub.refl _, some d, rfl, rfl⟩
  · rw [hrg] at e
    subst e
    exact ⟨two_le, rt_of h⟩
theorem len_quarter_turned : ∀ ds M k e, sp_quarter_turned ds M k e → ds.length = 2 := by rintro ds M k e ⟨_, _, rfl, _⟩; rfl
theorem pr_sorted (f : Floor) (φ : Cell → Cell) (hn : (f.map (·.1)).Nodup) (inj : ∀ c d, φ c = φ d → c = d) : ((mapF φ f).map (·.1)).Nodup := by
  have e : (mapF φ f).map (·.1) = (f.map (·.1)).map φ := by unfold mapF; rw [List.map_map, List.map_map]; rfl
  rw [e]
  unfold List.Nodup at hn ⊢
  rw [List.pairwise_map]
  exact hn.imp fun {a b} z y => z (inj _ _ y)
theorem sorted_floor {φ : Cell → Cell} {f : Floor} {k : List D → MH → Prop} {M : MH} (hn : (f.map (·.1)).Nodup) (inj : ∀ c d, φ c = φ d → c = d) (h : ∀ L, L.Perm (mapF φ f) → Srt L → k (L.map ePr) M) : rdSort ((mapF φ f).map ePr) M k := by
  obtain ⟨s1, s2, s3⟩ := pr_alike (mapF φ f)
  exact ⟨Cell × Int, mapF φ f, ePr, prPd, rfl, ⟨fun x _ => py_pr M x, s1, s2, s3⟩, h _ (List.mergeSort_perm _ _) (sort_pr (pr_sorted f φ hn inj))⟩
def mapP (φ : Cell → Cell) : D → D
  | .tup [.tup [.int x, .int y], v] => .tup [eC (φ (x, y)), v]
  | d => d
theorem mapP_floor (φ : Cell → Cell) (f : Floor) : (f.map ePr).map (mapP φ) = (mapF φ f).map ePr := by
  unfold mapF
  rw [List.map_map, List.map_map]; rfl
theorem pure_turned_in : ∀ ds M k e, sp_turned_in ds M k e → t_turned_in (endsOf k) (fill 4 ds) M := by
  rintro ds M k e ⟨f, q, rfl, hl, hn, h⟩
  refine ⟨f.map ePr, rfl, ?_⟩
  refine lc_all (mapP (qt q)) trivial (by rw [List.length_map]; omega) (fun d hd => ?_) ?_
  · obtain ⟨p, hp, rfl⟩ := get_eF hd
    refine ⟨_, rfl, fun kk hk => ?_⟩
    exact ⟨p.1, q, rfl, two_le, hk⟩
  · rw [mapP_floor]
    exact sorted_floor hn (qt_inj q) fun L hp hs => Or.inr (rt_of (h L hp hs))
theorem len_turned_in : ∀ ds M k e, sp_turned_in ds M k e → ds.length = 2 := by rintro ds M k e ⟨_, _, rfl, _⟩; rfl
theorem pure_shifted_in : ∀ ds M k e, sp_shifted_in ds M k e → t_shifted_in (endsOf k) (fill 4 ds) M := by
  rintro ds M k e ⟨f, b, rfl, hl, h⟩
  refine ⟨f.map ePr, rfl, ?_⟩
  refine lc_all (mapP (shf b)) trivial (by rw [List.length_map]; omega) (fun d hd => ?_) ?_
  · obtain ⟨p, hp, rfl⟩ := get_eF hd
    refine ⟨_, rfl, fun kk hk => ?_⟩
    refine ⟨_, _, rfl, rfl, _, _, rfl, rfl, _, _, rfl, rfl, _, _, rfl, rfl, ?_⟩
    exact ⟨two_le, two_le, hk⟩
  · rw [mapP_floor]
    exact Or.inr (rt_of h)
theorem len_shifted_in : ∀ ds M k e, sp_shifted_in ds M k e → ds.length = 2 := by rintro ds M k e ⟨_, _, rfl, _⟩; rfl
theorem mapF_mapF (φ ψ : Cell → Cell) (f : Floor) : mapF ψ (mapF φ f) = mapF (fun c => ψ (φ c)) f := by unfold mapF; rw [List.map_map]; rfl
theorem srt_shf {L : Floor} (b : Cell) (h : Srt L) : Srt (mapF (shf b) L) := by
  unfold Srt mapF
  rw [List.pairwise_map]
  refine h.imp fun {p q} z => ?_
  unfold cLt at z ⊢
  show (p.1.1 + b.1 < q.1.1 + b.1 ∨ (p.1.1 + b.1 = q.1.1 + b.1 ∧ p.1.2 + b.2 < q.1.2 + b.2))
  omega
theorem sl_eA (a : Ant) (k : DK) (M : MH) (q : k (eC a.c) M) : rdSl (eA a) none (some 2) M k := sl_ant (.inl rfl) q
theorem pure_moved_in : ∀ ds M k e, sp_moved_in ds M k e → t_moved_in (endsOf k) (fill 7 ds) M := by
  rintro ds M k e ⟨f, a, q, b, rfl, hl, hn, h⟩
  refine ⟨_, rfl, ?_⟩
  refine ⟨a.c, q, rfl, ?_⟩
  refine ⟨_, rfl, ?_⟩
  refine ⟨f, q, rfl, hl, hn, fun L hp hs => ?_⟩
  have hL : L.length ≤ 2000 := by rw [hp.length_eq]; unfold mapF; rw [List.length_map]; exact hl
  refine ⟨L, b, rfl, hL, ?_⟩
  refine ⟨_, _, rfl, rfl, _, _, rfl, rfl, _, _, rfl, rfl, ?_⟩
  refine ⟨by decide, le_line (by show 3 ≤ 1000000; decide), two_le, ?_⟩
  refine rt_of (h (mapF (shf b) L) ?_ (srt_shf b hs))
  have e1 : mapF (mvC q b) f = mapF (shf b) (mapF (qt q) f) := (mapF_mapF (qt q) (shf b) f).symm
  rw [e1]
  exact hp.map _
theorem len_moved_in : ∀ ds M k e, sp_moved_in ds M k e → ds.length = 3 := by rintro ds M k e ⟨_, _, _, _, rfl, _⟩; rfl
theorem pure_moved : ∀ ds M k e, sp_moved ds M k e → t_moved (endsOf k) (fill 6 ds) M := by
  rintro ds M k e ⟨r, d, f, a, q, b, rfl, hr, hd, hq, hb, h⟩
  refine ⟨r, rfl, hr, ?_⟩
  refine ⟨r, d, f, a, rfl, hr, hd.re, hd.pl, hd.fl.floor, hd.an, _, rfl, ?_⟩
  refine ⟨q, -1000000, 1000000, rfl, hq, _, rfl, ?_⟩
  refine ⟨b, rfl, hb, ?_⟩
  exact ⟨f, a, q, b, rfl, hd.fl.len, hd.fl.nodup, fun L hp hs => rt_of (h L hp hs)⟩
theorem len_moved : ∀ ds M k e, sp_moved ds M k e → ds.length = 4 := by rintro ds M k e ⟨_, _, _, _, _, _, rfl, _⟩; rfl
/-! lines -/
theorem kinds_all (κ : LK) : (["a", "d", "x", "y"] : List Str).contains (kS κ) = true := by cases κ <;> decide
theorem abs_le {s m : Int} (h : -m ≤ s ∧ s ≤ m) : (if s < 0 then -s else s) ≤ m := by split <;> omega
theorem pure_is_line_in : ∀ ds M k e, sp_is_line_in ds M k e → t_is_line_in (endsOf k) (fill 1 ds) M := by
  rintro ds M k e ⟨κ, s, rfl, hs, h⟩
  refine ⟨_, _, 2, rfl, rfl, iteF ?_⟩
  refine ⟨_, _, rfl, rfl, rfl, _, _, rfl, (by decide +kernel : kitB "str" "str" = some true), iteF ?_⟩
  refine ⟨_, _, rfl, rfl, _, ["a", "d", "x", "y"], rfl, rfl, ?_⟩
  refine if_tf (d := false) (by rw [if_pos rfl, kinds_all]; rfl) (iteF ?_)
  refine ⟨_, _, rfl, rfl, _, _, rfl, rfl, iteT ?_⟩
  refine ⟨_, _, rfl, rfl, ?_⟩
  refine rt_of ?_
  show k (.bl (decide ((if s < 0 then -s else s) ≤ 4000000))) M
  rw [decide_eq_true (abs_le hs)]
  exact h
theorem len_is_line_in : ∀ ds M k e, sp_is_line_in ds M k e → ds.length = 1 := by rintro ds M k e ⟨_, _, rfl, _⟩; rfl
theorem pl_line (κ : LK) (s : Int) : plainN 7 (eL κ s) = true := rfl
theorem re_line (κ : LK) (s : Int) : retag (eL κ s) = eL κ s := rfl
theorem pure_sure_line : ∀ ds M k e, sp_sure_line ds M k e → t_sure_line (endsOf k) (fill 2 ds) M := by
  rintro ds M k e ⟨κ, s, rfl, hs, h⟩
  refine ⟨_, rfl, pl_line κ s, ?_⟩
  rw [re_line]
  refine ⟨_, rfl, ?_⟩
  exact ⟨κ, s, rfl, hs, rt_of h⟩
theorem len_sure_line : ∀ ds M k e, sp_sure_line ds M k e → ds.length = 1 := by rintro ds M k e ⟨_, _, rfl, _⟩; rfl
theorem pure_beyond : ∀ ds M k e, sp_beyond ds M k e → t_beyond (endsOf k) (fill 6 ds) M := by
  rintro ds M k e ⟨κ, s, c, rfl, h⟩
  refine ⟨_, rfl, ?_⟩
  refine ⟨_, rfl, ?_⟩
  cases κ
  · exact ⟨two_le, rt_of h⟩
  · exact ⟨two_le, rt_of h⟩
  · exact ⟨two_le, rt_of h⟩
  · exact ⟨two_le, rt_of h⟩
theorem len_beyond : ∀ ds M k e, sp_beyond ds M k e → ds.length = 2 := by rintro ds M k e ⟨_, _, _, rfl, _⟩; rfl
theorem pure_floor_beyond : ∀ ds M k e, sp_floor_beyond ds M k e → t_floor_beyond (endsOf k) (fill 4 ds) M := by
  rintro ds M k e ⟨κ, s, f, rfl, hl, hn, h⟩
  refine ⟨f.map ePr, rfl, ?_⟩
  refine lc_all (mapP (lnC κ s)) trivial (by rw [List.length_map]; omega) (fun d hd => ?_) ?_
  · obtain ⟨p, hp, rfl⟩ := get_eF hd
    refine ⟨_, rfl, fun kk hk => ?_⟩
    exact ⟨κ, s, p.1, rfl, two_le, hk⟩
  · rw [mapP_floor]
    exact sorted_floor hn (line_mot κ s).inj fun L hp hs => Or.inr (rt_of (h L hp hs))
theorem len_floor_beyond : ∀ ds M k e, sp_floor_beyond ds M k e → ds.length = 2 := by rintro ds M k e ⟨_, _, _, rfl, _⟩; rfl
theorem pure_cell_beyond : ∀ ds M k e, sp_cell_beyond ds M k e → t_cell_beyond (endsOf k) (fill 5 ds) M := by
  rintro ds M k e ⟨κ, s, c, rfl, hs, ⟨hc1, hc2⟩, h⟩
  refine ⟨κ, s, rfl, hs, _, rfl, ?_⟩
  refine ⟨_, rfl, rfl, ?_⟩
  have e1 : retag (eC c) = eC c := rfl
  rw [e1]
  refine ⟨_, rfl, ?_⟩
  refine ⟨_, _, 2, rfl, rfl, iteF ?_⟩
  refine ⟨_, rfl, ?_⟩
  refine lc_all (fun _ => .bl true) trivial (by show 2 ≤ 1000000; decide) (fun d hd => ?_) ?_
  · rcases List.mem_cons.mp hd with rfl | hd
    · refine ⟨_, rfl, fun kk hk => ?_⟩
      refine ⟨_, _, rfl, rfl, iteT ?_⟩
      show kk (.bl (decide ((if c.1 < 0 then -c.1 else c.1) ≤ 1000000))) M
      rw [decide_eq_true (abs_le hc1)]
      exact hk
    · rw [List.mem_singleton.mp hd]
      refine ⟨_, rfl, fun kk hk => ?_⟩
      refine ⟨_, _, rfl, rfl, iteT ?_⟩
      show kk (.bl (decide ((if c.2 < 0 then -c.2 else c.2) ≤ 1000000))) M
      rw [decide_eq_true (abs_le hc2)]
      exact hk
  · refine ⟨[true, true], rfl, iteF ?_⟩
    exact ⟨κ, s, c, rfl, rt_of h⟩
theorem len_cell_beyond : ∀ ds M k e, sp_cell_beyond ds M k e → ds.length = 2 := by rintro ds M k e ⟨_, _, _, rfl, _⟩; rfl
theorem way_row (κ : LK) : (kS κ, D.kon ((lnT κ).map D.int)) ∈ v_WAYS_BY := by
  cases κ
  · exact .head _
  · exact .tail _ (.head _)
  · exact .tail _ (.tail _ (.head _))
  · exact .tail _ (.tail _ (.tail _ (.head _)))
theorem way_at (κ : LK) {w : Int} (h : Way w) : atI ((lnT κ).map D.int) w = some (.int (lnW κ w)) := by
  obtain rfl | rfl | rfl | rfl := way4 h <;> cases κ <;> rfl
theorem pure_reflected (g : Addr) : ∀ ds M k e, sp_reflected ds M k e → t_reflected g (endsOf k) (fill 7 ds) M := by
  rintro ds M k e ⟨r, d, f, a, κ, s, rfl, hr, hd, hs, h⟩
  refine ⟨r, rfl, hr, _, rfl, ?_⟩
  refine ⟨r, d, f, a, rfl, hr, hd.re, hd.pl, hd.fl.floor, hd.an, _, rfl, ?_⟩
  refine ⟨κ, s, rfl, hs, _, rfl, ?_⟩
  refine ⟨r, rfl, hr, ?_⟩
  refine ⟨κ, s, f, rfl, hd.fl.len, hd.fl.nodup, fun L hp hsL => ?_⟩
  refine ⟨κ, s, a.c, rfl, ?_⟩
  refine ⟨_, _, rfl, rfl, _, _, rfl, rfl, way_row κ, ?_⟩
  refine ⟨_, _, rfl, rfl, _, _, rfl, way_at κ hd.an.2, ?_⟩
  exact ⟨le_line (by show 1 ≤ 1000000; decide), le_line (by show 2 + 1 ≤ 1000000; decide), two_le, two_le, rt_of (h L hp hsL)⟩
theorem len_reflected : ∀ ds M k e, sp_reflected ds M k e → ds.length = 3 := by rintro ds M k e ⟨_, _, _, _, _, _, rfl, _⟩; rfl
end DL
/-! Readings (printed by run.py) and their proofs. -/
namespace DL
open PySem PySem.Spec PyProof.Rows L2
def t_told_counts : DTS := dRet (dCB rdTuple (dSorted (dLockA (dLc (diKA (dVar 0)) (dgName 1) (dYes) (dTup (dCons (dVar 1) (dCons (dGetIA (dVar 0) (dVar 1)) (dNil)))) [1]))))

def t_counted : DTS := dRet (dCB rdTuple (dLc (diR1 (dCons (dC (.int 4)) (dNil))) (dgName 1) (dYes) (dCB rdLenL (dLc (diL (dVar 0)) (dgName 2) (dTest (dOp rdEq (dVar 2) (dVar 1))) (dVar 2) [2])) [1]))

def t_entered_along : DTS := dSeq (dAsg (dCall sp_sure_ant (dCons (dVar 0) (dNil))) (dgName 2)) (dRet (dIf (dTest (dOp rdEq (dOp rdMod (dOp rdSub (dCB rdSumTup (dCons (dVar 2) (dNil))) (dCB rdSumTup (dCons (dCall sp_sure_cell (dCons (dVar 1) (dNil))) (dNil)))) (dC (.int 2))) (dC (.int 0)))) (dC (.str "row")) (dC (.str "column"))))

def t_goes : DTS := dSeq (dAsg (dOp rdIx (dCall sp_lived_by (dCons (dVar 0) (dCons (dVar 1) (dCons (dVar 2) (dNil))))) (dC (.int 1))) (dgName 3)) (dRet (dCall sp_counted (dCons (dMade (dLc (diM (dSlL (dVar 3) (dPart (dC (.int 1))) (dNoPart))) (dgName 4) (dYes) (dOp rdIx (dVar 4) (dC (.int 2))) [4])) (dNil))))

theorem all4 (q : PyData → Prop) {xs : List PyData} (h : ∀ x ∈ xs, q x) : ∀ x ∈ xs, q x := h
theorem qd_alike {κ : Type} {kd : κ → PyData} {lt : κ → κ → Prop} (O : KOrd kd lt) (l : List (κ × List Int)) : PySem.W.AllAlike (l.map (qPd kd)) ∧ PySem.W.Sortable (l.map (qPd kd)) := by
  refine ⟨fun a ha b hb => ?_, .inl fun d hd => ?_⟩
  · obtain ⟨p, _, rfl⟩ := List.mem_map.mp ha
    obtain ⟨q, _, rfl⟩ := List.mem_map.mp hb
    exact alike_q O p q
  · obtain ⟨p, _, rfl⟩ := List.mem_map.mp hd
    exact ⟨_, _, rfl⟩
theorem depth_v (v : List Int) : (vPd v).canLay0 = true ∧ (vPd v).depth ≤ 1 := lay_tup (n := 0) fun p hp => by
  obtain ⟨i, _, rfl⟩ := List.mem_map.mp hp
  exact lay_int _
theorem depth_c (c : Cell) : (cKd c).canLay0 = true ∧ (cKd c).depth ≤ 1 := lay_tup (n := 0) fun p hp => by
  rcases List.mem_cons.mp hp with rfl | hp
  · exact lay_int _
  · rw [List.mem_singleton.mp hp]; exact lay_int _
theorem two_lay {n : Nat} {a b : PyData} (ha : a.canLay0 = true ∧ a.depth ≤ n) (hb : b.canLay0 = true ∧ b.depth ≤ n) : (PyData.tuple [a, b]).canLay0 = true ∧ (PyData.tuple [a, b]).depth ≤ n + 1 := lay_tup fun p hp => by
  rcases List.mem_cons.mp hp with rfl | hp
  · exact ha
  · rw [List.mem_singleton.mp hp]; exact hb
theorem lay_mono {a : PyData} {n m : Nat} (h : a.canLay0 = true ∧ a.depth ≤ n) (hn : n ≤ m) : a.canLay0 = true ∧ a.depth ≤ m := ⟨h.1, Nat.le_trans h.2 hn⟩
theorem depth_n (k : NK) : (nPd k).canLay0 = true ∧ (nPd k).depth ≤ 2 := two_lay (depth_c _) (depth_c _)
theorem py_is (M : MH) : ∀ v : List Int, PyL M (v.map D.int) (v.map PyData.int)
  | [] => .nil
  | i :: v => .cons (.int i) (py_is M v)
theorem py_v (M : MH) (v : List Int) : Py M (eV v) (vPd v) := .tup (py_is M v)
theorem py_c (M : MH) (c : Cell) : Py M (eC c) (cKd c) := .tup (.cons (.int _) (.cons (.int _) .nil))
theorem py_n (M : MH) (k : NK) : Py M (kN k) (nPd k) := .tup (.cons (py_c M k.1) (.cons (py_c M k.2) .nil))
theorem py_E (M : MH) (p : Cell × List Int) : Py M (eE p) (qPd cKd p) := .tup (.cons (py_c M _) (.cons (py_v M _) .nil))
theorem py_X (M : MH) (p : NK × List Int) : Py M (eX p) (qPd nPd p) := .tup (.cons (py_n M _) (.cons (py_v M _) .nil))
theorem sort_E {l : List (Cell × List Int)} {k : List D → MH → Prop} {M : MH} (hn : (l.map (·.1)).Nodup) (h : ∀ S, S.Perm l → SrtG cLt S → k (S.map eE) M) : rdSort (l.map eE) M k :=
  ⟨Cell × List Int, l, eE, qPd cKd, rfl, ⟨fun x _ => py_E M x, (qd_alike cOrd l).1, (qd_alike cOrd l).2, fun x _ => by have := (two_lay (depth_c x.1) (depth_v x.2)).2; show (PyData.tuple [cKd x.1, vPd x.2]).depth ≤ 50; omega⟩, h _ (List.mergeSort_perm _ _) (sortG cOrd hn)⟩
theorem sort_X {l : List (NK × List Int)} {k : List D → MH → Prop} {M : MH} (hn : (l.map (·.1)).Nodup) (h : ∀ S, S.Perm l → SrtG nLt S → k (S.map eX) M) : rdSort (l.map eX) M k :=
  ⟨NK × List Int, l, eX, qPd nPd, rfl, ⟨fun x _ => py_X M x, (qd_alike nOrd l).1, (qd_alike nOrd l).2, fun x _ => by have := (two_lay (depth_n x.1) (lay_mono (depth_v x.2) (by decide))).2; show (PyData.tuple [nPd x.1, vPd x.2]).depth ≤ 50; omega⟩, h _ (List.mergeSort_perm _ _) (sortG nOrd hn)⟩
def cD' : D → Cell
  | .tup [.int x, .int y] => (x, y)
  | _ => (0, 0)
def nD' : D → NK
  | .tup [.tup [.int a, .int b], .tup [.int c, .int d]] => ((a, b), (c, d))
  | _ => ((0, 0), (0, 0))
/-- pairs of a locked dict, cells -/
theorem pairs_T {l : List (Cell × List Int)} {M : MH} {a : Addr} {o : Obj} {ks : List (List Key × V)} (hn : (l.map (·.1)).Nodup) {c : Cell} {v : List Int} (h : (c, v) ∈ l) : getD? (put M a (.rT o ks (encT eV l))) a (eC c) = some (some (eV v)) := by
  rw [getD_at put_same]
  show (tupKey (eC c)).map (valD (encT eV l)) = _
  rw [kC_eC, Option.map_some, valD_enc, getL_mem hn h]; rfl
theorem kt_cells (l : List (Cell × List Int)) : ktD (encT eV l) = l.map fun q => eC q.1 := by
  unfold ktD encT
  rw [List.map_map]; rfl
theorem kn_keys (l : List (NK × List Int)) : knD (encN l) = l.map fun q => kN q.1 := by
  unfold knD encN
  rw [List.map_map]; rfl
/-- the fresh list of pairs of a dict -/
theorem lock_T {l : List (Cell × List Int)} {M : MH} {δ : DSt} {a : Addr} {i j : Nat} {k : List D → MH → Prop} (hM : M a = some (.dT (encT eV l))) (hl : l.length ≤ 1000000) (hn : (l.map (·.1)).Nodup) (hj : δ[j]? = some (some (.obj a))) (hi : i < δ.length) (hij : j ≠ i) {wi : DTI} {tg : DTE} (hwi : ∀ δ M q, diK (dVar j) δ M q → wi δ M q) (htg : ∀ δ M k, dGetI (dVar j) (dVar i) δ M k → tg δ M k) (h : k (l.map eE) M) :
    dLockL (dLc wi (dgName i) dYes (dTup (dCons (dVar i) (dCons tg dNil))) [i]) δ M k := by
  refine ⟨a, encT eV l, hM, fun o ks => ?_⟩
  unfold dLc
  refine hwi _ _ _ ?_
  unfold diK dVar
  simp only [hj]
  refine ⟨o, ks, _, put_same, ?_⟩
  rw [kt_cells]
  refine lc_all (fun d => .tup [d, eV ((getL l (cD' d)).getD [])]) put_same (by rw [List.length_map]; exact hl) (fun d hd => ?_) ?_
  · obtain ⟨⟨c, v⟩, hc, rfl⟩ := List.mem_map.mp hd
    refine ⟨_, rfl, fun kk hk => ?_⟩
    have hlen : i < (wipeD δ [i]).length := by simp [wipeD]; exact hi
    have e1 : ((wipeD δ [i]).set i (some (eC c)))[i]? = some (some (eC c)) := List.getElem?_set_self hlen
    have e2 : ((wipeD δ [i]).set i (some (eC c)))[j]? = some (some (.obj a)) := by
      rw [List.getElem?_set_ne (Ne.symm hij)]
      show (List.set δ i none)[j]? = _
      rw [List.getElem?_set_ne (Ne.symm hij)]; exact hj
    unfold dTup dCons dNil
    simp only [dVar, e1]
    refine htg _ _ _ ?_
    unfold dGetI
    simp only [dVar, e1, e2]
    refine ⟨_, pairs_T hn hc, two_le, ?_⟩
    have hk : kk (.tup [eC c, eV ((getL l c).getD [])]) _ := hk
    rw [getL_mem hn hc] at hk
    exact hk
  · refine ⟨put_same, ?_⟩
    rw [put_put, put_eta hM, List.map_map]
    have e : l.map ((fun d => D.tup [d, eV ((getL l (cD' d)).getD [])]) ∘ fun q => eC q.1) = l.map eE := by
      apply List.map_congr_left
      rintro ⟨c, v⟩ hc
      show D.tup [eC c, eV ((getL l c).getD [])] = eE (c, v)
      rw [getL_mem hn hc]; rfl
    rw [e]; exact h
theorem lock_N {l : List (NK × List Int)} {M : MH} {δ : DSt} {a : Addr} {i j : Nat} {k : List D → MH → Prop} (hM : M a = some (.dN (encN l))) (hl : l.length ≤ 1000000) (hn : (l.map (·.1)).Nodup) (hj : δ[j]? = some (some (.obj a))) (hi : i < δ.length) (hij : j ≠ i) {wi : DTI} {tg : DTE} (hwi : ∀ δ M q, diKN (dVar j) δ M q → wi δ M q) (htg : ∀ δ M k, dGetIN (dVar j) (dVar i) δ M k → tg δ M k) (h : k (l.map eX) M) :
    dLockN (dLc wi (dgName i) dYes (dTup (dCons (dVar i) (dCons tg dNil))) [i]) δ M k := by
  refine ⟨a, encN l, hM, fun o ks => ?_⟩
  unfold dLc
  refine hwi _ _ _ ?_
  unfold diKN dVar
  simp only [hj]
  refine ⟨o, ks, _, put_same, ?_⟩
  rw [kn_keys]
  refine lc_all (fun d => .tup [d, eV ((getX l (nD' d)).getD [])]) put_same (by rw [List.length_map]; exact hl) (fun d hd => ?_) ?_
  · obtain ⟨⟨c, v⟩, hc, rfl⟩ := List.mem_map.mp hd
    refine ⟨_, rfl, fun kk hk => ?_⟩
    have hlen : i < (wipeD δ [i]).length := by simp [wipeD]; exact hi
    have e1 : ((wipeD δ [i]).set i (some (kN c)))[i]? = some (some (kN c)) := List.getElem?_set_self hlen
    have e2 : ((wipeD δ [i]).set i (some (kN c)))[j]? = some (some (.obj a)) := by
      rw [List.getElem?_set_ne (Ne.symm hij)]
      show (List.set δ i none)[j]? = _
      rw [List.getElem?_set_ne (Ne.symm hij)]; exact hj
    unfold dTup dCons dNil
    simp only [dVar, e1]
    refine htg _ _ _ ?_
    unfold dGetIN
    simp only [dVar, e1, e2]
    have hv : valD (encN l) c = some (eV v) := by rw [valD_encN, getX_mem hn hc]; rfl
    refine ⟨encN l, c, eV v, rfl, .inr ⟨o, ks, put_same⟩, hv, two_le, ?_⟩
    have hk : kk (.tup [kN c, eV ((getX l c).getD [])]) _ := hk
    rw [getX_mem hn hc] at hk
    exact hk
  · refine ⟨put_same, ?_⟩
    rw [put_put, put_eta hM, List.map_map]
    have e : l.map ((fun d => D.tup [d, eV ((getX l (nD' d)).getD [])]) ∘ fun q => kN q.1) = l.map eX := by
      apply List.map_congr_left
      rintro ⟨c, v⟩ hc
      show D.tup [kN c, eV ((getX l c).getD [])] = eX (c, v)
      rw [getX_mem hn hc]; rfl
    rw [e]; exact h
theorem pure_told_counts : ∀ ds M k e, sp_told_counts ds M k e → t_told_counts (endsOf k) (fill 2 ds) M := by
  rintro ds M k e ⟨a, rfl, ⟨l, hM, hl, hn, h⟩ | ⟨l, hM, hl, hn, h⟩⟩
  · refine Or.inl (lock_T (i := 1) (j := 0) hM hl hn rfl (by show 1 < 2; decide) (by decide) (fun δ M q z => Or.inl z) (fun δ M k z => Or.inl z) ?_)
    exact sort_E hn fun S hp hs => Or.inl (rt_of (h S hp hs))
  · refine Or.inr (lock_N (i := 1) (j := 0) hM hl hn rfl (by show 1 < 2; decide) (by decide) (fun δ M q z => Or.inr z) (fun δ M k z => Or.inr z) ?_)
    exact sort_X hn fun S hp hs => Or.inl (rt_of (h S hp hs))
theorem len_told_counts : ∀ ds M k e, sp_told_counts ds M k e → ds.length = 1 := by rintro ds M k e ⟨_, rfl, _⟩; rfl
def isI (w : Int) : D → Bool
  | .int i => decide (i = w)
  | _ => false
theorem filt_int (ws : List Int) (w : Int) : ((ws.map D.int).filter (isI w)).length = ws.count w := by
  rw [List.filter_map, List.length_map, List.count_eq_countP, List.countP_eq_length_filter]
  congr 1
theorem pure_counted : ∀ ds M k e, sp_counted ds M k e → t_counted (endsOf k) (fill 3 ds) M := by
  rintro ds M k e ⟨a, ws, rfl, hM, hl, h⟩
  refine ⟨⟨by omega, by omega⟩, ?_⟩
  refine lc_all (fun d => match d with | .int i => .int ((ws.count i : Nat) : Int) | d => d) trivial (by decide) (fun d hd => ?_) ?_
  · obtain ⟨i, _, rfl⟩ := List.mem_map.mp hd
    refine ⟨_, rfl, fun kk hk => ?_⟩
    refine ⟨_, lstOf_obj hM, ?_⟩
    refine lc_pure (fun d => d) (isI (0 + (i : Int))) (lstOf_obj hM) (by rw [List.length_map]; exact hl) (fun d hd => ?_) ?_
    · obtain ⟨w, _, rfl⟩ := List.mem_map.mp hd
      refine ⟨_, rfl, fun kb hb => ?_, fun _ kk hk => hk⟩
      show kb (xor false (decide (w = 0 + (i : Int)))) M
      rw [xor_false']; exact hb
    · rw [List.map_id']
      show kk (.int (((((ws.map D.int).filter (isI (0 + (i : Int)))).length : Nat) : Int))) M
      rw [filt_int]
      exact hk
  · exact Or.inl (rt_of h)
theorem len_counted : ∀ ds M k e, sp_counted ds M k e → ds.length = 1 := by rintro ds M k e ⟨_, _, rfl, _⟩; rfl
theorem sum_ant (a : Ant) : [a.c.1, a.c.2, a.w].sum = sumA a := by simp [sumA]
theorem sum_cell (c : Cell) : [c.1, c.2].sum = sumC c := by simp [sumC]
theorem pure_entered_along : ∀ ds M k e, sp_entered_along ds M k e → t_entered_along (endsOf k) (fill 3 ds) M := by
  rintro ds M k e ⟨a, c, rfl, ha, hc, h⟩
  refine ⟨a, rfl, ha, _, rfl, ?_⟩
  refine ⟨[a.c.1, a.c.2, a.w], rfl, ?_⟩
  refine ⟨c, rfl, hc, ?_⟩
  refine ⟨[c.1, c.2], rfl, ?_⟩
  rw [sum_ant, sum_cell]
  refine ⟨by decide, ?_⟩
  refine if_tf (d := along a c) (by rw [xor_false']; rfl) ?_
  cases z : along a c with
  | true => rw [z] at h; exact iteT (rt_of h)
  | false => rw [z] at h; exact iteF (rt_of h)
theorem len_entered_along : ∀ ds M k e, sp_entered_along ds M k e → ds.length = 2 := by rintro ds M k e ⟨_, _, rfl, _⟩; rfl
theorem eAs_tail (l : List Ant) : cutD (eAs l) (some 1) none = eAs l.tail := by
  unfold cutD eAs
  have e1 : (1 : Int) = ((1 : Nat) : Int) := rfl
  rw [HT.sIx_none, e1, HT.sIx_nat]
  cases l with
  | nil => rfl
  | cons a l =>
    rw [List.map_cons, List.length_cons, Nat.min_eq_left (by omega), List.drop_one, List.tail_cons, List.tail_cons, List.take_of_length_le (by rw [List.length_map]; omega)]
theorem wI_tail_len (r : List Bool) (f : Floor) (a : Ant) (n : Nat) : (runA r f a n).tail.length = n := by unfold runA; rw [ants_tail, List.length_map, List.length_range]
theorem pure_goes : ∀ ds M k e, sp_goes ds M k e → t_goes (endsOf k) (fill 5 ds) M := by
  rintro ds M k e ⟨r, f, a, n, ⟨⟨d, rfl, hd⟩, hr, hn⟩, h⟩
  refine ⟨r, d, f, a, n, rfl, hr, hd, hn, fun M1 p q sM hp hq => ?_⟩
  refine ⟨_, _, rfl, rfl, ?_⟩
  refine ⟨_, rfl, ?_⟩
  refine ⟨_, lstOf_obj hq, ?_⟩
  rw [eAs_tail]
  have hl := wI_tail_len r f a n
  refine lc_all (fun d => match d with | .tup [_, _, w] => w | d => d) trivial (by unfold eAs; rw [List.length_map]; show (runA r f a n).tail.length ≤ _; omega) (fun d hd => ?_) ?_
  · obtain ⟨b, _, rfl⟩ := List.mem_map.mp hd
    refine ⟨_, rfl, fun kk hk => ?_⟩
    exact ⟨_, _, rfl, rfl, hk⟩
  · intro u hu
    have e1 : (eAs (wAnts r id (f, a) (n + 1)).tail).map (fun d => match d with | .tup [_, _, w] => w | d => d) = ((runA r f a n).tail.map (·.w)).map D.int := by
      unfold eAs runA
      rw [List.map_map, List.map_map]; rfl
    rw [e1]
    refine ⟨u, (runA r f a n).tail.map (·.w), rfl, put_same, by rw [List.length_map]; omega, ?_⟩
    exact ⟨M, sub_put sM (sM.free hu), h⟩
theorem len_goes : ∀ ds M k e, sp_goes ds M k e → ds.length = 3 := by rintro ds M k e ⟨_, _, _, _, ⟨⟨_, rfl, _⟩, _, _⟩, _⟩; rfl
end DL
/-! Readings (printed by run.py) and their proofs. -/
namespace DL
open PySem PySem.Spec PyProof.Rows L2
def t_entries : DTS := dSeq (dAsg (dNewT) (dgName 3)) (dSeq (dFor (diM (dSlL (dOp rdIx (dCall sp_lived_by (dCons (dVar 0) (dCons (dVar 1) (dCons (dVar 2) (dNil))))) (dC (.int 1))) (dPart (dC (.int 1))) (dNoPart))) (dgName 4) (dDrop (dAppend (dSetDf (dVar 3) (dCons (dSl (dVar 4) (dNoPart) (dPart (dC (.int 2)))) (dCons (dLst (dNil)) (dNil)))) (dOp rdIx (dVar 4) (dC (.int 2)))))) (dRet (dCall sp_told_counts (dCons (dCB rdDictLT (dLockL (dLc (diK (dVar 3)) (dgName 5) (dYes) (dTup (dCons (dVar 5) (dCons (dCall sp_counted (dCons (dGetI (dVar 3) (dVar 5)) (dNil))) (dNil)))) [5]))) (dNil)))))

def t_crossings : DTS := dSeq (dAsg (dNewN) (dgName 3)) (dSeq (dAsg (dOp rdIx (dCall sp_lived_by (dCons (dVar 0) (dCons (dVar 1) (dCons (dVar 2) (dNil))))) (dC (.int 1))) (dgName 4)) (dSeq (dFor (diZM (dVar 4) (dSlL (dVar 4) (dPart (dC (.int 1))) (dNoPart))) (dgTup 2 (dgCons (dgName 5) (dgCons (dgName 6) dgNil))) (dSeq (dPar 7 8 (dCons (dSl (dVar 5) (dNoPart) (dPart (dC (.int 2)))) (dCons (dSl (dVar 6) (dNoPart) (dPart (dC (.int 2)))) (dNil)))) (dSeq (dAsg (dGet2N (dVar 3) (dTup (dCons (dCB (rdTwo false) (dCons (dVar 7) (dCons (dVar 8) (dNil)))) (dCons (dCB (rdTwo true) (dCons (dVar 7) (dCons (dVar 8) (dNil)))) (dNil)))) (dTup (dCons (dC (.int 0)) (dCons (dC (.int 0)) (dNil))))) (dgTup 2 (dgCons (dgName 9) (dgCons (dgName 10) dgNil)))) (dPutN (dVar 3) (dTup (dCons (dCB (rdTwo false) (dCons (dVar 7) (dCons (dVar 8) (dNil)))) (dCons (dCB (rdTwo true) (dCons (dVar 7) (dCons (dVar 8) (dNil)))) (dNil)))) (dIf (dTest (dOp rdLt (dVar 7) (dVar 8))) (dTup (dCons (dOp rdAdd (dVar 9) (dC (.int 1))) (dCons (dVar 10) (dNil)))) (dTup (dCons (dVar 9) (dCons (dOp rdAdd (dVar 10) (dC (.int 1))) (dNil))))))))) (dRet (dCall sp_told_counts (dCons (dVar 3) (dNil))))))

def t_most_entered : DTS := dSeq (dAsg (dNewT) (dgName 3)) (dSeq (dFor (diL (dOp rdIx (dCall sp_lived_by (dCons (dVar 0) (dCons (dVar 1) (dCons (dVar 2) (dNil))))) (dC (.int 1)))) (dgName 4) (dPutI (dVar 3) (dSl (dVar 4) (dNoPart) (dPart (dC (.int 2)))) (dOp rdAdd (dGet2 (dVar 3) (dSl (dVar 4) (dNoPart) (dPart (dC (.int 2)))) (dC (.int 0))) (dC (.int 1))))) (dSeq (dAsg (dCB rdMax (dLockL (dLc (diK (dVar 3)) (dgName 6) (dYes) (dGetI (dVar 3) (dVar 6)) [6]))) (dgName 5)) (dRet (dTup (dCons (dVar 5) (dCons (dCB (rdLeast false) (dLockL (dLc (diK (dVar 3)) (dgName 6) (dTest (dOp rdEq (dGetI (dVar 3) (dVar 6)) (dVar 5))) (dVar 6) [6]))) (dNil)))))))

theorem putL_new {β : Type} {l : List (Cell × β)} {c : Cell} (v : β) (h : c ∉ l.map (·.1)) : putL l c v = l ++ [(c, v)] := by
  unfold putL
  rw [if_neg]
  intro z
  obtain ⟨p, hp, e⟩ := List.any_eq_true.mp z
  exact h (List.mem_map.mpr ⟨p, hp, of_decide_eq_true e⟩)
theorem mergeD_nodup {β : Type} {f : β → D} {l : List (Cell × β)} (hn : (l.map (·.1)).Nodup) : mergeD (encT f l) = encT f l := by
  have : ∀ (l acc : List (Cell × β)), ((acc ++ l).map (·.1)).Nodup → (encT f l).foldl (fun a p => putD a p.1 p.2) (encT f acc) = encT f (acc ++ l) := by
    intro l
    induction l with
    | nil => intro acc _; rw [List.append_nil]; rfl
    | cons p l ih =>
      intro acc h
      show (encT f l).foldl (fun a p => putD a p.1 p.2) (putD (encT f acc) (kC p.1) (f p.2)) = _
      have hp : p.1 ∉ acc.map (·.1) := by
        rw [List.map_append, List.map_cons, List.nodup_append] at h
        intro z
        exact h.2.2 _ z _ List.mem_cons_self rfl
      rw [putD_enc, putL_new _ hp]
      have e : acc ++ p :: l = (acc ++ [(p.1, p.2)]) ++ l := by simp
      rw [e] at h ⊢
      exact ih _ h
  exact this l [] (by simpa using hn)
theorem pairsD_E : ∀ l : List (Cell × List Int), pairsD (l.map eE) = some (encT eV l)
  | [] => rfl
  | p :: l => by
    show (tupKey (eC p.1)).bind (fun k' => (pairsD (l.map eE)).map fun r' => (k', eV p.2) :: r') = _
    rw [kC_eC, pairsD_E l]; rfl
theorem rowOf_snoc (as : List Ant) (b : Ant) (c : Cell) : rowOf (as ++ [b]) c = if b.c = c then rowOf as c ++ [b.w] else rowOf as c := by
  unfold rowOf
  rw [List.filter_append, List.map_append]
  by_cases h : b.c = c
  · rw [if_pos h]; simp [h]
  · rw [if_neg h]; simp [h]
theorem rowOf_len (as : List Ant) (c : Cell) : (rowOf as c).length ≤ as.length := by
  unfold rowOf
  rw [List.length_map]
  exact List.length_filter_le _ _
theorem rowOf_nil {as : List Ant} {c : Cell} (h : ∀ a ∈ as, a.c ≠ c) : rowOf as c = [] := by
  unfold rowOf
  rw [List.filter_eq_nil_iff.mpr fun a ha => by simpa using h a ha]; rfl
/-- the dict of rows while they are made -/
structure RowsAt (M0 : MH) (p : Addr) (as : List Ant) (kvs : List (Cell × Addr)) (M' : MH) : Prop where
  d : M' p = some (.dT (encT D.obj kvs))
  len : kvs.length ≤ as.length
  nd : (kvs.map (·.1)).Nodup
  at_ : ∀ c q, getL kvs c = some q → M' q = some (.lst ((rowOf as c).map D.int)) ∧ q ≠ p ∧ M0 q = none
  inj : ∀ c c' q, getL kvs c = some q → getL kvs c' = some q → c = c'
  no : ∀ c, getL kvs c = none ↔ ∀ a ∈ as, a.c ≠ c
  s : Sub M0 M'
theorem rows_old {M0 M' M3 : MH} {p q : Addr} {as : List Ant} {kvs : List (Cell × Addr)} {b : Ant} (hp : M0 p = none) (R : RowsAt M0 p as kvs M') (g : getL kvs b.c = some q) (s3 : Sub M' M3) :
    RowsAt M0 p (as ++ [b]) kvs (put M3 q (.lst ((rowOf as b.c).map D.int ++ [.int b.w]))) := by
  obtain ⟨h1, h2, h3⟩ := R.at_ _ _ g
  refine ⟨by rw [put_ne (Ne.symm h2)]; exact s3 _ _ R.d, by rw [List.length_append]; exact Nat.le_succ_of_le R.len, R.nd, fun c q' g' => ?_, R.inj, fun c => ?_, sub_put (R.s.trans s3) h3⟩
  · obtain ⟨k1, k2, k3⟩ := R.at_ _ _ g'
    refine ⟨?_, k2, k3⟩
    by_cases e : b.c = c
    · subst e
      rw [g] at g'
      cases g'
      rw [put_same, rowOf_snoc, if_pos rfl, List.map_append]; rfl
    · have : q' ≠ q := fun z => e (R.inj _ _ _ g (by rw [← z]; exact g'))
      rw [put_ne this, rowOf_snoc, if_neg e]
      exact s3 _ _ k1
  · rw [R.no]
    constructor
    · intro h a ha
      rcases List.mem_append.mp ha with ha | ha
      · exact h a ha
      · rw [List.mem_singleton.mp ha]
        intro z
        have := (R.no b.c).mpr (by rw [z]; exact h)
        rw [this] at g; cases g
    · intro h a ha
      exact h a (List.mem_append_left _ ha)
theorem rows_new {M0 M' : MH} {p q : Addr} {as : List Ant} {kvs : List (Cell × Addr)} {b : Ant} (hp : M0 p = none) (R : RowsAt M0 p as kvs M') (g : getL kvs b.c = none) (hq : M' q = none) :
    RowsAt M0 p (as ++ [b]) (putL kvs b.c q) (put (put (put M' q (.lst [])) p (.dT (encT D.obj (putL kvs b.c q)))) q (.lst ([] ++ [.int b.w]))) := by
  have hqp : q ≠ p := Ne.symm (ne_of_free R.d hq)
  have hq0 : M0 q = none := R.s.free hq
  have hnew : ∀ c q', getL kvs c = some q' → q' ≠ q := fun c q' g' => ne_of_free (R.at_ _ _ g').1 hq
  refine ⟨by rw [put_ne (Ne.symm hqp)]; exact put_same, ?_, putL_nodup R.nd, fun c q' g' => ?_, fun c c' q' g1 g2 => ?_, fun c => ?_, sub_put (sub_put (sub_put R.s hq0) hp) hq0⟩
  · have := putL_length kvs b.c q
    have := R.len
    rw [List.length_append, List.length_singleton]; omega
  · by_cases e : c = b.c
    · subst e
      rw [getL_putL_self] at g'
      cases g'
      refine ⟨?_, hqp, hq0⟩
      rw [put_same, rowOf_snoc, if_pos rfl, rowOf_nil ((R.no _).mp g)]; rfl
    · rw [getL_putL_ne _ _ e] at g'
      obtain ⟨k1, k2, k3⟩ := R.at_ _ _ g'
      refine ⟨?_, k2, k3⟩
      rw [put_ne (hnew _ _ g'), put_ne k2, put_ne (hnew _ _ g'), rowOf_snoc, if_neg (Ne.symm e)]
      exact k1
  · by_cases e : c = b.c <;> by_cases e' : c' = b.c
    · rw [e, e']
    · subst e
      rw [getL_putL_self] at g1
      cases g1
      rw [getL_putL_ne _ _ e'] at g2
      exact absurd rfl (hnew _ _ g2)
    · subst e'
      rw [getL_putL_self] at g2
      cases g2
      rw [getL_putL_ne _ _ e] at g1
      exact absurd rfl (hnew _ _ g1)
    · rw [getL_putL_ne _ _ e] at g1
      rw [getL_putL_ne _ _ e'] at g2
      exact R.inj _ _ _ g1 g2
  · by_cases e : c = b.c
    · subst e
      rw [getL_putL_self]
      constructor
      · intro z; cases z
      · intro z; exact absurd rfl (z b (List.mem_append_right _ List.mem_cons_self))
    · rw [getL_putL_ne _ _ e, R.no]
      constructor
      · intro h a ha
        rcases List.mem_append.mp ha with ha | ha
        · exact h a ha
        · rw [List.mem_singleton.mp ha]; exact Ne.symm e
      · intro h a ha
        exact h a (List.mem_append_left _ ha)
/-- what is told of the rows -/
def rowE (as : List Ant) (kvs : List (Cell × Addr)) : List (Cell × List Int) := kvs.map fun p => (p.1, cnt4 (rowOf as p.1))
theorem rowE_nd {M0 : MH} {p : Addr} {as : List Ant} {kvs : List (Cell × Addr)} {M' : MH} (R : RowsAt M0 p as kvs M') : ((rowE as kvs).map (·.1)).Nodup := by
  unfold rowE
  rw [List.map_map]
  exact R.nd
theorem rowE_ok {M0 : MH} {p : Addr} {as : List Ant} {kvs : List (Cell × Addr)} {M' : MH} (R : RowsAt M0 p as kvs M') {S : List (Cell × List Int)} (hp : S.Perm (rowE as kvs)) (hs : SrtG cLt S) : EntOk as S := by
  refine ⟨hs, fun x => ?_, by rw [hp.length_eq]; unfold rowE; rw [List.length_map]; exact R.len⟩
  rw [hp.mem_iff]
  unfold rowE
  rw [List.mem_map]
  constructor
  · rintro ⟨⟨c, q⟩, hm, rfl⟩
    have g := getL_mem R.nd hm
    have : ¬ ∀ a ∈ as, a.c ≠ c := fun z => by
      have := (R.no c).mpr z
      rw [this] at g; cases g
    obtain ⟨a, ha, e⟩ : ∃ a, a ∈ as ∧ a.c = c := by
      apply Classical.byContradiction
      intro z
      exact this fun a ha e => z ⟨a, ha, e⟩
    exact ⟨a, ha, by unfold entE; rw [e]⟩
  · rintro ⟨a, ha, rfl⟩
    cases g : getL kvs a.c with
    | none => exact absurd rfl ((R.no a.c).mp g a ha)
    | some q => exact ⟨(a.c, q), getL_mem' g, rfl⟩
theorem pure_entries : ∀ ds M k e, sp_entries ds M k e → t_entries (endsOf k) (fill 6 ds) M := by
  rintro ds M k e ⟨r, f, a, n, ⟨⟨d, rfl, hd⟩, hr, hn⟩, h⟩
  refine fun p hp => ⟨_, rfl, ?_⟩
  refine ⟨r, d, f, a, n, rfl, hr, hd, hn, fun M1 p1 q sM hp1 hq => ?_⟩
  refine ⟨_, _, rfl, rfl, ?_⟩
  refine ⟨_, lstOf_obj hq, ?_⟩
  rw [eAs_tail]
  have hl := wI_tail_len r f a n
  have hlen : (eAs (runA r f a n).tail).length = n := by unfold eAs; rw [List.length_map]; exact hl
  have hM1 : M1 p = some (.dT []) := sM _ _ put_same
  have s1 : Sub M M1 := (sub_new hp).trans sM
  refine ⟨fun i δ M' => ∃ x4 x5 kvs, δ = [some (.str (eW r)), some d, some (.int n), some (.obj p), x4, x5] ∧ RowsAt M p ((runA r f a n).tail.take i) kvs M', ⟨none, none, [], rfl, ⟨hM1, Nat.le_refl _, List.nodup_nil, (fun c q g => by cases g), (fun c c' q g => by cases g), (fun c => ⟨fun _ a ha => (by cases ha), fun _ => rfl⟩), s1⟩⟩, ?_⟩
  rintro i δ M' hi ⟨x4, x5, kvs, rfl, R⟩
  have hi : i ≤ (eAs (runA r f a n).tail).length := hi
  rw [hlen] at hi
  refine ⟨trivial, fun d' hd' => ?_, fun e => ?_⟩
  · have hd' : (eAs (runA r f a n).tail)[i]? = some d' := hd'
    have hlt : i < n := by
      have := (List.getElem?_eq_some_iff.mp hd').1
      rw [hlen] at this; exact this
    obtain ⟨b, hb, rfl⟩ : ∃ b, (runA r f a n).tail[i]? = some b ∧ d' = eA b := by
      unfold eAs at hd'
      rw [List.getElem?_map] at hd'
      cases z : (runA r f a n).tail[i]? with
      | none => rw [z] at hd'; cases hd'
      | some b => rw [z] at hd'; cases hd'; exact ⟨b, rfl, rfl⟩
    have htl : ((runA r f a n).tail.take i).length ≤ i := by rw [List.length_take]; omega
    refine ⟨_, rfl, ?_⟩
    refine ⟨⟨_, R.d⟩, ?_⟩
    refine ⟨le_line (by show 0 ≤ 1000000; decide), fun q hq => ?_⟩
    have hpq : p ≠ q := ne_of_free R.d hq
    have hRl := R.len
    refine ⟨eC b.c, .obj q, encT D.obj kvs, kC b.c, rfl, by rw [put_ne hpq]; exact R.d, rfl, lt_line (by rw [encT_length]; omega), fun v hv => ?_, fun hv => ?_⟩
    · rw [valD_enc] at hv
      cases g : getL kvs b.c with
      | none => rw [g] at hv; cases hv
      | some q' =>
        rw [g] at hv
        cases hv
        have hrow := rowOf_len ((runA r f a n).tail.take i) b.c
        obtain ⟨k1, k2, k3⟩ := R.at_ _ _ g
        have hqq : q' ≠ q := ne_of_free k1 hq
        have k1' : put M' q (.lst []) q' = some (.lst ((rowOf ((runA r f a n).tail.take i) b.c).map D.int)) := by rw [put_ne hqq]; exact k1
        refine ⟨_, k1', _, _, rfl, rfl, _, k1', lt_line (by rw [List.length_map]; omega), ?_⟩
        refine ⟨_, Sub.refl _, some (eA b), x5, kvs, rfl, ?_⟩
        rw [take_snoc hb]
        exact rows_old hp R g (sub_new hq)
    · rw [valD_enc] at hv
      cases g : getL kvs b.c with
      | some q' => rw [g] at hv; cases hv
      | none =>
        have e1 : putD (encT D.obj kvs) (kC b.c) (.obj q) = encT D.obj (putL kvs b.c q) := putD_enc (f := D.obj) kvs b.c q
        have k1 : put (put M' q (.lst [])) p (.dT (putD (encT D.obj kvs) (kC b.c) (.obj q))) q = some (.lst []) := by rw [put_ne (Ne.symm hpq)]; exact put_same
        refine ⟨_, k1, _, _, rfl, rfl, _, k1, lt_line (by show 0 ≤ 1000000; decide), ?_⟩
        refine ⟨_, Sub.refl _, some (eA b), x5, putL kvs b.c q, rfl, ?_⟩
        rw [take_snoc hb, e1]
        exact rows_new hp R g hq
  · have e : i = (eAs (runA r f a n).tail).length := e
    rw [hlen] at e
    subst e
    rw [List.take_of_length_le (by omega)] at R
    have hRl := R.len
    refine ⟨p, encT D.obj kvs, R.d, fun o ks => ?_⟩
    refine ⟨o, ks, _, put_same, ?_⟩
    have hit : ktD (encT D.obj kvs) = kvs.map fun q => eC q.1 := by
      unfold ktD encT
      rw [List.map_map]; rfl
    rw [hit]
    refine lc_all (fun d => .tup [d, eV (cnt4 (rowOf (runA r f a i).tail (cD' d)))]) put_same (by rw [List.length_map]; omega) (fun d hd => ?_) ?_
    · obtain ⟨⟨c, q⟩, hc, rfl⟩ := List.mem_map.mp hd
      have g := getL_mem R.nd hc
      obtain ⟨k1, k2, k3⟩ := R.at_ _ _ g
      refine ⟨_, rfl, fun kk hk => ?_⟩
      refine ⟨.obj q, ?_, ?_⟩
      · rw [getD_at put_same]
        show (tupKey (eC c)).map (valD (encT D.obj kvs)) = _
        rw [kC_eC, Option.map_some, valD_enc, g]; rfl
      have hrow := rowOf_len (runA r f a i).tail c
      refine ⟨q, rowOf (runA r f a i).tail c, rfl, by rw [put_ne k2]; exact k1, by omega, two_le, ?_⟩
      exact hk
    · refine ⟨put_same, ?_⟩
      rw [put_put, put_eta R.d, List.map_map]
      have e1 : kvs.map ((fun d => D.tup [d, eV (cnt4 (rowOf (runA r f a i).tail (cD' d)))]) ∘ fun q => eC q.1) = (rowE (runA r f a i).tail kvs).map eE := by
        unfold rowE
        rw [List.map_map]; rfl
      rw [e1]
      refine ⟨_, pairsD_E _, fun u hu => ?_⟩
      rw [mergeD_nodup (rowE_nd R)]
      refine ⟨u, rfl, Or.inl ⟨_, put_same, by unfold rowE; rw [List.length_map]; omega, rowE_nd R, fun S hS hs => ?_⟩⟩
      exact ⟨M, sub_put R.s (R.s.free hu), h S (rowE_ok R hS hs)⟩
theorem len_entries : ∀ ds M k e, sp_entries ds M k e → ds.length = 3 := by rintro ds M k e ⟨_, _, _, _, ⟨⟨_, rfl, _⟩, _, _⟩, _⟩; rfl
/-! sides crossed -/
theorem mn_data (c d : Cell) (k : DK) (M : MH) (h : k (eC (mnC c d)) M) : rdTwo false [eC c, eC d] M k := by
  refine ⟨cKd c, cKd d, py_c M c, py_c M d, ⟨fun x hx y hy => ?_, fun x hx => ?_⟩, ?_, ?_⟩
  · have : ∀ z ∈ [cKd c, cKd d], ∃ e, z = cKd e := fun z hz => by
      rcases List.mem_cons.mp hz with rfl | hz
      · exact ⟨_, rfl⟩
      · exact ⟨_, List.mem_singleton.mp hz⟩
    obtain ⟨a, rfl⟩ := this x hx
    obtain ⟨b, rfl⟩ := this y hy
    exact cOrd.al a b
  · rcases List.mem_cons.mp hx with rfl | hx
    · intro z; cases z
    · rw [List.mem_singleton.mp hx]; intro z; cases z
  · have h1 := (depth_c c).2
    have h2 := (depth_c d).2
    simp only [PyData.depthAll]; omega
  · have e : (if (if false = true then PySem.W.dataLt (cKd c) (cKd d) else PySem.W.dataLt (cKd d) (cKd c)) = true then eC d else eC c) = eC (mnC c d) := by
      unfold mnC
      rw [if_neg Bool.false_ne_true]
      by_cases z : cLt d c
      · rw [if_pos ((cOrd.dl _ _).mpr z), if_pos z]
      · rw [if_neg fun y => z ((cOrd.dl _ _).mp y), if_neg z]
    rw [e]; exact h
theorem mx_data (c d : Cell) (k : DK) (M : MH) (h : k (eC (mxC c d)) M) : rdTwo true [eC c, eC d] M k := by
  refine ⟨cKd c, cKd d, py_c M c, py_c M d, ⟨fun x hx y hy => ?_, fun x hx => ?_⟩, ?_, ?_⟩
  · have : ∀ z ∈ [cKd c, cKd d], ∃ e, z = cKd e := fun z hz => by
      rcases List.mem_cons.mp hz with rfl | hz
      · exact ⟨_, rfl⟩
      · exact ⟨_, List.mem_singleton.mp hz⟩
    obtain ⟨a, rfl⟩ := this x hx
    obtain ⟨b, rfl⟩ := this y hy
    exact cOrd.al a b
  · rcases List.mem_cons.mp hx with rfl | hx
    · intro z; cases z
    · rw [List.mem_singleton.mp hx]; intro z; cases z
  · have h1 := (depth_c c).2
    have h2 := (depth_c d).2
    simp only [PyData.depthAll]; omega
  · have e : (if (if true = true then PySem.W.dataLt (cKd c) (cKd d) else PySem.W.dataLt (cKd d) (cKd c)) = true then eC d else eC c) = eC (mxC c d) := by
      unfold mxC
      rw [if_pos rfl]
      by_cases z : cLt c d
      · rw [if_pos ((cOrd.dl _ _).mpr z), if_pos z]
      · rw [if_neg fun y => z ((cOrd.dl _ _).mp y), if_neg z]
    rw [e]; exact h
theorem lt_data (c d : Cell) (k : DK) (M : MH) (h : k (.bl (decide (cLt c d))) M) : rdLt (eC c) (eC d) M k := by
  refine ⟨[c.1, c.2], [d.1, d.2], rfl, rfl, ?_⟩
  have e : HT.lexLt [c.1, c.2] [d.1, d.2] = decide (cLt c d) := by
    rw [HT.lexLt_cons, HT.lexLt_cons, HT.lexLt_nil_nil]
    unfold cLt
    by_cases e : c.1 = d.1
    · rw [if_pos e]
      by_cases e2 : c.2 = d.2
      · rw [if_pos e2]; simp [e, e2]
      · rw [if_neg e2]; simp [e]
    · rw [if_neg e]; simp [e]
  rw [e]; exact h
theorem key_tup {i j : Nat} {δ : DSt} {M : MH} {k : DK} {c c' : Cell} (hi : δ[i]? = some (some (eC c))) (hj : δ[j]? = some (some (eC c'))) (h : k (kN (keyC c c')) M) :
    dTup (dCons (dCB (rdTwo false) (dCons (dVar i) (dCons (dVar j) dNil))) (dCons (dCB (rdTwo true) (dCons (dVar i) (dCons (dVar j) dNil))) dNil)) δ M k := by
  unfold dTup dCons dCB dNil
  simp only [dVar, hi, hj]
  exact mn_data c c' _ _ (mx_data c c' _ _ ⟨two_le, h⟩)
theorem lt_if {i j : Nat} {δ : DSt} {M : MH} {k : DK} {c c' : Cell} {A B : DTE} (hi : δ[i]? = some (some (eC c))) (hj : δ[j]? = some (some (eC c'))) (h1 : cLt c c' → A δ M k) (h2 : ¬ cLt c c' → B δ M k) :
    dIf (dTest (dOp rdLt (dVar i) (dVar j))) A B δ M k := by
  unfold dIf dTest dOp
  simp only [dVar, hi, hj]
  exact lt_data c c' _ _ (ite_bool (fun e => h1 (of_decide_eq_true e)) (fun e => h2 (of_decide_eq_false e)))
theorem var_go {i : Nat} {δ : DSt} {M : MH} {k : DK} {d : D} (h : δ[i]? = some (some d)) (q : k d M) : dVar i δ M k := by
  unfold dVar
  simp only [h]
  exact q
theorem key_data (c d : Cell) : D.tup [eC (mnC c d), eC (mxC c d)] = kN (keyC c d) := rfl
theorem zip_pairs (r : List Bool) (f : Floor) (a : Ant) (n : Nat) : zpD (eAs (runA r f a n)) (eAs (runA r f a n).tail) = ((runA r f a n).zip (runA r f a n).tail).map fun q => D.tup [eA q.1, eA q.2] := by
  unfold zpD eAs
  rw [List.zipWith_map, List.zip_eq_zipWith, List.map_zipWith]
theorem pure_crossings : ∀ ds M k e, sp_crossings ds M k e → t_crossings (endsOf k) (fill 11 ds) M := by
  rintro ds M k e ⟨r, f, a, n, ⟨⟨d, rfl, hd⟩, hr, hn⟩, h⟩
  refine fun p hp => ⟨_, rfl, ?_⟩
  refine ⟨r, d, f, a, n, rfl, hr, hd, hn, fun M1 p1 q sM hp1 hq => ?_⟩
  refine ⟨_, _, rfl, rfl, ?_⟩
  refine ⟨_, rfl, ?_⟩
  refine ⟨_, lstOf_obj hq, ?_⟩
  refine ⟨_, lstOf_obj hq, ?_⟩
  rw [eAs_tail]
  have hz := zip_pairs r f a n
  unfold runA at hz
  rw [hz]
  have hM1 : M1 p = some (.dN []) := sM _ _ put_same
  have s1 : Sub M M1 := (sub_new hp).trans sM
  have hpq : p ≠ q := fun z => by rw [z, hq] at hM1; cases hM1
  have hlen : ((wAnts r id (f, a) (n + 1)).zip (wAnts r id (f, a) (n + 1)).tail).length = n := by rw [ants_pairs, List.length_map, List.length_range]
  have hpl : (prsA (runA r f a n)).length = n := by unfold prsA runA; rw [List.length_map, hlen]
  have hne : ∀ x ∈ prsA (runA r f a n), x.1 ≠ x.2 := pairs_ne r (f, a) n
  refine ⟨fun i δ M' => ∃ x5 x6 x7 x8 x9 x10, δ = [some (.str (eW r)), some d, some (.int n), some (.obj p), some (.obj q), x5, x6, x7, x8, x9, x10] ∧ M' p = some (.dN (encN (crL ((prsA (runA r f a n)).take i)))) ∧ M' q = some (.lst (eAs (runA r f a n))) ∧ Sub M M', ⟨none, none, none, none, none, none, rfl, hM1, hq, s1⟩, ?_⟩
  rintro i δ M' hi ⟨x5, x6, x7, x8, x9, x10, rfl, R, hq', sM'⟩
  rw [List.length_map, hlen] at hi
  have htk : ((prsA (runA r f a n)).take i).length ≤ i := by rw [List.length_take]; omega
  have hcl := crL_len ((prsA (runA r f a n)).take i)
  refine ⟨lstOf_obj hq', fun d' hd' => ?_, fun e => ?_⟩
  · have hlt : i < n := by
      have := (List.getElem?_eq_some_iff.mp hd').1
      rw [List.length_map, hlen] at this; exact this
    rw [List.getElem?_map] at hd'
    cases z : ((wAnts r id (f, a) (n + 1)).zip (wAnts r id (f, a) (n + 1)).tail)[i]? with
    | none => rw [z] at hd'; cases hd'
    | some bb =>
      obtain ⟨b, b'⟩ := bb
      rw [z] at hd'
      cases hd'
      have hci : (prsA (runA r f a n))[i]? = some (b.c, b'.c) := by
        unfold prsA runA
        rw [List.getElem?_map, z]; rfl
      have hbb : b.c ≠ b'.c := hne _ (List.mem_of_getElem? hci)
      obtain ⟨g1, _⟩ := crL_get ((prsA (runA r f a n)).take i) (fun x hx => hne x (List.mem_of_mem_take hx)) (keyC b.c b'.c) (key_lt hbb)
      have ev : (valD (encN (crL ((prsA (runA r f a n)).take i))) (keyC b.c b'.c)).getD (D.tup [D.int 0, D.int 0]) = eV (crV ((prsA (runA r f a n)).take i) (keyC b.c b'.c)) := by
        rw [valD_encN, ← g1]
        cases getX (crL ((prsA (runA r f a n)).take i)) (keyC b.c b'.c) <;> rfl
      have es : crL ((prsA (runA r f a n)).take (i + 1)) = putX (crL ((prsA (runA r f a n)).take i)) (keyC b.c b'.c) (up1 (crV ((prsA (runA r f a n)).take i) (keyC b.c b'.c)) (decide (cLt b.c b'.c))) := by
        rw [take_snoc hci, crL_snoc]
        unfold crF
        rw [g1]
      refine ⟨_, rfl, ?_⟩
      refine ⟨⟨_, R⟩, ?_⟩
      refine key_tup (i := 7) (j := 8) (c := b.c) (c' := b'.c) rfl rfl ?_
      refine ⟨two_le, encN (crL ((prsA (runA r f a n)).take i)), keyC b.c b'.c, rfl, .inl R, ?_⟩
      rw [ev]
      refine ⟨_, rfl, ?_⟩
      dsimp only
      unfold dPutN
      refine lt_if (i := 7) (j := 8) (c := b.c) (c' := b'.c) rfl rfl (fun e => ?_) (fun e => ?_)
      · refine ⟨two_le, ?_⟩
        refine var_go (i := 3) (d := .obj p) rfl ?_
        refine key_tup (i := 7) (j := 8) (c := b.c) (c' := b'.c) rfl rfl ?_
        refine ⟨encN (crL ((prsA (runA r f a n)).take i)), keyC b.c b'.c, rfl, R, lt_line (by rw [encN_len]; omega), ?_⟩
        refine ⟨_, Sub.refl _, _, _, _, _, _, _, rfl, ?_, by rw [put_ne (Ne.symm hpq)]; exact hq', sub_put sM' hp⟩
        rw [put_same, es, decide_eq_true e, ← putD_encN]; rfl
      · refine ⟨two_le, ?_⟩
        refine var_go (i := 3) (d := .obj p) rfl ?_
        refine key_tup (i := 7) (j := 8) (c := b.c) (c' := b'.c) rfl rfl ?_
        refine ⟨encN (crL ((prsA (runA r f a n)).take i)), keyC b.c b'.c, rfl, R, lt_line (by rw [encN_len]; omega), ?_⟩
        refine ⟨_, Sub.refl _, _, _, _, _, _, _, rfl, ?_, by rw [put_ne (Ne.symm hpq)]; exact hq', sub_put sM' hp⟩
        rw [put_same, es, decide_eq_false e, ← putD_encN]; rfl
  · rw [List.length_map, hlen] at e
    subst e
    rw [List.take_of_length_le (by omega)] at R hcl
    refine ⟨p, rfl, Or.inr ⟨_, R, by omega, crL_nodup _, fun S hS hs => ?_⟩⟩
    exact ⟨M, sM', h S (cr_ok hne hS hs)⟩
theorem len_crossings : ∀ ds M k e, sp_crossings ds M k e → ds.length = 3 := by rintro ds M k e ⟨_, _, _, _, ⟨⟨_, rfl, _⟩, _, _⟩, _⟩; rfl
/-! cells stood on most -/
theorem vis_get {cs : List Cell} {c : Cell} {v : Int} (h : (c, v) ∈ visL cs) : v = ((cs.count c : Nat) : Int) ∧ c ∈ cs := by
  have g := getL_mem (visL_nodup cs) h
  have e := visL_col cs c
  unfold colAt at e
  rw [g] at e
  refine ⟨e, ?_⟩
  have hk : ∀ cs : List Cell, ∀ p ∈ visL cs, p.1 ∈ cs := by
    intro cs
    refine snoc_ind (P := fun cs => ∀ p ∈ visL cs, p.1 ∈ cs) (fun p hp => by cases hp) (fun cs c ih p hp => ?_) cs
    rw [visL_snoc] at hp
    rcases putL_mem hp with hp | rfl
    · exact List.mem_append_left _ (ih p hp)
    · exact List.mem_append_right _ List.mem_cons_self
  exact hk cs _ h
theorem vis_has {cs : List Cell} {c : Cell} (h : c ∈ cs) : (c, ((cs.count c : Nat) : Int)) ∈ visL cs := by
  have e := visL_col cs c
  unfold colAt at e
  cases g : getL (visL cs) c with
  | none =>
    rw [g] at e
    have e : (0 : Int) = ((cs.count c : Nat) : Int) := e
    have := List.count_pos_iff.mpr h
    omega
  | some v =>
    rw [g] at e
    have e : v = ((cs.count c : Nat) : Int) := e
    rw [← e]
    exact getL_mem' g
theorem most_of {cs : List Cell} {m : Int} (h1 : m ∈ (visL cs).map (·.2)) (h2 : ∀ y, y ∈ (visL cs).map (·.2) → y ≤ m) : IsMost cs m := by
  obtain ⟨⟨c, v⟩, hp, rfl⟩ := List.mem_map.mp h1
  obtain ⟨e, hc⟩ := vis_get hp
  exact ⟨⟨c, hc, e.symm⟩, fun c' hc' => h2 _ (List.mem_map.mpr ⟨_, vis_has hc', rfl⟩)⟩
theorem least_cells {L : List Cell} (h0 : L ≠ []) {k : DK} {M : MH} (h : ∀ d, k d M) : rdLeast false (L.map eC) M k := by
  cases L with
  | nil => exact absurd rfl h0
  | cons c L =>
    have py : ∀ L : List Cell, PyL M (L.map eC) (L.map cKd) := by
      intro L
      induction L with
      | nil => exact .nil
      | cons c L ih => exact .cons (py_c M c) ih
    have all : ∀ x ∈ (c :: L).map cKd, ∃ e, x = cKd e := fun x hx => by
      obtain ⟨e, _, rfl⟩ := List.mem_map.mp hx
      exact ⟨e, rfl⟩
    have dep : PyData.depthAll ((c :: L).map cKd) ≤ 1 := (lay_all (n := 1) fun p hp => by
      obtain ⟨e, rfl⟩ := all p hp
      exact depth_c e).2
    refine ⟨cKd c, L.map cKd, py (c :: L), ⟨fun x hx y hy => ?_, fun x hx => ?_⟩, ?_, fun i d _ _ => h d⟩
    · obtain ⟨a, rfl⟩ := all x hx
      obtain ⟨b, rfl⟩ := all y hy
      exact cOrd.al a b
    · obtain ⟨a, rfl⟩ := all x hx
      intro z; cases z
    · exact Nat.le_trans dep (by decide)
theorem pure_most_entered : ∀ ds M k e, sp_most_entered ds M k e → t_most_entered (endsOf k) (fill 7 ds) M := by
  rintro ds M k e ⟨r, f, a, n, ⟨⟨d, rfl, hd⟩, hr, hn⟩, h⟩
  refine fun p hp => ⟨_, rfl, ?_⟩
  refine ⟨r, d, f, a, n, rfl, hr, hd, hn, fun M1 p1 q sM hp1 hq => ?_⟩
  refine ⟨_, _, rfl, rfl, ?_⟩
  refine ⟨_, lstOf_obj hq, ?_⟩
  have hM1 : M1 p = some (.dT []) := sM _ _ put_same
  have s1 : Sub M M1 := (sub_new hp).trans sM
  have hpq : p ≠ q := fun z => by rw [z, hq] at hM1; cases hM1
  have hla : (runA r f a n).length = n + 1 := wAnts_length _
  have hlen : (eAs (runA r f a n)).length = n + 1 := by unfold eAs; rw [List.length_map]; exact hla
  have hcs : ((runA r f a n).map (·.c)).length = n + 1 := by rw [List.length_map]; exact hla
  refine ⟨fun i δ M' => ∃ x4 x5 x6, δ = [some (.str (eW r)), some d, some (.int n), some (.obj p), x4, x5, x6] ∧
    M' p = some (.dT (encT D.int (visL (((runA r f a n).map (·.c)).take i)))) ∧ M' q = some (.lst (eAs (runA r f a n))) ∧ Sub M M', ⟨none, none, none, rfl, hM1, hq, s1⟩, ?_⟩
  rintro i δ M' hi ⟨x4, x5, x6, rfl, hp', hq', s'⟩
  have hi : i ≤ (eAs (runA r f a n)).length := hi
  rw [hlen] at hi
  have hvl := visL_len (((runA r f a n).map (·.c)).take i)
  rw [List.length_take, hcs] at hvl
  refine ⟨lstOf_obj hq', fun d' hd' => ?_, fun e => ?_⟩
  · have hd' : (eAs (runA r f a n))[i]? = some d' := hd'
    have hlt : i < n + 1 := by
      have := (List.getElem?_eq_some_iff.mp hd').1
      rw [hlen] at this; exact this
    obtain ⟨b, hb, rfl⟩ : ∃ b, (runA r f a n)[i]? = some b ∧ d' = eA b := by
      unfold eAs at hd'
      rw [List.getElem?_map] at hd'
      cases z : (runA r f a n)[i]? with
      | none => rw [z] at hd'; cases hd'
      | some b => rw [z] at hd'; cases hd'; exact ⟨b, rfl, rfl⟩
    have hci : ((runA r f a n).map (·.c))[i]? = some b.c := by rw [List.getElem?_map, hb]; rfl
    refine ⟨_, rfl, ?_⟩
    refine ⟨⟨_, hp', trivial⟩, _, getD_enc hp', ?_⟩
    rw [int_getD]
    refine ⟨_, _, hp', putMO_enc (y := (getL (visL (((runA r f a n).map (·.c)).take i)) b.c).getD 0 + 1) rfl (by omega), ?_⟩
    refine ⟨_, Sub.refl _, some _, x5, x6, rfl, ?_, by rw [put_ne (Ne.symm hpq)]; exact hq', sub_put s' hp⟩
    rw [put_same, take_snoc hci, visL_snoc]
  · have e : i = (eAs (runA r f a n)).length := e
    rw [hlen] at e
    subst e
    rw [List.take_of_length_le (by rw [hcs]; exact Nat.le_refl _)] at hp' hvl
    have hne : (runA r f a n).map (·.c) ≠ [] := fun z => by rw [z] at hcs; cases hcs
    have hk : ktD (encT D.int (visL ((runA r f a n).map (·.c)))) = (visL ((runA r f a n).map (·.c))).map fun q => eC q.1 := by
      unfold ktD encT
      rw [List.map_map]; rfl
    have hv : ∀ o ks, ∀ c v, (c, v) ∈ visL ((runA r f a n).map (·.c)) → getD? (put M' p (.rT o ks (encT D.int (visL ((runA r f a n).map (·.c)))))) p (eC c) = some (some (.int v)) := fun o ks c v hc => by
      rw [getD_at put_same]
      show (tupKey (eC c)).map (valD (encT D.int (visL ((runA r f a n).map (·.c))))) = _
      rw [kC_eC, Option.map_some, valD_enc, getL_mem (visL_nodup _) hc]; rfl
    have hpos : 0 < (visL ((runA r f a n).map (·.c))).length := by
      cases z : (runA r f a n).map (·.c) with
      | nil => exact absurd z hne
      | cons c cs =>
        have := vis_has (cs := c :: cs) (c := c) List.mem_cons_self
        exact List.length_pos_of_mem this
    refine ⟨p, _, hp', fun o ks => ?_⟩
    refine ⟨o, ks, _, put_same, ?_⟩
    rw [hk]
    refine lc_all (fun d => .int ((getL (visL ((runA r f a n).map (·.c))) (cD' d)).getD 0)) put_same (by rw [List.length_map]; omega) (fun d hd => ?_) ?_
    · obtain ⟨⟨c, v⟩, hc, rfl⟩ := List.mem_map.mp hd
      refine ⟨_, rfl, fun kk hk' => ?_⟩
      refine ⟨.int v, hv o ks c v hc, ?_⟩
      have hk' : kk (.int ((getL (visL ((runA r f a n).map (·.c))) c).getD 0)) _ := hk'
      rw [getL_mem (visL_nodup _) hc] at hk'
      exact hk'
    · refine ⟨put_same, ?_⟩
      rw [put_put, put_eta hp', List.map_map]
      have e1 : (visL ((runA r f a n).map (·.c))).map ((fun d => D.int ((getL (visL ((runA r f a n).map (·.c))) (cD' d)).getD 0)) ∘ fun q => eC q.1) = ((visL ((runA r f a n).map (·.c))).map (·.2)).map D.int := by
        rw [List.map_map]
        apply List.map_congr_left
        rintro ⟨c, v⟩ hc
        show D.int ((getL (visL ((runA r f a n).map (·.c))) c).getD 0) = D.int v
        rw [getL_mem (visL_nodup _) hc]; rfl
      rw [e1]
      refine ⟨_, rfl, by rw [List.length_map]; exact hpos, fun m hm1 hm2 => ?_⟩
      have hmost := most_of hm1 hm2
      refine ⟨_, rfl, ?_⟩
      refine ⟨p, _, hp', fun o ks => ?_⟩
      refine ⟨o, ks, _, put_same, ?_⟩
      rw [hk]
      refine lc_pure (fun d => d) (fun d => decide ((getL (visL ((runA r f a n).map (·.c))) (cD' d)).getD 0 = m)) put_same (by rw [List.length_map]; omega) (fun d hd => ?_) ?_
      · obtain ⟨⟨c, v⟩, hc, rfl⟩ := List.mem_map.mp hd
        refine ⟨_, rfl, fun kb hb => ?_, fun _ kk hk' => hk'⟩
        refine ⟨.int v, hv o ks c v hc, ?_⟩
        show kb (xor false (decide (v = m))) _
        rw [xor_false']
        have hb : kb (decide ((getL (visL ((runA r f a n).map (·.c))) c).getD 0 = m)) _ := hb
        rw [getL_mem (visL_nodup _) hc] at hb
        exact hb
      · refine ⟨put_same, ?_⟩
        rw [put_put, put_eta hp', List.map_id']
        have e2 : ((visL ((runA r f a n).map (·.c))).map fun q => eC q.1).filter (fun d => decide ((getL (visL ((runA r f a n).map (·.c))) (cD' d)).getD 0 = m)) = (((visL ((runA r f a n).map (·.c))).filter fun q => decide ((getL (visL ((runA r f a n).map (·.c))) q.1).getD 0 = m)).map (·.1)).map eC := by
          rw [List.filter_map, List.map_map]; rfl
        rw [e2]
        refine least_cells ?_ fun d => ⟨two_le, M, s', h m d hmost⟩
        obtain ⟨c, hc, e3⟩ := hmost.1
        intro z
        have hc2 := vis_has hc
        have : c ∈ ((visL ((runA r f a n).map (·.c))).filter fun q => decide ((getL (visL ((runA r f a n).map (·.c))) q.1).getD 0 = m)).map (·.1) :=
          List.mem_map.mpr ⟨_, List.mem_filter.mpr ⟨hc2, decide_eq_true (by rw [getL_mem (visL_nodup _) hc2]; exact e3)⟩, rfl⟩
        rw [z] at this
        cases this
theorem len_most_entered : ∀ ds M k e, sp_most_entered ds M k e → ds.length = 3 := by rintro ds M k e ⟨_, _, _, _, ⟨⟨_, rfl, _⟩, _, _⟩, _⟩; rfl
end DL
/-! Readings (printed by run.py) and their proofs. -/
namespace DL
open PySem PySem.Spec PyProof.Rows L2
def t__law_way : DTS := dRet (dOp rdIx (dGetI (dDisp (dpCons (dC (.str "x")) (dTup (dCons (dC (.int 2)) (dCons (dC (.int 1)) (dCons (dC (.int 0)) (dCons (dC (.int 3)) (dNil)))))) (dpCons (dC (.str "y")) (dTup (dCons (dC (.int 0)) (dCons (dC (.int 3)) (dCons (dC (.int 2)) (dCons (dC (.int 1)) (dNil)))))) (dpCons (dC (.str "d")) (dTup (dCons (dC (.int 1)) (dCons (dC (.int 0)) (dCons (dC (.int 3)) (dCons (dC (.int 2)) (dNil)))))) (dpCons (dC (.str "a")) (dTup (dCons (dC (.int 3)) (dCons (dC (.int 2)) (dCons (dC (.int 1)) (dCons (dC (.int 0)) (dNil)))))) (dpNil)))))) (dVar 0)) (dVar 1))

def t__law_lap_one : DTS := dSeq (dAsg (dCall sp__law_rule (dCons (dVar 0) (dCons (dC (.int 12)) (dNil)))) (dgName 1)) (dSeq (dPar 2 3 (dCons (dCall sp__law_stand (dCons (dVar 0) (dCons (dVar 1) (dNil)))) (dCons (dCall sp__law_take (dCons (dVar 0) (dCons (dCall sp__law_of (dCons (dVar 0) (dCons (dLst (dCons (dC (.int 4)) (dCons (dC (.int 60)) (dCons (dC (.int 200)) (dNil))))) (dNil)))) (dNil)))) (dNil)))) (dSeq (dAsg (dTup (dCons (dCall sp__law_of (dCons (dVar 0) (dCons (dLst (dCons (dC (.str "a")) (dCons (dC (.str "d")) (dCons (dC (.str "x")) (dCons (dC (.str "y")) (dNil)))))) (dNil)))) (dCons (dOp rdSub (dCall sp__law_take (dCons (dVar 0) (dCons (dC (.int 21)) (dNil)))) (dC (.int 10))) (dNil)))) (dgName 4)) (dSeq (dAsg (dCall sp_reflected (dCons (dVar 1) (dCons (dVar 2) (dCons (dVar 4) (dNil))))) (dgTup 2 (dgCons (dgName 5) (dgCons (dgName 6) dgNil)))) (dSeq (dAsg (dTup (dCons (dCall sp_goes (dCons (dVar 1) (dCons (dVar 2) (dCons (dVar 3) (dNil))))) (dCons (dCall sp_goes (dCons (dVar 5) (dCons (dVar 6) (dCons (dVar 3) (dNil))))) (dNil)))) (dgTup 2 (dgCons (dgName 7) (dgCons (dgName 8) dgNil)))) (dSeq (dIfS (dNot (dTest (dCall sp__law_same (dCons (dVar 8) (dCons (dCB rdTuple (dLc (diR1 (dCons (dC (.int 4)) (dNil))) (dgName 23) (dYes) (dOp rdIx (dVar 7) (dCall sp__law_way (dCons (dOp rdIx (dVar 4) (dC (.int 0))) (dCons (dVar 23) (dNil))))) [23])) (dNil)))))) (dRet (dC (.bl false))) (dNext)) (dSeq (dIfS (dNot (dTest (dCall sp__law_same (dCons (dCall sp_turns_counted (dCons (dVar 5) (dCons (dVar 6) (dCons (dVar 3) (dNil))))) (dCons (dRev (dCall sp_turns_counted (dCons (dVar 1) (dCons (dVar 2) (dCons (dVar 3) (dNil)))))) (dNil)))))) (dRet (dC (.bl false))) (dNext)) (dSeq (dAsg (dNewT) (dgName 9)) (dSeq (dFor (diT (dCall sp_entries (dCons (dVar 1) (dCons (dVar 2) (dCons (dVar 3) (dNil)))))) (dgTup 2 (dgCons (dgName 10) (dgCons (dgName 11) dgNil))) (dPutI (dVar 9) (dCall sp_cell_beyond (dCons (dVar 4) (dCons (dVar 10) (dNil)))) (dCB rdTuple (dLc (diR1 (dCons (dC (.int 4)) (dNil))) (dgName 23) (dYes) (dOp rdIx (dVar 11) (dCall sp__law_way (dCons (dOp rdIx (dVar 4) (dC (.int 0))) (dCons (dVar 23) (dNil))))) [23])))) (dSeq (dIfS (dNot (dTest (dCall sp__law_same (dCons (dCall sp_entries (dCons (dVar 5) (dCons (dVar 6) (dCons (dVar 3) (dNil))))) (dCons (dCB rdTuple (dSorted (dLockL (dLc (diK (dVar 9)) (dgName 10) (dYes) (dTup (dCons (dVar 10) (dCons (dGetI (dVar 9) (dVar 10)) (dNil)))) [10])))) (dNil)))))) (dRet (dC (.bl false))) (dNext)) (dSeq (dAsg (dNewN) (dgName 12)) (dSeq (dFor (diT (dCall sp_crossings (dCons (dVar 1) (dCons (dVar 2) (dCons (dVar 3) (dNil)))))) (dgTup 2 (dgCons (dgTup 2 (dgCons (dgName 13) (dgCons (dgName 14) dgNil))) (dgCons (dgName 15) dgNil))) (dSeq (dPar 16 17 (dCons (dCall sp_cell_beyond (dCons (dVar 4) (dCons (dVar 13) (dNil)))) (dCons (dCall sp_cell_beyond (dCons (dVar 4) (dCons (dVar 14) (dNil)))) (dNil)))) (dPutN (dVar 12) (dTup (dCons (dCB (rdLeast false) (dLstL (dCons (dVar 16) (dCons (dVar 17) (dNil))))) (dCons (dCB (rdLeast true) (dLstL (dCons (dVar 16) (dCons (dVar 17) (dNil))))) (dNil)))) (dIf (dTest (dOp rdLt (dVar 16) (dVar 17))) (dVar 15) (dRev (dVar 15)))))) (dSeq (dIfS (dNot (dTest (dCall sp__law_same (dCons (dCall sp_crossings (dCons (dVar 5) (dCons (dVar 6) (dCons (dVar 3) (dNil))))) (dCons (dCB rdTuple (dSorted (dLockN (dLc (diKN (dVar 12)) (dgName 10) (dYes) (dTup (dCons (dVar 10) (dCons (dGetIN (dVar 12) (dVar 10)) (dNil)))) [10])))) (dNil)))))) (dRet (dC (.bl false))) (dNext)) (dSeq (dIfS (dTest (dOp rdNe (dOp rdIx (dCall sp_most_entered (dCons (dVar 5) (dCons (dVar 6) (dCons (dVar 3) (dNil))))) (dC (.int 0))) (dOp rdIx (dCall sp_most_entered (dCons (dVar 1) (dCons (dVar 2) (dCons (dVar 3) (dNil))))) (dC (.int 0))))) (dRet (dC (.bl false))) (dNext)) (dSeq (dAsg (dTup (dCons (dOp rdSub (dOp rdAdd (dOp rdIx (dOp rdIx (dVar 2) (dC (.int 1))) (dC (.int 0))) (dCall sp__law_take (dCons (dVar 0) (dCons (dC (.int 5)) (dNil))))) (dC (.int 2))) (dCons (dOp rdSub (dOp rdAdd (dOp rdIx (dOp rdIx (dVar 2) (dC (.int 1))) (dC (.int 1))) (dCall sp__law_take (dCons (dVar 0) (dCons (dC (.int 5)) (dNil))))) (dC (.int 2))) (dNil)))) (dgName 10)) (dSeq (dAsg (dCall sp_cell_beyond (dCons (dVar 4) (dCons (dVar 10) (dNil)))) (dgName 18)) (dSeq (dIfS (dNot (dTest (dCall sp__law_same (dCons (dCall sp_cell_word (dCons (dVar 5) (dCons (dVar 6) (dCons (dVar 3) (dCons (dVar 18) (dNil)))))) (dCons (dCall sp__law_swapped (dCons (dCall sp_cell_word (dCons (dVar 1) (dCons (dVar 2) (dCons (dVar 3) (dCons (dVar 10) (dNil)))))) (dNil))) (dNil)))))) (dRet (dC (.bl false))) (dNext)) (dSeq (dAsg (dOp rdEq (dCall sp_entered_along (dCons (dOp rdIx (dVar 6) (dC (.int 1))) (dCons (dVar 18) (dNil)))) (dCall sp_entered_along (dCons (dOp rdIx (dVar 2) (dC (.int 1))) (dCons (dVar 10) (dNil))))) (dgName 19)) (dSeq (dIfS (dTest (dOp rdNe (dVar 19) (dOp (rdInT false) (dOp rdIx (dVar 4) (dC (.int 0))) (dTup (dCons (dC (.str "x")) (dCons (dC (.str "y")) (dNil))))))) (dRet (dC (.bl false))) (dNext)) (dSeq (dAsg (dTup (dCons (dCall sp__law_take (dCons (dVar 0) (dCons (dC (.int 4)) (dNil)))) (dCons (dTup (dCons (dOp rdSub (dCall sp__law_take (dCons (dVar 0) (dCons (dC (.int 99)) (dNil)))) (dC (.int 49))) (dCons (dOp rdSub (dCall sp__law_take (dCons (dVar 0) (dCons (dC (.int 99)) (dNil)))) (dC (.int 49))) (dNil)))) (dNil)))) (dgTup 2 (dgCons (dgName 20) (dgCons (dgName 21) dgNil)))) (dSeq (dAsg (dCall sp_moved (dCons (dVar 1) (dCons (dVar 2) (dCons (dVar 20) (dCons (dVar 21) (dNil)))))) (dgName 22)) (dRet (dCall sp__law_same (dCons (dLst (dCons (dCall sp_goes (dCons (dVar 1) (dCons (dVar 22) (dCons (dVar 3) (dNil))))) (dCons (dOp rdIx (dCall sp_most_entered (dCons (dVar 1) (dCons (dVar 22) (dCons (dVar 3) (dNil))))) (dC (.int 0))) (dNil)))) (dCons (dLst (dCons (dCB rdTuple (dLc (diR1 (dCons (dC (.int 4)) (dNil))) (dgName 23) (dYes) (dOp rdIx (dVar 7) (dOp rdMod (dOp rdSub (dVar 23) (dVar 20)) (dC (.int 4)))) [23])) (dCons (dOp rdIx (dCall sp_most_entered (dCons (dVar 1) (dCons (dVar 2) (dCons (dVar 3) (dNil))))) (dC (.int 0))) (dNil)))) (dNil)))))))))))))))))))))))))

theorem pure__law_way : ∀ ds M k e, sp__law_way ds M k e → t__law_way (endsOf k) (fill 2 ds) M := by
  rintro ds M k e ⟨κ, w, rfl, hw, h⟩
  have l4 : 4 ≤ sizeLine := le_line (by decide)
  refine fun p hp => ?_
  refine ⟨l4, l4, l4, l4, [(.inr "x", .tup [.int 2, .int 1, .int 0, .int 3]), (.inr "y", .tup [.int 0, .int 3, .int 2, .int 1]), (.inr "d", .tup [.int 1, .int 0, .int 3, .int 2]), (.inr "a", .tup [.int 3, .int 2, .int 1, .int 0])], rfl, by decide, put_same, ?_⟩
  rw [put_put]
  refine ⟨.tup ((lnT κ).map D.int), ?_, ?_⟩
  · rw [getD_at put_same]
    cases κ <;> rfl
  · refine ⟨_, _, rfl, way_at κ hw, ?_⟩
    exact rt_put hp h
theorem len__law_way : ∀ ds M k e, sp__law_way ds M k e → ds.length = 2 := by rintro ds M k e ⟨_, _, rfl, _⟩; rfl
theorem cnt4_len (ws : List Int) : (cnt4 ws).length = 4 := rfl
theorem pick4_len (g : Int → Int) (v : List Int) : (pick4 g v).length = 4 := rfl
theorem at4 {v : List Int} (hv : v.length = 4) {w : Int} (h : Way w) : atI (v.map D.int) w = some (.int (v.getD w.toNat 0)) := by
  obtain ⟨v0, v1, v2, v3, rfl⟩ : ∃ v0 v1 v2 v3, v = [v0, v1, v2, v3] := by
    match v, hv with
    | [a, b, c, d], _ => exact ⟨a, b, c, d, rfl⟩
  obtain rfl | rfl | rfl | rfl := way4 h <;> rfl
theorem wiped {i s : Nat} {δ : DSt} {d : Option D} {u : D} (h : i ≠ s) (hi : δ[i]? = some d) : ((wipeD δ [s]).set s (some u))[i]? = some d := by
  rw [List.getElem?_set_ne (Ne.symm h)]
  show (List.set δ s none)[i]? = _
  rw [List.getElem?_set_ne (Ne.symm h)]; exact hi
theorem wiped_self {s : Nat} {δ : DSt} {u : D} (hs : s < δ.length) : ((wipeD δ [s]).set s (some u))[s]? = some (some u) := List.getElem?_set_self (by simp [wipeD]; exact hs)
theorem pick_tup {i j s : Nat} {δ : DSt} {M : MH} {k : DK} {κ : LK} {sh : Int} {v : List Int} (hi : δ[i]? = some (some (eV v))) (hj : δ[j]? = some (some (eL κ sh))) (hv : v.length = 4) (his : i ≠ s) (hjs : j ≠ s) (hs : s < δ.length) (h : k (eV (pick4 (lnW κ) v)) M) :
    dCB rdTuple (dLc (diR1 (dCons (dC (.int 4)) dNil)) (dgName s) dYes (dOp rdIx (dVar i) (dCall sp__law_way (dCons (dOp rdIx (dVar j) (dC (.int 0))) (dCons (dVar s) dNil)))) [s]) δ M k := by
  refine ⟨⟨by omega, by omega⟩, ?_⟩
  refine lc_all (fun d => match d with | .int w => .int (v.getD (lnW κ w).toNat 0) | d => d) trivial (by decide) (fun d hd => ?_) ?_
  · obtain ⟨n, hn, rfl⟩ := List.mem_map.mp hd
    have hw : Way (0 + (n : Int)) := by
      have := List.mem_range.mp hn
      unfold Way; omega
    refine ⟨_, rfl, fun kk hk => ?_⟩
    unfold dOp dCall dCons dNil
    simp only [dVar, wiped his hi, wiped hjs hj, wiped_self hs]
    refine ⟨_, _, rfl, rfl, κ, 0 + (n : Int), rfl, hw, ?_⟩
    exact ⟨_, _, rfl, at4 hv ((line_mot κ sh).ok _ hw), hk⟩
  · exact Or.inl h
theorem pick_mv {i j s : Nat} {δ : DSt} {M : MH} {k : DK} {q : Int} {v : List Int} (hi : δ[i]? = some (some (eV v))) (hj : δ[j]? = some (some (.int q))) (hv : v.length = 4) (his : i ≠ s) (hjs : j ≠ s) (hs : s < δ.length) (h : k (eV (pick4 (fun w => (w - q) % 4) v)) M) :
    dCB rdTuple (dLc (diR1 (dCons (dC (.int 4)) dNil)) (dgName s) dYes (dOp rdIx (dVar i) (dOp rdMod (dOp rdSub (dVar s) (dVar j)) (dC (.int 4)))) [s]) δ M k := by
  refine ⟨⟨by omega, by omega⟩, ?_⟩
  refine lc_all (fun d => match d with | .int w => .int (v.getD ((w - q) % 4).toNat 0) | d => d) trivial (by decide) (fun d hd => ?_) ?_
  · obtain ⟨n, hn, rfl⟩ := List.mem_map.mp hd
    refine ⟨_, rfl, fun kk hk => ?_⟩
    unfold dOp
    simp only [dVar, wiped his hi, wiped hjs hj, wiped_self hs]
    refine ⟨by decide, ?_⟩
    exact ⟨_, _, rfl, at4 hv (by unfold Way; omega), hk⟩
  · exact Or.inl h
/-! the standing seen in a line, or moved -/
theorem xRt {r : List Bool} : xR true r = notW r := xR_true r
theorem runA_line {r : List Bool} {f L : Floor} {a : Ant} {κ : LK} {sh : Int} (hr : RuleOk r) (hf : FlOk r.length f) (hw : Way a.w) (hp : L.Perm (mapF (lnC κ sh) f)) (hL : Srt L) (n : Nat) :
    runA (notW r) L (mapA (lnC κ sh) (lnW κ) a) n = (runA r f a n).map (mapA (lnC κ sh) (lnW κ)) := by
  unfold runA
  rw [← xR_true]
  exact ants_rel (line_mot κ sh) hr (relF_of (line_mot κ sh).inj hr hf hw hp hL) _
theorem tr_line {r : List Bool} {f L : Floor} {a : Ant} {κ : LK} {sh : Int} (hr : RuleOk r) (hf : FlOk r.length f) (hw : Way a.w) (hp : L.Perm (mapF (lnC κ sh) f)) (hL : Srt L) (n : Nat) :
    trW (notW r) id (L, mapA (lnC κ sh) (lnW κ) a) n = (trW r id (f, a) n).map fun p => (lnC κ sh p.1, !p.2) := by
  rw [← xR_true]
  rw [tr_rel (line_mot κ sh) hr (relF_of (line_mot κ sh).inj hr hf hw hp hL)]
  apply List.map_congr_left
  intro p _
  cases p.2 <;> rfl
theorem let_line {r : List Bool} {f L : Floor} {a : Ant} {κ : LK} {sh : Int} (hr : RuleOk r) (hf : FlOk r.length f) (hw : Way a.w) (hp : L.Perm (mapF (lnC κ sh) f)) (hL : Srt L) (n : Nat) :
    wLet (notW r) id (L, mapA (lnC κ sh) (lnW κ) a) n = notW (wLet r id (f, a) n) := by
  rw [← xR_true, ← xR_true]
  exact let_rel (line_mot κ sh) hr (relF_of (line_mot κ sh).inj hr hf hw hp hL) _
theorem runA_mv {r : List Bool} {f L : Floor} {a : Ant} {q : Int} {b : Cell} (hr : RuleOk r) (hf : FlOk r.length f) (hw : Way a.w) (hp : L.Perm (mapF (mvC q b) f)) (hL : Srt L) (n : Nat) :
    runA r L (mapA (mvC q b) (mvW q) a) n = (runA r f a n).map (mapA (mvC q b) (mvW q)) := by
  have := ants_rel (mv_mot q b) hr (relF_of (mv_mot q b).inj hr hf hw hp hL) (n + 1)
  rw [xR_false] at this
  exact this
theorem goes_map {φ : Cell → Cell} {ψ θ : Int → Int} (b : Back ψ θ) {as : List Ant} (hw : ∀ a ∈ as, Way a.w) : cnt4 ((as.map (mapA φ ψ)).tail.map (·.w)) = pick4 θ (cnt4 (as.tail.map (·.w))) := by
  rw [← cnt4_map b fun w hw' => by
    obtain ⟨a, ha, rfl⟩ := List.mem_map.mp hw'
    exact hw a (List.mem_of_mem_tail ha)]
  rw [← List.map_tail, List.map_map, List.map_map]; rfl
theorem prs_map {φ : Cell → Cell} {ψ : Int → Int} (as : List Ant) : prsA (as.map (mapA φ ψ)) = (prsA as).map fun q => (φ q.1, φ q.2) := by
  unfold prsA
  rw [← List.map_tail, List.zip_map, List.map_map, List.map_map]; rfl
theorem cells_map {φ : Cell → Cell} {ψ : Int → Int} (as : List Ant) : (as.map (mapA φ ψ)).map (·.c) = (as.map (·.c)).map φ := by
  rw [List.map_map, List.map_map]; rfl
/-- a standing led along -/
theorem fl_map {φ : Cell → Cell} {n : Nat} {f L : Floor} (hf : FlOk n f) (hc : ∀ p ∈ f, CellOk (φ p.1)) (hp : L.Perm (mapF φ f)) (hL : Srt L) : FlOk n L := by
  refine ⟨?_, fun p hpm => ?_, hL⟩
  · rw [hp.length_eq]; unfold mapF; rw [List.length_map]; exact hf.len
  · obtain ⟨q, hq, rfl⟩ := List.mem_map.mp (hp.mem_iff.mp hpm)
    exact ⟨hc q hq, (hf.each q hq).2⟩
theorem line_ok {κ : LK} {sh : Int} (hs : -10 ≤ sh ∧ sh ≤ 10) {K : Int} {c : Cell} (h : Bd K c) (hK : K ≤ 999000) : CellOk (lnC κ sh c) := by
  obtain ⟨⟨h1, h2⟩, h3, h4⟩ := h
  cases κ <;> unfold lnC CellOk <;> dsimp only <;> omega
theorem mv_ok {q : Int} {b : Cell} (hb : Bd 49 b) {c : Cell} (h : Bd 2 c) : CellOk (mvC q b c) := by
  obtain ⟨⟨h1, h2⟩, h3, h4⟩ := h
  obtain ⟨⟨b1, b2⟩, b3, b4⟩ := hb
  unfold mvC shf qt CellOk
  rcases q_cases q with ⟨e, _⟩ | ⟨e, _⟩ | ⟨e, _⟩ | ⟨e, _⟩ <;> rw [e] <;> simp only [qtN, qt1] <;> omega
theorem near_bd {c : Cell} (h : Near c) : Bd 2 c := h
theorem run_cells {r : List Bool} {f : Floor} {a : Ant} (hf : FNear r.length f) (ha : ANear a) (n : Nat) : ∀ b ∈ runA r f a n, Bd (2 + (n : Int)) b.c := by
  intro b hb
  unfold runA wAnts at hb
  obtain ⟨i, hi, rfl⟩ := List.mem_map.mp hb
  have := (run_bd (r := r) (s := (f, a)) (fun p hp => hf.near p hp) ha.near i).2
  exact this.mono (by have := List.mem_range.mp hi; omega)
theorem run_ways {r : List Bool} {f : Floor} {a : Ant} (hw : Way a.w) (n : Nat) : ∀ b ∈ runA r f a n, Way b.w := by
  intro b hb
  unfold runA wAnts at hb
  obtain ⟨i, _, rfl⟩ := List.mem_map.mp hb
  exact run_way (W := id) (s := (f, a)) (fun _ => rfl) hw i
theorem plain_eV (v : List Int) (h : v.length ≤ 1000000) : plainN 6 (eV v) = true := by
  unfold eV
  rw [plainN, Bool.and_eq_true]
  refine ⟨decide_eq_true (by rw [List.length_map]; exact h), List.all_eq_true.mpr fun d hd => ?_⟩
  obtain ⟨p, _, rfl⟩ := List.mem_map.mp hd
  rfl
theorem same_of {M : MH} {n : Nat} {d d' : D} (e : d' = d) (h : plainN n d = true) : SameD M (n + 1) d' d := by rw [e]; exact same_plain n d h
theorem plain_eVn (n : Nat) (v : List Int) (h : v.length ≤ 1000000) : plainN (n + 1) (eV v) = true := by
  unfold eV
  rw [plainN, Bool.and_eq_true]
  refine ⟨decide_eq_true (by rw [List.length_map]; exact h), List.all_eq_true.mpr fun d hd => ?_⟩
  obtain ⟨p, _, rfl⟩ := List.mem_map.mp hd
  cases n <;> rfl
theorem plain_two (n : Nat) {d d' : D} (h : plainN n d = true) (h' : plainN n d' = true) : plainN (n + 1) (.tup [d, d']) = true := by
  rw [plainN, Bool.and_eq_true]
  refine ⟨decide_eq_true (by show 2 ≤ 1000000; decide), ?_⟩
  rw [List.all_cons, List.all_cons, h, h']; rfl
theorem plain_eCn (n : Nat) (c : Cell) : plainN (n + 1) (eC c) = true := plain_two n (by cases n <;> rfl) (by cases n <;> rfl)
theorem plain_E {E : List (Cell × List Int)} (hl : E.length ≤ 1000000) (h : ∀ p ∈ E, p.2.length ≤ 1000000) : plainN 7 (.tup (E.map eE)) = true := by
  rw [plainN, Bool.and_eq_true]
  refine ⟨decide_eq_true (by rw [List.length_map]; exact hl), List.all_eq_true.mpr fun d hd => ?_⟩
  obtain ⟨p, hp, rfl⟩ := List.mem_map.mp hd
  exact plain_two 5 (plain_eCn 4 _) (plain_eVn 4 _ (h p hp))
theorem plain_X {E : List (NK × List Int)} (hl : E.length ≤ 1000000) (h : ∀ p ∈ E, p.2.length ≤ 1000000) : plainN 7 (.tup (E.map eX)) = true := by
  rw [plainN, Bool.and_eq_true]
  refine ⟨decide_eq_true (by rw [List.length_map]; exact hl), List.all_eq_true.mpr fun d hd => ?_⟩
  obtain ⟨p, hp, rfl⟩ := List.mem_map.mp hd
  exact plain_two 5 (plain_two 4 (plain_eCn 3 _) (plain_eCn 3 _)) (plain_eVn 4 _ (h p hp))
theorem ent_plain {as : List Ant} {E : List (Cell × List Int)} (h : EntOk as E) (hl : as.length ≤ 1000000) : plainN 7 (.tup (E.map eE)) = true := plain_E (Nat.le_trans h.2.2 hl) fun p hp => by
  obtain ⟨a, _, rfl⟩ := (h.2.1 p).mp hp
  show 4 ≤ 1000000
  decide
theorem cr_plain {qs : Prs} {E : List (NK × List Int)} (h : CrOk qs E) (hl : qs.length ≤ 1000000) : plainN 7 (.tup (E.map eX)) = true := plain_X (Nat.le_trans h.2.2 hl) fun p hp => by
  obtain ⟨a, _, rfl⟩ := (h.2.1 p).mp hp
  show 2 ≤ 1000000
  decide
/-- what is drawn -/
structure Lap (r : List Bool) (f : Floor) (a : Ant) (N : Nat) (κ : LK) (sh : Int) (L : Floor) : Prop where
  ru : RuleOk r
  fn : FNear r.length f
  an : ANear a
  n : N ≤ 200
  sb : -10 ≤ sh ∧ sh ≤ 10
  per : L.Perm (mapF (lnC κ sh) f)
  srt : Srt L
section
variable {r : List Bool} {f L : Floor} {a : Ant} {N : Nat} {κ : LK} {sh : Int}
theorem Lap.st (h : Lap r f a N κ sh L) : StD (eSt f a) r.length f a := ⟨retag_eSt f a, plain_eSt (by have := h.fn.len; omega), h.fn.fl, near_ok h.an.near, h.an.w⟩
theorem Lap.askN (h : Lap r f a N κ sh L) : Asked [.str (eW r), eSt f a, .int N] r f a N := ⟨⟨_, rfl, h.st⟩, h.ru, by have := h.n; omega⟩
theorem Lap.ruN (h : Lap r f a N κ sh L) : RuleOk (notW r) := by
  have := h.ru
  unfold RuleOk notW at *
  rw [List.length_map]; exact this
theorem Lap.far (h : Lap r f a N κ sh L) : StD (eSt L (mapA (lnC κ sh) (lnW κ) a)) (notW r).length L (mapA (lnC κ sh) (lnW κ) a) := by
  have e : (notW r).length = r.length := by unfold notW; rw [List.length_map]
  have hfl : FlOk r.length L := fl_map h.fn.fl (fun p hp => line_ok h.sb (K := 2) (h.fn.near p hp) (by decide)) h.per h.srt
  exact ⟨retag_eSt _ _, plain_eSt (by have := hfl.len; omega), by rw [e]; exact hfl, line_ok h.sb (K := 2) h.an.near (by decide), (line_mot κ sh).ok _ h.an.w⟩
theorem Lap.askF (h : Lap r f a N κ sh L) : Asked [.str (eW (notW r)), eSt L (mapA (lnC κ sh) (lnW κ) a), .int N] (notW r) L (mapA (lnC κ sh) (lnW κ) a) N := ⟨⟨_, rfl, h.far⟩, h.ruN, by have := h.n; omega⟩
theorem Lap.runF (h : Lap r f a N κ sh L) : runA (notW r) L (mapA (lnC κ sh) (lnW κ) a) N = (runA r f a N).map (mapA (lnC κ sh) (lnW κ)) := runA_line h.ru h.fn.fl h.an.w h.per h.srt N
theorem Lap.ways (h : Lap r f a N κ sh L) : ∀ b ∈ runA r f a N, Way b.w := run_ways h.an.w N
theorem Lap.cells (h : Lap r f a N κ sh L) : ∀ b ∈ runA r f a N, Bd 202 b.c := fun b hb => (run_cells h.fn h.an N b hb).mono (by have := h.n; omega)
theorem Lap.len (h : Lap r f a N κ sh L) : (runA r f a N).length ≤ 201 := by
  have : (runA r f a N).length = N + 1 := wAnts_length _
  have := h.n
  omega
theorem Lap.goes (h : Lap r f a N κ sh L) : cnt4 ((runA (notW r) L (mapA (lnC κ sh) (lnW κ) a) N).tail.map (·.w)) = pick4 (lnW κ) (cnt4 ((runA r f a N).tail.map (·.w))) := by
  rw [h.runF]
  exact goes_map (line_back κ) h.ways
theorem Lap.ent (h : Lap r f a N κ sh L) {E E' S : List (Cell × List Int)} (hE : EntOk (runA r f a N).tail E) (hE' : EntOk (runA (notW r) L (mapA (lnC κ sh) (lnW κ) a) N).tail E') (hp : S.Perm (E.map fun p => (lnC κ sh p.1, pick4 (lnW κ) p.2))) (hs : SrtG cLt S) : E' = S := by
  rw [h.runF, ← List.map_tail] at hE'
  exact ent_map (line_mot κ sh).inj (line_back κ) (fun b hb => h.ways b (List.mem_of_mem_tail hb)) hE hE' hp hs
theorem Lap.pairs (h : Lap r f a N κ sh L) : ∀ q ∈ prsA (runA r f a N), q.1 ≠ q.2 := pairs_ne r (f, a) N
theorem Lap.cr (h : Lap r f a N κ sh L) {E E' S : List (NK × List Int)} (hE : CrOk (prsA (runA r f a N)) E) (hE' : CrOk (prsA (runA (notW r) L (mapA (lnC κ sh) (lnW κ) a) N)) E') (hp : S.Perm (E.map (crM (lnC κ sh)))) (hs : SrtG nLt S) : E' = S := by
  rw [h.runF, prs_map] at hE'
  exact cr_map (line_mot κ sh).inj h.pairs hE hE' hp hs
theorem Lap.most (h : Lap r f a N κ sh L) {m m' : Int} (h1 : IsMost ((runA r f a N).map (·.c)) m) (h2 : IsMost ((runA (notW r) L (mapA (lnC κ sh) (lnW κ) a) N).map (·.c)) m') : m' = m := by
  rw [h.runF, cells_map] at h2
  exact most_map (line_mot κ sh).inj h1 h2
theorem Lap.word (h : Lap r f a N κ sh L) (c : Cell) : onC (trW (notW r) id (L, mapA (lnC κ sh) (lnW κ) a) N) (lnC κ sh c) = notW (onC (trW r id (f, a) N) c) := by
  have e := tr_rel (line_mot κ sh) h.ru (relF_of (line_mot κ sh).inj h.ru h.fn.fl h.an.w h.per h.srt) N
  rw [← xR_true, e, onC_map (line_mot κ sh).inj, xR_true]
theorem Lap.lets (h : Lap r f a N κ sh L) : wLet (notW r) id (L, mapA (lnC κ sh) (lnW κ) a) N = notW (wLet r id (f, a) N) := let_line h.ru h.fn.fl h.an.w h.per h.srt N
end
theorem kind_of {d : D} (h : d ∈ [D.str "a", .str "d", .str "x", .str "y"]) : ∃ κ, d = .str (kS κ) := by
  rcases List.mem_cons.mp h with rfl | h
  · exact ⟨.a, rfl⟩
  · rcases List.mem_cons.mp h with rfl | h
    · exact ⟨.d, rfl⟩
    · rcases List.mem_cons.mp h with rfl | h
      · exact ⟨.x, rfl⟩
      · rw [List.mem_singleton.mp h]; exact ⟨.y, rfl⟩
theorem lst_cut {i j s : Nat} {δ : DSt} {M : MH} {A : DTA} {k : DK} {q : Int} {v : List Int} (hi : δ[i]? = some (some (eV v))) (hj : δ[j]? = some (some (.int q))) (hv : v.length = 4) (his : i ≠ s) (hjs : j ≠ s) (hs : s < δ.length)
    (h : A δ M fun xs M1 => (eV (pick4 (fun w => (w - q) % 4) v) :: xs).length ≤ sizeLine ∧ ∀ p, M1 p = none → k (.obj p) (put M1 p (.lst (eV (pick4 (fun w => (w - q) % 4) v) :: xs)))) :
    dLst (dCons (dCB rdTuple (dLc (diR1 (dCons (dC (.int 4)) dNil)) (dgName s) dYes (dOp rdIx (dVar i) (dOp rdMod (dOp rdSub (dVar s) (dVar j)) (dC (.int 4)))) [s])) A) δ M k :=
  pick_mv hi hj hv his hjs hs h
def lapD (t : Addr) (r : List Bool) (f : Floor) (a : Ant) (N : Nat) (κ : LK) (sh : Int) (L : Floor) (x9 x10 x11 x12 x13 x14 x15 x16 x17 x18 x19 x20 x21 x22 x23 : Option D) : DSt :=
  [some (.obj t), some (.str (eW r)), some (eSt f a), some (.int N), some (eL κ sh), some (.str (eW (notW r))), some (eSt L (mapA (lnC κ sh) (lnW κ) a)), some (eV (cnt4 ((runA r f a N).tail.map (·.w)))), some (eV (pick4 (lnW κ) (cnt4 ((runA r f a N).tail.map (·.w))))),
   x9, x10, x11, x12, x13, x14, x15, x16, x17, x18, x19, x20, x21, x22, x23]
theorem seq_go {t u : DTS} {E : DEnds} {δ : DSt} {M : MH} (h : t { E with nx := u E } δ M) : dSeq t u E δ M := h
def sameK (T : DTS) (E : DEnds) (δ : DSt) (x y : D) (M : MH) : Prop := sp__law_same [x, y] M (fun d M' => match d with
  | .bl b => if (!b) = true then T E δ M' else dNext E δ M'
  | _ => False) noX
theorem if_same {A B : DTE} {T : DTS} {E : DEnds} {δ : DSt} {M : MH} (h : A δ M fun x M1 => B δ M1 fun y M2 => sameK T E δ x y M2) : dIfS (dNot (dTest (dCall sp__law_same (dCons A (dCons B dNil))))) T dNext E δ M := h
theorem same_k {T : DTS} {E : DEnds} {δ : DSt} {x y : D} {M : MH} (h : SameD M 8 x y) (q : E.nx δ M) : sameK T E δ x y M := ⟨x, y, rfl, h, iteF q⟩
theorem sorted_T {l : List (Cell × List Int)} {M : MH} {δ : DSt} {a : Addr} {i j : Nat} {k : DK} (hM : M a = some (.dT (encT eV l))) (hl : l.length ≤ 1000000) (hn : (l.map (·.1)).Nodup) (hj : δ[j]? = some (some (.obj a))) (hi : i < δ.length) (hij : j ≠ i) (h : ∀ S, S.Perm l → SrtG cLt S → k (.tup (S.map eE)) M) :
    dCB rdTuple (dSorted (dLockL (dLc (diK (dVar j)) (dgName i) dYes (dTup (dCons (dVar i) (dCons (dGetI (dVar j) (dVar i)) dNil))) [i]))) δ M k :=
  lock_T (k := fun ds M1 => rdSort ds M1 fun ds M2 => rdTuple ds M2 k) hM hl hn hj hi hij (fun _ _ _ z => z) (fun _ _ _ z => z) (sort_E hn fun S hp hs => Or.inl (h S hp hs))
theorem sorted_N {l : List (NK × List Int)} {M : MH} {δ : DSt} {a : Addr} {i j : Nat} {k : DK} (hM : M a = some (.dN (encN l))) (hl : l.length ≤ 1000000) (hn : (l.map (·.1)).Nodup) (hj : δ[j]? = some (some (.obj a))) (hi : i < δ.length) (hij : j ≠ i) (h : ∀ S, S.Perm l → SrtG nLt S → k (.tup (S.map eX)) M) :
    dCB rdTuple (dSorted (dLockN (dLc (diKN (dVar j)) (dgName i) dYes (dTup (dCons (dVar i) (dCons (dGetIN (dVar j) (dVar i)) dNil))) [i]))) δ M k :=
  lock_N (k := fun ds M1 => rdSort ds M1 fun ds M2 => rdTuple ds M2 k) hM hl hn hj hi hij (fun _ _ _ z => z) (fun _ _ _ z => z) (sort_X hn fun S hp hs => Or.inl (h S hp hs))
theorem take_new {κ β : Type} {l : List (κ × β)} (hn : (l.map (·.1)).Nodup) {i : Nat} {p : κ × β} (h : l[i]? = some p) : p.1 ∉ (l.take i).map (·.1) := by
  intro z
  obtain ⟨q, hq, e⟩ := List.mem_map.mp z
  obtain ⟨j, hj⟩ := List.getElem?_of_mem hq
  have hlt : j < i := by
    have := (List.getElem?_eq_some_iff.mp hj).1
    rw [List.length_take] at this; omega
  rw [List.getElem?_take_of_lt hlt] at hj
  have hn' := List.pairwise_iff_getElem.mp hn
  obtain ⟨b1, c1⟩ := List.getElem?_eq_some_iff.mp hj
  obtain ⟨b2, c2⟩ := List.getElem?_eq_some_iff.mp h
  have := hn' j i (by rw [List.length_map]; exact b1) (by rw [List.length_map]; exact b2) hlt
  rw [List.getElem_map, List.getElem_map, c1, c2] at this
  exact this e
theorem cKd_inj {c d : Cell} (h : cKd c = cKd d) : c = d := by
  unfold cKd at h
  simp only [PyData.tuple.injEq, List.cons.injEq, PyData.int.injEq, and_true] at h
  exact Prod.ext h.1 h.2
theorem least_two (mx : Bool) (c d : Cell) {k : DK} {M : MH} (h : k (eC (if mx = true then mxC c d else mnC c d)) M) : rdLeast mx [eC c, eC d] M k := by
  have all : ∀ z ∈ [cKd c, cKd d], ∃ e, z = cKd e := fun z hz => by
    rcases List.mem_cons.mp hz with rfl | hz
    · exact ⟨_, rfl⟩
    · exact ⟨_, List.mem_singleton.mp hz⟩
  refine ⟨cKd c, [cKd d], .cons (py_c M c) (.cons (py_c M d) .nil), ⟨fun x hx y hy => ?_, fun x hx => ?_⟩, ?_, fun i u hu hg => ?_⟩
  · obtain ⟨a, rfl⟩ := all x hx
    obtain ⟨b, rfl⟩ := all y hy
    exact cOrd.al a b
  · obtain ⟨a, rfl⟩ := all x hx
    intro z; cases z
  · have h1 := (depth_c c).2
    have h2 := (depth_c d).2
    simp only [PyData.depthAll]; omega
  · have e : (if mx = true then PySem.W.maxD (cKd c) [cKd d] else PySem.W.minD (cKd c) [cKd d]) = cKd (if mx = true then mxC c d else mnC c d) := by
      cases mx with
      | true =>
        show (if PySem.W.dataLt (cKd c) (cKd d) = true then cKd d else cKd c) = cKd (mxC c d)
        unfold mxC
        by_cases z : cLt c d
        · rw [if_pos ((cOrd.dl _ _).mpr z), if_pos z]
        · rw [if_neg fun y => z ((cOrd.dl _ _).mp y), if_neg z]
      | false =>
        show (if PySem.W.dataLt (cKd d) (cKd c) = true then cKd d else cKd c) = cKd (mnC c d)
        unfold mnC
        by_cases z : cLt d c
        · rw [if_pos ((cOrd.dl _ _).mpr z), if_pos z]
        · rw [if_neg fun y => z ((cOrd.dl _ _).mp y), if_neg z]
    rw [e] at hg
    match i, hu, hg with
    | 0, hu, hg =>
      have hu : eC c = u := Option.some.inj hu
      have hg : cKd c = cKd _ := hg
      rw [← hu, cKd_inj hg]; exact h
    | 1, hu, hg =>
      have hu : eC d = u := Option.some.inj hu
      have hg : cKd d = cKd _ := hg
      rw [← hu, cKd_inj hg]; exact h
    | i + 2, hu, hg => cases hu
theorem key_tupL {i j : Nat} {δ : DSt} {M : MH} {k : DK} {c c' : Cell} (hi : δ[i]? = some (some (eC c))) (hj : δ[j]? = some (some (eC c'))) (h : k (kN (keyC c c')) M) :
    dTup (dCons (dCB (rdLeast false) (dLstL (dCons (dVar i) (dCons (dVar j) dNil)))) (dCons (dCB (rdLeast true) (dLstL (dCons (dVar i) (dCons (dVar j) dNil)))) dNil)) δ M k := by
  unfold dTup dCons dCB dNil dLstL
  simp only [dVar, hi, hj]
  exact ⟨two_le, least_two false c c' ⟨two_le, least_two true c c' ⟨two_le, h⟩⟩⟩
theorem kinds_xy (κ : LK) : (["x", "y"] : List Str).contains (kS κ) = (decide (κ = .x) || decide (κ = .y)) := by cases κ <;> decide
theorem rowS_eq (a b : Bool) : decide (rowS a = rowS b) = (a == b) := by cases a <;> cases b <;> decide
theorem pure__law_lap_one : ∀ ds M k e, sp__law_lap_one ds M k e → t__law_lap_one (endsOf k) (fill 24 ds) M := by
  rintro ds M k e ⟨t, x, y, z, n, rfl, hM, hT, hn, h⟩
  have l3 : 3 ≤ sizeLine := le_line (by decide)
  have l4 : 4 ≤ sizeLine := le_line (by decide)
  refine ⟨t, x, y, z, n, 12, rfl, hM, hT, by omega, ⟨by decide, by decide⟩, fun r x y z hr hrl hT => ?_⟩
  refine ⟨_, rfl, ?_⟩
  refine ⟨t, r, x, y, z, _, rfl, hr, put_same, hT, by omega, fun f a M1 x y z hf ha hT s1 => ?_⟩
  rw [put_put] at s1
  refine ⟨l3, fun g hg => ?_⟩
  have htg : t ≠ g := ne_of_free (sub_at s1) hg
  refine ⟨t, g, x, y, z, _, _, rfl, (by rw [put_ne htg]; exact sub_at s1), put_same, htg, hT, by omega, by show 1 ≤ 3; decide, by show 3 ≤ 1000; decide, fun d x y z hd hT => ?_⟩
  obtain ⟨b, rfl, hb1, hb2⟩ : ∃ b : Int, d = .int b ∧ 1 ≤ b ∧ b ≤ 200 := by
    rcases List.mem_cons.mp hd with rfl | hd
    · exact ⟨4, rfl, by decide, by decide⟩
    · rcases List.mem_cons.mp hd with rfl | hd
      · exact ⟨60, rfl, by decide, by decide⟩
      · rw [List.mem_singleton.mp hd]; exact ⟨200, rfl, by decide, by decide⟩
  refine ⟨t, _, x, y, z, _, rfl, put_same, hT, by omega, ⟨hb1, by omega⟩, fun v x y z hv0 hv hT => ?_⟩
  rw [put_put]
  have s2 := sub_upd (o' := tinL x y z) (s1.trans (sub_new (o := .lst [.int 4, .int 60, .int 200]) hg))
  generalize put (put M1 g (.lst [.int 4, .int 60, .int 200])) t (tinL x y z) = M2 at s2
  obtain ⟨N, rfl⟩ : ∃ N : Nat, v = N := ⟨v.toNat, by omega⟩
  have hN : N ≤ 200 := by omega
  -- the line
  refine ⟨l4, fun g2 hg2 => ?_⟩
  have htg2 : t ≠ g2 := ne_of_free (sub_at s2) hg2
  refine ⟨t, g2, x, y, z, _, _, rfl, (by rw [put_ne htg2]; exact sub_at s2), put_same, htg2, hT, by omega, by show 1 ≤ 4; decide, by show 4 ≤ 1000; decide, fun d x y z hd hT => ?_⟩
  obtain ⟨κ, rfl⟩ := kind_of hd
  refine ⟨t, _, x, y, z, _, rfl, put_same, hT, by omega, ⟨by decide, by decide⟩, fun v x y z hv0 hv hT => ?_⟩
  rw [put_put]
  have s3 := sub_upd (o' := tinL x y z) (s2.trans (sub_new (o := .lst [D.str "a", .str "d", .str "x", .str "y"]) hg2))
  generalize put (put M2 g2 (.lst [D.str "a", .str "d", .str "x", .str "y"])) t (tinL x y z) = M3 at s3
  refine ⟨two_le, _, rfl, ?_⟩
  generalize hv' : v - 10 = sh
  have hsh : -10 ≤ sh ∧ sh ≤ 10 := ⟨by omega, by omega⟩
  have hst : StD (eSt f a) r.length f a := ⟨retag_eSt f a, plain_eSt (by have := hf.len; omega), hf.fl, near_ok ha.near, ha.w⟩
  refine ⟨r, eSt f a, f, a, κ, sh, rfl, hr, hst, ⟨by omega, by omega⟩, fun L hper hsrt => ⟨_, rfl, ?_⟩⟩
  have P : Lap r f a N κ sh L := ⟨hr, hf, ha, hN, hsh, hper, hsrt⟩
  clear hst hv' hv hv0 hd htg2 hg2 s2 htg hg s1 hb1 hb2
  refine ⟨r, f, a, N, P.askN, ?_⟩
  refine ⟨notW r, L, mapA (lnC κ sh) (lnW κ) a, N, P.askF, ?_⟩
  rw [P.goes]
  refine ⟨two_le, _, rfl, ?_⟩
  -- ways
  dsimp only
  refine seq_go ?_
  refine if_same ?_
  refine var_go (i := 8) (d := eV (pick4 (lnW κ) (cnt4 ((runA r f a N).tail.map (·.w))))) rfl ?_
  refine pick_tup (i := 7) (j := 4) (s := 23) (κ := κ) (sh := sh) (v := cnt4 ((runA r f a N).tail.map (·.w))) rfl rfl rfl (by decide) (by decide) (by show 23 < 24; decide) ?_
  refine same_k (same_plain 7 _ (plain_eVn 6 _ (by show 4 ≤ 1000000; decide))) ?_
  -- turns
  dsimp only
  refine seq_go ?_
  refine if_same ?_
  refine ⟨notW r, _, L, mapA (lnC κ sh) (lnW κ) a, N, rfl, P.ruN, P.far, by omega, ?_⟩
  refine ⟨r, _, f, a, N, rfl, hr, P.st, by omega, ?_⟩
  refine same_k (same_of (n := 7) ?_ (plain_two 6 rfl rfl)) ?_
  · rw [P.lets, (notW_count _).1, (notW_count _).2]; rfl
  -- entries
  refine fun p hp => ⟨_, rfl, ?_⟩
  have hfp := s3.free hp
  dsimp only
  refine seq_go ?_
  refine ⟨r, f, a, N, P.askN, fun E hE => ?_⟩
  refine ⟨E.map eE, rfl, ?_⟩
  have hEl : E.length ≤ 201 := by
    have h1 := hE.2.2
    have h2 := P.len
    rw [List.length_tail] at h1
    omega
  have hEn : ((E.map fun q => (lnC κ sh q.1, pick4 (lnW κ) q.2)).map (·.1)).Nodup := ent_nodup (θ := lnW κ) (line_mot κ sh).inj hE.1
  have hGl : (E.map fun q => (lnC κ sh q.1, pick4 (lnW κ) q.2)).length = E.length := List.length_map _
  have hGg : ∀ i : Nat, (E.map fun q => (lnC κ sh q.1, pick4 (lnW κ) q.2))[i]? = (E[i]?).map (fun q : Cell × List Int => (lnC κ sh q.1, pick4 (lnW κ) q.2)) := fun i => List.getElem?_map
  generalize hG : (E.map fun q => (lnC κ sh q.1, pick4 (lnW κ) q.2)) = G at hEn hGl hGg
  refine ⟨fun i δ M' => ∃ x10 x11, δ = lapD t r f a N κ sh L (some (.obj p)) x10 x11 none none none none none none none none none none none none ∧ M' p = some (.dT (encT eV (G.take i))) ∧ Sub (put M t (tinL x y z)) M', ⟨none, none, rfl, put_same, sub_put s3 hfp⟩, ?_⟩
  rintro i δ M' hi ⟨x10, x11, rfl, hp', s4⟩
  rw [List.length_map] at hi
  refine ⟨trivial, fun d hd => ?_, fun e => ?_⟩
  · rw [List.getElem?_map] at hd
    cases z : E[i]? with
    | none => rw [z] at hd; cases hd
    | some cv =>
      obtain ⟨c, v⟩ := cv
      rw [z] at hd
      cases hd
      obtain ⟨b, hb, eb⟩ := (hE.2.1 (c, v)).mp (List.mem_of_getElem? z)
      cases eb
      have hcb := P.cells b (List.mem_of_mem_tail hb)
      have hg : G[i]? = some (lnC κ sh b.c, pick4 (lnW κ) (cnt4 (rowOf (runA r f a N).tail b.c))) := by rw [hGg, z]; rfl
      have hnew := take_new hEn hg
      refine ⟨_, rfl, ?_⟩
      unfold dPutI
      refine pick_tup (i := 11) (j := 4) (s := 23) (κ := κ) (sh := sh) (v := cnt4 (rowOf (runA r f a N).tail b.c)) rfl rfl rfl (by decide) (by decide) (by show 23 < 24; decide) ?_
      refine var_go (i := 9) (d := .obj p) rfl ?_
      refine ⟨κ, sh, b.c, rfl, ⟨by omega, by omega⟩, hcb.cell (by decide), ?_⟩
      refine ⟨_, _, hp', putMO_enc (f := eV) (l := G.take i) (c := lnC κ sh b.c) (y := pick4 (lnW κ) (cnt4 (rowOf (runA r f a N).tail b.c))) rfl (by rw [List.length_take]; omega), ?_⟩
      refine ⟨_, Sub.refl _, some (eC b.c), some (eV (cnt4 (rowOf (runA r f a N).tail b.c))), rfl, ?_, sub_put s4 hfp⟩
      rw [put_same, putL_new _ hnew, take_snoc hg]
  rw [List.length_map] at e
  rw [e, List.take_of_length_le (by omega)] at hp'
  clear e hi
  dsimp only
  refine seq_go ?_
  refine if_same ?_
  refine ⟨notW r, L, mapA (lnC κ sh) (lnW κ) a, N, P.askF, fun E' hE' => ?_⟩
  refine sorted_T (i := 10) (j := 9) hp' (by omega) hEn rfl (by show 10 < 24; decide) (by decide) fun S hS hSs => ?_
  have eS : E' = S := P.ent hE hE' (by rw [hG]; exact hS) hSs
  subst eS
  refine same_k (same_plain 7 _ (ent_plain hE' (by
    have h1 : (runA (notW r) L (mapA (lnC κ sh) (lnW κ) a) N).length = N + 1 := wAnts_length _
    rw [List.length_tail]; omega))) ?_
  clear hS hSs hE' hG hEn hGl hGg hEl hE
  -- crossings
  refine fun q hq => ⟨_, rfl, ?_⟩
  have hpq : p ≠ q := ne_of_free hp' hq
  have hfq := s4.free hq
  dsimp only
  refine seq_go ?_
  refine ⟨r, f, a, N, P.askN, fun E hE => ?_⟩
  refine ⟨E.map eX, rfl, ?_⟩
  have hpl : (prsA (runA r f a N)).length ≤ 201 := by
    have := P.len
    unfold prsA
    rw [List.length_map, List.length_zip]; omega
  have hEl : E.length ≤ 201 := by
    have h1 := hE.2.2
    omega
  have hEk := cr_keys P.pairs hE
  have hEn : ((E.map (crM (lnC κ sh))).map (·.1)).Nodup := cr_nodup (line_mot κ sh).inj hEk hE.1
  have hGl : (E.map (crM (lnC κ sh))).length = E.length := List.length_map _
  have hGg : ∀ i : Nat, (E.map (crM (lnC κ sh)))[i]? = (E[i]?).map (crM (lnC κ sh)) := fun i => List.getElem?_map
  generalize hG : E.map (crM (lnC κ sh)) = G at hEn hGl hGg
  refine ⟨fun i δ M' => ∃ x9 x10 x11 x13 x14 x15 x16 x17, δ = lapD t r f a N κ sh L x9 x10 x11 (some (.obj q)) x13 x14 x15 x16 x17 none none none none none none ∧ M' q = some (.dN (encN (G.take i))) ∧ Sub (put M t (tinL x y z)) M', ⟨_, _, _, _, _, _, _, _, rfl, put_same, sub_put s4 hfq⟩, ?_⟩
  rintro i δ M6 hi ⟨x9, x10, x11, x13, x14, x15, x16, x17, rfl, hq', s5⟩
  rw [List.length_map] at hi
  refine ⟨trivial, fun d hd => ?_, fun e => ?_⟩
  · rw [List.getElem?_map] at hd
    cases z : E[i]? with
    | none => rw [z] at hd; cases hd
    | some cv =>
      obtain ⟨⟨c1, c2⟩, v⟩ := cv
      rw [z] at hd
      cases hd
      obtain ⟨c0, hc0, eb⟩ := (hE.2.1 ((c1, c2), v)).mp (List.mem_of_getElem? z)
      have hbd : Bd 202 c1 ∧ Bd 202 c2 := by
        unfold prsA at hc0
        obtain ⟨bb, hbb, rfl⟩ := List.mem_map.mp hc0
        have b1 := P.cells bb.1 (List.of_mem_zip hbb).1
        have b2 := P.cells bb.2 (List.mem_of_mem_tail (List.of_mem_zip hbb).2)
        have e1 : (c1, c2) = keyC bb.1.c bb.2.c := congrArg Prod.fst eb
        unfold keyC mnC mxC at e1
        have e2 := congrArg Prod.fst e1
        have e3 := congrArg Prod.snd e1
        dsimp only at e2 e3
        rw [e2, e3]
        refine ⟨?_, ?_⟩
        · split <;> assumption
        · split <;> assumption
      have hg : G[i]? = some (crM (lnC κ sh) ((c1, c2), v)) := by rw [hGg, z]; rfl
      have hnew := take_new hEn hg
      refine ⟨_, rfl, ?_⟩
      refine ⟨κ, sh, c1, rfl, ⟨by omega, by omega⟩, hbd.1.cell (by decide), ?_⟩
      refine ⟨κ, sh, c2, rfl, ⟨by omega, by omega⟩, hbd.2.cell (by decide), ?_⟩
      dsimp only
      unfold dPutN
      refine lt_if (i := 16) (j := 17) (c := lnC κ sh c1) (c' := lnC κ sh c2) rfl rfl (fun e => ?_) (fun e => ?_)
      · refine var_go (i := 15) (d := eV v) rfl ?_
        refine var_go (i := 12) (d := .obj q) rfl ?_
        refine key_tupL (i := 16) (j := 17) (c := lnC κ sh c1) (c' := lnC κ sh c2) rfl rfl ?_
        refine ⟨encN (G.take i), keyC (lnC κ sh c1) (lnC κ sh c2), rfl, hq', lt_line (by rw [encN_len, List.length_take]; omega), ?_⟩
        refine ⟨_, Sub.refl _, _, _, _, _, _, _, _, _, rfl, ?_, sub_put s5 hfq⟩
        have ec : crM (lnC κ sh) ((c1, c2), v) = (keyC (lnC κ sh c1) (lnC κ sh c2), v) := by
          unfold crM
          rw [if_pos e]
        rw [ec] at hg hnew
        rw [put_same, putD_encN, putX_new _ hnew, take_snoc hg]
      · refine var_go (i := 15) (d := eV v) rfl ?_
        refine var_go (i := 12) (d := .obj q) rfl ?_
        refine key_tupL (i := 16) (j := 17) (c := lnC κ sh c1) (c' := lnC κ sh c2) rfl rfl ?_
        refine ⟨encN (G.take i), keyC (lnC κ sh c1) (lnC κ sh c2), rfl, hq', lt_line (by rw [encN_len, List.length_take]; omega), ?_⟩
        refine ⟨_, Sub.refl _, _, _, _, _, _, _, _, _, rfl, ?_, sub_put s5 hfq⟩
        have ec : crM (lnC κ sh) ((c1, c2), v) = (keyC (lnC κ sh c1) (lnC κ sh c2), v.reverse) := by
          unfold crM
          rw [if_neg e]
        rw [ec] at hg hnew
        have ev : D.tup (v.map D.int).reverse = eV v.reverse := by unfold eV; rw [List.map_reverse]
        rw [ev, put_same, putD_encN, putX_new _ hnew, take_snoc hg]
  rw [List.length_map] at e
  rw [e, List.take_of_length_le (by omega)] at hq'
  clear e hi
  dsimp only
  refine seq_go ?_
  refine if_same ?_
  refine ⟨notW r, L, mapA (lnC κ sh) (lnW κ) a, N, P.askF, fun E' hE' => ?_⟩
  refine sorted_N (i := 10) (j := 12) hq' (by omega) hEn rfl (by show 10 < 24; decide) (by decide) fun S hS hSs => ?_
  have eS : E' = S := P.cr hE hE' (by rw [hG]; exact hS) hSs
  subst eS
  refine same_k (same_plain 7 _ (cr_plain hE' (by
    have h1 : (runA (notW r) L (mapA (lnC κ sh) (lnW κ) a) N).length = N + 1 := wAnts_length _
    unfold prsA
    rw [List.length_map, List.length_zip]; omega))) ?_
  clear hS hSs hE' hG hEn hGl hGg hEl hE hEk
  -- cells stood on most
  dsimp only
  refine seq_go ?_
  refine ⟨notW r, L, mapA (lnC κ sh) (lnW κ) a, N, P.askF, fun m' u' hm' => ?_⟩
  refine ⟨_, _, rfl, rfl, ?_⟩
  refine ⟨r, f, a, N, P.askN, fun m u hm => ?_⟩
  refine ⟨_, _, rfl, rfl, ?_⟩
  have em := P.most hm hm'
  subst em
  refine if_tf (d := false) (by rw [xor_true']; simp) (iteF ?_)
  -- a cell near the ant
  refine ⟨_, _, rfl, rfl, _, _, rfl, rfl, t, _, x, y, z, _, rfl, sub_at s5, hT, by omega, ⟨by decide, by decide⟩, fun v1 x y z h1 h1' hT => ?_⟩
  refine ⟨_, _, rfl, rfl, _, _, rfl, rfl, t, _, x, y, z, _, rfl, put_same, hT, by omega, ⟨by decide, by decide⟩, fun v2 x y z h2 h2' hT => ?_⟩
  rw [put_put]
  have s6 := sub_upd (o' := tinL x y z) s5
  generalize put M6 t (tinL x y z) = M7 at s6
  refine ⟨two_le, _, rfl, ?_⟩
  have hnr := ha.near
  generalize hc1 : a.c.1 + v1 - 2 = c1
  generalize hc2 : a.c.2 + v2 - 2 = c2
  have hbd : Bd 4 (c1, c2) := by
    obtain ⟨⟨n1, n2⟩, n3, n4⟩ := hnr
    exact ⟨⟨by show -4 ≤ c1; omega, by show c1 ≤ 4; omega⟩, by show -4 ≤ c2; omega, by show c2 ≤ 4; omega⟩
  have hco : CellOk (c1, c2) := hbd.cell (by decide)
  have hcl : CellOk (lnC κ sh (c1, c2)) := line_ok P.sb hbd (by decide)
  refine ⟨κ, sh, (c1, c2), rfl, ⟨by omega, by omega⟩, hco, _, rfl, ?_⟩
  -- turns on it
  dsimp only
  refine seq_go ?_
  refine if_same ?_
  refine ⟨notW r, _, L, mapA (lnC κ sh) (lnW κ) a, N, lnC κ sh (c1, c2), rfl, P.ruN, P.far, by omega, hcl, ?_⟩
  refine ⟨r, _, f, a, N, (c1, c2), rfl, hr, P.st, by omega, hco, ?_⟩
  have hol : (onC (trW r id (f, a) N) (c1, c2)).length ≤ 200 := by
    unfold onC
    rw [List.length_map]
    have := List.length_filter_le (fun p : Cell × Bool => decide (p.1 = (c1, c2))) (trW r id (f, a) N)
    rw [trW_length] at this
    omega
  refine ⟨_, rfl, by omega, ?_⟩
  rw [P.word]
  refine same_k (.inr (.inl ⟨_, rfl, rfl⟩)) ?_
  -- rows and columns
  dsimp only
  refine seq_go ?_
  refine ⟨_, _, rfl, rfl, mapA (lnC κ sh) (lnW κ) a, lnC κ sh (c1, c2), rfl, P.far.an, hcl, ?_⟩
  refine ⟨_, _, rfl, rfl, a, (c1, c2), rfl, P.st.an, hco, ?_⟩
  refine ⟨_, rfl, ?_⟩
  have eal := along_line κ sh (a := a) ha.w (c1, c2)
  refine ⟨_, _, rfl, rfl, ?_⟩
  refine ⟨two_le, kS κ, ["x", "y"], rfl, rfl, ?_⟩
  refine if_tf (d := false) (by rw [xor_true', xor_false', rowS_eq, eal, if_neg Bool.false_ne_true, kinds_xy]; simp) (iteF ?_)
  -- moved
  refine ⟨t, _, x, y, z, _, rfl, sub_at s6, hT, by omega, ⟨by decide, by decide⟩, fun q0 x y z g0 g0' hT => ?_⟩
  refine ⟨t, _, x, y, z, _, rfl, put_same, hT, by omega, ⟨by decide, by decide⟩, fun w1 x y z g1 g1' hT => ?_⟩
  rw [put_put]
  refine ⟨t, _, x, y, z, _, rfl, put_same, hT, by omega, ⟨by decide, by decide⟩, fun w2 x y z g2 g2' hT => ?_⟩
  rw [put_put]
  have s7 := sub_upd (o' := tinL x y z) s6
  generalize put M7 t (tinL x y z) = M8 at s7
  refine ⟨two_le, two_le, _, rfl, ?_⟩
  generalize hb1 : w1 - 49 = b1
  generalize hb2 : w2 - 49 = b2
  have hbb : Bd 49 (b1, b2) := ⟨⟨by show -49 ≤ b1; omega, by show b1 ≤ 49; omega⟩, by show -49 ≤ b2; omega, by show b2 ≤ 49; omega⟩
  refine ⟨r, _, f, a, q0, (b1, b2), rfl, hr, P.st, ⟨by omega, by omega⟩, hbb.cell (by decide), fun L2 hL2 hs2 => ⟨_, rfl, ?_⟩⟩
  have hfl2 : FlOk r.length L2 := fl_map hf.fl (fun p hp => mv_ok hbb (hf.near p hp)) hL2 hs2
  have hst2 : StD (eSt L2 (mapA (mvC q0 (b1, b2)) (mvW q0) a)) r.length L2 (mapA (mvC q0 (b1, b2)) (mvW q0) a) :=
    ⟨retag_eSt _ _, plain_eSt (by have := hfl2.len; omega), hfl2, mv_ok hbb ha.near, (mv_mot q0 (b1, b2)).ok _ ha.w⟩
  have ask2 : Asked [.str (eW r), eSt L2 (mapA (mvC q0 (b1, b2)) (mvW q0) a), .int N] r L2 (mapA (mvC q0 (b1, b2)) (mvW q0) a) N := ⟨⟨_, rfl, hst2⟩, hr, by omega⟩
  have hrun2 := runA_mv hr hf.fl ha.w hL2 hs2 N
  refine ⟨r, L2, mapA (mvC q0 (b1, b2)) (mvW q0) a, N, ask2, ?_⟩
  rw [hrun2, goes_map (mv_back q0) P.ways]
  refine ⟨r, L2, mapA (mvC q0 (b1, b2)) (mvW q0) a, N, ask2, fun m2 u2 hm2 => ?_⟩
  refine ⟨_, _, rfl, rfl, ?_⟩
  refine ⟨two_le, fun p4 hp4 => ?_⟩
  refine lst_cut (i := 7) (j := 20) (s := 23) (q := q0) (v := cnt4 ((runA r f a N).tail.map (·.w))) rfl rfl rfl (by decide) (by decide) (by show 23 < 24; decide) ?_
  refine ⟨r, f, a, N, P.askN, fun m3 u3 hm3 => ?_⟩
  refine ⟨_, _, rfl, rfl, ?_⟩
  have em3 : m2 = m3 := by
    rw [hrun2, cells_map] at hm2
    exact most_map (mv_mot q0 (b1, b2)).inj hm3 hm2
  subst em3
  refine ⟨two_le, fun q4 hq4 => ?_⟩
  have hpq4 : p4 ≠ q4 := ne_of_free put_same hq4
  refine ⟨_, _, rfl, same_lists (n := 6) (by rw [put_ne hpq4]; exact put_same) put_same (by show 2 ≤ 1000000; decide) (fun d hd => ?_), ?_⟩
  · rcases List.mem_cons.mp hd with rfl | hd
    · exact plain_eVn 5 _ (by show 4 ≤ 1000000; decide)
    · rw [List.mem_singleton.mp hd]; rfl
  · exact rt_of (h _ x y z (hT.mono (by omega)) (s7.trans ((sub_new hp4).trans (sub_new hq4))))
theorem len__law_lap_one : ∀ ds M k e, sp__law_lap_one ds M k e → ds.length = 1 := by rintro ds M k e ⟨_, _, _, _, _, rfl, _⟩; rfl
end DL
/-! Readings (printed by run.py) and their proofs. -/
namespace DL
open PySem PySem.Spec PyProof.Rows L2
def t_law : DTS := dSeq (dAsg (dCall sp__law_box (dCons (dCall sp__law_cells (dCons (dVar 0) (dCons (dC (.int 1)) (dNil)))) (dCons (dC (.int 0)) (dNil)))) (dgName 1)) (dSeq (dFor (diR1 (dCons (dC (.int 5)) (dNil))) (dgName 2) (dIfS (dNot (dTest (dCall sp__law_lap_one (dCons (dVar 1) (dNil))))) (dRet (dC (.bl false))) (dNext))) (dRet (dCall sp__law_same (dCons (dLst (dCons (dCall sp_goes (dCons (dC (.str "rl")) (dCons (dTup (dCons (dTup (dNil)) (dCons (dTup (dCons (dC (.int 0)) (dCons (dC (.int 0)) (dCons (dC (.int 0)) (dNil))))) (dNil)))) (dCons (dC (.int 6)) (dNil))))) (dCons (dCall sp_goes (dCons (dC (.str "lr")) (dCons (dTup (dCons (dTup (dNil)) (dCons (dTup (dCons (dC (.int 0)) (dCons (dC (.int 0)) (dCons (dC (.int 0)) (dNil))))) (dNil)))) (dCons (dC (.int 6)) (dNil))))) (dCons (dCall sp_goes (dCons (dC (.str "lr")) (dCons (dTup (dCons (dTup (dNil)) (dCons (dTup (dCons (dC (.int 0)) (dCons (dC (.int 0)) (dCons (dC (.int 1)) (dNil))))) (dNil)))) (dCons (dC (.int 6)) (dNil))))) (dNil))))) (dCons (dLst (dCons (dTup (dCons (dC (.int 2)) (dCons (dC (.int 2)) (dCons (dC (.int 1)) (dCons (dC (.int 1)) (dNil)))))) (dCons (dTup (dCons (dC (.int 2)) (dCons (dC (.int 1)) (dCons (dC (.int 1)) (dCons (dC (.int 2)) (dNil)))))) (dCons (dTup (dCons (dC (.int 2)) (dCons (dC (.int 2)) (dCons (dC (.int 1)) (dCons (dC (.int 1)) (dNil)))))) (dNil))))) (dNil))))))

theorem rl_eW : ("rl" : Str) = eW [false, true] := by decide +kernel
theorem lr_eW' : ("lr" : Str) = eW [true, false] := by decide +kernel
def antB : Ant := ⟨(0, 0), 1⟩
theorem ant_okB : AntOk antB := ⟨⟨⟨by decide, by decide⟩, by decide, by decide⟩, by decide, by decide⟩
theorem ant_okH : AntOk homeA := ⟨⟨⟨by decide, by decide⟩, by decide, by decide⟩, by decide, by decide⟩
theorem goes_1 : cnt4 ((runA [false, true] [] homeA 6).tail.map (·.w)) = [2, 2, 1, 1] := by decide +kernel
theorem goes_2 : cnt4 ((runA [true, false] [] homeA 6).tail.map (·.w)) = [2, 1, 1, 2] := by decide +kernel
theorem goes_3 : cnt4 ((runA [true, false] [] antB 6).tail.map (·.w)) = [2, 2, 1, 1] := by decide +kernel
theorem ask_at (r : List Bool) (hr : RuleOk r) (s : Str) (hs : s = eW r) (a : Ant) (ha : AntOk a) : Asked [.str s, .tup [.tup (([] : Floor).map ePr), eA a], .int ((6 : Nat) : Int)] r [] a 6 :=
  ⟨⟨_, by rw [hs], ⟨retag_tSt a (by decide), plain_tSt a (by decide), ⟨by decide, (fun p hp => by cases hp), List.Pairwise.nil⟩, ha⟩⟩, hr, by decide⟩
theorem pure_law77 : ∀ ds M k e, sp_law ds M k e → t_law (endsOf k) (fill 3 ds) M := by
  rintro ds M k e ⟨ns, rfl, hl, h⟩
  have l3 : 3 ≤ sizeLine := le_line (by decide)
  have l4 : 4 ≤ sizeLine := le_line (by decide)
  refine ⟨ns, rfl, hl, fun p i hp => ?_⟩
  refine ⟨p, i, rfl, put_same, fun t x y ht hT => ⟨_, rfl, ?_⟩⟩
  refine ⟨⟨by decide, by decide⟩, ?_⟩
  have s0 : Sub M (put M p (.lst [.int i])) := sub_new hp
  generalize put M p (.lst [.int i]) = M0 at ht s0
  refine ⟨fun i δ M' => ∃ x y z x2, δ = [some (.scl (ns.map D.int)), some (.obj t), x2] ∧ Sub (put M0 t (tinL x y z)) M' ∧ TinV x y z (200 * i), ⟨x, y, 0, none, rfl, Sub.refl _, hT.mono (by omega)⟩, ?_⟩
  rintro i δ M' hi ⟨x, y, z, x2, rfl, s1, hT⟩
  have hrg : (rgD 0 ((5 : Int)).toNat).length = 5 := rgD_length _ _
  rw [hrg] at hi
  refine ⟨trivial, fun d hd => ?_, fun e => ?_⟩
  · refine ⟨_, rfl, ?_⟩
    refine ⟨t, x, y, z, _, rfl, sub_at s1, hT, by omega, fun M2 x y z hT s2 => ?_⟩
    refine iteF ?_
    exact ⟨_, Sub.refl _, x, y, z, some d, rfl, (sub_upd s1).trans s2, hT.mono (by omega)⟩
  · have ra : RuleOk [false, true] := ⟨by decide, by decide⟩
    have rb : RuleOk [true, false] := ⟨by decide, by decide⟩
    have sM : Sub M M' := s0.trans ((sub_new ht).trans s1)
    refine ⟨Nat.zero_le _, l3, two_le, ?_⟩
    refine ⟨[false, true], [], homeA, 6, ask_at _ ra _ rl_eW homeA ant_okH, ?_⟩
    rw [goes_1]
    refine ⟨Nat.zero_le _, l3, two_le, ?_⟩
    refine ⟨[true, false], [], homeA, 6, ask_at _ rb _ lr_eW' homeA ant_okH, ?_⟩
    rw [goes_2]
    refine ⟨Nat.zero_le _, l3, two_le, ?_⟩
    refine ⟨[true, false], [], antB, 6, ask_at _ rb _ lr_eW' antB ant_okB, ?_⟩
    rw [goes_3]
    refine ⟨l3, fun p1 hp1 => ?_⟩
    refine ⟨l4, l4, l4, l3, fun q1 hq1 => ?_⟩
    have hpq : p1 ≠ q1 := ne_of_free put_same hq1
    refine ⟨_, _, rfl, same_lists (n := 6) (xs := [eV [2, 2, 1, 1], eV [2, 1, 1, 2], eV [2, 2, 1, 1]]) (by rw [put_ne hpq]; exact put_same) put_same (by show 3 ≤ 1000000; decide) (fun d hd => ?_), ?_⟩
    · rcases List.mem_cons.mp hd with rfl | hd
      · exact plain_eVn 5 _ (by decide)
      · rcases List.mem_cons.mp hd with rfl | hd
        · exact plain_eVn 5 _ (by decide)
        · rw [List.mem_singleton.mp hd]; exact plain_eVn 5 _ (by decide)
    · exact rt_of (h _ (sM.trans ((sub_new hp1).trans (sub_new hq1))))
theorem len_law77 : ∀ ds M k e, sp_law ds M k e → ds.length = 1 := by rintro ds M k e ⟨_, rfl, _⟩; rfl
end DL
/-! The defs of the text: derivations. -/
namespace DL.K77
open PySem PySem.Spec PyProof.Rows L2 He DL
def top (i : Nat) : Stmt := PySem.Challenge.pw_antstrails_k77_across_sides_reflected.main.body.getD i (.Pass ⟨0, 0, 0, 0⟩)
abbrev s_is_number : Stmt := top 3
abbrev s_is_within : Stmt := top 4
abbrev s_is_long : Stmt := top 5
abbrev s_are_numbers : Stmt := top 6
abbrev s_tupled : Stmt := top 7
abbrev s_sure_within : Stmt := top 8
abbrev s_is_letters : Stmt := top 13
abbrev s_is_rule_in : Stmt := top 14
abbrev s_sure_rule : Stmt := top 15
abbrev s_other_letter : Stmt := top 16
abbrev s_mirrored_rule : Stmt := top 17
abbrev s_is_cell_in : Stmt := top 21
abbrev s_sure_cell : Stmt := top 22
abbrev s_is_floor_in : Stmt := top 23
abbrev s_quarter_turned : Stmt := top 24
abbrev s_turned_in : Stmt := top 25
abbrev s_shifted_in : Stmt := top 26
abbrev s_is_ant_in : Stmt := top 30
abbrev s_sure_ant : Stmt := top 31
abbrev s_is_standing_in : Stmt := top 32
abbrev s_sure_standing : Stmt := top 33
abbrev s_turned_way : Stmt := top 34
abbrev s_gone_on : Stmt := top 35
abbrev s_letter_in : Stmt := top 36
abbrev s_stepped_in : Stmt := top 37
abbrev s_lived : Stmt := top 38
abbrev s_told_counts : Stmt := top 40
abbrev s_lived_by : Stmt := top 41
abbrev s_counted : Stmt := top 42
abbrev s_entered_along : Stmt := top 43
abbrev s_goes : Stmt := top 44
abbrev s_turns_counted : Stmt := top 45
abbrev s_cell_word : Stmt := top 46
abbrev s_entries : Stmt := top 47
abbrev s_crossings : Stmt := top 48
abbrev s_most_entered : Stmt := top 49
abbrev s_moved_in : Stmt := top 51
abbrev s_moved : Stmt := top 52
abbrev s_is_line_in : Stmt := top 57
abbrev s_sure_line : Stmt := top 58
abbrev s_beyond : Stmt := top 59
abbrev s_floor_beyond : Stmt := top 60
abbrev s_cell_beyond : Stmt := top 61
abbrev s_reflected : Stmt := top 62
abbrev s__law_box : Stmt := top 64
abbrev s__law_take : Stmt := top 65
abbrev s__law_cells : Stmt := top 66
abbrev s__law_of : Stmt := top 67
abbrev s__law_same : Stmt := top 68
abbrev s__law_laid : Stmt := top 69
abbrev s__law_rule : Stmt := top 70
abbrev s__law_floor : Stmt := top 71
abbrev s__law_ant : Stmt := top 72
abbrev s__law_stand : Stmt := top 73
abbrev s__law_swapped : Stmt := top 74
abbrev s__law_way : Stmt := top 75
abbrev s__law_lap_one : Stmt := top 76
abbrev s_law : Stmt := top 77
def fnL : List FnD := [fnD "is_number" s_is_number, fnD "is_within" s_is_within, fnD "is_long" s_is_long, fnD "are_numbers" s_are_numbers, fnD "tupled" s_tupled, fnD "sure_within" s_sure_within, fnD "is_letters" s_is_letters, fnD "is_rule_in" s_is_rule_in, fnD "sure_rule" s_sure_rule, fnD "other_letter" s_other_letter, fnD "mirrored_rule" s_mirrored_rule, fnD "is_cell_in" s_is_cell_in, fnD "sure_cell" s_sure_cell, fnD "is_floor_in" s_is_floor_in, fnD "quarter_turned" s_quarter_turned, fnD "turned_in" s_turned_in, fnD "shifted_in" s_shifted_in, fnD "is_ant_in" s_is_ant_in, fnD "sure_ant" s_sure_ant, fnD "is_standing_in" s_is_standing_in, fnD "sure_standing" s_sure_standing, fnD "turned_way" s_turned_way, fnD "gone_on" s_gone_on, fnD "letter_in" s_letter_in, fnD "stepped_in" s_stepped_in, fnD "lived" s_lived, fnD "told_counts" s_told_counts, fnD "lived_by" s_lived_by, fnD "counted" s_counted, fnD "entered_along" s_entered_along, fnD "goes" s_goes, fnD "turns_counted" s_turns_counted, fnD "cell_word" s_cell_word, fnD "entries" s_entries, fnD "crossings" s_crossings, fnD "most_entered" s_most_entered, fnD "moved_in" s_moved_in, fnD "moved" s_moved, fnD "is_line_in" s_is_line_in, fnD "sure_line" s_sure_line, fnD "beyond" s_beyond, fnD "floor_beyond" s_floor_beyond, fnD "cell_beyond" s_cell_beyond, fnD "reflected" s_reflected, fnD "_law_box" s__law_box, fnD "_law_take" s__law_take, fnD "_law_cells" s__law_cells, fnD "_law_of" s__law_of, fnD "_law_same" s__law_same, fnD "_law_laid" s__law_laid, fnD "_law_rule" s__law_rule, fnD "_law_floor" s__law_floor, fnD "_law_ant" s__law_ant, fnD "_law_stand" s__law_stand, fnD "_law_swapped" s__law_swapped, fnD "_law_way" s__law_way, fnD "_law_lap_one" s__law_lap_one, fnD "law" s_law]
def faL : List Fa := [.free "len", .free "abs", .free "int", .free "isinstance", .free "all", .free "any", .free "tuple", .free "list", .free "sorted", .free "max", .free "min", .free "sum", .free "dict", .free "range", .free "enumerate", .free "zip", .free "str", .free "bool", .free "set", .str "LETTERS" "lr", .int "LEAST_LETTERS" 2, .int "MOST_LETTERS" 12, .int "MOST_CELL" 1000000, .int "MOST_PAIRS" 2000, .int "MOST_STEPS" 20000, .int "MOST_LINE" 4000000, .glo "WAYS_BY"]
def ckL (K : PySem.W.Frag) : Bool := konN K "WAYS" c_WAYS && konN K "KINDS" c_KINDS && tabB K (ga K "WAYS_BY") tabW
def tsL : List (Str × List Str) := [("WAYS_BY", ["a", "d", "x", "y"])]
structure Txt (K : PySem.W.Frag) (mg : Str → Option Value) (wd : World) : Prop where
  ex : ∃ h : Heap, K.In h ∧ h.Ns mainGlobals mg ∧ SaysN faL fnL ckL tsL wd K
section
variable {P : Program} {wd : World} {K : PySem.W.Frag} {mg : Str → Option Value} {base : Heap}
theorem Txt.d (T : Txt K mg wd) (i : Nat) {x : Str} {st : Stmt} (hi : fnL[i]? = some (fnD x st)) : DefOk K mg x st := let ⟨_, X, G, c⟩ := T.ex; c.m.def_ X G i hi
theorem Txt.ck (T : Txt K mg wd) : ckL K = true := let ⟨_, _, _, c⟩ := T.ex; c.m.b.2
theorem Txt.n_len (T : Txt K mg wd) : mg "len" = none := let ⟨_, X, G, c⟩ := T.ex; free_ok X G (c.m.fact 0 (f := .free "len") rfl)
theorem Txt.n_abs (T : Txt K mg wd) : mg "abs" = none := let ⟨_, X, G, c⟩ := T.ex; free_ok X G (c.m.fact 1 (f := .free "abs") rfl)
theorem Txt.n_int (T : Txt K mg wd) : mg "int" = none := let ⟨_, X, G, c⟩ := T.ex; free_ok X G (c.m.fact 2 (f := .free "int") rfl)
theorem Txt.n_isinstance (T : Txt K mg wd) : mg "isinstance" = none := let ⟨_, X, G, c⟩ := T.ex; free_ok X G (c.m.fact 3 (f := .free "isinstance") rfl)
theorem Txt.n_all (T : Txt K mg wd) : mg "all" = none := let ⟨_, X, G, c⟩ := T.ex; free_ok X G (c.m.fact 4 (f := .free "all") rfl)
theorem Txt.n_any (T : Txt K mg wd) : mg "any" = none := let ⟨_, X, G, c⟩ := T.ex; free_ok X G (c.m.fact 5 (f := .free "any") rfl)
theorem Txt.n_tuple (T : Txt K mg wd) : mg "tuple" = none := let ⟨_, X, G, c⟩ := T.ex; free_ok X G (c.m.fact 6 (f := .free "tuple") rfl)
theorem Txt.n_list (T : Txt K mg wd) : mg "list" = none := let ⟨_, X, G, c⟩ := T.ex; free_ok X G (c.m.fact 7 (f := .free "list") rfl)
theorem Txt.n_sorted (T : Txt K mg wd) : mg "sorted" = none := let ⟨_, X, G, c⟩ := T.ex; free_ok X G (c.m.fact 8 (f := .free "sorted") rfl)
theorem Txt.n_max (T : Txt K mg wd) : mg "max" = none := let ⟨_, X, G, c⟩ := T.ex; free_ok X G (c.m.fact 9 (f := .free "max") rfl)
theorem Txt.n_min (T : Txt K mg wd) : mg "min" = none := let ⟨_, X, G, c⟩ := T.ex; free_ok X G (c.m.fact 10 (f := .free "min") rfl)
theorem Txt.n_sum (T : Txt K mg wd) : mg "sum" = none := let ⟨_, X, G, c⟩ := T.ex; free_ok X G (c.m.fact 11 (f := .free "sum") rfl)
theorem Txt.n_dict (T : Txt K mg wd) : mg "dict" = none := let ⟨_, X, G, c⟩ := T.ex; free_ok X G (c.m.fact 12 (f := .free "dict") rfl)
theorem Txt.n_range (T : Txt K mg wd) : mg "range" = none := let ⟨_, X, G, c⟩ := T.ex; free_ok X G (c.m.fact 13 (f := .free "range") rfl)
theorem Txt.n_enumerate (T : Txt K mg wd) : mg "enumerate" = none := let ⟨_, X, G, c⟩ := T.ex; free_ok X G (c.m.fact 14 (f := .free "enumerate") rfl)
theorem Txt.n_zip (T : Txt K mg wd) : mg "zip" = none := let ⟨_, X, G, c⟩ := T.ex; free_ok X G (c.m.fact 15 (f := .free "zip") rfl)
theorem Txt.n_str (T : Txt K mg wd) : mg "str" = none := let ⟨_, X, G, c⟩ := T.ex; free_ok X G (c.m.fact 16 (f := .free "str") rfl)
theorem Txt.n_bool (T : Txt K mg wd) : mg "bool" = none := let ⟨_, X, G, c⟩ := T.ex; free_ok X G (c.m.fact 17 (f := .free "bool") rfl)
theorem Txt.n_set (T : Txt K mg wd) : mg "set" = none := let ⟨_, X, G, c⟩ := T.ex; free_ok X G (c.m.fact 18 (f := .free "set") rfl)
theorem Txt.c_LETTERS (T : Txt K mg wd) : ∃ t, mg "LETTERS" = some (.str "lr" t) := let ⟨_, X, G, c⟩ := T.ex; str_ok X G (c.m.fact 19 (f := .str "LETTERS" "lr") rfl)
theorem Txt.c_LEAST_LETTERS (T : Txt K mg wd) : ∃ t, mg "LEAST_LETTERS" = some (.int 2 t) := let ⟨_, X, G, c⟩ := T.ex; int_ok X G (c.m.fact 20 (f := .int "LEAST_LETTERS" 2) rfl)
theorem Txt.c_MOST_LETTERS (T : Txt K mg wd) : ∃ t, mg "MOST_LETTERS" = some (.int 12 t) := let ⟨_, X, G, c⟩ := T.ex; int_ok X G (c.m.fact 21 (f := .int "MOST_LETTERS" 12) rfl)
theorem Txt.c_MOST_CELL (T : Txt K mg wd) : ∃ t, mg "MOST_CELL" = some (.int 1000000 t) := let ⟨_, X, G, c⟩ := T.ex; int_ok X G (c.m.fact 22 (f := .int "MOST_CELL" 1000000) rfl)
theorem Txt.c_MOST_PAIRS (T : Txt K mg wd) : ∃ t, mg "MOST_PAIRS" = some (.int 2000 t) := let ⟨_, X, G, c⟩ := T.ex; int_ok X G (c.m.fact 23 (f := .int "MOST_PAIRS" 2000) rfl)
theorem Txt.c_MOST_STEPS (T : Txt K mg wd) : ∃ t, mg "MOST_STEPS" = some (.int 20000 t) := let ⟨_, X, G, c⟩ := T.ex; int_ok X G (c.m.fact 24 (f := .int "MOST_STEPS" 20000) rfl)
theorem Txt.c_MOST_LINE (T : Txt K mg wd) : ∃ t, mg "MOST_LINE" = some (.int 4000000 t) := let ⟨_, X, G, c⟩ := T.ex; int_ok X G (c.m.fact 25 (f := .int "MOST_LINE" 4000000) rfl)
theorem Txt.kk_WAYS (T : Txt K mg wd) : konN K "WAYS" c_WAYS = true := (ba (ba T.ck).1).1
theorem Txt.g_WAYS (T : Txt K mg wd) : mg "WAYS" = some (.ref (ga K "WAYS")) := let ⟨_, X, G, _⟩ := T.ex; (konN_ok X G T.kk_WAYS).1
theorem Txt.k_WAYS (T : Txt K mg wd) : ∀ H, Dn K H (.ref (ga K "WAYS")) (konD c_WAYS) := let ⟨_, X, G, _⟩ := T.ex; (konN_ok X G T.kk_WAYS).2
theorem Txt.kk_KINDS (T : Txt K mg wd) : konN K "KINDS" c_KINDS = true := (ba (ba T.ck).1).2
theorem Txt.g_KINDS (T : Txt K mg wd) : mg "KINDS" = some (.ref (ga K "KINDS")) := let ⟨_, X, G, _⟩ := T.ex; (konN_ok X G T.kk_KINDS).1
theorem Txt.k_KINDS (T : Txt K mg wd) : ∀ H, Dn K H (.ref (ga K "KINDS")) (konD c_KINDS) := let ⟨_, X, G, _⟩ := T.ex; (konN_ok X G T.kk_KINDS).2
theorem Txt.t_WAYS_BY (T : Txt K mg wd) : KTab K wd (ga K "WAYS_BY") v_WAYS_BY := let ⟨_, _, _, c⟩ := T.ex; tabB_ok (c.tab 0 rfl) ((ba T.ck).2)
theorem Txt.g_WAYS_BY (T : Txt K mg wd) : mg "WAYS_BY" = some (.ref (ga K "WAYS_BY")) := let ⟨_, X, G, c⟩ := T.ex; glo_ok X G (c.m.fact 26 (f := .glo "WAYS_BY") rfl)
abbrev CC (K : PySem.W.Frag) : Addr := 0
theorem sc_is_number : FnScope ["thing"] ["thing"] (defScope s_is_number) := ⟨rfl, rfl, rfl, by decide +kernel, rfl, by decide +kernel, by decide +kernel⟩
abbrev N_is_number : List Str := ["thing"]
theorem ok_is_number (T : Txt K mg wd) : FnX P wd K mg base CX0 1 "is_number" ["thing"] (CC K) sp_is_number := by
  refine fnx_mk (T.d 0 rfl) (fun fd F => fn_ok (N := N_is_number) F sc_is_number t_is_number len_is_number pure_is_number fun cdv A outer s H E hr => ?_) (fun fd F => F.binds fun _ _ _ _ _ _ us hl => match us, hl with | [_], _ => rfl)
  have nd := sc_is_number.nd
  have hu1 := hu_of hr
  exact (dss_one (ds_ret (de_and (de_callB call_isi (cd_isi "int") (by rfl) T.n_isinstance (by decide +kernel) (da_cons (de_var (pv 0)) (da_cons (de_const (pe_bltn (v := .ty "int") (by rfl) T.n_int (by decide +kernel) rfl) fun _ => .ty _) da_nil))) (de_one (de_not (de_callB call_isi (cd_isi "bool") (by rfl) T.n_isinstance (by decide +kernel) (da_cons (de_var (pv 0)) (da_cons (de_const (pe_bltn (v := .ty "bool") (by rfl) T.n_bool (by decide +kernel) rfl) fun _ => .ty _) da_nil))))))))
theorem sc_is_within : FnScope ["thing", "least", "most"] ["thing", "least", "most"] (defScope s_is_within) := ⟨rfl, rfl, rfl, by decide +kernel, rfl, by decide +kernel, by decide +kernel⟩
abbrev N_is_within : List Str := ["thing", "least", "most"]
theorem ok_is_within (T : Txt K mg wd) : FnX P wd K mg base CX0 2 "is_within" ["thing", "least", "most"] (CC K) sp_is_within := by
  refine fnx_mk (T.d 1 rfl) (fun fd F => fn_ok (N := N_is_within) F sc_is_within t_is_within len_is_within pure_is_within fun cdv A outer s H E hr => ?_) (fun fd F => F.binds fun _ _ _ _ _ _ us hl => match us, hl with | [_, _, _], _ => rfl)
  have nd := sc_is_within.nd
  have hu1 := hu_of hr
  exact (dss_one (ds_ret (de_and (de_callF (ok_is_number T) (hr.mono (by decide)) (by rfl) pass0 (da_cons (de_var (pv 0)) da_nil)) (de_one (de_lele (de_var (pv 1)) (de_var (pv 0)) (de_var (pv 2)))))))
theorem sc_is_long : FnScope ["thing", "length"] ["thing", "length"] (defScope s_is_long) := ⟨rfl, rfl, rfl, by decide +kernel, rfl, by decide +kernel, by decide +kernel⟩
abbrev N_is_long : List Str := ["thing", "length"]
theorem ok_is_long (T : Txt K mg wd) : FnX P wd K mg base CX0 1 "is_long" ["thing", "length"] (CC K) sp_is_long := by
  refine fnx_mk (T.d 2 rfl) (fun fd F => fn_ok (N := N_is_long) F sc_is_long t_is_long len_is_long pure_is_long fun cdv A outer s H E hr => ?_) (fun fd F => F.binds fun _ _ _ _ _ _ us hl => match us, hl with | [_, _], _ => rfl)
  have nd := sc_is_long.nd
  have hu1 := hu_of hr
  exact (dss_one (ds_ret (de_and (de_callB call_isi (cd_isi "tuple") (by rfl) T.n_isinstance (by decide +kernel) (da_cons (de_var (pv 0)) (da_cons (de_const (pe_bltn (v := .ty "tuple") (by rfl) T.n_tuple (by decide +kernel) rfl) fun _ => .ty _) da_nil))) (de_one (de_eq hr.units (de_callB call_lenA cd_len (by rfl) T.n_len PySem.boot_len (da_cons (de_var (pv 0)) da_nil)) (de_var (pv 1)))))))
theorem sc_are_numbers : FnScope ["thing", "own"] ["thing"] (defScope s_are_numbers) := ⟨rfl, rfl, rfl, by decide +kernel, rfl, by decide +kernel, by decide +kernel⟩
abbrev N_are_numbers : List Str := ["thing", "own"]
theorem ok_are_numbers (T : Txt K mg wd) : FnX P wd K mg base CX0 2 "are_numbers" ["thing"] (CC K) sp_are_numbers := by
  refine fnx_mk (T.d 3 rfl) (fun fd F => fn_ok (N := N_are_numbers) F sc_are_numbers t_are_numbers len_are_numbers pure_are_numbers fun cdv A outer s H E hr => ?_) (fun fd F => F.binds fun _ _ _ _ _ _ us hl => match us, hl with | [_], _ => rfl)
  have nd := sc_are_numbers.nd
  have hu1 := hu_of hr
  exact (dss_one (ds_ret (de_and (de_callB call_isi (cd_isi "tuple") (by rfl) T.n_isinstance (by decide +kernel) (da_cons (de_var (pv 0)) (da_cons (de_const (pe_bltn (v := .ty "tuple") (by rfl) T.n_tuple (by decide +kernel) rfl) fun _ => .ty _) da_nil))) (de_one (de_callBL (cr_all rfl) ld_all (by rfl) T.n_all (by decide +kernel) (dl_lc (own := [("own", 1)]) (gd := (dgName 1)) rfl nd (di_tup (de_var (pv 0))) (blkOk_by (N := N_are_numbers) (sc := defScope s_are_numbers) (by decide +kernel)) (tg_name (i := 1) (by decide)) (fun _ _ _ _ _ => (pg_name (i := 1) nd rfl (Or.inl rfl))) (fun _ _ _ _ _ => dts_nil) (fun _ _ _ _ _ => (de_callF (ok_is_number T) (hr.mono (by decide)) (by rfl) pass0 (da_cons (de_var (pv 1)) da_nil)))))))))
theorem sc_tupled : FnScope ["value", "own"] ["value"] (defScope s_tupled) := ⟨rfl, rfl, rfl, by decide +kernel, rfl, by decide +kernel, by decide +kernel⟩
abbrev N_tupled : List Str := ["value", "own"]
theorem okN_tupled (T : Txt K mg wd) : ∀ n, FnX P wd K mg base CX0 n "tupled" ["value"] (CC K) (sp_tupled0 n)
  | 0 => fnx_mk (T.d 4 rfl) (fun fd F => fn_no) (fun fd F => F.binds fun _ _ _ _ _ _ us hl => match us, hl with | [_], _ => rfl)
  | n + 1 => by
    have ih := okN_tupled T n
    refine fnx_mk (T.d 4 rfl) (fun fd F => fn_ok (N := N_tupled) F sc_tupled (t_tupled (sp_tupled0 n)) (len_tupled n) (pure_tupled n) fun cdv A outer s H E hr => ?_) (fun fd F => F.binds fun _ _ _ _ _ _ us hl => match us, hl with | [_], _ => rfl)
    have nd := sc_tupled.nd
    have hu1 := hu_of hr
    exact (dss_one (ds_ret (de_if (dt_val (de_callB call_isiT (cd_isi2 "list" "tuple") (by rfl) T.n_isinstance (by decide +kernel) (da_cons (de_var (pv 0)) (da_cons (de_tup (da_cons (de_const (pe_bltn (v := .ty "list") (by rfl) T.n_list (by decide +kernel) rfl) fun _ => .ty _) (da_cons (de_const (pe_bltn (v := .ty "tuple") (by rfl) T.n_tuple (by decide +kernel) rfl) fun _ => .ty _) da_nil))) da_nil)))) (de_callTyL call_tupleA ld_tuple (by rfl) T.n_tuple (by decide +kernel) (dl_lc (own := [("own", 1)]) (gd := (dgName 1)) rfl nd (di_tup (de_var (pv 0))) (blkOk_by (N := N_tupled) (sc := defScope s_tupled) (by decide +kernel)) (tg_name (i := 1) (by decide)) (fun _ _ _ _ _ => (pg_name (i := 1) nd rfl (Or.inl rfl))) (fun _ _ _ _ _ => dts_nil) (fun _ _ _ _ _ => (de_callF ih (hr.mono (by omega)) (by rfl) pass0 (da_cons (de_var (pv 1)) da_nil))))) (de_var (pv 0)))))
theorem ok_tupled (T : Txt K mg wd) : FnX P wd K mg base CX0 8 "tupled" ["value"] (CC K) sp_tupled := okN_tupled T 8
theorem sc_sure_within : FnScope ["thing", "least", "most"] ["thing", "least", "most"] (defScope s_sure_within) := ⟨rfl, rfl, rfl, by decide +kernel, rfl, by decide +kernel, by decide +kernel⟩
abbrev N_sure_within : List Str := ["thing", "least", "most"]
theorem ok_sure_within (T : Txt K mg wd) : FnX P wd K mg base CX0 3 "sure_within" ["thing", "least", "most"] (CC K) sp_sure_within := by
  refine fnx_mk (T.d 5 rfl) (fun fd F => fn_ok (N := N_sure_within) F sc_sure_within t_sure_within len_sure_within pure_sure_within fun cdv A outer s H E hr => ?_) (fun fd F => F.binds fun _ _ _ _ _ _ us hl => match us, hl with | [_, _, _], _ => rfl)
  have nd := sc_sure_within.nd
  have hu1 := hu_of hr
  exact (dss_cons (ds_if (dt_not (dt_val (de_callF (ok_is_within T) (hr.mono (by decide)) (by rfl) pass0 (da_cons (de_var (pv 0)) (da_cons (de_var (pv 1)) (da_cons (de_var (pv 2)) da_nil)))))) (dss_one ds_never) dss_nil) (dss_one (ds_ret (de_var (pv 0)))))
theorem sc_is_letters : FnScope ["thing", "own"] ["thing"] (defScope s_is_letters) := ⟨rfl, rfl, rfl, by decide +kernel, rfl, by decide +kernel, by decide +kernel⟩
abbrev N_is_letters : List Str := ["thing", "own"]
theorem ok_is_letters (T : Txt K mg wd) : FnX P wd K mg base CX0 1 "is_letters" ["thing"] (CC K) sp_is_letters := by
  refine fnx_mk (T.d 6 rfl) (fun fd F => fn_ok (N := N_is_letters) F sc_is_letters t_is_letters len_is_letters pure_is_letters fun cdv A outer s H E hr => ?_) (fun fd F => F.binds fun _ _ _ _ _ _ us hl => match us, hl with | [_], _ => rfl)
  have nd := sc_is_letters.nd
  have hu1 := hu_of hr
  exact (dss_one (ds_ret (de_and (de_callB call_isi (cd_isi "str") (by rfl) T.n_isinstance (by decide +kernel) (da_cons (de_var (pv 0)) (da_cons (de_const (pe_bltn (v := .ty "str") (by rfl) T.n_str (by decide +kernel) rfl) fun _ => .ty _) da_nil))) (de_one (de_callBL (cr_all rfl) ld_all (by rfl) T.n_all (by decide +kernel) (dl_lc (own := [("own", 1)]) (gd := (dgName 1)) rfl nd (di_str (de_var (pv 0))) (blkOk_by (N := N_is_letters) (sc := defScope s_is_letters) (by decide +kernel)) (tg_name (i := 1) (by decide)) (fun _ _ _ _ _ => (pg_name (i := 1) nd rfl (Or.inl rfl))) (fun _ _ _ _ _ => dts_nil) (fun _ _ _ _ _ => (de_inS (de_var (pv 1)) (de_globS T.c_LETTERS (by rfl)) (by rfl)))))))))
theorem sc_is_rule_in : FnScope ["thing"] ["thing"] (defScope s_is_rule_in) := ⟨rfl, rfl, rfl, by decide +kernel, rfl, by decide +kernel, by decide +kernel⟩
abbrev N_is_rule_in : List Str := ["thing"]
theorem ok_is_rule_in (T : Txt K mg wd) : FnX P wd K mg base CX0 2 "is_rule_in" ["thing"] (CC K) sp_is_rule_in := by
  refine fnx_mk (T.d 7 rfl) (fun fd F => fn_ok (N := N_is_rule_in) F sc_is_rule_in t_is_rule_in len_is_rule_in pure_is_rule_in fun cdv A outer s H E hr => ?_) (fun fd F => F.binds fun _ _ _ _ _ _ us hl => match us, hl with | [_], _ => rfl)
  have nd := sc_is_rule_in.nd
  have hu1 := hu_of hr
  exact (dss_one (ds_ret (de_and (de_callF (ok_is_letters T) (hr.mono (by decide)) (by rfl) pass0 (da_cons (de_var (pv 0)) da_nil)) (de_one (de_lele (de_globI T.c_LEAST_LETTERS (by rfl)) (de_callB call_lenA cd_len (by rfl) T.n_len PySem.boot_len (da_cons (de_var (pv 0)) da_nil)) (de_globI T.c_MOST_LETTERS (by rfl)))))))
theorem sc_sure_rule : FnScope ["value"] ["value"] (defScope s_sure_rule) := ⟨rfl, rfl, rfl, by decide +kernel, rfl, by decide +kernel, by decide +kernel⟩
abbrev N_sure_rule : List Str := ["value"]
theorem ok_sure_rule (T : Txt K mg wd) : FnX P wd K mg base CX0 3 "sure_rule" ["value"] (CC K) sp_sure_rule := by
  refine fnx_mk (T.d 8 rfl) (fun fd F => fn_ok (N := N_sure_rule) F sc_sure_rule t_sure_rule len_sure_rule pure_sure_rule fun cdv A outer s H E hr => ?_) (fun fd F => F.binds fun _ _ _ _ _ _ us hl => match us, hl with | [_], _ => rfl)
  have nd := sc_sure_rule.nd
  have hu1 := hu_of hr
  exact (dss_cons (ds_if (dt_not (dt_val (de_callF (ok_is_rule_in T) (hr.mono (by decide)) (by rfl) pass0 (da_cons (de_var (pv 0)) da_nil)))) (dss_one ds_never) dss_nil) (dss_one (ds_ret (de_var (pv 0)))))
theorem sc_other_letter : FnScope ["letter"] ["letter"] (defScope s_other_letter) := ⟨rfl, rfl, rfl, by decide +kernel, rfl, by decide +kernel, by decide +kernel⟩
abbrev N_other_letter : List Str := ["letter"]
theorem ok_other_letter (T : Txt K mg wd) : FnX P wd K mg base CX0 1 "other_letter" ["letter"] (CC K) sp_other_letter := by
  refine fnx_mk (T.d 9 rfl) (fun fd F => fn_ok (N := N_other_letter) F sc_other_letter t_other_letter len_other_letter pure_other_letter fun cdv A outer s H E hr => ?_) (fun fd F => F.binds fun _ _ _ _ _ _ us hl => match us, hl with | [_], _ => rfl)
  have nd := sc_other_letter.nd
  have hu1 := hu_of hr
  exact (dss_one (ds_ret (de_if (dt_eq hr.units (de_var (pv 0)) de_str) de_str de_str)))
theorem sc_mirrored_rule : FnScope ["rule", "own"] ["rule"] (defScope s_mirrored_rule) := ⟨rfl, rfl, rfl, by decide +kernel, rfl, by decide +kernel, by decide +kernel⟩
abbrev N_mirrored_rule : List Str := ["rule", "own"]
theorem ok_mirrored_rule (T : Txt K mg wd) : FnX P wd K mg base CX0 4 "mirrored_rule" ["rule"] (CC K) sp_mirrored_rule := by
  refine fnx_mk (T.d 10 rfl) (fun fd F => fn_ok (N := N_mirrored_rule) F sc_mirrored_rule t_mirrored_rule len_mirrored_rule pure_mirrored_rule fun cdv A outer s H E hr => ?_) (fun fd F => F.binds fun _ _ _ _ _ _ us hl => match us, hl with | [_], _ => rfl)
  have nd := sc_mirrored_rule.nd
  have hu1 := hu_of hr
  exact (dss_one (ds_ret (de_join de_str (dl_lc (own := [("own", 1)]) (gd := (dgName 1)) rfl nd (di_str (de_callF (ok_sure_rule T) (hr.mono (by decide)) (by rfl) pass0 (da_cons (de_var (pv 0)) da_nil))) (blkOk_by (N := N_mirrored_rule) (sc := defScope s_mirrored_rule) (by decide +kernel)) (tg_name (i := 1) (by decide)) (fun _ _ _ _ _ => (pg_name (i := 1) nd rfl (Or.inl rfl))) (fun _ _ _ _ _ => dts_nil) (fun _ _ _ _ _ => (de_callF (ok_other_letter T) (hr.mono (by decide)) (by rfl) pass0 (da_cons (de_var (pv 1)) da_nil)))))))
theorem sc_is_cell_in : FnScope ["thing", "own"] ["thing"] (defScope s_is_cell_in) := ⟨rfl, rfl, rfl, by decide +kernel, rfl, by decide +kernel, by decide +kernel⟩
abbrev N_is_cell_in : List Str := ["thing", "own"]
theorem ok_is_cell_in (T : Txt K mg wd) : FnX P wd K mg base CX0 3 "is_cell_in" ["thing"] (CC K) sp_is_cell_in := by
  refine fnx_mk (T.d 11 rfl) (fun fd F => fn_ok (N := N_is_cell_in) F sc_is_cell_in t_is_cell_in len_is_cell_in pure_is_cell_in fun cdv A outer s H E hr => ?_) (fun fd F => F.binds fun _ _ _ _ _ _ us hl => match us, hl with | [_], _ => rfl)
  have nd := sc_is_cell_in.nd
  have hu1 := hu_of hr
  exact (dss_one (ds_ret (de_and (de_callF (ok_is_long T) (hr.mono (by decide)) (by rfl) pass0 (da_cons (de_var (pv 0)) (da_cons de_int da_nil))) (de_and (de_callF (ok_are_numbers T) (hr.mono (by decide)) (by rfl) pass0 (da_cons (de_var (pv 0)) da_nil)) (de_one (de_callBL (cr_all rfl) ld_all (by rfl) T.n_all (by decide +kernel) (dl_lc (own := [("own", 1)]) (gd := (dgName 1)) rfl nd (di_tup (de_var (pv 0))) (blkOk_by (N := N_is_cell_in) (sc := defScope s_is_cell_in) (by decide +kernel)) (tg_name (i := 1) (by decide)) (fun _ _ _ _ _ => (pg_name (i := 1) nd rfl (Or.inl rfl))) (fun _ _ _ _ _ => dts_nil) (fun _ _ _ _ _ => (de_le (de_callB call_abs cd_abs (by rfl) T.n_abs (by decide +kernel) (da_cons (de_var (pv 1)) da_nil)) (de_globI T.c_MOST_CELL (by rfl)))))))))))
theorem sc_sure_cell : FnScope ["value", "own"] ["value"] (defScope s_sure_cell) := ⟨rfl, rfl, rfl, by decide +kernel, rfl, by decide +kernel, by decide +kernel⟩
abbrev N_sure_cell : List Str := ["value", "own"]
theorem ok_sure_cell (T : Txt K mg wd) : FnX P wd K mg base CX0 9 "sure_cell" ["value"] (CC K) sp_sure_cell := by
  refine fnx_mk (T.d 12 rfl) (fun fd F => fn_ok (N := N_sure_cell) F sc_sure_cell t_sure_cell len_sure_cell pure_sure_cell fun cdv A outer s H E hr => ?_) (fun fd F => F.binds fun _ _ _ _ _ _ us hl => match us, hl with | [_], _ => rfl)
  have nd := sc_sure_cell.nd
  have hu1 := hu_of hr
  exact (dss_cons (ds_set (i := 1) nd rfl (Or.inl rfl) (de_callF (ok_tupled T) (hr.mono (by decide)) (by rfl) pass0 (da_cons (de_var (pv 0)) da_nil))) (dss_cons (ds_if (dt_not (dt_val (de_callF (ok_is_cell_in T) (hr.mono (by decide)) (by rfl) pass0 (da_cons (de_var (pv 1)) da_nil)))) (dss_one ds_never) dss_nil) (dss_one (ds_ret (de_var (pv 1))))))
theorem sc_is_floor_in : FnScope ["rule", "thing", "own", "one", "other"] ["rule", "thing"] (defScope s_is_floor_in) := ⟨rfl, rfl, rfl, by decide +kernel, rfl, by decide +kernel, by decide +kernel⟩
abbrev N_is_floor_in : List Str := ["rule", "thing", "own", "one", "other"]
theorem ok_is_floor_in (T : Txt K mg wd) : FnX P wd K mg base CX0 4 "is_floor_in" ["rule", "thing"] (CC K) sp_is_floor_in := by
  refine fnx_mk (T.d 13 rfl) (fun fd F => fn_ok (N := N_is_floor_in) F sc_is_floor_in t_is_floor_in len_is_floor_in pure_is_floor_in fun cdv A outer s H E hr => ?_) (fun fd F => F.binds fun _ _ _ _ _ _ us hl => match us, hl with | [_, _], _ => rfl)
  have nd := sc_is_floor_in.nd
  have hu1 := hu_of hr
  exact (dss_cons (ds_if (DW.dt (dw_or (dt_not (dt_val (de_callB call_isi (cd_isi "tuple") (by rfl) T.n_isinstance (by decide +kernel) (da_cons (de_var (pv 1)) (da_cons (de_const (pe_bltn (v := .ty "tuple") (by rfl) T.n_tuple (by decide +kernel) rfl) fun _ => .ty _) da_nil))))) (dw_or1 (dt_gt (de_callB call_lenA cd_len (by rfl) T.n_len PySem.boot_len (da_cons (de_var (pv 1)) da_nil)) (de_globI T.c_MOST_PAIRS (by rfl)))))) (dss_one ds_never) dss_nil) (dss_cons (ds_if (dt_not (dt_val (de_callBL (cr_all rfl) ld_all (by rfl) T.n_all (by decide +kernel) (dl_lc (own := [("own", 2)]) (gd := (dgName 2)) rfl nd (di_tup (de_var (pv 1))) (blkOk_by (N := N_is_floor_in) (sc := defScope s_is_floor_in) (by decide +kernel)) (tg_name (i := 2) (by decide)) (fun _ _ _ _ _ => (pg_name (i := 2) nd rfl (Or.inl rfl))) (fun _ _ _ _ _ => dts_nil) (fun _ _ _ _ _ => (de_and (de_callF (ok_is_long T) (hr.mono (by decide)) (by rfl) pass0 (da_cons (de_var (pv 2)) (da_cons de_int da_nil))) (de_and (de_callF (ok_is_cell_in T) (hr.mono (by decide)) (by rfl) pass0 (da_cons (de_ix (de_var (pv 2)) de_int) da_nil)) (de_one (de_callF (ok_is_within T) (hr.mono (by decide)) (by rfl) pass0 (da_cons (de_ix (de_var (pv 2)) de_int) (da_cons de_int (da_cons (de_sub (de_callB call_lenA cd_len (by rfl) T.n_len PySem.boot_len (da_cons (de_var (pv 0)) da_nil)) de_int) da_nil)))))))))))) (dss_one ds_never) dss_nil) (dss_one (ds_ret (de_callBL (cr_all rfl) ld_all (by rfl) T.n_all (by decide +kernel) (dl_lc (own := [("one", 3), ("other", 4)]) (gd := (dgTup 2 (dgCons (dgName 3) (dgCons (dgName 4) dgNil)))) rfl nd (di_zip rfl T.n_zip (da_cons (de_var (pv 1)) (da_cons (de_slice (de_var (pv 1)) (do_some de_int) do_none) da_nil))) (blkOk_by (N := N_is_floor_in) (sc := defScope s_is_floor_in) (by decide +kernel)) (tg_tup (tgs_cons (tg_name (i := 3) (by decide)) (tgs_cons (tg_name (i := 4) (by decide)) tgs_nil))) (fun _ _ _ _ _ => (pg_tup rfl (pgs_cons (pg_name (i := 3) nd rfl (Or.inl rfl)) (pgs_cons (pg_name (i := 4) nd rfl (Or.inl rfl)) pgs_nil)))) (fun _ _ _ _ _ => dts_nil) (fun _ _ _ _ _ => (de_lt hr.units0 (de_ix (de_var (pv 3)) de_int) (de_ix (de_var (pv 4)) de_int)))))))))
theorem sc_quarter_turned : FnScope ["cell", "quarters", "x", "y", "lap"] ["cell", "quarters"] (defScope s_quarter_turned) := ⟨rfl, rfl, rfl, by decide +kernel, rfl, by decide +kernel, by decide +kernel⟩
abbrev N_quarter_turned : List Str := ["cell", "quarters", "x", "y", "lap"]
theorem ok_quarter_turned (T : Txt K mg wd) : FnX P wd K mg base CX0 1 "quarter_turned" ["cell", "quarters"] (CC K) sp_quarter_turned := by
  refine fnx_mk (T.d 14 rfl) (fun fd F => fn_ok (N := N_quarter_turned) F sc_quarter_turned t_quarter_turned len_quarter_turned pure_quarter_turned fun cdv A outer s H E hr => ?_) (fun fd F => F.binds fun _ _ _ _ _ _ us hl => match us, hl with | [_, _], _ => rfl)
  have nd := sc_quarter_turned.nd
  have hu1 := hu_of hr
  exact (dss_cons (ds_asg (vs := [2, 3]) (gd := (dgTup 2 (dgCons (dgName 2) (dgCons (dgName 3) dgNil)))) (de_var (pv 0)) (pg_tup rfl (pgs_cons (pg_name (i := 2) nd rfl (Or.inl rfl)) (pgs_cons (pg_name (i := 3) nd rfl (Or.inl rfl)) pgs_nil))) (tg_tup (tgs_cons (tg_name (i := 2) (by decide)) (tgs_cons (tg_name (i := 3) (by decide)) tgs_nil)))) (dss_cons (ds_for (gd := (dgName 4)) (vs := [4]) PassesOwn.never rfl (di_range1 rfl T.n_range (da_cons (de_mod (de_var (pv 1)) de_int) da_nil)) (pg_name (i := 4) nd rfl (Or.inl rfl)) (tg_name (i := 4) (by decide)) (dss_one (ds_par (i := 2) (j := 3) rfl nd rfl rfl (by decide) rfl rfl (da_cons (de_neg (de_var (pv 3))) (da_cons (de_var (pv 2)) da_nil)) (by rfl)))) (dss_one (ds_ret (de_tup (da_cons (de_var (pv 2)) (da_cons (de_var (pv 3)) da_nil)))))))
theorem sc_turned_in : FnScope ["floor", "quarters", "cell", "colour"] ["floor", "quarters"] (defScope s_turned_in) := ⟨rfl, rfl, rfl, by decide +kernel, rfl, by decide +kernel, by decide +kernel⟩
abbrev N_turned_in : List Str := ["floor", "quarters", "cell", "colour"]
theorem ok_turned_in (T : Txt K mg wd) : FnX P wd K mg base CX0 2 "turned_in" ["floor", "quarters"] (CC K) sp_turned_in := by
  refine fnx_mk (T.d 15 rfl) (fun fd F => fn_ok (N := N_turned_in) F sc_turned_in t_turned_in len_turned_in pure_turned_in fun cdv A outer s H E hr => ?_) (fun fd F => F.binds fun _ _ _ _ _ _ us hl => match us, hl with | [_, _], _ => rfl)
  have nd := sc_turned_in.nd
  have hu1 := hu_of hr
  exact (dss_one (ds_ret (de_callTyL call_tupleA ld_tuple (by rfl) T.n_tuple (by decide +kernel) (dl_sorted hr.units (by rfl) T.n_sorted (by decide +kernel) (dl_lc (own := [("cell", 2), ("colour", 3)]) (gd := (dgTup 2 (dgCons (dgName 2) (dgCons (dgName 3) dgNil)))) rfl nd (di_tup (de_var (pv 0))) (blkOk_by (N := N_turned_in) (sc := defScope s_turned_in) (by decide +kernel)) (tg_tup (tgs_cons (tg_name (i := 2) (by decide)) (tgs_cons (tg_name (i := 3) (by decide)) tgs_nil))) (fun _ _ _ _ _ => (pg_tup rfl (pgs_cons (pg_name (i := 2) nd rfl (Or.inl rfl)) (pgs_cons (pg_name (i := 3) nd rfl (Or.inl rfl)) pgs_nil)))) (fun _ _ _ _ _ => dts_nil) (fun _ _ _ _ _ => (de_tup (da_cons (de_callF (ok_quarter_turned T) (hr.mono (by decide)) (by rfl) pass0 (da_cons (de_var (pv 2)) (da_cons (de_var (pv 1)) da_nil))) (da_cons (de_var (pv 3)) da_nil)))))))))
theorem sc_shifted_in : FnScope ["floor", "by", "cell", "colour"] ["floor", "by"] (defScope s_shifted_in) := ⟨rfl, rfl, rfl, by decide +kernel, rfl, by decide +kernel, by decide +kernel⟩
abbrev N_shifted_in : List Str := ["floor", "by", "cell", "colour"]
theorem ok_shifted_in (T : Txt K mg wd) : FnX P wd K mg base CX0 1 "shifted_in" ["floor", "by"] (CC K) sp_shifted_in := by
  refine fnx_mk (T.d 16 rfl) (fun fd F => fn_ok (N := N_shifted_in) F sc_shifted_in t_shifted_in len_shifted_in pure_shifted_in fun cdv A outer s H E hr => ?_) (fun fd F => F.binds fun _ _ _ _ _ _ us hl => match us, hl with | [_, _], _ => rfl)
  have nd := sc_shifted_in.nd
  have hu1 := hu_of hr
  exact (dss_one (ds_ret (de_callTyL call_tupleA ld_tuple (by rfl) T.n_tuple (by decide +kernel) (dl_lc (own := [("cell", 2), ("colour", 3)]) (gd := (dgTup 2 (dgCons (dgName 2) (dgCons (dgName 3) dgNil)))) rfl nd (di_tup (de_var (pv 0))) (blkOk_by (N := N_shifted_in) (sc := defScope s_shifted_in) (by decide +kernel)) (tg_tup (tgs_cons (tg_name (i := 2) (by decide)) (tgs_cons (tg_name (i := 3) (by decide)) tgs_nil))) (fun _ _ _ _ _ => (pg_tup rfl (pgs_cons (pg_name (i := 2) nd rfl (Or.inl rfl)) (pgs_cons (pg_name (i := 3) nd rfl (Or.inl rfl)) pgs_nil)))) (fun _ _ _ _ _ => dts_nil) (fun _ _ _ _ _ => (de_tup (da_cons (de_tup (da_cons (de_add (de_ix (de_var (pv 2)) de_int) (de_ix (de_var (pv 1)) de_int)) (da_cons (de_add (de_ix (de_var (pv 2)) de_int) (de_ix (de_var (pv 1)) de_int)) da_nil))) (da_cons (de_var (pv 3)) da_nil))))))))
theorem sc_is_ant_in : FnScope ["thing"] ["thing"] (defScope s_is_ant_in) := ⟨rfl, rfl, rfl, by decide +kernel, rfl, by decide +kernel, by decide +kernel⟩
abbrev N_is_ant_in : List Str := ["thing"]
theorem ok_is_ant_in (T : Txt K mg wd) : FnX P wd K mg base CX0 4 "is_ant_in" ["thing"] (CC K) sp_is_ant_in := by
  refine fnx_mk (T.d 17 rfl) (fun fd F => fn_ok (N := N_is_ant_in) F sc_is_ant_in t_is_ant_in len_is_ant_in pure_is_ant_in fun cdv A outer s H E hr => ?_) (fun fd F => F.binds fun _ _ _ _ _ _ us hl => match us, hl with | [_], _ => rfl)
  have nd := sc_is_ant_in.nd
  have hu1 := hu_of hr
  exact (dss_one (ds_ret (de_and (de_callF (ok_is_long T) (hr.mono (by decide)) (by rfl) pass0 (da_cons (de_var (pv 0)) (da_cons de_int da_nil))) (de_and (de_callF (ok_is_cell_in T) (hr.mono (by decide)) (by rfl) pass0 (da_cons (de_slice (de_var (pv 0)) do_none (do_some de_int)) da_nil)) (de_one (de_callF (ok_is_within T) (hr.mono (by decide)) (by rfl) pass0 (da_cons (de_ix (de_var (pv 0)) de_int) (da_cons de_int (da_cons de_int da_nil)))))))))
theorem sc_sure_ant : FnScope ["value", "own"] ["value"] (defScope s_sure_ant) := ⟨rfl, rfl, rfl, by decide +kernel, rfl, by decide +kernel, by decide +kernel⟩
abbrev N_sure_ant : List Str := ["value", "own"]
theorem ok_sure_ant (T : Txt K mg wd) : FnX P wd K mg base CX0 9 "sure_ant" ["value"] (CC K) sp_sure_ant := by
  refine fnx_mk (T.d 18 rfl) (fun fd F => fn_ok (N := N_sure_ant) F sc_sure_ant t_sure_ant len_sure_ant pure_sure_ant fun cdv A outer s H E hr => ?_) (fun fd F => F.binds fun _ _ _ _ _ _ us hl => match us, hl with | [_], _ => rfl)
  have nd := sc_sure_ant.nd
  have hu1 := hu_of hr
  exact (dss_cons (ds_set (i := 1) nd rfl (Or.inl rfl) (de_callF (ok_tupled T) (hr.mono (by decide)) (by rfl) pass0 (da_cons (de_var (pv 0)) da_nil))) (dss_cons (ds_if (dt_not (dt_val (de_callF (ok_is_ant_in T) (hr.mono (by decide)) (by rfl) pass0 (da_cons (de_var (pv 1)) da_nil)))) (dss_one ds_never) dss_nil) (dss_one (ds_ret (de_var (pv 1))))))
theorem sc_is_standing_in : FnScope ["rule", "thing"] ["rule", "thing"] (defScope s_is_standing_in) := ⟨rfl, rfl, rfl, by decide +kernel, rfl, by decide +kernel, by decide +kernel⟩
abbrev N_is_standing_in : List Str := ["rule", "thing"]
theorem ok_is_standing_in (T : Txt K mg wd) : FnX P wd K mg base CX0 5 "is_standing_in" ["rule", "thing"] (CC K) sp_is_standing_in := by
  refine fnx_mk (T.d 19 rfl) (fun fd F => fn_ok (N := N_is_standing_in) F sc_is_standing_in t_is_standing_in len_is_standing_in pure_is_standing_in fun cdv A outer s H E hr => ?_) (fun fd F => F.binds fun _ _ _ _ _ _ us hl => match us, hl with | [_, _], _ => rfl)
  have nd := sc_is_standing_in.nd
  have hu1 := hu_of hr
  exact (dss_one (ds_ret (de_and (de_callF (ok_is_long T) (hr.mono (by decide)) (by rfl) pass0 (da_cons (de_var (pv 1)) (da_cons de_int da_nil))) (de_and (de_callF (ok_is_floor_in T) (hr.mono (by decide)) (by rfl) pass0 (da_cons (de_var (pv 0)) (da_cons (de_ix (de_var (pv 1)) de_int) da_nil))) (de_one (de_callF (ok_is_ant_in T) (hr.mono (by decide)) (by rfl) pass0 (da_cons (de_ix (de_var (pv 1)) de_int) da_nil)))))))
theorem sc_sure_standing : FnScope ["rule", "value", "own"] ["rule", "value"] (defScope s_sure_standing) := ⟨rfl, rfl, rfl, by decide +kernel, rfl, by decide +kernel, by decide +kernel⟩
abbrev N_sure_standing : List Str := ["rule", "value", "own"]
theorem ok_sure_standing (T : Txt K mg wd) : FnX P wd K mg base CX0 9 "sure_standing" ["rule", "value"] (CC K) sp_sure_standing := by
  refine fnx_mk (T.d 20 rfl) (fun fd F => fn_ok (N := N_sure_standing) F sc_sure_standing t_sure_standing len_sure_standing pure_sure_standing fun cdv A outer s H E hr => ?_) (fun fd F => F.binds fun _ _ _ _ _ _ us hl => match us, hl with | [_, _], _ => rfl)
  have nd := sc_sure_standing.nd
  have hu1 := hu_of hr
  exact (dss_cons (ds_set (i := 2) nd rfl (Or.inl rfl) (de_callF (ok_tupled T) (hr.mono (by decide)) (by rfl) pass0 (da_cons (de_var (pv 1)) da_nil))) (dss_cons (ds_if (dt_not (dt_val (de_callF (ok_is_standing_in T) (hr.mono (by decide)) (by rfl) pass0 (da_cons (de_var (pv 0)) (da_cons (de_var (pv 2)) da_nil))))) (dss_one ds_never) dss_nil) (dss_one (ds_ret (de_var (pv 2))))))
theorem sc_turned_way : FnScope ["way", "letter"] ["way", "letter"] (defScope s_turned_way) := ⟨rfl, rfl, rfl, by decide +kernel, rfl, by decide +kernel, by decide +kernel⟩
abbrev N_turned_way : List Str := ["way", "letter"]
theorem ok_turned_way (T : Txt K mg wd) : FnX P wd K mg base CX0 1 "turned_way" ["way", "letter"] (CC K) sp_turned_way := by
  refine fnx_mk (T.d 21 rfl) (fun fd F => fn_ok (N := N_turned_way) F sc_turned_way t_turned_way len_turned_way pure_turned_way fun cdv A outer s H E hr => ?_) (fun fd F => F.binds fun _ _ _ _ _ _ us hl => match us, hl with | [_, _], _ => rfl)
  have nd := sc_turned_way.nd
  have hu1 := hu_of hr
  exact (dss_one (ds_ret (de_if (dt_eq hr.units (de_var (pv 1)) de_str) (de_mod (de_add (de_var (pv 0)) de_int) de_int) (de_mod (de_add (de_var (pv 0)) de_int) de_int))))
theorem sc_gone_on : FnScope ["cell", "way"] ["cell", "way"] (defScope s_gone_on) := ⟨rfl, rfl, rfl, by decide +kernel, rfl, by decide +kernel, by decide +kernel⟩
abbrev N_gone_on : List Str := ["cell", "way"]
theorem ok_gone_on (T : Txt K mg wd) : FnX P wd K mg base CX0 1 "gone_on" ["cell", "way"] (CC K) sp_gone_on := by
  refine fnx_mk (T.d 22 rfl) (fun fd F => fn_ok (N := N_gone_on) F sc_gone_on t_gone_on len_gone_on pure_gone_on fun cdv A outer s H E hr => ?_) (fun fd F => F.binds fun _ _ _ _ _ _ us hl => match us, hl with | [_, _], _ => rfl)
  have nd := sc_gone_on.nd
  have hu1 := hu_of hr
  exact (dss_one (ds_ret (de_tup (da_cons (de_add (de_ix (de_var (pv 0)) de_int) (de_ix (de_ix (de_globA T.g_WAYS T.k_WAYS (by rfl)) (de_var (pv 1))) de_int)) (da_cons (de_add (de_ix (de_var (pv 0)) de_int) (de_ix (de_ix (de_globA T.g_WAYS T.k_WAYS (by rfl)) (de_var (pv 1))) de_int)) (da_cons (de_var (pv 1)) da_nil))))))
theorem sc_letter_in : FnScope ["rule", "colours", "ant"] ["rule", "colours", "ant"] (defScope s_letter_in) := ⟨rfl, rfl, rfl, by decide +kernel, rfl, by decide +kernel, by decide +kernel⟩
abbrev N_letter_in : List Str := ["rule", "colours", "ant"]
theorem ok_letter_in (T : Txt K mg wd) : FnX P wd K mg base CX0 1 "letter_in" ["rule", "colours", "ant"] (CC K) sp_letter_in := by
  refine fnx_mk (T.d 23 rfl) (fun fd F => fn_ok (N := N_letter_in) F sc_letter_in t_letter_in len_letter_in pure_letter_in fun cdv A outer s H E hr => ?_) (fun fd F => F.binds fun _ _ _ _ _ _ us hl => match us, hl with | [_, _, _], _ => rfl)
  have nd := sc_letter_in.nd
  have hu1 := hu_of hr
  exact (dss_one (ds_ret (de_ix (de_var (pv 0)) (de_get2 hu1 (de_var (pv 1)) (de_slice (de_var (pv 2)) do_none (do_some de_int)) de_int ⟨rfl, rfl, rfl, rfl⟩))))
theorem sc_stepped_in : FnScope ["rule", "colours", "ant", "cell", "colour"] ["rule", "colours", "ant"] (defScope s_stepped_in) := ⟨rfl, rfl, rfl, by decide +kernel, rfl, by decide +kernel, by decide +kernel⟩
abbrev N_stepped_in : List Str := ["rule", "colours", "ant", "cell", "colour"]
theorem ok_stepped_in (T : Txt K mg wd) : FnX P wd K mg base CX0 2 "stepped_in" ["rule", "colours", "ant"] (CC K) sp_stepped_in := by
  refine fnx_mk (T.d 24 rfl) (fun fd F => fn_ok (N := N_stepped_in) F sc_stepped_in t_stepped_in len_stepped_in pure_stepped_in fun cdv A outer s H E hr => ?_) (fun fd F => F.binds fun _ _ _ _ _ _ us hl => match us, hl with | [_, _, _], _ => rfl)
  have nd := sc_stepped_in.nd
  have hu1 := hu_of hr
  exact (dss_cons (ds_set (i := 3) nd rfl (Or.inl rfl) (de_slice (de_var (pv 2)) do_none (do_some de_int))) (dss_cons (ds_set (i := 4) nd rfl (Or.inl rfl) (de_get2 hu1 (de_var (pv 1)) (de_var (pv 3)) de_int ⟨rfl, rfl, rfl, rfl⟩)) (dss_cons (ds_putI hu1 (de_var (pv 1)) (de_var (pv 3)) (de_mod (de_add (de_var (pv 4)) de_int) (de_callB call_lenA cd_len (by rfl) T.n_len PySem.boot_len (da_cons (de_var (pv 0)) da_nil)))) (dss_one (ds_ret (de_callF (ok_gone_on T) (hr.mono (by decide)) (by rfl) pass0 (da_cons (de_var (pv 3)) (da_cons (de_callF (ok_turned_way T) (hr.mono (by decide)) (by rfl) pass0 (da_cons (de_ix (de_var (pv 2)) de_int) (da_cons (de_ix (de_var (pv 0)) (de_var (pv 4))) da_nil))) da_nil))))))))
theorem sc_lived : FnScope ["rule", "standing", "many", "colours", "ant", "letters", "ants", "lap"] ["rule", "standing", "many"] (defScope s_lived) := ⟨rfl, rfl, rfl, by decide +kernel, rfl, by decide +kernel, by decide +kernel⟩
abbrev N_lived : List Str := ["rule", "standing", "many", "colours", "ant", "letters", "ants", "lap"]
theorem ok_lived (T : Txt K mg wd) : FnX P wd K mg base CX0 3 "lived" ["rule", "standing", "many"] (CC K) sp_lived := by
  refine fnx_mk (T.d 25 rfl) (fun fd F => fn_ok (N := N_lived) F sc_lived t_lived len_lived pure_lived fun cdv A outer s H E hr => ?_) (fun fd F => F.binds fun _ _ _ _ _ _ us hl => match us, hl with | [_, _, _], _ => rfl)
  have nd := sc_lived.nd
  have hu1 := hu_of hr
  exact (dss_cons (ds_par (i := 3) (j := 4) rfl nd rfl rfl (by decide) rfl rfl (da_cons (de_callTy (call_dictTT rfl hr.units) cd_dictTT (by rfl) T.n_dict (by decide +kernel) (da_cons (de_ix (de_var (pv 1)) de_int) da_nil)) (da_cons (de_ix (de_var (pv 1)) de_int) da_nil)) (by rfl)) (dss_cons (ds_par (i := 5) (j := 6) rfl nd rfl rfl (by decide) rfl rfl (da_cons (de_lst da_nil) (da_cons (de_lst (da_cons (de_var (pv 4)) da_nil)) da_nil)) (by rfl)) (dss_cons (ds_for (gd := (dgName 7)) (vs := [7]) PassesOwn.never rfl (di_range1 rfl T.n_range (da_cons (de_var (pv 2)) da_nil)) (pg_name (i := 7) nd rfl (Or.inl rfl)) (tg_name (i := 7) (by decide)) (dss_cons (ds_expr (de_append (de_var (pv 5)) (de_callF (ok_letter_in T) (hr.mono (by decide)) (by rfl) pass0 (da_cons (de_var (pv 0)) (da_cons (de_var (pv 3)) (da_cons (de_var (pv 4)) da_nil)))))) (dss_cons (ds_set (i := 4) nd rfl (Or.inl rfl) (de_callF (ok_stepped_in T) (hr.mono (by decide)) (by rfl) pass0 (da_cons (de_var (pv 0)) (da_cons (de_var (pv 3)) (da_cons (de_var (pv 4)) da_nil))))) (dss_one (ds_expr (de_append (de_var (pv 6)) (de_var (pv 4)))))))) (dss_one (ds_ret (de_tup (da_cons (de_var (pv 5)) (da_cons (de_var (pv 6)) (da_cons (de_var (pv 3)) da_nil)))))))))
theorem sc_told_counts : FnScope ["counts", "own"] ["counts"] (defScope s_told_counts) := ⟨rfl, rfl, rfl, by decide +kernel, rfl, by decide +kernel, by decide +kernel⟩
abbrev N_told_counts : List Str := ["counts", "own"]
theorem ok_told_counts (T : Txt K mg wd) : FnX P wd K mg base CX0 1 "told_counts" ["counts"] (CC K) sp_told_counts := by
  refine fnx_mk (T.d 26 rfl) (fun fd F => fn_ok (N := N_told_counts) F sc_told_counts t_told_counts len_told_counts pure_told_counts fun cdv A outer s H E hr => ?_) (fun fd F => F.binds fun _ _ _ _ _ _ us hl => match us, hl with | [_], _ => rfl)
  have nd := sc_told_counts.nd
  have hu1 := hu_of hr
  exact (dss_one (ds_ret (de_callTyL call_tupleA ld_tuple (by rfl) T.n_tuple (by decide +kernel) (dl_sorted hr.units (by rfl) T.n_sorted (by decide +kernel) (dl_lockA (dl_lc (own := [("own", 1)]) (gd := (dgName 1)) rfl nd (di_keysA (de_var (pv 0))) (blkOk_by (N := N_told_counts) (sc := defScope s_told_counts) (by decide +kernel)) (tg_name (i := 1) (by decide)) (fun _ _ _ _ _ => (pg_name (i := 1) nd rfl (Or.inl rfl))) (fun _ _ _ _ _ => dts_nil) (fun _ _ _ _ _ => (de_tup (da_cons (de_var (pv 1)) (da_cons (de_getIA hr.units (de_var (pv 0)) (de_var (pv 1))) da_nil))))))))))
theorem sc_lived_by : FnScope ["rule", "standing", "many", "own", "told", "letters", "ants", "colours"] ["rule", "standing", "many"] (defScope s_lived_by) := ⟨rfl, rfl, rfl, by decide +kernel, rfl, by decide +kernel, by decide +kernel⟩
abbrev N_lived_by : List Str := ["rule", "standing", "many", "own", "told", "letters", "ants", "colours"]
theorem ok_lived_by (T : Txt K mg wd) : FnX P wd K mg base CX0 10 "lived_by" ["rule", "standing", "many"] (CC K) sp_lived_by := by
  refine fnx_mk (T.d 27 rfl) (fun fd F => fn_ok (N := N_lived_by) F sc_lived_by t_lived_by len_lived_by pure_lived_by fun cdv A outer s H E hr => ?_) (fun fd F => F.binds fun _ _ _ _ _ _ us hl => match us, hl with | [_, _, _], _ => rfl)
  have nd := sc_lived_by.nd
  have hu1 := hu_of hr
  exact (dss_cons (ds_set (i := 3) nd rfl (Or.inl rfl) (de_callF (ok_sure_rule T) (hr.mono (by decide)) (by rfl) pass0 (da_cons (de_var (pv 0)) da_nil))) (dss_cons (ds_set (i := 4) nd rfl (Or.inl rfl) (de_callF (ok_sure_standing T) (hr.mono (by decide)) (by rfl) pass0 (da_cons (de_var (pv 3)) (da_cons (de_var (pv 1)) da_nil)))) (dss_cons (ds_asg (vs := [5, 6, 7]) (gd := (dgTup 3 (dgCons (dgName 5) (dgCons (dgName 6) (dgCons (dgName 7) dgNil))))) (de_callF (ok_lived T) (hr.mono (by decide)) (by rfl) pass0 (da_cons (de_var (pv 3)) (da_cons (de_var (pv 4)) (da_cons (de_callF (ok_sure_within T) (hr.mono (by decide)) (by rfl) pass0 (da_cons (de_var (pv 2)) (da_cons de_int (da_cons (de_globI T.c_MOST_STEPS (by rfl)) da_nil)))) da_nil)))) (pg_tup rfl (pgs_cons (pg_name (i := 5) nd rfl (Or.inl rfl)) (pgs_cons (pg_name (i := 6) nd rfl (Or.inl rfl)) (pgs_cons (pg_name (i := 7) nd rfl (Or.inl rfl)) pgs_nil)))) (tg_tup (tgs_cons (tg_name (i := 5) (by decide)) (tgs_cons (tg_name (i := 6) (by decide)) (tgs_cons (tg_name (i := 7) (by decide)) tgs_nil))))) (dss_one (ds_ret (de_tup (da_cons (de_var (pv 5)) (da_cons (de_var (pv 6)) da_nil))))))))
theorem sc_counted : FnScope ["ways", "way", "own"] ["ways"] (defScope s_counted) := ⟨rfl, rfl, rfl, by decide +kernel, rfl, by decide +kernel, by decide +kernel⟩
abbrev N_counted : List Str := ["ways", "way", "own"]
theorem ok_counted (T : Txt K mg wd) : FnX P wd K mg base CX0 1 "counted" ["ways"] (CC K) sp_counted := by
  refine fnx_mk (T.d 28 rfl) (fun fd F => fn_ok (N := N_counted) F sc_counted t_counted len_counted pure_counted fun cdv A outer s H E hr => ?_) (fun fd F => F.binds fun _ _ _ _ _ _ us hl => match us, hl with | [_], _ => rfl)
  have nd := sc_counted.nd
  have hu1 := hu_of hr
  exact (dss_one (ds_ret (de_callTyL call_tupleA ld_tuple (by rfl) T.n_tuple (by decide +kernel) (dl_lc (own := [("way", 1)]) (gd := (dgName 1)) rfl nd (di_range1 rfl T.n_range (da_cons de_int da_nil)) (blkOk_by (N := N_counted) (sc := defScope s_counted) (by decide +kernel)) (tg_name (i := 1) (by decide)) (fun _ _ _ _ _ => (pg_name (i := 1) nd rfl (Or.inr rfl))) (fun _ _ _ _ _ => dts_nil) (fun _ _ _ _ _ => (de_callBL call_lenA ld_len (by rfl) T.n_len PySem.boot_len (dl_lc (own := [("own", 2)]) (gd := (dgName 2)) rfl nd (di_list (de_var (pv 0))) (by exact (show BlkOk N_counted ({ kind := .function, names := [(".0", .local), ("way", .cell), ("len", .globalImplicit), ("ways", .cell)], isGenerator := false, isCoroutine := false } : Scope) { kind := .function, names := [(".0", .local), ("own", .local), ("way", .free)], isGenerator := false, isCoroutine := false } [("own", 2)] from blkOk_by (by decide +kernel))) (tg_name (i := 2) (by decide)) (fun _ _ _ _ _ => (pg_name (i := 2) nd rfl (Or.inl rfl))) (fun _ _ _ _ _ => (dts_one (dt_eq hr.units (de_var (pv 2)) (de_var (pv 1))))) (fun _ _ _ _ _ => (de_var (pv 2))))))))))
theorem sc_entered_along : FnScope ["ant", "cell", "told"] ["ant", "cell"] (defScope s_entered_along) := ⟨rfl, rfl, rfl, by decide +kernel, rfl, by decide +kernel, by decide +kernel⟩
abbrev N_entered_along : List Str := ["ant", "cell", "told"]
theorem ok_entered_along (T : Txt K mg wd) : FnX P wd K mg base CX0 10 "entered_along" ["ant", "cell"] (CC K) sp_entered_along := by
  refine fnx_mk (T.d 29 rfl) (fun fd F => fn_ok (N := N_entered_along) F sc_entered_along t_entered_along len_entered_along pure_entered_along fun cdv A outer s H E hr => ?_) (fun fd F => F.binds fun _ _ _ _ _ _ us hl => match us, hl with | [_, _], _ => rfl)
  have nd := sc_entered_along.nd
  have hu1 := hu_of hr
  exact (dss_cons (ds_set (i := 2) nd rfl (Or.inl rfl) (de_callF (ok_sure_ant T) (hr.mono (by decide)) (by rfl) pass0 (da_cons (de_var (pv 0)) da_nil))) (dss_one (ds_ret (de_if (dt_eq hr.units (de_mod (de_sub (de_callB (call_sumTup rfl) cd_sumTup (by rfl) T.n_sum (by decide +kernel) (da_cons (de_var (pv 2)) da_nil)) (de_callB (call_sumTup rfl) cd_sumTup (by rfl) T.n_sum (by decide +kernel) (da_cons (de_callF (ok_sure_cell T) (hr.mono (by decide)) (by rfl) pass0 (da_cons (de_var (pv 1)) da_nil)) da_nil))) de_int) de_int) de_str de_str))))
theorem sc_goes : FnScope ["rule", "standing", "many", "ants", "ant"] ["rule", "standing", "many"] (defScope s_goes) := ⟨rfl, rfl, rfl, by decide +kernel, rfl, by decide +kernel, by decide +kernel⟩
abbrev N_goes : List Str := ["rule", "standing", "many", "ants", "ant"]
theorem ok_goes (T : Txt K mg wd) : FnX P wd K mg base CX0 11 "goes" ["rule", "standing", "many"] (CC K) sp_goes := by
  refine fnx_mk (T.d 30 rfl) (fun fd F => fn_ok (N := N_goes) F sc_goes t_goes len_goes pure_goes fun cdv A outer s H E hr => ?_) (fun fd F => F.binds fun _ _ _ _ _ _ us hl => match us, hl with | [_, _, _], _ => rfl)
  have nd := sc_goes.nd
  have hu1 := hu_of hr
  exact (dss_cons (ds_set (i := 3) nd rfl (Or.inl rfl) (de_ix (de_callF (ok_lived_by T) (hr.mono (by decide)) (by rfl) pass0 (da_cons (de_var (pv 0)) (da_cons (de_var (pv 1)) (da_cons (de_var (pv 2)) da_nil)))) de_int)) (dss_one (ds_ret (de_callF (ok_counted T) (hr.mono (by decide)) (by rfl) pass0 (da_cons (de_made (dl_lc (own := [("ant", 4)]) (gd := (dgName 4)) rfl nd (di_made (dl_slice (de_var (pv 3)) (do_some de_int) do_none)) (blkOk_by (N := N_goes) (sc := defScope s_goes) (by decide +kernel)) (tg_name (i := 4) (by decide)) (fun _ _ _ _ _ => (pg_name (i := 4) nd rfl (Or.inl rfl))) (fun _ _ _ _ _ => dts_nil) (fun _ _ _ _ _ => (de_ix (de_var (pv 4)) de_int)))) da_nil)))))
theorem sc_turns_counted : FnScope ["rule", "standing", "many", "letters"] ["rule", "standing", "many"] (defScope s_turns_counted) := ⟨rfl, rfl, rfl, by decide +kernel, rfl, by decide +kernel, by decide +kernel⟩
abbrev N_turns_counted : List Str := ["rule", "standing", "many", "letters"]
theorem ok_turns_counted (T : Txt K mg wd) : FnX P wd K mg base CX0 11 "turns_counted" ["rule", "standing", "many"] (CC K) sp_turns_counted := by
  refine fnx_mk (T.d 31 rfl) (fun fd F => fn_ok (N := N_turns_counted) F sc_turns_counted t_turns_counted len_turns_counted pure_turns_counted fun cdv A outer s H E hr => ?_) (fun fd F => F.binds fun _ _ _ _ _ _ us hl => match us, hl with | [_, _, _], _ => rfl)
  have nd := sc_turns_counted.nd
  have hu1 := hu_of hr
  exact (dss_cons (ds_set (i := 3) nd rfl (Or.inl rfl) (de_ix (de_callF (ok_lived_by T) (hr.mono (by decide)) (by rfl) pass0 (da_cons (de_var (pv 0)) (da_cons (de_var (pv 1)) (da_cons (de_var (pv 2)) da_nil)))) de_int)) (dss_one (ds_ret (de_tup (da_cons (de_count hr.units (de_var (pv 3)) de_str) (da_cons (de_count hr.units (de_var (pv 3)) de_str) da_nil))))))
theorem sc_cell_word : FnScope ["rule", "standing", "many", "cell", "letters", "ants", "spot", "letter", "ant"] ["rule", "standing", "many", "cell"] (defScope s_cell_word) := ⟨rfl, rfl, rfl, by decide +kernel, rfl, by decide +kernel, by decide +kernel⟩
abbrev N_cell_word : List Str := ["rule", "standing", "many", "cell", "letters", "ants", "spot", "letter", "ant"]
theorem ok_cell_word (T : Txt K mg wd) : FnX P wd K mg base CX0 11 "cell_word" ["rule", "standing", "many", "cell"] (CC K) sp_cell_word := by
  refine fnx_mk (T.d 32 rfl) (fun fd F => fn_ok (N := N_cell_word) F sc_cell_word t_cell_word len_cell_word pure_cell_word fun cdv A outer s H E hr => ?_) (fun fd F => F.binds fun _ _ _ _ _ _ us hl => match us, hl with | [_, _, _, _], _ => rfl)
  have nd := sc_cell_word.nd
  have hu1 := hu_of hr
  exact (dss_cons (ds_asg (vs := [4, 5]) (gd := (dgTup 2 (dgCons (dgName 4) (dgCons (dgName 5) dgNil)))) (de_callF (ok_lived_by T) (hr.mono (by decide)) (by rfl) pass0 (da_cons (de_var (pv 0)) (da_cons (de_var (pv 1)) (da_cons (de_var (pv 2)) da_nil)))) (pg_tup rfl (pgs_cons (pg_name (i := 4) nd rfl (Or.inl rfl)) (pgs_cons (pg_name (i := 5) nd rfl (Or.inl rfl)) pgs_nil))) (tg_tup (tgs_cons (tg_name (i := 4) (by decide)) (tgs_cons (tg_name (i := 5) (by decide)) tgs_nil)))) (dss_cons (ds_set (i := 6) nd rfl (Or.inr rfl) (de_callF (ok_sure_cell T) (hr.mono (by decide)) (by rfl) pass0 (da_cons (de_var (pv 3)) da_nil))) (dss_one (ds_ret (de_join de_str (dl_lc (own := [("letter", 7), ("ant", 8)]) (gd := (dgTup 2 (dgCons (dgName 7) (dgCons (dgName 8) dgNil)))) rfl nd (di_zip rfl T.n_zip (da_cons (de_var (pv 4)) (da_cons (de_var (pv 5)) da_nil))) (blkOk_by (N := N_cell_word) (sc := defScope s_cell_word) (by decide +kernel)) (tg_tup (tgs_cons (tg_name (i := 7) (by decide)) (tgs_cons (tg_name (i := 8) (by decide)) tgs_nil))) (fun _ _ _ _ _ => (pg_tup rfl (pgs_cons (pg_name (i := 7) nd rfl (Or.inl rfl)) (pgs_cons (pg_name (i := 8) nd rfl (Or.inl rfl)) pgs_nil)))) (fun _ _ _ _ _ => (dts_one (dt_eq hr.units (de_slice (de_var (pv 8)) do_none (do_some de_int)) (de_var (pv 6))))) (fun _ _ _ _ _ => (de_var (pv 7)))))))))
theorem sc_entries : FnScope ["rule", "standing", "many", "rows", "ant", "cell"] ["rule", "standing", "many"] (defScope s_entries) := ⟨rfl, rfl, rfl, by decide +kernel, rfl, by decide +kernel, by decide +kernel⟩
abbrev N_entries : List Str := ["rule", "standing", "many", "rows", "ant", "cell"]
theorem ok_entries (T : Txt K mg wd) : FnX P wd K mg base CX0 11 "entries" ["rule", "standing", "many"] (CC K) sp_entries := by
  refine fnx_mk (T.d 33 rfl) (fun fd F => fn_ok (N := N_entries) F sc_entries t_entries len_entries pure_entries fun cdv A outer s H E hr => ?_) (fun fd F => F.binds fun _ _ _ _ _ _ us hl => match us, hl with | [_, _, _], _ => rfl)
  have nd := sc_entries.nd
  have hu1 := hu_of hr
  exact (dss_cons (ds_set (i := 3) nd rfl (Or.inr rfl) de_newT) (dss_cons (ds_for (gd := (dgName 4)) (vs := [4]) PassesOwn.never rfl (di_made (dl_slice (de_ix (de_callF (ok_lived_by T) (hr.mono (by decide)) (by rfl) pass0 (da_cons (de_var (pv 0)) (da_cons (de_var (pv 1)) (da_cons (de_var (pv 2)) da_nil)))) de_int) (do_some de_int) do_none)) (pg_name (i := 4) nd rfl (Or.inl rfl)) (tg_name (i := 4) (by decide)) (dss_one (ds_expr (de_append (de_setDf hu1 (de_var (pv 3)) (da_cons (de_slice (de_var (pv 4)) do_none (do_some de_int)) (da_cons (de_lst da_nil) da_nil))) (de_ix (de_var (pv 4)) de_int))))) (dss_one (ds_ret (de_callF (ok_told_counts T) (hr.mono (by decide)) (by rfl) pass0 (da_cons (de_callTyL (call_dictTT rfl hr.units) ld_dictLT (by rfl) T.n_dict (by decide +kernel) (dl_lock (dl_lc (own := [("cell", 5)]) (gd := (dgName 5)) rfl nd (di_keys (de_var (pv 3))) (blkOk_by (N := N_entries) (sc := defScope s_entries) (by decide +kernel)) (tg_name (i := 5) (by decide)) (fun _ _ _ _ _ => (pg_name (i := 5) nd rfl (Or.inl rfl))) (fun _ _ _ _ _ => dts_nil) (fun _ _ _ _ _ => (de_tup (da_cons (de_var (pv 5)) (da_cons (de_callF (ok_counted T) (hr.mono (by decide)) (by rfl) pass0 (da_cons (de_getI hu1 (de_var (pv 3)) (de_var (pv 5))) da_nil)) da_nil))))))) da_nil))))))
theorem sc_crossings : FnScope ["rule", "standing", "many", "found", "ants", "one", "other", "near", "far", "there", "back"] ["rule", "standing", "many"] (defScope s_crossings) := ⟨rfl, rfl, rfl, by decide +kernel, rfl, by decide +kernel, by decide +kernel⟩
abbrev N_crossings : List Str := ["rule", "standing", "many", "found", "ants", "one", "other", "near", "far", "there", "back"]
theorem ok_crossings (T : Txt K mg wd) : FnX P wd K mg base CX0 11 "crossings" ["rule", "standing", "many"] (CC K) sp_crossings := by
  refine fnx_mk (T.d 34 rfl) (fun fd F => fn_ok (N := N_crossings) F sc_crossings t_crossings len_crossings pure_crossings fun cdv A outer s H E hr => ?_) (fun fd F => F.binds fun _ _ _ _ _ _ us hl => match us, hl with | [_, _, _], _ => rfl)
  have nd := sc_crossings.nd
  have hu1 := hu_of hr
  exact (dss_cons (ds_set (i := 3) nd rfl (Or.inl rfl) de_newN) (dss_cons (ds_set (i := 4) nd rfl (Or.inl rfl) (de_ix (de_callF (ok_lived_by T) (hr.mono (by decide)) (by rfl) pass0 (da_cons (de_var (pv 0)) (da_cons (de_var (pv 1)) (da_cons (de_var (pv 2)) da_nil)))) de_int)) (dss_cons (ds_for (gd := (dgTup 2 (dgCons (dgName 5) (dgCons (dgName 6) dgNil)))) (vs := [5, 6]) PassesOwn.never rfl (di_zipM rfl T.n_zip (de_var (pv 4)) (dl_slice (de_var (pv 4)) (do_some de_int) do_none)) (pg_tup rfl (pgs_cons (pg_name (i := 5) nd rfl (Or.inl rfl)) (pgs_cons (pg_name (i := 6) nd rfl (Or.inl rfl)) pgs_nil))) (tg_tup (tgs_cons (tg_name (i := 5) (by decide)) (tgs_cons (tg_name (i := 6) (by decide)) tgs_nil))) (dss_cons (ds_par (i := 7) (j := 8) rfl nd rfl rfl (by decide) rfl rfl (da_cons (de_slice (de_var (pv 5)) do_none (do_some de_int)) (da_cons (de_slice (de_var (pv 6)) do_none (do_some de_int)) da_nil)) (by rfl)) (dss_cons (ds_asg (vs := [9, 10]) (gd := (dgTup 2 (dgCons (dgName 9) (dgCons (dgName 10) dgNil)))) (de_get2N hr.units (de_var (pv 3)) (de_tup (da_cons (de_callB (call_two rfl hr.units false) (cd_two false) (by rfl) T.n_min (by decide +kernel) (da_cons (de_var (pv 7)) (da_cons (de_var (pv 8)) da_nil))) (da_cons (de_callB (call_two rfl hr.units true) (cd_two true) (by rfl) T.n_max (by decide +kernel) (da_cons (de_var (pv 7)) (da_cons (de_var (pv 8)) da_nil))) da_nil))) (de_tup (da_cons de_int (da_cons de_int da_nil))) ⟨rfl, rfl, rfl, rfl⟩) (pg_tup rfl (pgs_cons (pg_name (i := 9) nd rfl (Or.inl rfl)) (pgs_cons (pg_name (i := 10) nd rfl (Or.inl rfl)) pgs_nil))) (tg_tup (tgs_cons (tg_name (i := 9) (by decide)) (tgs_cons (tg_name (i := 10) (by decide)) tgs_nil)))) (dss_one (ds_putN hr.units (de_var (pv 3)) (de_tup (da_cons (de_callB (call_two rfl hr.units false) (cd_two false) (by rfl) T.n_min (by decide +kernel) (da_cons (de_var (pv 7)) (da_cons (de_var (pv 8)) da_nil))) (da_cons (de_callB (call_two rfl hr.units true) (cd_two true) (by rfl) T.n_max (by decide +kernel) (da_cons (de_var (pv 7)) (da_cons (de_var (pv 8)) da_nil))) da_nil))) (de_if (dt_lt hr.units0 (de_var (pv 7)) (de_var (pv 8))) (de_tup (da_cons (de_add (de_var (pv 9)) de_int) (da_cons (de_var (pv 10)) da_nil))) (de_tup (da_cons (de_var (pv 9)) (da_cons (de_add (de_var (pv 10)) de_int) da_nil))))))))) (dss_one (ds_ret (de_callF (ok_told_counts T) (hr.mono (by decide)) (by rfl) pass0 (da_cons (de_var (pv 3)) da_nil)))))))
theorem sc_most_entered : FnScope ["rule", "standing", "many", "found", "ant", "most", "cell"] ["rule", "standing", "many"] (defScope s_most_entered) := ⟨rfl, rfl, rfl, by decide +kernel, rfl, by decide +kernel, by decide +kernel⟩
abbrev N_most_entered : List Str := ["rule", "standing", "many", "found", "ant", "most", "cell"]
theorem ok_most_entered (T : Txt K mg wd) : FnX P wd K mg base CX0 11 "most_entered" ["rule", "standing", "many"] (CC K) sp_most_entered := by
  refine fnx_mk (T.d 35 rfl) (fun fd F => fn_ok (N := N_most_entered) F sc_most_entered t_most_entered len_most_entered pure_most_entered fun cdv A outer s H E hr => ?_) (fun fd F => F.binds fun _ _ _ _ _ _ us hl => match us, hl with | [_, _, _], _ => rfl)
  have nd := sc_most_entered.nd
  have hu1 := hu_of hr
  exact (dss_cons (ds_set (i := 3) nd rfl (Or.inr rfl) de_newT) (dss_cons (ds_for (gd := (dgName 4)) (vs := [4]) PassesOwn.never rfl (di_list (de_ix (de_callF (ok_lived_by T) (hr.mono (by decide)) (by rfl) pass0 (da_cons (de_var (pv 0)) (da_cons (de_var (pv 1)) (da_cons (de_var (pv 2)) da_nil)))) de_int)) (pg_name (i := 4) nd rfl (Or.inl rfl)) (tg_name (i := 4) (by decide)) (dss_one (ds_putI hu1 (de_var (pv 3)) (de_slice (de_var (pv 4)) do_none (do_some de_int)) (de_add (de_get2 hu1 (de_var (pv 3)) (de_slice (de_var (pv 4)) do_none (do_some de_int)) de_int ⟨rfl, rfl, rfl, rfl⟩) de_int)))) (dss_cons (ds_set (i := 5) nd rfl (Or.inr rfl) (de_callBL (cr_max rfl) ld_max (by rfl) T.n_max (by decide +kernel) (dl_lock (dl_lc (own := [("cell", 6)]) (gd := (dgName 6)) rfl nd (di_keys (de_var (pv 3))) (blkOk_by (N := N_most_entered) (sc := defScope s_most_entered) (by decide +kernel)) (tg_name (i := 6) (by decide)) (fun _ _ _ _ _ => (pg_name (i := 6) nd rfl (Or.inl rfl))) (fun _ _ _ _ _ => dts_nil) (fun _ _ _ _ _ => (de_getI hu1 (de_var (pv 3)) (de_var (pv 6)))))))) (dss_one (ds_ret (de_tup (da_cons (de_var (pv 5)) (da_cons (de_callBL (call_least rfl hr.units false) (ld_least false) (by rfl) T.n_min (by decide +kernel) (dl_lock (dl_lc (own := [("cell", 6)]) (gd := (dgName 6)) rfl nd (di_keys (de_var (pv 3))) (blkOk_by (N := N_most_entered) (sc := defScope s_most_entered) (by decide +kernel)) (tg_name (i := 6) (by decide)) (fun _ _ _ _ _ => (pg_name (i := 6) nd rfl (Or.inl rfl))) (fun _ _ _ _ _ => (dts_one (dt_eq hr.units (de_getI hu1 (de_var (pv 3)) (de_var (pv 6))) (de_var (pv 5))))) (fun _ _ _ _ _ => (de_var (pv 6)))))) da_nil))))))))
theorem sc_moved_in : FnScope ["standing", "quarters", "by", "floor", "ant", "x", "y"] ["standing", "quarters", "by"] (defScope s_moved_in) := ⟨rfl, rfl, rfl, by decide +kernel, rfl, by decide +kernel, by decide +kernel⟩
abbrev N_moved_in : List Str := ["standing", "quarters", "by", "floor", "ant", "x", "y"]
theorem ok_moved_in (T : Txt K mg wd) : FnX P wd K mg base CX0 3 "moved_in" ["standing", "quarters", "by"] (CC K) sp_moved_in := by
  refine fnx_mk (T.d 36 rfl) (fun fd F => fn_ok (N := N_moved_in) F sc_moved_in t_moved_in len_moved_in pure_moved_in fun cdv A outer s H E hr => ?_) (fun fd F => F.binds fun _ _ _ _ _ _ us hl => match us, hl with | [_, _, _], _ => rfl)
  have nd := sc_moved_in.nd
  have hu1 := hu_of hr
  exact (dss_cons (ds_asg (vs := [3, 4]) (gd := (dgTup 2 (dgCons (dgName 3) (dgCons (dgName 4) dgNil)))) (de_var (pv 0)) (pg_tup rfl (pgs_cons (pg_name (i := 3) nd rfl (Or.inl rfl)) (pgs_cons (pg_name (i := 4) nd rfl (Or.inl rfl)) pgs_nil))) (tg_tup (tgs_cons (tg_name (i := 3) (by decide)) (tgs_cons (tg_name (i := 4) (by decide)) tgs_nil)))) (dss_cons (ds_asg (vs := [5, 6]) (gd := (dgTup 2 (dgCons (dgName 5) (dgCons (dgName 6) dgNil)))) (de_callF (ok_quarter_turned T) (hr.mono (by decide)) (by rfl) pass0 (da_cons (de_slice (de_var (pv 4)) do_none (do_some de_int)) (da_cons (de_var (pv 1)) da_nil))) (pg_tup rfl (pgs_cons (pg_name (i := 5) nd rfl (Or.inl rfl)) (pgs_cons (pg_name (i := 6) nd rfl (Or.inl rfl)) pgs_nil))) (tg_tup (tgs_cons (tg_name (i := 5) (by decide)) (tgs_cons (tg_name (i := 6) (by decide)) tgs_nil)))) (dss_one (ds_ret (de_tup (da_cons (de_callF (ok_shifted_in T) (hr.mono (by decide)) (by rfl) pass0 (da_cons (de_callF (ok_turned_in T) (hr.mono (by decide)) (by rfl) pass0 (da_cons (de_var (pv 3)) (da_cons (de_var (pv 1)) da_nil))) (da_cons (de_var (pv 2)) da_nil))) (da_cons (de_tup (da_cons (de_add (de_var (pv 5)) (de_ix (de_var (pv 2)) de_int)) (da_cons (de_add (de_var (pv 6)) (de_ix (de_var (pv 2)) de_int)) (da_cons (de_mod (de_add (de_ix (de_var (pv 4)) de_int) (de_var (pv 1))) de_int) da_nil)))) da_nil)))))))
theorem sc_moved : FnScope ["rule", "standing", "quarters", "by", "own", "told"] ["rule", "standing", "quarters", "by"] (defScope s_moved) := ⟨rfl, rfl, rfl, by decide +kernel, rfl, by decide +kernel, by decide +kernel⟩
abbrev N_moved : List Str := ["rule", "standing", "quarters", "by", "own", "told"]
theorem ok_moved (T : Txt K mg wd) : FnX P wd K mg base CX0 10 "moved" ["rule", "standing", "quarters", "by"] (CC K) sp_moved := by
  refine fnx_mk (T.d 37 rfl) (fun fd F => fn_ok (N := N_moved) F sc_moved t_moved len_moved pure_moved fun cdv A outer s H E hr => ?_) (fun fd F => F.binds fun _ _ _ _ _ _ us hl => match us, hl with | [_, _, _, _], _ => rfl)
  have nd := sc_moved.nd
  have hu1 := hu_of hr
  exact (dss_cons (ds_set (i := 4) nd rfl (Or.inl rfl) (de_callF (ok_sure_standing T) (hr.mono (by decide)) (by rfl) pass0 (da_cons (de_callF (ok_sure_rule T) (hr.mono (by decide)) (by rfl) pass0 (da_cons (de_var (pv 0)) da_nil)) (da_cons (de_var (pv 1)) da_nil)))) (dss_cons (ds_set (i := 5) nd rfl (Or.inl rfl) (de_callF (ok_sure_within T) (hr.mono (by decide)) (by rfl) pass0 (da_cons (de_var (pv 2)) (da_cons (de_neg (de_globI T.c_MOST_CELL (by rfl))) (da_cons (de_globI T.c_MOST_CELL (by rfl)) da_nil))))) (dss_one (ds_ret (de_callF (ok_moved_in T) (hr.mono (by decide)) (by rfl) pass0 (da_cons (de_var (pv 4)) (da_cons (de_var (pv 5)) (da_cons (de_callF (ok_sure_cell T) (hr.mono (by decide)) (by rfl) pass0 (da_cons (de_var (pv 3)) da_nil)) da_nil))))))))
theorem sc_is_line_in : FnScope ["thing"] ["thing"] (defScope s_is_line_in) := ⟨rfl, rfl, rfl, by decide +kernel, rfl, by decide +kernel, by decide +kernel⟩
abbrev N_is_line_in : List Str := ["thing"]
theorem ok_is_line_in (T : Txt K mg wd) : FnX P wd K mg base CX0 2 "is_line_in" ["thing"] (CC K) sp_is_line_in := by
  refine fnx_mk (T.d 38 rfl) (fun fd F => fn_ok (N := N_is_line_in) F sc_is_line_in t_is_line_in len_is_line_in pure_is_line_in fun cdv A outer s H E hr => ?_) (fun fd F => F.binds fun _ _ _ _ _ _ us hl => match us, hl with | [_], _ => rfl)
  have nd := sc_is_line_in.nd
  have hu1 := hu_of hr
  exact (dss_cons (ds_if (DW.dt (dw_or (dt_not (dt_val (de_callF (ok_is_long T) (hr.mono (by decide)) (by rfl) pass0 (da_cons (de_var (pv 0)) (da_cons de_int da_nil))))) (dw_or (dt_not (dt_val (de_callB call_isi (cd_isi "str") (by rfl) T.n_isinstance (by decide +kernel) (da_cons (de_ix (de_var (pv 0)) de_int) (da_cons (de_const (pe_bltn (v := .ty "str") (by rfl) T.n_str (by decide +kernel) rfl) fun _ => .ty _) da_nil))))) (dw_or1 (dt_notInT (de_ix (de_var (pv 0)) de_int) (de_globA T.g_KINDS T.k_KINDS (by rfl)) (by rfl)))))) (dss_one (ds_ret de_bl)) dss_nil) (dss_one (ds_ret (de_and (de_callF (ok_is_number T) (hr.mono (by decide)) (by rfl) pass0 (da_cons (de_ix (de_var (pv 0)) de_int) da_nil)) (de_one (de_le (de_callB call_abs cd_abs (by rfl) T.n_abs (by decide +kernel) (da_cons (de_ix (de_var (pv 0)) de_int) da_nil)) (de_globI T.c_MOST_LINE (by rfl))))))))
theorem sc_sure_line : FnScope ["value", "own"] ["value"] (defScope s_sure_line) := ⟨rfl, rfl, rfl, by decide +kernel, rfl, by decide +kernel, by decide +kernel⟩
abbrev N_sure_line : List Str := ["value", "own"]
theorem ok_sure_line (T : Txt K mg wd) : FnX P wd K mg base CX0 9 "sure_line" ["value"] (CC K) sp_sure_line := by
  refine fnx_mk (T.d 39 rfl) (fun fd F => fn_ok (N := N_sure_line) F sc_sure_line t_sure_line len_sure_line pure_sure_line fun cdv A outer s H E hr => ?_) (fun fd F => F.binds fun _ _ _ _ _ _ us hl => match us, hl with | [_], _ => rfl)
  have nd := sc_sure_line.nd
  have hu1 := hu_of hr
  exact (dss_cons (ds_set (i := 1) nd rfl (Or.inl rfl) (de_callF (ok_tupled T) (hr.mono (by decide)) (by rfl) pass0 (da_cons (de_var (pv 0)) da_nil))) (dss_cons (ds_if (dt_not (dt_val (de_callF (ok_is_line_in T) (hr.mono (by decide)) (by rfl) pass0 (da_cons (de_var (pv 1)) da_nil)))) (dss_one ds_never) dss_nil) (dss_one (ds_ret (de_var (pv 1))))))
theorem sc_beyond : FnScope ["line", "cell", "kind", "sum_of", "x", "y"] ["line", "cell"] (defScope s_beyond) := ⟨rfl, rfl, rfl, by decide +kernel, rfl, by decide +kernel, by decide +kernel⟩
abbrev N_beyond : List Str := ["line", "cell", "kind", "sum_of", "x", "y"]
theorem ok_beyond (T : Txt K mg wd) : FnX P wd K mg base CX0 1 "beyond" ["line", "cell"] (CC K) sp_beyond := by
  refine fnx_mk (T.d 40 rfl) (fun fd F => fn_ok (N := N_beyond) F sc_beyond t_beyond len_beyond pure_beyond fun cdv A outer s H E hr => ?_) (fun fd F => F.binds fun _ _ _ _ _ _ us hl => match us, hl with | [_, _], _ => rfl)
  have nd := sc_beyond.nd
  have hu1 := hu_of hr
  exact (dss_cons (ds_asg (vs := [2, 3]) (gd := (dgTup 2 (dgCons (dgName 2) (dgCons (dgName 3) dgNil)))) (de_var (pv 0)) (pg_tup rfl (pgs_cons (pg_name (i := 2) nd rfl (Or.inl rfl)) (pgs_cons (pg_name (i := 3) nd rfl (Or.inl rfl)) pgs_nil))) (tg_tup (tgs_cons (tg_name (i := 2) (by decide)) (tgs_cons (tg_name (i := 3) (by decide)) tgs_nil)))) (dss_cons (ds_asg (vs := [4, 5]) (gd := (dgTup 2 (dgCons (dgName 4) (dgCons (dgName 5) dgNil)))) (de_var (pv 1)) (pg_tup rfl (pgs_cons (pg_name (i := 4) nd rfl (Or.inl rfl)) (pgs_cons (pg_name (i := 5) nd rfl (Or.inl rfl)) pgs_nil))) (tg_tup (tgs_cons (tg_name (i := 4) (by decide)) (tgs_cons (tg_name (i := 5) (by decide)) tgs_nil)))) (dss_cons (ds_if (dt_eq hr.units (de_var (pv 2)) de_str) (dss_one (ds_ret (de_tup (da_cons (de_sub (de_var (pv 3)) (de_var (pv 4))) (da_cons (de_var (pv 5)) da_nil))))) dss_nil) (dss_cons (ds_if (dt_eq hr.units (de_var (pv 2)) de_str) (dss_one (ds_ret (de_tup (da_cons (de_var (pv 4)) (da_cons (de_sub (de_var (pv 3)) (de_var (pv 5))) da_nil))))) dss_nil) (dss_one (ds_ret (de_if (dt_eq hr.units (de_var (pv 2)) de_str) (de_tup (da_cons (de_sub (de_var (pv 3)) (de_var (pv 5))) (da_cons (de_sub (de_var (pv 3)) (de_var (pv 4))) da_nil))) (de_tup (da_cons (de_add (de_var (pv 5)) (de_var (pv 3))) (da_cons (de_sub (de_var (pv 4)) (de_var (pv 3))) da_nil))))))))))
theorem sc_floor_beyond : FnScope ["line", "floor", "cell", "colour"] ["line", "floor"] (defScope s_floor_beyond) := ⟨rfl, rfl, rfl, by decide +kernel, rfl, by decide +kernel, by decide +kernel⟩
abbrev N_floor_beyond : List Str := ["line", "floor", "cell", "colour"]
theorem ok_floor_beyond (T : Txt K mg wd) : FnX P wd K mg base CX0 2 "floor_beyond" ["line", "floor"] (CC K) sp_floor_beyond := by
  refine fnx_mk (T.d 41 rfl) (fun fd F => fn_ok (N := N_floor_beyond) F sc_floor_beyond t_floor_beyond len_floor_beyond pure_floor_beyond fun cdv A outer s H E hr => ?_) (fun fd F => F.binds fun _ _ _ _ _ _ us hl => match us, hl with | [_, _], _ => rfl)
  have nd := sc_floor_beyond.nd
  have hu1 := hu_of hr
  exact (dss_one (ds_ret (de_callTyL call_tupleA ld_tuple (by rfl) T.n_tuple (by decide +kernel) (dl_sorted hr.units (by rfl) T.n_sorted (by decide +kernel) (dl_lc (own := [("cell", 2), ("colour", 3)]) (gd := (dgTup 2 (dgCons (dgName 2) (dgCons (dgName 3) dgNil)))) rfl nd (di_tup (de_var (pv 1))) (blkOk_by (N := N_floor_beyond) (sc := defScope s_floor_beyond) (by decide +kernel)) (tg_tup (tgs_cons (tg_name (i := 2) (by decide)) (tgs_cons (tg_name (i := 3) (by decide)) tgs_nil))) (fun _ _ _ _ _ => (pg_tup rfl (pgs_cons (pg_name (i := 2) nd rfl (Or.inl rfl)) (pgs_cons (pg_name (i := 3) nd rfl (Or.inl rfl)) pgs_nil)))) (fun _ _ _ _ _ => dts_nil) (fun _ _ _ _ _ => (de_tup (da_cons (de_callF (ok_beyond T) (hr.mono (by decide)) (by rfl) pass0 (da_cons (de_var (pv 0)) (da_cons (de_var (pv 2)) da_nil))) (da_cons (de_var (pv 3)) da_nil)))))))))
theorem sc_cell_beyond : FnScope ["line", "cell", "own", "told", "its"] ["line", "cell"] (defScope s_cell_beyond) := ⟨rfl, rfl, rfl, by decide +kernel, rfl, by decide +kernel, by decide +kernel⟩
abbrev N_cell_beyond : List Str := ["line", "cell", "own", "told", "its"]
theorem ok_cell_beyond (T : Txt K mg wd) : FnX P wd K mg base CX0 10 "cell_beyond" ["line", "cell"] (CC K) sp_cell_beyond := by
  refine fnx_mk (T.d 42 rfl) (fun fd F => fn_ok (N := N_cell_beyond) F sc_cell_beyond t_cell_beyond len_cell_beyond pure_cell_beyond fun cdv A outer s H E hr => ?_) (fun fd F => F.binds fun _ _ _ _ _ _ us hl => match us, hl with | [_, _], _ => rfl)
  have nd := sc_cell_beyond.nd
  have hu1 := hu_of hr
  exact (dss_cons (ds_set (i := 2) nd rfl (Or.inl rfl) (de_callF (ok_sure_line T) (hr.mono (by decide)) (by rfl) pass0 (da_cons (de_var (pv 0)) da_nil))) (dss_cons (ds_set (i := 3) nd rfl (Or.inl rfl) (de_callF (ok_tupled T) (hr.mono (by decide)) (by rfl) pass0 (da_cons (de_var (pv 1)) da_nil))) (dss_cons (ds_if (DW.dt (dw_or (dt_not (dt_val (de_callF (ok_is_long T) (hr.mono (by decide)) (by rfl) pass0 (da_cons (de_var (pv 3)) (da_cons de_int da_nil))))) (dw_or1 (dt_not (dt_val (de_callBL (cr_all rfl) ld_all (by rfl) T.n_all (by decide +kernel) (dl_lc (own := [("its", 4)]) (gd := (dgName 4)) rfl nd (di_tup (de_var (pv 3))) (blkOk_by (N := N_cell_beyond) (sc := defScope s_cell_beyond) (by decide +kernel)) (tg_name (i := 4) (by decide)) (fun _ _ _ _ _ => (pg_name (i := 4) nd rfl (Or.inl rfl))) (fun _ _ _ _ _ => dts_nil) (fun _ _ _ _ _ => (de_and (de_callF (ok_is_number T) (hr.mono (by decide)) (by rfl) pass0 (da_cons (de_var (pv 4)) da_nil)) (de_one (de_le (de_callB call_abs cd_abs (by rfl) T.n_abs (by decide +kernel) (da_cons (de_var (pv 4)) da_nil)) (de_globI T.c_MOST_CELL (by rfl))))))))))))) (dss_one ds_never) dss_nil) (dss_one (ds_ret (de_callF (ok_beyond T) (hr.mono (by decide)) (by rfl) pass0 (da_cons (de_var (pv 2)) (da_cons (de_var (pv 3)) da_nil))))))))
theorem sc_reflected : FnScope ["rule", "standing", "line", "own", "floor", "ant", "told"] ["rule", "standing", "line"] (defScope s_reflected) := ⟨rfl, rfl, rfl, by decide +kernel, rfl, by decide +kernel, by decide +kernel⟩
abbrev N_reflected : List Str := ["rule", "standing", "line", "own", "floor", "ant", "told"]
theorem ok_reflected (T : Txt K mg wd) : FnX P wd K mg base CX0 10 "reflected" ["rule", "standing", "line"] (CC K) sp_reflected := by
  refine fnx_mk (T.d 43 rfl) (fun fd F => fn_ok (N := N_reflected) F sc_reflected (t_reflected (ga K "WAYS_BY")) len_reflected (pure_reflected (ga K "WAYS_BY")) fun cdv A outer s H E hr => ?_) (fun fd F => F.binds fun _ _ _ _ _ _ us hl => match us, hl with | [_, _, _], _ => rfl)
  have nd := sc_reflected.nd
  have hu1 := hu_of hr
  exact (dss_cons (ds_set (i := 3) nd rfl (Or.inl rfl) (de_callF (ok_sure_rule T) (hr.mono (by decide)) (by rfl) pass0 (da_cons (de_var (pv 0)) da_nil))) (dss_cons (ds_asg (vs := [4, 5]) (gd := (dgTup 2 (dgCons (dgName 4) (dgCons (dgName 5) dgNil)))) (de_callF (ok_sure_standing T) (hr.mono (by decide)) (by rfl) pass0 (da_cons (de_var (pv 3)) (da_cons (de_var (pv 1)) da_nil))) (pg_tup rfl (pgs_cons (pg_name (i := 4) nd rfl (Or.inl rfl)) (pgs_cons (pg_name (i := 5) nd rfl (Or.inl rfl)) pgs_nil))) (tg_tup (tgs_cons (tg_name (i := 4) (by decide)) (tgs_cons (tg_name (i := 5) (by decide)) tgs_nil)))) (dss_cons (ds_set (i := 6) nd rfl (Or.inl rfl) (de_callF (ok_sure_line T) (hr.mono (by decide)) (by rfl) pass0 (da_cons (de_var (pv 2)) da_nil))) (dss_one (ds_ret (de_tup (da_cons (de_callF (ok_mirrored_rule T) (hr.mono (by decide)) (by rfl) pass0 (da_cons (de_var (pv 3)) da_nil)) (da_cons (de_tup (da_cons (de_callF (ok_floor_beyond T) (hr.mono (by decide)) (by rfl) pass0 (da_cons (de_var (pv 6)) (da_cons (de_var (pv 4)) da_nil))) (da_cons (de_add (de_callF (ok_beyond T) (hr.mono (by decide)) (by rfl) pass0 (da_cons (de_var (pv 6)) (da_cons (de_slice (de_var (pv 5)) do_none (do_some de_int)) da_nil))) (de_tup (da_cons (de_ix (de_ixG T.t_WAYS_BY (de_const (pe_glob (v := .ref _) rfl T.g_WAYS_BY rfl) fun _ => .obj _) (de_ix (de_var (pv 6)) de_int)) (de_ix (de_var (pv 5)) de_int)) da_nil))) da_nil))) da_nil))))))))
theorem sc__law_box : FnScope ["script", "k", "bit_so"] ["script", "k"] (defScope s__law_box) := ⟨rfl, rfl, rfl, by decide +kernel, rfl, by decide +kernel, by decide +kernel⟩
abbrev N__law_box : List Str := ["script", "k", "bit_so"]
theorem ok__law_box (T : Txt K mg wd) : FnX P wd K mg base CX0 1 "_law_box" ["script", "k"] (CC K) sp__law_box := by
  refine fnx_mk (T.d 44 rfl) (fun fd F => fn_ok (N := N__law_box) F sc__law_box t__law_box len__law_box pure__law_box fun cdv A outer s H E hr => ?_) (fun fd F => F.binds fun _ _ _ _ _ _ us hl => match us, hl with | [_, _], _ => rfl)
  have nd := sc__law_box.nd
  have hu1 := hu_of hr
  exact (dss_cons (ds_set (i := 2) nd rfl (Or.inl rfl) (de_if (dt_lt hr.units0 (de_var (pv 1)) (de_callB call_lenA cd_len (by rfl) T.n_len PySem.boot_len (da_cons (de_var (pv 0)) da_nil))) (de_ix (de_var (pv 0)) (de_var (pv 1))) de_int)) (dss_one (ds_ret (de_lst (da_cons (de_mul (de_callB call_abs cd_abs (by rfl) T.n_abs (by decide +kernel) (da_cons (de_var (pv 2)) da_nil)) (de_callTy call_int1 cd_int (by rfl) T.n_int (by decide +kernel) (da_cons (de_ge (de_callB call_abs cd_abs (by rfl) T.n_abs (by decide +kernel) (da_cons (de_var (pv 2)) da_nil)) (de_pow de_int de_int)) da_nil))) (da_cons (de_add (de_add (de_mod (de_callTy call_int1 cd_int (by rfl) T.n_int (by decide +kernel) (da_cons (de_var (pv 2)) da_nil)) de_int) (de_mul de_int (de_var (pv 1)))) de_int) (da_cons de_int da_nil)))))))
theorem sc__law_take : FnScope ["tin", "below_so", "drawn_so", "once_so", "wide_so", "twice_so"] ["tin", "below_so"] (defScope s__law_take) := ⟨rfl, rfl, rfl, by decide +kernel, rfl, by decide +kernel, by decide +kernel⟩
abbrev N__law_take : List Str := ["tin", "below_so", "drawn_so", "once_so", "wide_so", "twice_so"]
theorem ok__law_take (T : Txt K mg wd) : FnX P wd K mg base CX0 1 "_law_take" ["tin", "below_so"] (CC K) sp__law_take := by
  refine fnx_mk (T.d 45 rfl) (fun fd F => fn_ok (N := N__law_take) F sc__law_take t__law_take len__law_take pure__law_take fun cdv A outer s H E hr => ?_) (fun fd F => F.binds fun _ _ _ _ _ _ us hl => match us, hl with | [_, _], _ => rfl)
  have nd := sc__law_take.nd
  have hu1 := hu_of hr
  exact (dss_cons (ds_if (dt_gt (de_ix (de_var (pv 0)) de_int) de_int) (dss_cons (ds_set (i := 2) nd rfl (Or.inl rfl) (de_mod (de_callTy call_int1 cd_int (by rfl) T.n_int (by decide +kernel) (da_cons (de_ix (de_var (pv 0)) de_int) da_nil)) (de_var (pv 1)))) (dss_cons (ds_setL (de_div (de_ix (de_var (pv 0)) de_int) (de_var (pv 1))) (de_var (pv 0)) de_int (hg := pg_sub (de_var (pv 0)) de_int set_list)) (dss_one (ds_ret (de_var (pv 2)))))) dss_nil) (dss_cons (ds_setL (de_add (de_ix (de_var (pv 0)) de_int) de_int) (de_var (pv 0)) de_int (hg := pg_sub (de_var (pv 0)) de_int set_list)) (dss_cons (ds_set (i := 3) nd rfl (Or.inl rfl) (de_mod (de_callTy call_int1 cd_int (by rfl) T.n_int (by decide +kernel) (da_cons (de_mul (de_add (de_ix (de_var (pv 0)) de_int) (de_mul de_int (de_ix (de_var (pv 0)) de_int))) (de_add de_int (de_ix (de_var (pv 0)) de_int))) da_nil)) de_int)) (dss_cons (ds_set (i := 4) nd rfl (Or.inl rfl) (de_add (de_mod (de_callTy call_int1 cd_int (by rfl) T.n_int (by decide +kernel) (da_cons (de_var (pv 3)) da_nil)) de_int) de_int)) (dss_cons (ds_set (i := 5) nd rfl (Or.inl rfl) (de_mod (de_callTy call_int1 cd_int (by rfl) T.n_int (by decide +kernel) (da_cons (de_mul (de_add (de_add (de_var (pv 3)) (de_ix (de_var (pv 0)) de_int)) (de_div (de_ix (de_var (pv 0)) de_int) de_int)) (de_var (pv 4))) da_nil)) de_int)) (dss_one (ds_ret (de_mod (de_callTy call_int1 cd_int (by rfl) T.n_int (by decide +kernel) (da_cons (de_div (de_mod (de_callTy call_int1 cd_int (by rfl) T.n_int (by decide +kernel) (da_cons (de_add (de_mul (de_var (pv 5)) de_int) (de_var (pv 3))) da_nil)) de_int) de_int) da_nil)) (de_var (pv 1))))))))))
theorem sc__law_cells : FnScope ["script", "most_so", "cells_so", "k", "bit_so", "at_so"] ["script", "most_so"] (defScope s__law_cells) := ⟨rfl, rfl, rfl, by decide +kernel, rfl, by decide +kernel, by decide +kernel⟩
abbrev N__law_cells : List Str := ["script", "most_so", "cells_so", "k", "bit_so", "at_so"]
theorem ok__law_cells (T : Txt K mg wd) : FnX P wd K mg base CX0 1 "_law_cells" ["script", "most_so"] (CC K) sp__law_cells := by
  refine fnx_mk (T.d 46 rfl) (fun fd F => fn_ok (N := N__law_cells) F sc__law_cells t__law_cells len__law_cells pure__law_cells fun cdv A outer s H E hr => ?_) (fun fd F => F.binds fun _ _ _ _ _ _ us hl => match us, hl with | [_, _], _ => rfl)
  have nd := sc__law_cells.nd
  have hu1 := hu_of hr
  exact (dss_cons (ds_set (i := 2) nd rfl (Or.inl rfl) (de_orT (de_callTyL call_list_of ld_list (by rfl) T.n_list (by decide +kernel) (dl_slice (de_var (pv 0)) do_none (do_some (de_var (pv 1))))) (de_one (de_lst (da_cons de_int da_nil))))) (dss_cons (ds_for (gd := (dgTup 2 (dgCons (dgName 3) (dgCons (dgName 4) dgNil)))) (vs := [3, 4]) PassesOwn.never rfl (di_enumM rfl T.n_enumerate (dl_slice (de_var (pv 0)) (do_some (de_var (pv 1))) (do_some de_int))) (pg_tup rfl (pgs_cons (pg_name (i := 3) nd rfl (Or.inl rfl)) (pgs_cons (pg_name (i := 4) nd rfl (Or.inl rfl)) pgs_nil))) (tg_tup (tgs_cons (tg_name (i := 3) (by decide)) (tgs_cons (tg_name (i := 4) (by decide)) tgs_nil))) (dss_cons (ds_set (i := 5) nd rfl (Or.inl rfl) (de_mod (de_callTy call_int1 cd_int (by rfl) T.n_int (by decide +kernel) (da_cons (de_var (pv 3)) da_nil)) (de_var (pv 1)))) (dss_one (ds_setL (de_add (de_ix (de_var (pv 2)) (de_var (pv 5))) (de_mul (de_var (pv 4)) (de_add (de_var (pv 3)) de_int))) (de_var (pv 2)) (de_var (pv 5)) (hg := pg_sub (de_var (pv 2)) (de_var (pv 5)) set_list))))) (dss_one (ds_ret (de_var (pv 2))))))
theorem sc__law_of : FnScope ["tin", "goods_so"] ["tin", "goods_so"] (defScope s__law_of) := ⟨rfl, rfl, rfl, by decide +kernel, rfl, by decide +kernel, by decide +kernel⟩
abbrev N__law_of : List Str := ["tin", "goods_so"]
theorem ok__law_of (T : Txt K mg wd) : FnX P wd K mg base CX0 2 "_law_of" ["tin", "goods_so"] (CC K) sp__law_of := by
  refine fnx_mk (T.d 47 rfl) (fun fd F => fn_ok (N := N__law_of) F sc__law_of t__law_of len__law_of pure__law_of fun cdv A outer s H E hr => ?_) (fun fd F => F.binds fun _ _ _ _ _ _ us hl => match us, hl with | [_, _], _ => rfl)
  have nd := sc__law_of.nd
  have hu1 := hu_of hr
  exact (dss_one (ds_ret (de_ix (de_var (pv 1)) (de_callF (ok__law_take T) (hr.mono (by decide)) (by rfl) pass0 (da_cons (de_var (pv 0)) (da_cons (de_callB call_lenA cd_len (by rfl) T.n_len PySem.boot_len (da_cons (de_var (pv 1)) da_nil)) da_nil))))))
theorem sc__law_same : FnScope ["got", "due", "mine", "its"] ["got", "due"] (defScope s__law_same) := ⟨rfl, rfl, rfl, by decide +kernel, rfl, by decide +kernel, by decide +kernel⟩
abbrev N__law_same : List Str := ["got", "due", "mine", "its"]
theorem okN__law_same (T : Txt K mg wd) : ∀ n, FnX P wd K mg base CX0 n "_law_same" ["got", "due"] (CC K) (sp_same0 n)
  | 0 => fnx_mk (T.d 48 rfl) (fun fd F => fn_no) (fun fd F => F.binds fun _ _ _ _ _ _ us hl => match us, hl with | [_, _], _ => rfl)
  | n + 1 => by
    have ih := okN__law_same T n
    refine fnx_mk (T.d 48 rfl) (fun fd F => fn_ok (N := N__law_same) F sc__law_same (t__law_same (sp_same0 n)) (len__law_same n) (pure__law_same n) fun cdv A outer s H E hr => ?_) (fun fd F => F.binds fun _ _ _ _ _ _ us hl => match us, hl with | [_, _], _ => rfl)
    have nd := sc__law_same.nd
    have hu1 := hu_of hr
    exact (dss_cons (ds_if (dt_val (de_callB call_isiT (cd_isi2 "list" "tuple") (by rfl) T.n_isinstance (by decide +kernel) (da_cons (de_var (pv 1)) (da_cons (de_tup (da_cons (de_const (pe_bltn (v := .ty "list") (by rfl) T.n_list (by decide +kernel) rfl) fun _ => .ty _) (da_cons (de_const (pe_bltn (v := .ty "tuple") (by rfl) T.n_tuple (by decide +kernel) rfl) fun _ => .ty _) da_nil))) da_nil)))) (dss_cons (ds_if (DW.dt (dw_or (dt_ne hr.units (de_callB call_isi (cd_isi "list") (by rfl) T.n_isinstance (by decide +kernel) (da_cons (de_var (pv 0)) (da_cons (de_const (pe_bltn (v := .ty "list") (by rfl) T.n_list (by decide +kernel) rfl) fun _ => .ty _) da_nil))) (de_callB call_isi (cd_isi "list") (by rfl) T.n_isinstance (by decide +kernel) (da_cons (de_var (pv 1)) (da_cons (de_const (pe_bltn (v := .ty "list") (by rfl) T.n_list (by decide +kernel) rfl) fun _ => .ty _) da_nil)))) (dw_or1 (dt_ne hr.units (de_callB call_isi (cd_isi "tuple") (by rfl) T.n_isinstance (by decide +kernel) (da_cons (de_var (pv 0)) (da_cons (de_const (pe_bltn (v := .ty "tuple") (by rfl) T.n_tuple (by decide +kernel) rfl) fun _ => .ty _) da_nil))) (de_callB call_isi (cd_isi "tuple") (by rfl) T.n_isinstance (by decide +kernel) (da_cons (de_var (pv 1)) (da_cons (de_const (pe_bltn (v := .ty "tuple") (by rfl) T.n_tuple (by decide +kernel) rfl) fun _ => .ty _) da_nil))))))) (dss_one (ds_ret de_bl)) dss_nil) (dss_one (ds_ret (de_and (de_eq hr.units (de_callB call_lenA cd_len (by rfl) T.n_len PySem.boot_len (da_cons (de_var (pv 0)) da_nil)) (de_callB call_lenA cd_len (by rfl) T.n_len PySem.boot_len (da_cons (de_var (pv 1)) da_nil))) (de_one (de_callBL (cr_all rfl) ld_all (by rfl) T.n_all (by decide +kernel) (dl_lc (own := [("mine", 2), ("its", 3)]) (gd := (dgTup 2 (dgCons (dgName 2) (dgCons (dgName 3) dgNil)))) rfl nd (di_zip rfl T.n_zip (da_cons (de_var (pv 0)) (da_cons (de_var (pv 1)) da_nil))) (blkOk_by (N := N__law_same) (sc := defScope s__law_same) (by decide +kernel)) (tg_tup (tgs_cons (tg_name (i := 2) (by decide)) (tgs_cons (tg_name (i := 3) (by decide)) tgs_nil))) (fun _ _ _ _ _ => (pg_tup rfl (pgs_cons (pg_name (i := 2) nd rfl (Or.inl rfl)) (pgs_cons (pg_name (i := 3) nd rfl (Or.inl rfl)) pgs_nil)))) (fun _ _ _ _ _ => dts_nil) (fun _ _ _ _ _ => (de_callF ih (hr.mono (by omega)) (by rfl) pass0 (da_cons (de_var (pv 2)) (da_cons (de_var (pv 3)) da_nil))))))))))) dss_nil) (dss_cons (ds_if (dt_isN (de_var (pv 1)) de_non) (dss_one (ds_ret (de_isN (de_var (pv 0)) de_non))) dss_nil) (dss_cons (ds_if (dt_val (de_callB call_isiT (cd_isi2 "bool" "str") (by rfl) T.n_isinstance (by decide +kernel) (da_cons (de_var (pv 1)) (da_cons (de_tup (da_cons (de_const (pe_bltn (v := .ty "bool") (by rfl) T.n_bool (by decide +kernel) rfl) fun _ => .ty _) (da_cons (de_const (pe_bltn (v := .ty "str") (by rfl) T.n_str (by decide +kernel) rfl) fun _ => .ty _) da_nil))) da_nil)))) (dss_one (ds_ret (de_and (de_eq hr.units (de_callB call_isi (cd_isi "bool") (by rfl) T.n_isinstance (by decide +kernel) (da_cons (de_var (pv 0)) (da_cons (de_const (pe_bltn (v := .ty "bool") (by rfl) T.n_bool (by decide +kernel) rfl) fun _ => .ty _) da_nil))) (de_callB call_isi (cd_isi "bool") (by rfl) T.n_isinstance (by decide +kernel) (da_cons (de_var (pv 1)) (da_cons (de_const (pe_bltn (v := .ty "bool") (by rfl) T.n_bool (by decide +kernel) rfl) fun _ => .ty _) da_nil)))) (de_and (de_eq hr.units (de_callB call_isi (cd_isi "str") (by rfl) T.n_isinstance (by decide +kernel) (da_cons (de_var (pv 0)) (da_cons (de_const (pe_bltn (v := .ty "str") (by rfl) T.n_str (by decide +kernel) rfl) fun _ => .ty _) da_nil))) (de_callB call_isi (cd_isi "str") (by rfl) T.n_isinstance (by decide +kernel) (da_cons (de_var (pv 1)) (da_cons (de_const (pe_bltn (v := .ty "str") (by rfl) T.n_str (by decide +kernel) rfl) fun _ => .ty _) da_nil)))) (de_one (de_eq hr.units (de_var (pv 0)) (de_var (pv 1)))))))) dss_nil) (dss_one (ds_ret (de_and (de_callB call_isi (cd_isi "int") (by rfl) T.n_isinstance (by decide +kernel) (da_cons (de_var (pv 0)) (da_cons (de_const (pe_bltn (v := .ty "int") (by rfl) T.n_int (by decide +kernel) rfl) fun _ => .ty _) da_nil))) (de_and (de_not (de_callB call_isi (cd_isi "bool") (by rfl) T.n_isinstance (by decide +kernel) (da_cons (de_var (pv 0)) (da_cons (de_const (pe_bltn (v := .ty "bool") (by rfl) T.n_bool (by decide +kernel) rfl) fun _ => .ty _) da_nil)))) (de_one (de_eq hr.units (de_var (pv 0)) (de_var (pv 1)))))))))))
theorem ok__law_same (T : Txt K mg wd) : FnX P wd K mg base CX0 8 "_law_same" ["got", "due"] (CC K) sp__law_same := okN__law_same T 8
theorem sc__law_laid : FnScope ["dyes_so", "own"] ["dyes_so"] (defScope s__law_laid) := ⟨rfl, rfl, rfl, by decide +kernel, rfl, by decide +kernel, by decide +kernel⟩
abbrev N__law_laid : List Str := ["dyes_so", "own"]
theorem ok__law_laid (T : Txt K mg wd) : FnX P wd K mg base CX0 1 "_law_laid" ["dyes_so"] (CC K) sp__law_laid := by
  refine fnx_mk (T.d 49 rfl) (fun fd F => fn_ok (N := N__law_laid) F sc__law_laid t__law_laid len__law_laid pure__law_laid fun cdv A outer s H E hr => ?_) (fun fd F => F.binds fun _ _ _ _ _ _ us hl => match us, hl with | [_], _ => rfl)
  have nd := sc__law_laid.nd
  have hu1 := hu_of hr
  exact (dss_one (ds_ret (de_callTyL call_tupleA ld_tuple (by rfl) T.n_tuple (by decide +kernel) (dl_sorted hr.units (by rfl) T.n_sorted (by decide +kernel) (dl_lock (dl_lc (own := [("own", 1)]) (gd := (dgName 1)) rfl nd (di_keys (de_var (pv 0))) (blkOk_by (N := N__law_laid) (sc := defScope s__law_laid) (by decide +kernel)) (tg_name (i := 1) (by decide)) (fun _ _ _ _ _ => (pg_name (i := 1) nd rfl (Or.inl rfl))) (fun _ _ _ _ _ => (dts_one (dt_ne hr.units (de_getI hu1 (de_var (pv 0)) (de_var (pv 1))) de_int))) (fun _ _ _ _ _ => (de_tup (da_cons (de_var (pv 1)) (da_cons (de_getI hu1 (de_var (pv 0)) (de_var (pv 1))) da_nil))))))))))
theorem sc__law_rule : FnScope ["tin", "long_so", "letters_so", "k"] ["tin", "long_so"] (defScope s__law_rule) := ⟨rfl, rfl, rfl, by decide +kernel, rfl, by decide +kernel, by decide +kernel⟩
abbrev N__law_rule : List Str := ["tin", "long_so", "letters_so", "k"]
theorem ok__law_rule (T : Txt K mg wd) : FnX P wd K mg base CX0 3 "_law_rule" ["tin", "long_so"] (CC K) sp__law_rule := by
  refine fnx_mk (T.d 50 rfl) (fun fd F => fn_ok (N := N__law_rule) F sc__law_rule t__law_rule len__law_rule pure__law_rule fun cdv A outer s H E hr => ?_) (fun fd F => F.binds fun _ _ _ _ _ _ us hl => match us, hl with | [_, _], _ => rfl)
  have nd := sc__law_rule.nd
  have hu1 := hu_of hr
  exact (dss_cons (ds_set (i := 2) nd rfl (Or.inl rfl) (de_join de_str (dl_lc (own := [("k", 3)]) (gd := (dgName 3)) rfl nd (di_range1 rfl T.n_range (da_cons (de_add de_int (de_callF (ok__law_take T) (hr.mono (by decide)) (by rfl) pass0 (da_cons (de_var (pv 0)) (da_cons (de_sub (de_var (pv 1)) de_int) da_nil)))) da_nil)) (blkOk_by (N := N__law_rule) (sc := defScope s__law_rule) (by decide +kernel)) (tg_name (i := 3) (by decide)) (fun _ _ _ _ _ => (pg_name (i := 3) nd rfl (Or.inl rfl))) (fun _ _ _ _ _ => dts_nil) (fun _ _ _ _ _ => (de_callF (ok__law_of T) (hr.mono (by decide)) (by rfl) pass0 (da_cons (de_var (pv 0)) (da_cons (de_lst (da_cons de_str (da_cons de_str da_nil))) da_nil))))))) (dss_cons (ds_if (DW.dt (dw_or (DW.dt (dw_and (dt_inS de_str (de_var (pv 2)) (by rfl)) (dw_and1 (dt_inS de_str (de_var (pv 2)) (by rfl))))) (dw_or1 (dt_eq hr.units (de_callF (ok__law_take T) (hr.mono (by decide)) (by rfl) pass0 (da_cons (de_var (pv 0)) (da_cons de_int da_nil))) de_int)))) (dss_one (ds_ret (de_var (pv 2)))) dss_nil) (dss_cons (ds_set (i := 3) nd rfl (Or.inl rfl) (de_callF (ok__law_take T) (hr.mono (by decide)) (by rfl) pass0 (da_cons (de_var (pv 0)) (da_cons (de_callB call_lenA cd_len (by rfl) T.n_len PySem.boot_len (da_cons (de_var (pv 2)) da_nil)) da_nil)))) (dss_one (ds_ret (de_add (de_add (de_slice (de_var (pv 2)) do_none (do_some (de_var (pv 3)))) (de_if (dt_eq hr.units (de_ix (de_var (pv 2)) (de_var (pv 3))) de_str) de_str de_str)) (de_slice (de_var (pv 2)) (do_some (de_add (de_var (pv 3)) de_int)) do_none)))))))
theorem sc__law_floor : FnScope ["tin", "rule_so", "many_so", "wide_so", "dyes_so", "lap", "place_so"] ["tin", "rule_so", "many_so", "wide_so"] (defScope s__law_floor) := ⟨rfl, rfl, rfl, by decide +kernel, rfl, by decide +kernel, by decide +kernel⟩
abbrev N__law_floor : List Str := ["tin", "rule_so", "many_so", "wide_so", "dyes_so", "lap", "place_so"]
theorem ok__law_floor (T : Txt K mg wd) : FnX P wd K mg base CX0 2 "_law_floor" ["tin", "rule_so", "many_so", "wide_so"] (CC K) sp__law_floor := by
  refine fnx_mk (T.d 51 rfl) (fun fd F => fn_ok (N := N__law_floor) F sc__law_floor t__law_floor len__law_floor pure__law_floor fun cdv A outer s H E hr => ?_) (fun fd F => F.binds fun _ _ _ _ _ _ us hl => match us, hl with | [_, _, _, _], _ => rfl)
  have nd := sc__law_floor.nd
  have hu1 := hu_of hr
  exact (dss_cons (ds_set (i := 4) nd rfl (Or.inl rfl) de_newT) (dss_cons (ds_for (gd := (dgName 5)) (vs := [5]) PassesOwn.never rfl (di_range1 rfl T.n_range (da_cons (de_callF (ok__law_take T) (hr.mono (by decide)) (by rfl) pass0 (da_cons (de_var (pv 0)) (da_cons (de_add (de_var (pv 2)) de_int) da_nil))) da_nil)) (pg_name (i := 5) nd rfl (Or.inl rfl)) (tg_name (i := 5) (by decide)) (dss_cons (ds_set (i := 6) nd rfl (Or.inl rfl) (de_tup (da_cons (de_sub (de_callF (ok__law_take T) (hr.mono (by decide)) (by rfl) pass0 (da_cons (de_var (pv 0)) (da_cons (de_add (de_mul de_int (de_var (pv 3))) de_int) da_nil))) (de_var (pv 3))) (da_cons (de_sub (de_callF (ok__law_take T) (hr.mono (by decide)) (by rfl) pass0 (da_cons (de_var (pv 0)) (da_cons (de_add (de_mul de_int (de_var (pv 3))) de_int) da_nil))) (de_var (pv 3))) da_nil)))) (dss_one (ds_putI hu1 (de_var (pv 4)) (de_var (pv 6)) (de_callF (ok__law_take T) (hr.mono (by decide)) (by rfl) pass0 (da_cons (de_var (pv 0)) (da_cons (de_callB call_lenA cd_len (by rfl) T.n_len PySem.boot_len (da_cons (de_var (pv 1)) da_nil)) da_nil))))))) (dss_one (ds_ret (de_callF (ok__law_laid T) (hr.mono (by decide)) (by rfl) pass0 (da_cons (de_var (pv 4)) da_nil))))))
theorem sc__law_ant : FnScope ["tin", "wide_so"] ["tin", "wide_so"] (defScope s__law_ant) := ⟨rfl, rfl, rfl, by decide +kernel, rfl, by decide +kernel, by decide +kernel⟩
abbrev N__law_ant : List Str := ["tin", "wide_so"]
theorem ok__law_ant (T : Txt K mg wd) : FnX P wd K mg base CX0 2 "_law_ant" ["tin", "wide_so"] (CC K) sp__law_ant := by
  refine fnx_mk (T.d 52 rfl) (fun fd F => fn_ok (N := N__law_ant) F sc__law_ant t__law_ant len__law_ant pure__law_ant fun cdv A outer s H E hr => ?_) (fun fd F => F.binds fun _ _ _ _ _ _ us hl => match us, hl with | [_, _], _ => rfl)
  have nd := sc__law_ant.nd
  have hu1 := hu_of hr
  exact (dss_one (ds_ret (de_tup (da_cons (de_sub (de_callF (ok__law_take T) (hr.mono (by decide)) (by rfl) pass0 (da_cons (de_var (pv 0)) (da_cons (de_add (de_mul de_int (de_var (pv 1))) de_int) da_nil))) (de_var (pv 1))) (da_cons (de_sub (de_callF (ok__law_take T) (hr.mono (by decide)) (by rfl) pass0 (da_cons (de_var (pv 0)) (da_cons (de_add (de_mul de_int (de_var (pv 1))) de_int) da_nil))) (de_var (pv 1))) (da_cons (de_callF (ok__law_take T) (hr.mono (by decide)) (by rfl) pass0 (da_cons (de_var (pv 0)) (da_cons de_int da_nil))) da_nil))))))
theorem sc__law_stand : FnScope ["tin", "rule_so"] ["tin", "rule_so"] (defScope s__law_stand) := ⟨rfl, rfl, rfl, by decide +kernel, rfl, by decide +kernel, by decide +kernel⟩
abbrev N__law_stand : List Str := ["tin", "rule_so"]
theorem ok__law_stand (T : Txt K mg wd) : FnX P wd K mg base CX0 3 "_law_stand" ["tin", "rule_so"] (CC K) sp__law_stand := by
  refine fnx_mk (T.d 53 rfl) (fun fd F => fn_ok (N := N__law_stand) F sc__law_stand t__law_stand len__law_stand pure__law_stand fun cdv A outer s H E hr => ?_) (fun fd F => F.binds fun _ _ _ _ _ _ us hl => match us, hl with | [_, _], _ => rfl)
  have nd := sc__law_stand.nd
  have hu1 := hu_of hr
  exact (dss_one (ds_ret (de_tup (da_cons (de_callF (ok__law_floor T) (hr.mono (by decide)) (by rfl) pass0 (da_cons (de_var (pv 0)) (da_cons (de_var (pv 1)) (da_cons de_int (da_cons de_int da_nil))))) (da_cons (de_callF (ok__law_ant T) (hr.mono (by decide)) (by rfl) pass0 (da_cons (de_var (pv 0)) (da_cons de_int da_nil))) da_nil)))))
theorem sc__law_swapped : FnScope ["rule_so", "own"] ["rule_so"] (defScope s__law_swapped) := ⟨rfl, rfl, rfl, by decide +kernel, rfl, by decide +kernel, by decide +kernel⟩
abbrev N__law_swapped : List Str := ["rule_so", "own"]
theorem ok__law_swapped (T : Txt K mg wd) : FnX P wd K mg base CX0 1 "_law_swapped" ["rule_so"] (CC K) sp__law_swapped := by
  refine fnx_mk (T.d 54 rfl) (fun fd F => fn_ok (N := N__law_swapped) F sc__law_swapped t__law_swapped len__law_swapped pure__law_swapped fun cdv A outer s H E hr => ?_) (fun fd F => F.binds fun _ _ _ _ _ _ us hl => match us, hl with | [_], _ => rfl)
  have nd := sc__law_swapped.nd
  have hu1 := hu_of hr
  exact (dss_one (ds_ret (de_join de_str (dl_lc (own := [("own", 1)]) (gd := (dgName 1)) rfl nd (di_str (de_var (pv 0))) (blkOk_by (N := N__law_swapped) (sc := defScope s__law_swapped) (by decide +kernel)) (tg_name (i := 1) (by decide)) (fun _ _ _ _ _ => (pg_name (i := 1) nd rfl (Or.inl rfl))) (fun _ _ _ _ _ => dts_nil) (fun _ _ _ _ _ => (de_if (dt_eq hr.units (de_var (pv 1)) de_str) de_str de_str))))))
theorem sc__law_way : FnScope ["kind_so", "way_so"] ["kind_so", "way_so"] (defScope s__law_way) := ⟨rfl, rfl, rfl, by decide +kernel, rfl, by decide +kernel, by decide +kernel⟩
abbrev N__law_way : List Str := ["kind_so", "way_so"]
theorem ok__law_way (T : Txt K mg wd) : FnX P wd K mg base CX0 1 "_law_way" ["kind_so", "way_so"] (CC K) sp__law_way := by
  refine fnx_mk (T.d 55 rfl) (fun fd F => fn_ok (N := N__law_way) F sc__law_way t__law_way len__law_way pure__law_way fun cdv A outer s H E hr => ?_) (fun fd F => F.binds fun _ _ _ _ _ _ us hl => match us, hl with | [_, _], _ => rfl)
  have nd := sc__law_way.nd
  have hu1 := hu_of hr
  exact (dss_one (ds_ret (de_ix (de_getI hu1 (de_disp (dp_cons de_str (de_tup (da_cons de_int (da_cons de_int (da_cons de_int (da_cons de_int da_nil))))) (dp_cons de_str (de_tup (da_cons de_int (da_cons de_int (da_cons de_int (da_cons de_int da_nil))))) (dp_cons de_str (de_tup (da_cons de_int (da_cons de_int (da_cons de_int (da_cons de_int da_nil))))) (dp_cons de_str (de_tup (da_cons de_int (da_cons de_int (da_cons de_int (da_cons de_int da_nil))))) dp_nil))))) (de_var (pv 0))) (de_var (pv 1)))))
theorem sc__law_lap_one : FnScope ["tin", "rule_so", "stand_so", "many_so", "line_so", "other_so", "far_so", "near", "far", "ins_so", "own", "row_so", "sides_so", "one_so", "two", "both_so", "a", "b", "led_so", "same_so", "often_so", "by_so", "turned_so", "way_so"] ["tin"] (defScope s__law_lap_one) := ⟨rfl, rfl, rfl, by decide +kernel, rfl, by decide +kernel, by decide +kernel⟩
abbrev N__law_lap_one : List Str := ["tin", "rule_so", "stand_so", "many_so", "line_so", "other_so", "far_so", "near", "far", "ins_so", "own", "row_so", "sides_so", "one_so", "two", "both_so", "a", "b", "led_so", "same_so", "often_so", "by_so", "turned_so", "way_so"]
theorem ok__law_lap_one (T : Txt K mg wd) : FnX P wd K mg base CX0 12 "_law_lap_one" ["tin"] (CC K) sp__law_lap_one := by
  refine fnx_mk (T.d 56 rfl) (fun fd F => fn_ok (N := N__law_lap_one) F sc__law_lap_one t__law_lap_one len__law_lap_one pure__law_lap_one fun cdv A outer s H E hr => ?_) (fun fd F => F.binds fun _ _ _ _ _ _ us hl => match us, hl with | [_], _ => rfl)
  have nd := sc__law_lap_one.nd
  have hu1 := hu_of hr
  exact (dss_cons (ds_set (i := 1) nd rfl (Or.inl rfl) (de_callF (ok__law_rule T) (hr.mono (by decide)) (by rfl) pass0 (da_cons (de_var (pv 0)) (da_cons de_int da_nil)))) (dss_cons (ds_par (i := 2) (j := 3) rfl nd rfl rfl (by decide) rfl rfl (da_cons (de_callF (ok__law_stand T) (hr.mono (by decide)) (by rfl) pass0 (da_cons (de_var (pv 0)) (da_cons (de_var (pv 1)) da_nil))) (da_cons (de_callF (ok__law_take T) (hr.mono (by decide)) (by rfl) pass0 (da_cons (de_var (pv 0)) (da_cons (de_callF (ok__law_of T) (hr.mono (by decide)) (by rfl) pass0 (da_cons (de_var (pv 0)) (da_cons (de_lst (da_cons de_int (da_cons de_int (da_cons de_int da_nil)))) da_nil))) da_nil))) da_nil)) (by rfl)) (dss_cons (ds_set (i := 4) nd rfl (Or.inr rfl) (de_tup (da_cons (de_callF (ok__law_of T) (hr.mono (by decide)) (by rfl) pass0 (da_cons (de_var (pv 0)) (da_cons (de_lst (da_cons de_str (da_cons de_str (da_cons de_str (da_cons de_str da_nil))))) da_nil))) (da_cons (de_sub (de_callF (ok__law_take T) (hr.mono (by decide)) (by rfl) pass0 (da_cons (de_var (pv 0)) (da_cons de_int da_nil))) de_int) da_nil)))) (dss_cons (ds_asg (vs := [5, 6]) (gd := (dgTup 2 (dgCons (dgName 5) (dgCons (dgName 6) dgNil)))) (de_callF (ok_reflected T) (hr.mono (by decide)) (by rfl) pass0 (da_cons (de_var (pv 1)) (da_cons (de_var (pv 2)) (da_cons (de_var (pv 4)) da_nil)))) (pg_tup rfl (pgs_cons (pg_name (i := 5) nd rfl (Or.inl rfl)) (pgs_cons (pg_name (i := 6) nd rfl (Or.inl rfl)) pgs_nil))) (tg_tup (tgs_cons (tg_name (i := 5) (by decide)) (tgs_cons (tg_name (i := 6) (by decide)) tgs_nil)))) (dss_cons (ds_asg (vs := [7, 8]) (gd := (dgTup 2 (dgCons (dgName 7) (dgCons (dgName 8) dgNil)))) (de_tup (da_cons (de_callF (ok_goes T) (hr.mono (by decide)) (by rfl) pass0 (da_cons (de_var (pv 1)) (da_cons (de_var (pv 2)) (da_cons (de_var (pv 3)) da_nil)))) (da_cons (de_callF (ok_goes T) (hr.mono (by decide)) (by rfl) pass0 (da_cons (de_var (pv 5)) (da_cons (de_var (pv 6)) (da_cons (de_var (pv 3)) da_nil)))) da_nil))) (pg_tup rfl (pgs_cons (pg_name (i := 7) nd rfl (Or.inr rfl)) (pgs_cons (pg_name (i := 8) nd rfl (Or.inl rfl)) pgs_nil))) (tg_tup (tgs_cons (tg_name (i := 7) (by decide)) (tgs_cons (tg_name (i := 8) (by decide)) tgs_nil)))) (dss_cons (ds_if (dt_not (dt_val (de_callF (ok__law_same T) (hr.mono (by decide)) (by rfl) pass0 (da_cons (de_var (pv 8)) (da_cons (de_callTyL call_tupleA ld_tuple (by rfl) T.n_tuple (by decide +kernel) (dl_lc (own := [("way_so", 23)]) (gd := (dgName 23)) rfl nd (di_range1 rfl T.n_range (da_cons de_int da_nil)) (blkOk_by (N := N__law_lap_one) (sc := defScope s__law_lap_one) (by decide +kernel)) (tg_name (i := 23) (by decide)) (fun _ _ _ _ _ => (pg_name (i := 23) nd rfl (Or.inl rfl))) (fun _ _ _ _ _ => dts_nil) (fun _ _ _ _ _ => (de_ix (de_var (pv 7)) (de_callF (ok__law_way T) (hr.mono (by decide)) (by rfl) pass0 (da_cons (de_ix (de_var (pv 4)) de_int) (da_cons (de_var (pv 23)) da_nil))))))) da_nil))))) (dss_one (ds_ret de_bl)) dss_nil) (dss_cons (ds_if (dt_not (dt_val (de_callF (ok__law_same T) (hr.mono (by decide)) (by rfl) pass0 (da_cons (de_callF (ok_turns_counted T) (hr.mono (by decide)) (by rfl) pass0 (da_cons (de_var (pv 5)) (da_cons (de_var (pv 6)) (da_cons (de_var (pv 3)) da_nil)))) (da_cons (de_rev (de_callF (ok_turns_counted T) (hr.mono (by decide)) (by rfl) pass0 (da_cons (de_var (pv 1)) (da_cons (de_var (pv 2)) (da_cons (de_var (pv 3)) da_nil))))) da_nil))))) (dss_one (ds_ret de_bl)) dss_nil) (dss_cons (ds_set (i := 9) nd rfl (Or.inr rfl) de_newT) (dss_cons (ds_for (gd := (dgTup 2 (dgCons (dgName 10) (dgCons (dgName 11) dgNil)))) (vs := [10, 11]) PassesOwn.never rfl (di_tup (de_callF (ok_entries T) (hr.mono (by decide)) (by rfl) pass0 (da_cons (de_var (pv 1)) (da_cons (de_var (pv 2)) (da_cons (de_var (pv 3)) da_nil))))) (pg_tup rfl (pgs_cons (pg_name (i := 10) nd rfl (Or.inl rfl)) (pgs_cons (pg_name (i := 11) nd rfl (Or.inr rfl)) pgs_nil))) (tg_tup (tgs_cons (tg_name (i := 10) (by decide)) (tgs_cons (tg_name (i := 11) (by decide)) tgs_nil))) (dss_one (ds_putI hu1 (de_var (pv 9)) (de_callF (ok_cell_beyond T) (hr.mono (by decide)) (by rfl) pass0 (da_cons (de_var (pv 4)) (da_cons (de_var (pv 10)) da_nil))) (de_callTyL call_tupleA ld_tuple (by rfl) T.n_tuple (by decide +kernel) (dl_lc (own := [("way_so", 23)]) (gd := (dgName 23)) rfl nd (di_range1 rfl T.n_range (da_cons de_int da_nil)) (blkOk_by (N := N__law_lap_one) (sc := defScope s__law_lap_one) (by decide +kernel)) (tg_name (i := 23) (by decide)) (fun _ _ _ _ _ => (pg_name (i := 23) nd rfl (Or.inl rfl))) (fun _ _ _ _ _ => dts_nil) (fun _ _ _ _ _ => (de_ix (de_var (pv 11)) (de_callF (ok__law_way T) (hr.mono (by decide)) (by rfl) pass0 (da_cons (de_ix (de_var (pv 4)) de_int) (da_cons (de_var (pv 23)) da_nil)))))))))) (dss_cons (ds_if (dt_not (dt_val (de_callF (ok__law_same T) (hr.mono (by decide)) (by rfl) pass0 (da_cons (de_callF (ok_entries T) (hr.mono (by decide)) (by rfl) pass0 (da_cons (de_var (pv 5)) (da_cons (de_var (pv 6)) (da_cons (de_var (pv 3)) da_nil)))) (da_cons (de_callTyL call_tupleA ld_tuple (by rfl) T.n_tuple (by decide +kernel) (dl_sorted hr.units (by rfl) T.n_sorted (by decide +kernel) (dl_lock (dl_lc (own := [("own", 10)]) (gd := (dgName 10)) rfl nd (di_keys (de_var (pv 9))) (blkOk_by (N := N__law_lap_one) (sc := defScope s__law_lap_one) (by decide +kernel)) (tg_name (i := 10) (by decide)) (fun _ _ _ _ _ => (pg_name (i := 10) nd rfl (Or.inl rfl))) (fun _ _ _ _ _ => dts_nil) (fun _ _ _ _ _ => (de_tup (da_cons (de_var (pv 10)) (da_cons (de_getI hu1 (de_var (pv 9)) (de_var (pv 10))) da_nil)))))))) da_nil))))) (dss_one (ds_ret de_bl)) dss_nil) (dss_cons (ds_set (i := 12) nd rfl (Or.inr rfl) de_newN) (dss_cons (ds_for (gd := (dgTup 2 (dgCons (dgTup 2 (dgCons (dgName 13) (dgCons (dgName 14) dgNil))) (dgCons (dgName 15) dgNil)))) (vs := [13, 14, 15]) PassesOwn.never rfl (di_tup (de_callF (ok_crossings T) (hr.mono (by decide)) (by rfl) pass0 (da_cons (de_var (pv 1)) (da_cons (de_var (pv 2)) (da_cons (de_var (pv 3)) da_nil))))) (pg_tup rfl (pgs_cons (pg_tup rfl (pgs_cons (pg_name (i := 13) nd rfl (Or.inl rfl)) (pgs_cons (pg_name (i := 14) nd rfl (Or.inl rfl)) pgs_nil))) (pgs_cons (pg_name (i := 15) nd rfl (Or.inl rfl)) pgs_nil))) (tg_tup (tgs_cons (tg_tup (tgs_cons (tg_name (i := 13) (by decide)) (tgs_cons (tg_name (i := 14) (by decide)) tgs_nil))) (tgs_cons (tg_name (i := 15) (by decide)) tgs_nil))) (dss_cons (ds_par (i := 16) (j := 17) rfl nd rfl rfl (by decide) rfl rfl (da_cons (de_callF (ok_cell_beyond T) (hr.mono (by decide)) (by rfl) pass0 (da_cons (de_var (pv 4)) (da_cons (de_var (pv 13)) da_nil))) (da_cons (de_callF (ok_cell_beyond T) (hr.mono (by decide)) (by rfl) pass0 (da_cons (de_var (pv 4)) (da_cons (de_var (pv 14)) da_nil))) da_nil)) (by rfl)) (dss_one (ds_putN hr.units (de_var (pv 12)) (de_tup (da_cons (de_callBL (call_least rfl hr.units false) (ld_least false) (by rfl) T.n_min (by decide +kernel) (dl_lst (da_cons (de_var (pv 16)) (da_cons (de_var (pv 17)) da_nil)))) (da_cons (de_callBL (call_least rfl hr.units true) (ld_least true) (by rfl) T.n_max (by decide +kernel) (dl_lst (da_cons (de_var (pv 16)) (da_cons (de_var (pv 17)) da_nil)))) da_nil))) (de_if (dt_lt hr.units0 (de_var (pv 16)) (de_var (pv 17))) (de_var (pv 15)) (de_rev (de_var (pv 15)))))))) (dss_cons (ds_if (dt_not (dt_val (de_callF (ok__law_same T) (hr.mono (by decide)) (by rfl) pass0 (da_cons (de_callF (ok_crossings T) (hr.mono (by decide)) (by rfl) pass0 (da_cons (de_var (pv 5)) (da_cons (de_var (pv 6)) (da_cons (de_var (pv 3)) da_nil)))) (da_cons (de_callTyL call_tupleA ld_tuple (by rfl) T.n_tuple (by decide +kernel) (dl_sorted hr.units (by rfl) T.n_sorted (by decide +kernel) (dl_lockN (dl_lc (own := [("own", 10)]) (gd := (dgName 10)) rfl nd (di_keysN (de_var (pv 12))) (blkOk_by (N := N__law_lap_one) (sc := defScope s__law_lap_one) (by decide +kernel)) (tg_name (i := 10) (by decide)) (fun _ _ _ _ _ => (pg_name (i := 10) nd rfl (Or.inl rfl))) (fun _ _ _ _ _ => dts_nil) (fun _ _ _ _ _ => (de_tup (da_cons (de_var (pv 10)) (da_cons (de_getIN hr.units (de_var (pv 12)) (de_var (pv 10))) da_nil)))))))) da_nil))))) (dss_one (ds_ret de_bl)) dss_nil) (dss_cons (ds_if (dt_ne hr.units (de_ix (de_callF (ok_most_entered T) (hr.mono (by decide)) (by rfl) pass0 (da_cons (de_var (pv 5)) (da_cons (de_var (pv 6)) (da_cons (de_var (pv 3)) da_nil)))) de_int) (de_ix (de_callF (ok_most_entered T) (hr.mono (by decide)) (by rfl) pass0 (da_cons (de_var (pv 1)) (da_cons (de_var (pv 2)) (da_cons (de_var (pv 3)) da_nil)))) de_int)) (dss_one (ds_ret de_bl)) dss_nil) (dss_cons (ds_set (i := 10) nd rfl (Or.inl rfl) (de_tup (da_cons (de_sub (de_add (de_ix (de_ix (de_var (pv 2)) de_int) de_int) (de_callF (ok__law_take T) (hr.mono (by decide)) (by rfl) pass0 (da_cons (de_var (pv 0)) (da_cons de_int da_nil)))) de_int) (da_cons (de_sub (de_add (de_ix (de_ix (de_var (pv 2)) de_int) de_int) (de_callF (ok__law_take T) (hr.mono (by decide)) (by rfl) pass0 (da_cons (de_var (pv 0)) (da_cons de_int da_nil)))) de_int) da_nil)))) (dss_cons (ds_set (i := 18) nd rfl (Or.inl rfl) (de_callF (ok_cell_beyond T) (hr.mono (by decide)) (by rfl) pass0 (da_cons (de_var (pv 4)) (da_cons (de_var (pv 10)) da_nil)))) (dss_cons (ds_if (dt_not (dt_val (de_callF (ok__law_same T) (hr.mono (by decide)) (by rfl) pass0 (da_cons (de_callF (ok_cell_word T) (hr.mono (by decide)) (by rfl) pass0 (da_cons (de_var (pv 5)) (da_cons (de_var (pv 6)) (da_cons (de_var (pv 3)) (da_cons (de_var (pv 18)) da_nil))))) (da_cons (de_callF (ok__law_swapped T) (hr.mono (by decide)) (by rfl) pass0 (da_cons (de_callF (ok_cell_word T) (hr.mono (by decide)) (by rfl) pass0 (da_cons (de_var (pv 1)) (da_cons (de_var (pv 2)) (da_cons (de_var (pv 3)) (da_cons (de_var (pv 10)) da_nil))))) da_nil)) da_nil))))) (dss_one (ds_ret de_bl)) dss_nil) (dss_cons (ds_set (i := 19) nd rfl (Or.inl rfl) (de_eq hr.units (de_callF (ok_entered_along T) (hr.mono (by decide)) (by rfl) pass0 (da_cons (de_ix (de_var (pv 6)) de_int) (da_cons (de_var (pv 18)) da_nil))) (de_callF (ok_entered_along T) (hr.mono (by decide)) (by rfl) pass0 (da_cons (de_ix (de_var (pv 2)) de_int) (da_cons (de_var (pv 10)) da_nil))))) (dss_cons (ds_if (dt_ne hr.units (de_var (pv 19)) (de_inT (de_ix (de_var (pv 4)) de_int) (de_tup (da_cons de_str (da_cons de_str da_nil))) (by rfl))) (dss_one (ds_ret de_bl)) dss_nil) (dss_cons (ds_asg (vs := [20, 21]) (gd := (dgTup 2 (dgCons (dgName 20) (dgCons (dgName 21) dgNil)))) (de_tup (da_cons (de_callF (ok__law_take T) (hr.mono (by decide)) (by rfl) pass0 (da_cons (de_var (pv 0)) (da_cons de_int da_nil))) (da_cons (de_tup (da_cons (de_sub (de_callF (ok__law_take T) (hr.mono (by decide)) (by rfl) pass0 (da_cons (de_var (pv 0)) (da_cons de_int da_nil))) de_int) (da_cons (de_sub (de_callF (ok__law_take T) (hr.mono (by decide)) (by rfl) pass0 (da_cons (de_var (pv 0)) (da_cons de_int da_nil))) de_int) da_nil))) da_nil))) (pg_tup rfl (pgs_cons (pg_name (i := 20) nd rfl (Or.inr rfl)) (pgs_cons (pg_name (i := 21) nd rfl (Or.inl rfl)) pgs_nil))) (tg_tup (tgs_cons (tg_name (i := 20) (by decide)) (tgs_cons (tg_name (i := 21) (by decide)) tgs_nil)))) (dss_cons (ds_set (i := 22) nd rfl (Or.inl rfl) (de_callF (ok_moved T) (hr.mono (by decide)) (by rfl) pass0 (da_cons (de_var (pv 1)) (da_cons (de_var (pv 2)) (da_cons (de_var (pv 20)) (da_cons (de_var (pv 21)) da_nil)))))) (dss_one (ds_ret (de_callF (ok__law_same T) (hr.mono (by decide)) (by rfl) pass0 (da_cons (de_lst (da_cons (de_callF (ok_goes T) (hr.mono (by decide)) (by rfl) pass0 (da_cons (de_var (pv 1)) (da_cons (de_var (pv 22)) (da_cons (de_var (pv 3)) da_nil)))) (da_cons (de_ix (de_callF (ok_most_entered T) (hr.mono (by decide)) (by rfl) pass0 (da_cons (de_var (pv 1)) (da_cons (de_var (pv 22)) (da_cons (de_var (pv 3)) da_nil)))) de_int) da_nil))) (da_cons (de_lst (da_cons (de_callTyL call_tupleA ld_tuple (by rfl) T.n_tuple (by decide +kernel) (dl_lc (own := [("way_so", 23)]) (gd := (dgName 23)) rfl nd (di_range1 rfl T.n_range (da_cons de_int da_nil)) (blkOk_by (N := N__law_lap_one) (sc := defScope s__law_lap_one) (by decide +kernel)) (tg_name (i := 23) (by decide)) (fun _ _ _ _ _ => (pg_name (i := 23) nd rfl (Or.inl rfl))) (fun _ _ _ _ _ => dts_nil) (fun _ _ _ _ _ => (de_ix (de_var (pv 7)) (de_mod (de_sub (de_var (pv 23)) (de_var (pv 20))) de_int))))) (da_cons (de_ix (de_callF (ok_most_entered T) (hr.mono (by decide)) (by rfl) pass0 (da_cons (de_var (pv 1)) (da_cons (de_var (pv 2)) (da_cons (de_var (pv 3)) da_nil)))) de_int) da_nil))) da_nil))))))))))))))))))))))))))
theorem sc_law : FnScope ["script", "tin", "lap"] ["script"] (defScope s_law) := ⟨rfl, rfl, rfl, by decide +kernel, rfl, by decide +kernel, by decide +kernel⟩
abbrev N_law : List Str := ["script", "tin", "lap"]
theorem law_fn (T : Txt K mg wd) {fd : FuncData} (F : Fun K "law" "law" s_law (ga K "law") fd) : FnOk P wd K mg base CX0 13 (ga K "law") fd ["script"] (upSp K (CC K) sp_law) := by
  refine fn_ok (N := N_law) F sc_law t_law len_law77 pure_law77 fun cdv A outer s H E hr => ?_
  have nd := sc_law.nd
  have hu1 := hu_of hr
  exact (dss_cons (ds_set (i := 1) nd rfl (Or.inl rfl) (de_callF (ok__law_box T) (hr.mono (by decide)) (by rfl) pass0 (da_cons (de_callF (ok__law_cells T) (hr.mono (by decide)) (by rfl) pass0 (da_cons (de_var (pv 0)) (da_cons de_int da_nil))) (da_cons de_int da_nil)))) (dss_cons (ds_for (gd := (dgName 2)) (vs := [2]) PassesOwn.never rfl (di_range1 rfl T.n_range (da_cons de_int da_nil)) (pg_name (i := 2) nd rfl (Or.inl rfl)) (tg_name (i := 2) (by decide)) (dss_one (ds_if (dt_not (dt_val (de_callF (ok__law_lap_one T) (hr.mono (by decide)) (by rfl) pass0 (da_cons (de_var (pv 1)) da_nil)))) (dss_one (ds_ret de_bl)) dss_nil))) (dss_one (ds_ret (de_callF (ok__law_same T) (hr.mono (by decide)) (by rfl) pass0 (da_cons (de_lst (da_cons (de_callF (ok_goes T) (hr.mono (by decide)) (by rfl) pass0 (da_cons de_str (da_cons (de_tup (da_cons (de_tup da_nil) (da_cons (de_tup (da_cons de_int (da_cons de_int (da_cons de_int da_nil)))) da_nil))) (da_cons de_int da_nil)))) (da_cons (de_callF (ok_goes T) (hr.mono (by decide)) (by rfl) pass0 (da_cons de_str (da_cons (de_tup (da_cons (de_tup da_nil) (da_cons (de_tup (da_cons de_int (da_cons de_int (da_cons de_int da_nil)))) da_nil))) (da_cons de_int da_nil)))) (da_cons (de_callF (ok_goes T) (hr.mono (by decide)) (by rfl) pass0 (da_cons de_str (da_cons (de_tup (da_cons (de_tup da_nil) (da_cons (de_tup (da_cons de_int (da_cons de_int (da_cons de_int da_nil)))) da_nil))) (da_cons de_int da_nil)))) da_nil)))) (da_cons (de_lst (da_cons (de_tup (da_cons de_int (da_cons de_int (da_cons de_int (da_cons de_int da_nil))))) (da_cons (de_tup (da_cons de_int (da_cons de_int (da_cons de_int (da_cons de_int da_nil))))) (da_cons (de_tup (da_cons de_int (da_cons de_int (da_cons de_int (da_cons de_int da_nil))))) da_nil)))) da_nil)))))))
def lawLev : Nat := 13
def lawIx : Nat := 57
end
end DL.K77
namespace DL.K77
open PySem PySem.Spec PyProof.Rows L2 He DL
def loose0 : List Str := ["Unfit", "is_number", "is_within", "is_long", "are_numbers", "tupled", "sure_within", "LETTERS", "LEAST_LETTERS", "MOST_LETTERS", "is_letters", "is_rule_in", "sure_rule", "other_letter", "mirrored_rule", "MOST_CELL", "MOST_PAIRS", "is_cell_in", "sure_cell", "is_floor_in", "quarter_turned", "turned_in", "shifted_in", "WAYS", "MOST_STEPS", "is_ant_in", "sure_ant", "is_standing_in", "sure_standing", "turned_way"]
def loose1 : List Str := ["gone_on", "letter_in", "stepped_in", "lived", "told_counts", "lived_by", "counted", "entered_along", "goes", "turns_counted", "cell_word", "entries", "crossings", "most_entered", "moved_in", "moved", "KINDS", "WAYS_BY", "MOST_LINE", "is_line_in", "sure_line", "beyond", "floor_beyond", "cell_beyond", "reflected", "_law_box", "_law_take", "_law_cells", "_law_of", "_law_same"]
def loose2 : List Str := ["_law_laid", "_law_rule", "_law_floor", "_law_ant", "_law_stand", "_law_swapped", "_law_way", "_law_lap_one"]
def looseL : List Str := loose0 ++ loose1 ++ loose2
abbrev RwK : PySem.W.OpenRow := PySem.W.OpenLaw.row PySem.Challenge.rw_antstrails_k77_across_sides_reflected
abbrev hkK : PySem.W.Hook := hookN 2 faL fnL ckL tsL
def obK (s : PySem.W.SharedT) : AlN := obsNG 2 faL fnL ckL tsL (HandSHeadRun.getT s)
theorem obK_eq (s : PySem.W.SharedT) : obK s = hkK.obs s.abs := obsNG_eq (HandSHeadRun.getT_eq s)
theorem runF (w : World) : HandSHeadRun.RunEq RwK (PySem.W.view RwK.prog [77]) hkK obK 3500 looseL (w.withFollow "special-get-raises" false) := by
  intro os
  kernel_rfl
theorem runT (w : World) : HandSHeadRun.RunEq RwK (PySem.W.view RwK.prog [77]) hkK obK 3500 looseL (w.withFollow "special-get-raises" true) := by
  intro os
  kernel_rfl
theorem runK (w : World) : HandSHeadRun.RunEq RwK (PySem.W.view RwK.prog [77]) hkK obK 3500 looseL w := PySem.W.byRow2 "special-get-raises" (P := fun w => HandSHeadRun.RunEq RwK (PySem.W.view RwK.prog [77]) hkK obK 3500 looseL w) runF runT w
theorem law_sp {K : PySem.W.Frag} {C : Addr} {H : Hp} {a : Addr} {ns : List Int} (hl : ns.length ≤ 63) (hO : Only H) (hS : SqL K H a (ns.map V.int)) : upSp K C sp_law [.ref a] H (fun v _ => v = .bl true) fun _ _ _ => False := by
  have rd : RdL K H a (ns.map V.int) := by
    rcases hS with hS | hS
    · rcases hS with hS | ⟨o, hS⟩
      · rcases hO a with z | ⟨o, xs, z⟩
        · rw [z] at hS; cases hS
        · rw [z] at hS; cases hS
      · exact .inl ⟨o, hS⟩
    · exact .inr hS
  exact ⟨[.scl (ns.map D.int)], fun _ => none, fun d _ => d = .bl true, noX, .cons (.scl rd (DnL.of_ints ns)) .nil, (fun b o h => by cases h), ⟨ns, rfl, hl, fun _ _ => rfl⟩, fun d M' v H' hd f r n => by subst hd; exact n.bl_inv, fun _ _ _ q => q.elim⟩
end DL.K77
open PySem PySem.W PySem.Calls PyProof.Rows
theorem PySem.Challenge.cw_antstrails_k77_across_sides_reflected_holds : PySem.Challenge.rw_antstrails_k77_across_sides_reflected.Holds := by
  w_on; o_law
  refine HandSHeadRun.head_any (r := DL.K77.RwK) (q := view DL.K77.RwK.prog [77]) (H := DL.K77.hkK) (ob := DL.K77.obK) (M := 3500) (loose := DL.K77.looseL) (d := HandSHeadRun.topDef DL.K77.RwK.prog 77) (kwd := []) DL.K77.obK_eq
    (by kernel_rfl) (fun s => by kernel_rfl) DL.K77.runK (by kernel_rfl) (by kernel_rfl) (by kernel_rfl) (by rfl) (by first | assumption | decide +kernel) (by decide +kernel) ⟨rfl, rfl, rfl, rfl, rfl, by decide +kernel⟩ ?hw ?hc
  case hw => w_witness2
  case hc =>
    refine L2.walk_ofE (l := PySem.Challenge.rw_antstrails_k77_across_sides_reflected) (n := 63) (k := 13) (x := "script") (CX := L2.CX0) rfl (by decide) (by kernel_rfl) ⟨rfl, by decide, by decide⟩ ?F (fun _ _ _ _ z => z)
    intro w mg fa h Y G hmg0
    obtain ⟨K, KX, c⟩ := Y
    have hmg : mg ("law" : PySem.Str) = some (.ref fa) := by
      have e : (HandSHeadRun.topDef DL.K77.RwK.prog 77).name = ("law" : PySem.Str) := by kernel_rfl
      rw [← e]
      exact hmg0
    have T : DL.K77.Txt K mg w := ⟨h, KX, G, c⟩
    have D0 := T.d DL.K77.lawIx (x := "law") (st := DL.K77.s_law) rfl
    have e := hmg.symm.trans D0.g
    cases e
    obtain ⟨fd, F⟩ := D0.fn
    have hF := fun (base : Heap) => DL.K77.law_fn (P := (PySem.Challenge.rw_antstrails_k77_across_sides_reflected).prog) (base := base) T F
    have hb : ∀ (s : Shared) (u : Value), BindsTo s fd ⟨[u], []⟩ [("script", u)] := by
      obtain ⟨oc, od, kV, doc, pm, an, cdv, ct, osl, rfl, lk, hcd⟩ := F.ex
      exact fun s u => .of_eq rfl
    exact ⟨K, fd, _, KX, hb, fun H a ns hl hO hS => DL.K77.law_sp hl hO hS, fun base _ _ => hF base⟩
