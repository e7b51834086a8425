import PyProof.Rows.All
import Wide.All
import OpenK.AllK
import Wide.FinOn
import HandS.ForMost
import HandS.Lambda
import HandS.NestedK
import KE.KDictKeyed
import KE.SortData
import HandS.Zip
import HandS.TupAny
import HandS.IsInst
import HandS.Deep
import HandS.Wide
import HandS.TupMul
import HandS.EndTab
import HandS.EndOwn
import PySem.Challenge.RW_markpieces_k55_walks_told
set_option Elab.async false
set_option linter.all false
set_option maxRecDepth 100000
/-! M1: plain data read off the heap; owned trees; the relation of slots and data; the lifts. -/
namespace M
open PySem L2

/-- the object at a is just o -/
def pin (a : Addr) (o : Obj) : HO := .ext fun h => h.get? a = some o

/-- a lambda that was made: its words and cells (F's body stands for nothing), its expression -/
structure LF where
  F : NdefX.NF
  be : Expr
def LamO (f : Addr) (L : LF) : HO := .ext fun h => ∃ (od : Option Addr) (sl : Array (Option Value)) (pm ctv : Value), h.get? f = some (⟨.type "function", od, .func (PySem.W.kla_fn L.F.name L.F.qual L.F.params L.be L.F.scope L.F.cl pm (.ref L.F.c) ctv), sl⟩ : Obj)
/-- plain data -/
inductive D where
  | non | bl (b : Bool) | int (i : Int) | str (x : Str) | ref (a : Addr)
  | tup (xs : List D) | lst (xs : List D) | dic (kvs : List (D × D)) | ins (C : Addr) (fs : List (Str × D)) | fn (Φ : LF → Prop) | opq (φ : V → Prop)

/-- a key by value, no truth value -/
def leafIs (k : Leaf) (v : Value) : Bool := k.isOf v && (match v with | .bool _ => false | _ => true)
def leafV : Leaf → V
  | .none => .non
  | .num i => .int i
  | .text x => .str x
inductive LEnt (w : World) : List DictEntry → List Leaf → List Value → Prop
  | nil : LEnt w [] [] []
  | cons {e es k ks u us} : leafIs k e.key = true → e.hash = k.key.hash w → e.val = u → LEnt w es ks us → LEnt w (e :: es) (k :: ks) (u :: us)
/-- the raw entries of a dict's object: its keys (all by value, or all tuples), their values, the values -/
inductive DicO (w : World) (o : Obj) : List NestedKey → List V → List V → Prop
  | leaf {es ep ks us vs} (hx : o.ExactDict) (hd : o.data = .dict es ep) (he : LEnt w es.toList ks us) (nd : ks.Nodup) (r : Vals vs us) (sz : vs.length ≤ sizeLine) : DicO w o (ks.map Leaf.key) (ks.map leafV) vs
  | tup {es ep} {xs : List (NestedKey × Addr × Value)} {vs} (hx : o.ExactDict) (hd : o.data = .dict es ep) (he : es.toList = xs.map fun x => ⟨x.1.hash w, .ref x.2.1, x.2.2⟩) (ht : ∀ x ∈ xs, ∃ r, x.1 = .tup r ∧ x.1.depth ≤ 8) (nd : (xs.map (·.1)).Nodup) (r : Vals vs (xs.map (·.2.2))) (sz : vs.length ≤ sizeLine) : DicO w o (xs.map (·.1)) (xs.map fun x => V.ref x.2.1) vs

def HLe (G H : Hp) : Prop := ∀ b o, G b = some o → H b = some o
theorem HLe.refl (G : Hp) : HLe G G := fun _ _ h => h
theorem HLe.trans {A B C : Hp} (x : HLe A B) (y : HLe B C) : HLe A C := fun b o h => y b o (x b o h)
theorem HLe.upd {H : Hp} {p : Addr} {o : HO} (h : H p = none) : HLe H (upd H p o) := fun b u e => by rw [upd_ne (ne_of_none e h)]; exact e
theorem HLe.upd2 {G H : Hp} {p : Addr} {o : HO} (h : HLe G H) : HLe (L2.upd G p o) (L2.upd H p o) := fun b u e => by
  unfold L2.upd at e ⊢
  split
  · rename_i q; rw [if_pos q] at e; exact e
  · rename_i q; rw [if_neg q] at e; exact h b u e
theorem HLe.none {G H : Hp} (h : HLe G H) {b : Addr} (e : H b = Option.none) : G b = Option.none := by
  cases q : G b with
  | none => rfl
  | some o => rw [h b o q] at e; cases e
theorem Rd.le {G H : Hp} (l : HLe G H) {a : Addr} {u : HO} (h : Rd G a u) : Rd H a u := by
  rcases h with h | ⟨o, h⟩
  · exact .inl (l _ _ h)
  · exact .inr ⟨o, l _ _ h⟩

mutual
/-- data as a dict's key -/
def D.key : D → Option NestedKey
  | .non => some .none
  | .bl _ => none
  | .int i => some (.num i)
  | .str x => some (.text x)
  | .tup xs => (D.keys xs).map .tup
  | .ref _ => none
  | .lst _ => none
  | .dic _ => none
  | .ins _ _ => none
  | .fn _ => none
  | .opq _ => none
def D.keys : List D → Option (List NestedKey)
  | [] => some []
  | x :: xs => match D.key x, D.keys xs with
    | some k, some ks => some (k :: ks)
    | _, _ => none
end

mutual
inductive DR (w : World) (G : Hp) : V → D → Prop
  | non : DR w G .non .non
  | bl (b) : DR w G (.bl b) (.bl b)
  | int (i) : DR w G (.int i) (.int i)
  | str (x) : DR w G (.str x) (.str x)
  | ref (a) : DR w G (.ref a) (.ref a)
  | tup {a vs ds} (h : Rd G a (.tup vs)) (r : DRs w G vs ds) : DR w G (.ref a) (.tup ds)
  | lst {a vs ds} (h : Rd G a (.lst vs)) (r : DRs w G vs ds) : DR w G (.ref a) (.lst ds)
  | dic {a o ks kv vs kvs} (hn : (a == sysModules) = false) (h : G a = some (pin a o)) (hd : DicO w o ks kv vs) (hk : D.keys (kvs.map (·.1)) = some ks) (rk : DRs w G kv (kvs.map (·.1))) (rv : DRs w G vs (kvs.map (·.2))) : DR w G (.ref a) (.dic kvs)
  | ins {a C dx fvs fds} (h : G a = some (.ins C dx fvs)) (hk : fvs.map (·.1) = fds.map (·.1)) (r : DRs w G (fvs.map (·.2)) (fds.map (·.2))) : DR w G (.ref a) (.ins C fds)
  | fn {a L Φ} (h : G a = some (LamO a L)) (hc : G L.F.c = some (LamX.CodeO L.F.c L.F.qual)) (p : Φ L) : DR w G (.ref a) (.fn Φ)
  | opq {a φ} (h : φ (.ref a)) : DR w G (.ref a) (.opq φ)
inductive DRs (w : World) (G : Hp) : List V → List D → Prop
  | nil : DRs w G [] []
  | cons {v d vs ds} : DR w G v d → DRs w G vs ds → DRs w G (v :: vs) (d :: ds)
end
mutual
theorem DR.le {w : World} {G H : Hp} (l : HLe G H) : ∀ {v d}, DR w G v d → DR w H v d
  | _, _, .non => .non
  | _, _, .bl b => .bl b
  | _, _, .int i => .int i
  | _, _, .str x => .str x
  | _, _, .ref a => .ref a
  | _, _, .tup h r => .tup (Rd.le l h) (DRs.le l r)
  | _, _, .lst h r => .lst (Rd.le l h) (DRs.le l r)
  | _, _, .dic hn h hd hk rk rv => .dic hn (l _ _ h) hd hk (DRs.le l rk) (DRs.le l rv)
  | _, _, .ins h hk r => .ins (l _ _ h) hk (DRs.le l r)
  | _, _, .fn h hc p => .fn (l _ _ h) (l _ _ hc) p
  | _, _, .opq h => .opq h
theorem DRs.le {w : World} {G H : Hp} (l : HLe G H) : ∀ {vs ds}, DRs w G vs ds → DRs w H vs ds
  | _, _, .nil => .nil
  | _, _, .cons h r => .cons (DR.le l h) (DRs.le l r)
end
section
variable {w : World} {G H : Hp}
theorem DRs.length : ∀ {vs : List V} {ds : List D}, DRs w G vs ds → vs.length = ds.length
  | _, _, .nil => rfl
  | _, _, .cons _ r => congrArg (· + 1) (DRs.length r)
theorem DRs.get : ∀ {vs : List V} {ds : List D} {i : Nat} {d : D}, DRs w G vs ds → ds[i]? = some d → ∃ v, vs[i]? = some v ∧ DR w G v d
  | _, _, _, _, .nil, e => by simp at e
  | _, _, 0, _, .cons h _, e => by simp at e; subst e; exact ⟨_, rfl, h⟩
  | _, _, i + 1, d, .cons _ r, e => by
    obtain ⟨v, h1, h2⟩ := DRs.get (i := i) (d := d) r (by simpa using e)
    exact ⟨v, by simpa using h1, h2⟩
theorem DRs.get' : ∀ {vs : List V} {ds : List D} {i : Nat} {v : V}, DRs w G vs ds → vs[i]? = some v → ∃ d, ds[i]? = some d ∧ DR w G v d
  | _, _, _, _, .nil, e => by simp at e
  | _, _, 0, _, .cons h _, e => by simp at e; subst e; exact ⟨_, rfl, h⟩
  | _, _, i + 1, v, .cons _ r, e => by
    obtain ⟨d, h1, h2⟩ := DRs.get' (i := i) (v := v) r (by simpa using e)
    exact ⟨d, by simpa using h1, h2⟩
theorem DRs.append : ∀ {vs : List V} {ds : List D} {us : List V} {es : List D}, DRs w G vs ds → DRs w G us es → DRs w G (vs ++ us) (ds ++ es)
  | _, _, _, _, .nil, s => s
  | _, _, _, _, .cons h r, s => .cons h (DRs.append r s)
theorem DRs.take : ∀ {vs : List V} {ds : List D} (n : Nat), DRs w G vs ds → DRs w G (vs.take n) (ds.take n)
  | _, _, 0, _ => .nil
  | _, _, _ + 1, .nil => .nil
  | _, _, n + 1, .cons h r => .cons h (DRs.take n r)
theorem DRs.drop : ∀ {vs : List V} {ds : List D} (n : Nat), DRs w G vs ds → DRs w G (vs.drop n) (ds.drop n)
  | _, _, 0, r => r
  | _, _, _ + 1, .nil => .nil
  | _, _, n + 1, .cons _ r => DRs.drop n r
theorem DRs.set : ∀ {vs : List V} {ds : List D} {v : V} {d : D} (i : Nat), DRs w G vs ds → DR w G v d → DRs w G (vs.set i v) (ds.set i d)
  | _, _, _, _, _, .nil, _ => .nil
  | _, _, _, _, 0, .cons _ r, h => .cons h r
  | _, _, _, _, i + 1, .cons q r, h => .cons q (DRs.set i r h)
theorem DRs.reverse : ∀ {vs : List V} {ds : List D}, DRs w G vs ds → DRs w G vs.reverse ds.reverse
  | _, _, .nil => .nil
  | _, _, .cons h r => by rw [List.reverse_cons, List.reverse_cons]; exact (DRs.reverse r).append (.cons h .nil)
end

/-! ### owned trees -/
/-- what a slot holds: data that nobody changes any more, or an object of one's own (a list of data, a dict of data, a list of trees, an instance of trees, a tuple of trees) -/
inductive T where
  | fz (d : D) | l (ds : List D) | m (kvs : List (D × D)) | ll (ts : List T) | mm (kts : List (D × T)) | ob (C : Addr) (fs : List (Str × T)) | tt (ts : List T)
mutual
/-- the tree as data -/
def T.er : T → D
  | .fz d => d
  | .l ds => .lst ds
  | .m kvs => .dic kvs
  | .ll ts => .lst (T.ers ts)
  | .mm kts => .dic (T.erk kts)
  | .ob C fs => .ins C (T.erf fs)
  | .tt ts => .tup (T.ers ts)
def T.ers : List T → List D
  | [] => []
  | t :: ts => T.er t :: T.ers ts
def T.erk : List (D × T) → List (D × D)
  | [] => []
  | (k, t) :: ts => (k, T.er t) :: T.erk ts
def T.erf : List (Str × T) → List (Str × D)
  | [] => []
  | (k, t) :: ts => (k, T.er t) :: T.erf ts
end
theorem T.erk_fst : ∀ kts : List (D × T), (T.erk kts).map (·.1) = kts.map (·.1)
  | [] => rfl
  | (k, t) :: r => by rw [T.erk, List.map_cons, List.map_cons, T.erk_fst r]
theorem T.erk_snd : ∀ kts : List (D × T), (T.erk kts).map (·.2) = T.ers (kts.map (·.2))
  | [] => rfl
  | (k, t) :: r => by rw [T.erk, List.map_cons, List.map_cons, T.ers, T.erk_snd r]
theorem T.erf_fst : ∀ kts : List (Str × T), (T.erf kts).map (·.1) = kts.map (·.1)
  | [] => rfl
  | (k, t) :: r => by rw [T.erf, List.map_cons, List.map_cons, T.erf_fst r]
theorem T.erf_snd : ∀ kts : List (Str × T), (T.erf kts).map (·.2) = T.ers (kts.map (·.2))
  | [] => rfl
  | (k, t) :: r => by rw [T.erf, List.map_cons, List.map_cons, T.ers, T.erf_snd r]
mutual
/-- v is the tree t, its own objects at F -/
inductive Own (w : World) (G H : Hp) : V → T → List Addr → Prop
  | fz {v d} (h : DR w G v d) : Own w G H v (.fz d) []
  | l {a vs ds} (h : H a = some (.lst vs)) (r : DRs w G vs ds) : Own w G H (.ref a) (.l ds) [a]
  | m {a o ks kv vs kvs} (hn : (a == sysModules) = false) (h : H a = some (pin a o)) (hd : DicO w o ks kv vs) (hk : D.keys (kvs.map (·.1)) = some ks) (rk : DRs w G kv (kvs.map (·.1))) (rv : DRs w G vs (kvs.map (·.2))) : Own w G H (.ref a) (.m kvs) [a]
  | ll {a vs ts F} (h : H a = some (.lst vs)) (r : Owns w G H vs ts F) : Own w G H (.ref a) (.ll ts) (a :: F)
  | mm {a o ks kv vs kts F} (hn : (a == sysModules) = false) (h : H a = some (pin a o)) (hd : DicO w o ks kv vs) (hk : D.keys (kts.map (·.1)) = some ks) (rk : DRs w G kv (kts.map (·.1))) (rv : Owns w G H vs (kts.map (·.2)) F) : Own w G H (.ref a) (.mm kts) (a :: F)
  | ob {a C dx fvs fts F} (h : H a = some (.ins C dx fvs)) (hk : fvs.map (·.1) = fts.map (·.1)) (r : Owns w G H (fvs.map (·.2)) (fts.map (·.2)) F) : Own w G H (.ref a) (.ob C fts) (a :: F)
  | tt {a vs ts F} (h : G a = some (.tup vs)) (r : Owns w G H vs ts F) : Own w G H (.ref a) (.tt ts) F
inductive Owns (w : World) (G H : Hp) : List V → List T → List Addr → Prop
  | nil : Owns w G H [] [] []
  | cons {v t F vs ts F'} : Own w G H v t F → Owns w G H vs ts F' → Owns w G H (v :: vs) (t :: ts) (F ++ F')
end
mutual
theorem Own.frame {w : World} {G H G' H' : Hp} (l : HLe G G') : ∀ {v t F}, Own w G H v t F → (∀ b ∈ F, ∀ o, H b = some o → H' b = some o) → Own w G' H' v t F
  | _, _, _, .fz h, _ => .fz (h.le l)
  | _, _, _, .l h r, k => .l (k _ (by simp) _ h) (r.le l)
  | _, _, _, .m hn h hd hk rk rv, k => .m hn (k _ (by simp) _ h) hd hk (rk.le l) (rv.le l)
  | _, _, _, .ll h r, k => .ll (k _ (by simp) _ h) (Owns.frame l r fun b hb => k b (by simp [hb]))
  | _, _, _, .mm hn h hd hk rk rv, k => .mm hn (k _ (by simp) _ h) hd hk (rk.le l) (Owns.frame l rv fun b hb => k b (by simp [hb]))
  | _, _, _, .ob h hk r, k => .ob (k _ (by simp) _ h) hk (Owns.frame l r fun b hb => k b (by simp [hb]))
  | _, _, _, .tt h r, k => .tt (l _ _ h) (Owns.frame l r k)
theorem Owns.frame {w : World} {G H G' H' : Hp} (l : HLe G G') : ∀ {vs ts F}, Owns w G H vs ts F → (∀ b ∈ F, ∀ o, H b = some o → H' b = some o) → Owns w G' H' vs ts F
  | _, _, _, .nil, _ => .nil
  | _, _, _, .cons h r, k => .cons (Own.frame l h fun b hb => k b (by simp [hb])) (Owns.frame l r fun b hb => k b (by simp [hb]))
end
mutual
/-- an owned object is there -/
theorem Own.dom {w : World} {G H : Hp} : ∀ {v t F}, Own w G H v t F → ∀ b ∈ F, ∃ o, H b = some o
  | _, _, _, .fz _, b, hb => by cases hb
  | _, _, _, .l h _, b, hb => by simp at hb; subst hb; exact ⟨_, h⟩
  | _, _, _, .m _ h _ _ _ _, b, hb => by simp at hb; subst hb; exact ⟨_, h⟩
  | _, _, _, .ll h r, b, hb => by
    rcases List.mem_cons.mp hb with rfl | hb
    · exact ⟨_, h⟩
    · exact Owns.dom r b hb
  | _, _, _, .mm _ h _ _ _ r, b, hb => by
    rcases List.mem_cons.mp hb with rfl | hb
    · exact ⟨_, h⟩
    · exact Owns.dom r b hb
  | _, _, _, .ob h _ r, b, hb => by
    rcases List.mem_cons.mp hb with rfl | hb
    · exact ⟨_, h⟩
    · exact Owns.dom r b hb
  | _, _, _, .tt _ r, b, hb => Owns.dom r b hb
theorem Owns.dom {w : World} {G H : Hp} : ∀ {vs ts F}, Owns w G H vs ts F → ∀ b ∈ F, ∃ o, H b = some o
  | _, _, _, .nil, b, hb => by cases hb
  | _, _, _, .cons h r, b, hb => by
    rcases List.mem_append.mp hb with hb | hb
    · exact Own.dom h b hb
    · exact Owns.dom r b hb
end
mutual
/-- frozen: read off any heap that has all of it -/
theorem Own.read {w : World} {G H K : Hp} (l : HLe G K) : ∀ {v t F}, Own w G H v t F → (∀ b ∈ F, ∀ o, H b = some o → K b = some o) → DR w K v t.er
  | _, _, _, .fz h, _ => h.le l
  | _, _, _, .l h r, k => .lst (.inl (k _ (by simp) _ h)) (r.le l)
  | _, _, _, .m hn h hd hk rk rv, k => .dic hn (k _ (by simp) _ h) hd hk (rk.le l) (rv.le l)
  | _, _, _, .ll h r, k => .lst (.inl (k _ (by simp) _ h)) (Owns.read l r fun b hb => k b (by simp [hb]))
  | _, _, _, .mm hn h hd hk rk rv, k => by
    rw [T.er]
    exact .dic hn (k _ (by simp) _ h) hd (by rw [T.erk_fst]; exact hk) (by rw [T.erk_fst]; exact rk.le l) (by rw [T.erk_snd]; exact Owns.read l rv fun b hb => k b (by simp [hb]))
  | _, _, _, .ob h hk r, k => by
    rw [T.er]
    exact .ins (k _ (by simp) _ h) (by rw [T.erf_fst]; exact hk) (by rw [T.erf_snd]; exact Owns.read l r fun b hb => k b (by simp [hb]))
  | _, _, _, .tt h r, k => .tup (.inl (l _ _ h)) (Owns.read l r k)
theorem Owns.read {w : World} {G H K : Hp} (l : HLe G K) : ∀ {vs ts F}, Owns w G H vs ts F → (∀ b ∈ F, ∀ o, H b = some o → K b = some o) → DRs w K vs (T.ers ts)
  | _, _, _, .nil, _ => .nil
  | _, _, _, .cons h r, k => .cons (Own.read l h fun b hb => k b (by simp [hb])) (Owns.read l r fun b hb => k b (by simp [hb]))
end
end M
/-! M2: slots and data; what grows; the lifts of the judgements. -/
namespace M
open PySem L2
abbrev Sd := List (Option T)
inductive Slots (w : World) (G H : Hp) : St → Sd → List Addr → Prop
  | nil : Slots w G H [] [] []
  | no {x σ σd F} : Slots w G H σ σd F → Slots w G H (x :: σ) (none :: σd) F
  | so {v t F σ σd F'} : Own w G H v t F → Slots w G H σ σd F' → Slots w G H (some v :: σ) (some t :: σd) (F ++ F')
section
variable {w : World} {G H G' H' : Hp}
theorem Slots.frame (l : HLe G G') : ∀ {σ σd F}, Slots w G H σ σd F → (∀ b ∈ F, ∀ o, H b = some o → H' b = some o) → Slots w G' H' σ σd F
  | _, _, _, .nil, _ => .nil
  | _, _, _, .no r, k => .no (Slots.frame l r k)
  | _, _, _, .so h r, k => .so (Own.frame l h fun b hb => k b (by simp [hb])) (Slots.frame l r fun b hb => k b (by simp [hb]))
theorem Slots.dom : ∀ {σ σd F}, Slots w G H σ σd F → ∀ b ∈ F, ∃ o, H b = some o
  | _, _, _, .nil, b, hb => by cases hb
  | _, _, _, .no r, b, hb => Slots.dom r b hb
  | _, _, _, .so h r, b, hb => by
    rcases List.mem_append.mp hb with hb | hb
    · exact Own.dom h b hb
    · exact Slots.dom r b hb
theorem Slots.length : ∀ {σ σd F}, Slots w G H σ σd F → σ.length = σd.length
  | _, _, _, .nil => rfl
  | _, _, _, .no r => congrArg (· + 1) r.length
  | _, _, _, .so _ r => congrArg (· + 1) r.length
/-- a slot is forgotten -/
theorem Slots.kill : ∀ {σ σd F} (i : Nat) (x : Option V), Slots w G H σ σd F → ∃ F', Slots w G H (σ.set i x) (σd.set i none) F' ∧ List.Sublist F' F
  | _, _, _, _, _, .nil => ⟨[], .nil, List.Sublist.refl _⟩
  | _, _, _, 0, x, .no r => ⟨_, .no r, List.Sublist.refl _⟩
  | _, _, _, 0, x, .so h r => ⟨_, .no r, List.sublist_append_right _ _⟩
  | _, _, _, i + 1, x, .no r => by
    obtain ⟨F', a, b⟩ := Slots.kill i x r
    exact ⟨F', .no a, b⟩
  | _, _, _, i + 1, x, .so (F := F) h r => by
    obtain ⟨F', a, b⟩ := Slots.kill i x r
    exact ⟨F ++ F', .so h a, List.Sublist.append_left b _⟩
/-- a slot's tree is taken out -/
theorem Slots.take : ∀ {σ σd F} {i : Nat} {t : T}, Slots w G H σ σd F → σd[i]? = some (some t) → ∃ v Fi F', σ[i]? = some (some v) ∧ Own w G H v t Fi ∧ Slots w G H σ (σd.set i none) F' ∧ List.Perm F (Fi ++ F')
  | _, _, _, i, _, .nil, e => by simp at e
  | _, _, _, 0, _, .no r, e => by simp at e
  | _, _, _, 0, _, .so h r, e => by
    simp at e
    subst e
    exact ⟨_, _, _, rfl, h, .no r, List.Perm.refl _⟩
  | _, _, _, i + 1, t, .no r, e => by
    obtain ⟨v, Fi, F', a, b, c, d⟩ := Slots.take (i := i) (t := t) r (by simpa using e)
    exact ⟨v, Fi, F', by simpa using a, b, .no c, d⟩
  | _, _, _, i + 1, t, .so (F := F) h r, e => by
    obtain ⟨v, Fi, F', a, b, c, d⟩ := Slots.take (i := i) (t := t) r (by simpa using e)
    refine ⟨v, Fi, F ++ F', by simpa using a, b, .so h c, ?_⟩
    refine (List.Perm.append_left F d).trans ?_
    rw [← List.append_assoc, ← List.append_assoc]
    exact List.Perm.append_right _ List.perm_append_comm
/-- a tree is put into a slot that holds nothing -/
theorem Slots.put : ∀ {σ σd F} {i : Nat} {t : T} {v : V} {Fi : List Addr}, Slots w G H σ σd F → σd[i]? = some none → Own w G H v t Fi → ∃ F', Slots w G H (σ.set i (some v)) (σd.set i (some t)) F' ∧ List.Perm F' (Fi ++ F)
  | _, _, _, i, _, _, _, .nil, e, _ => by simp at e
  | _, _, _, 0, _, _, _, .no r, e, h => ⟨_, .so h r, List.Perm.refl _⟩
  | _, _, _, 0, _, _, _, .so h r, e, _ => by simp at e
  | _, _, _, i + 1, t, v, Fi, .no r, e, h => by
    obtain ⟨F', a, b⟩ := Slots.put (i := i) (t := t) r (by simpa using e) h
    exact ⟨F', .no a, b⟩
  | _, _, _, i + 1, t, v, Fi, .so (F := F) h0 r, e, h => by
    obtain ⟨F', a, b⟩ := Slots.put (i := i) (t := t) r (by simpa using e) h
    refine ⟨F ++ F', .so h0 a, ?_⟩
    refine (List.Perm.append_left F b).trans ?_
    rw [← List.append_assoc, ← List.append_assoc]
    exact List.Perm.append_right _ List.perm_append_comm
theorem Slots.app : ∀ {σ σd F τ τd F2}, Slots w G H σ σd F → Slots w G H τ τd F2 → Slots w G H (σ ++ τ) (σd ++ τd) (F ++ F2)
  | _, _, _, _, _, _, .nil, s => s
  | _, _, _, _, _, _, .no r, s => .no (Slots.app r s)
  | _, _, _, _, _, _, .so h r, s => by rw [List.append_assoc]; exact .so h (Slots.app r s)
theorem Slots.split : ∀ {σ σd τ τd F}, σ.length = σd.length → Slots w G H (σ ++ τ) (σd ++ τd) F → ∃ F1 F2, Slots w G H σ σd F1 ∧ Slots w G H τ τd F2 ∧ F = F1 ++ F2
  | [], [], _, _, F, _, s => ⟨[], F, .nil, s, rfl⟩
  | [], _ :: _, _, _, _, e, _ => by simp at e
  | _ :: _, [], _, _, _, e, _ => by simp at e
  | x :: σ, y :: σd, τ, τd, F, e, s => by
    cases s with
    | no r =>
      obtain ⟨F1, F2, a, b, c⟩ := Slots.split (by simpa using e) r
      exact ⟨F1, F2, .no a, b, c⟩
    | so h r =>
      obtain ⟨F1, F2, a, b, c⟩ := Slots.split (by simpa using e) r
      exact ⟨_ ++ F1, F2, .so h a, b, by rw [c, List.append_assoc]⟩
theorem Slots.nones : ∀ (σ : St), Slots w G H σ (List.replicate σ.length none) []
  | [] => .nil
  | _ :: σ => .no (Slots.nones σ)
end

/-- an object of one's own is no table -/
theorem pin_ntbl {a : Addr} {o : Obj} {ps : Array Value} : pin a o ≠ .tbl ps := fun h => by unfold pin at h; cases h
mutual
theorem Own.ntbl {w : World} {G H : Hp} : ∀ {v t F}, Own w G H v t F → ∀ b ∈ F, ∀ ps, H b ≠ some (.tbl ps)
  | _, _, _, .fz _, b, hb, ps => by cases hb
  | _, _, _, .l h _, b, hb, ps => by simp at hb; subst hb; rw [h]; exact fun e => by cases e
  | _, _, _, .m _ h _ _ _ _, b, hb, ps => by simp at hb; subst hb; rw [h]; exact fun e => pin_ntbl (Option.some.inj e)
  | _, _, _, .ll h r, b, hb, ps => by
    rcases List.mem_cons.mp hb with rfl | hb
    · rw [h]; exact fun e => by cases e
    · exact Owns.ntbl r b hb ps
  | _, _, _, .mm _ h _ _ _ r, b, hb, ps => by
    rcases List.mem_cons.mp hb with rfl | hb
    · rw [h]; exact fun e => pin_ntbl (Option.some.inj e)
    · exact Owns.ntbl r b hb ps
  | _, _, _, .ob h _ r, b, hb, ps => by
    rcases List.mem_cons.mp hb with rfl | hb
    · rw [h]; exact fun e => by cases e
    · exact Owns.ntbl r b hb ps
  | _, _, _, .tt _ r, b, hb, ps => Owns.ntbl r b hb ps
theorem Owns.ntbl {w : World} {G H : Hp} : ∀ {vs ts F}, Owns w G H vs ts F → ∀ b ∈ F, ∀ ps, H b ≠ some (.tbl ps)
  | _, _, _, .nil, b, hb, ps => by cases hb
  | _, _, _, .cons h r, b, hb, ps => by
    rcases List.mem_append.mp hb with hb | hb
    · exact Own.ntbl h b hb ps
    · exact Owns.ntbl r b hb ps
end
theorem Slots.ntbl {w : World} {G H : Hp} : ∀ {σ σd F}, Slots w G H σ σd F → ∀ b ∈ F, ∀ ps, H b ≠ some (.tbl ps)
  | _, _, _, .nil, b, hb, _ => by cases hb
  | _, _, _, .no r, b, hb, ps => Slots.ntbl r b hb ps
  | _, _, _, .so h r, b, hb, ps => by
    rcases List.mem_append.mp hb with hb | hb
    · exact Own.ntbl h b hb ps
    · exact Slots.ntbl r b hb ps
/-- what stands around: Z: frozen from the start; T: tables of code objects, each with the name of its codes -/
structure Amb where
  Z : Hp
  T : List (Addr × Str)
def TabG (p : Addr × Str) (G H : Hp) : Prop := ∃ ps : Array Value, H p.1 = some (.tbl ps) ∧ TriplesOk ps.toList ∧ ∀ (pos : Pos) (cv : Value), codeAmong pos ps.toList = some cv → ∃ c, cv = .ref c ∧ G c = some (LamX.CodeO c p.2)
structure Am (Z : Amb) (U G H : Hp) : Prop where
  z : HLe Z.Z G
  tb : ∀ p ∈ Z.T, TabG p G H ∧ U p.1 = none
theorem Am.re {Z : Amb} {U G H U' G' H' : Hp} (a : Am Z U G H) (g : HLe G G') (hu : ∀ b ps, H b = some (.tbl ps) → U b = none → U' b = none) (ht : ∀ b ps, H b = some (.tbl ps) → H' b = some (.tbl ps)) : Am Z U' G' H' :=
  ⟨a.z.trans g, fun p hp => by
    obtain ⟨⟨ps, h1, h2, h3⟩, h4⟩ := a.tb p hp
    exact ⟨⟨ps, ht _ _ h1, h2, fun pos cv hc => by obtain ⟨c, e, h⟩ := h3 pos cv hc; exact ⟨c, e, g _ _ h⟩⟩, hu _ _ h1 h4⟩⟩
theorem Am.mut {Z : Amb} {U G H : Hp} {a : Addr} {o : HO} (m : Am Z U G H) (h : ∀ ps, H a ≠ some (.tbl ps)) : Am Z U G (upd H a o) := m.re (.refl G) (fun _ _ _ e => e) fun b ps e => by
  have : b ≠ a := fun q => h ps (by rw [← q]; exact e)
  rw [upd_ne this]
  exact e
/-- the slots of the heap H hold σd; G: what is never changed any more, U: what is not to be changed now, Z: what was frozen from the start -/
structure Rep (w : World) (Z : Amb) (U G : Hp) (σ : St) (H : Hp) (σd : Sd) : Prop where
  zg : Am Z U G H
  gu : HLe G U
  uh : HLe U H
  ow : ∃ F, Slots w G H σ σd F ∧ F.Nodup ∧ ∀ a ∈ F, U a = none
structure Ext (U G U' G' : Hp) : Prop where
  u : HLe U U'
  g : HLe G G'
  n : ∀ b o u, G' b = some o → U b = some u → ∃ v, G b = some v
theorem Ext.refl (U G : Hp) : Ext U G U G := ⟨.refl _, .refl _, fun _ _ _ h _ => ⟨_, h⟩⟩
theorem Ext.trans {U G U1 G1 U2 G2 : Hp} (a : Ext U G U1 G1) (b : Ext U1 G1 U2 G2) : Ext U G U2 G2 :=
  ⟨a.u.trans b.u, a.g.trans b.g, fun c o u h k => by
    obtain ⟨v, hv⟩ := b.n c o u h (a.u _ _ k)
    exact a.n c v u hv k⟩
/-- new objects alone -/
structure Grow (U G H U' G' H' : Hp) : Prop where
  h : HLe H H'
  e : Ext U G U' G'
  gu : HLe G' U'
  uh : HLe U' H'
  nu : ∀ b o, U' b = some o → (∃ u, U b = some u) ∨ H b = none
section
variable {w : World} {Z : Amb} {U G U' G' H H' : Hp} {σ : St} {σd : Sd} {p : Addr} {o : HO}
theorem Rep.gh (R : Rep w Z U G σ H σd) : HLe G H := R.gu.trans R.uh
theorem Grow.refl (gu : HLe G U) (uh : HLe U H) : Grow U G H U G H := ⟨.refl _, .refl _ _, gu, uh, fun _ _ h => .inl ⟨_, h⟩⟩
theorem Grow.trans {U2 G2 H2 : Hp} (a : Grow U G H U' G' H') (b : Grow U' G' H' U2 G2 H2) : Grow U G H U2 G2 H2 :=
  ⟨a.h.trans b.h, a.e.trans b.e, b.gu, b.uh, fun c o h => by
    rcases b.nu c o h with ⟨u, h⟩ | h
    · exact a.nu c u h
    · exact .inr (a.h.none h)⟩
/-- a new object of one's own -/
theorem Grow.own (gu : HLe G U) (uh : HLe U H) (hp : H p = none) : Grow U G H U G (upd H p o) := ⟨.upd hp, .refl _ _, gu, uh.trans (.upd hp), fun _ _ h => .inl ⟨_, h⟩⟩
/-- a new frozen object -/
theorem Grow.frz (gu : HLe G U) (uh : HLe U H) (hp : H p = none) : Grow U G H (upd U p o) (upd G p o) (upd H p o) := by
  have hU : U p = none := uh.none hp
  have hG : G p = none := gu.none hU
  refine ⟨.upd hp, ⟨.upd hU, .upd hG, fun b q u h k => ?_⟩, gu.upd2, uh.upd2, fun b q h => ?_⟩
  · have : b ≠ p := ne_of_none k hU
    rw [upd_ne this] at h
    exact ⟨_, h⟩
  · by_cases e : b = p
    · exact .inr (e ▸ hp)
    · rw [upd_ne e] at h
      exact .inl ⟨_, h⟩
theorem Am.grow (a : Am Z U G H) (g : Grow U G H U' G' H') : Am Z U' G' H' := a.re g.e.g (fun b ps h hu => by
    cases q : U' b with
    | none => rfl
    | some o =>
      rcases g.nu b o q with ⟨u, k⟩ | k
      · rw [hu] at k; cases k
      · rw [h] at k; cases k) fun b ps h => g.h _ _ h
theorem Rep.grow (R : Rep w Z U G σ H σd) (g : Grow U G H U' G' H') : Rep w Z U' G' σ H' σd := by
  obtain ⟨F, s, nd, nu⟩ := R.ow
  refine ⟨R.zg.grow g, g.gu, g.uh, F, s.frame g.e.g (fun b _ o h => g.h b o h), nd, fun a ha => ?_⟩
  cases q : U' a with
  | none => rfl
  | some o =>
    rcases g.nu a o q with ⟨u, h⟩ | h
    · rw [nu a ha] at h; cases h
    · obtain ⟨o, ho⟩ := s.dom a ha
      rw [h] at ho; cases ho
/-- a new tree on top -/
theorem Rep.top {v : V} {t : T} {Fv : List Addr} (R : Rep w Z U G σ H σd) (g : Grow U G H U' G' H') (h : Own w G' H' v t Fv) (nd : Fv.Nodup) (nw : ∀ b ∈ Fv, H b = none ∧ U' b = none) : Rep w Z U' G' (some v :: σ) H' (some t :: σd) := by
  obtain ⟨F0, s0, _, _⟩ := R.ow
  obtain ⟨F, s, nf, nu⟩ := R.ow
  obtain ⟨zg, gu, uh, F', s', nf', nu'⟩ := R.grow g
  have e : ∀ b ∈ F, ∃ o, H b = some o := s.dom
  refine ⟨zg, gu, uh, Fv ++ F, .so h (s.frame g.e.g (fun b _ o h => g.h b o h)), ?_, fun a ha => ?_⟩
  · rw [List.nodup_append]
    refine ⟨nd, nf, fun a ha b hb e' => ?_⟩
    obtain ⟨o, ho⟩ := e b hb
    rw [← e', (nw a ha).1] at ho; cases ho
  · rcases List.mem_append.mp ha with ha | ha
    · exact (nw a ha).2
    · cases q : U' a with
      | none => rfl
      | some o =>
        rcases g.nu a o q with ⟨u, h⟩ | h
        · rw [nu a ha] at h; cases h
        · obtain ⟨o, ho⟩ := e a ha
          rw [h] at ho; cases ho
theorem Rep.topD {v : V} {d : D} (R : Rep w Z U G σ H σd) (h : DR w G v d) : Rep w Z U G (some v :: σ) H (some (.fz d) :: σd) := by
  obtain ⟨F, s, nd, nu⟩ := R.ow
  exact ⟨R.zg, R.gu, R.uh, F, .so (F := []) (.fz h) s, nd, nu⟩
theorem Rep.topG {v : V} {d : D} (R : Rep w Z U G σ H σd) (g : Grow U G H U' G' H') (h : DR w G' v d) : Rep w Z U' G' (some v :: σ) H' (some (.fz d) :: σd) := (R.grow g).topD h
theorem Rep.pop {x : Option V} {t : Option T} (R : Rep w Z U G (x :: σ) H (t :: σd)) : Rep w Z U G σ H σd := by
  obtain ⟨F, s, nd, nu⟩ := R.ow
  cases s with
  | no r => exact ⟨R.zg, R.gu, R.uh, F, r, nd, nu⟩
  | so h r => exact ⟨R.zg, R.gu, R.uh, _, r, (List.nodup_append.mp nd).2.1, fun a ha => nu a (List.mem_append_right _ ha)⟩
theorem Rep.kill (R : Rep w Z U G σ H σd) (i : Nat) (x : Option V) : Rep w Z U G (σ.set i x) H (σd.set i none) := by
  obtain ⟨F, s, nd, nu⟩ := R.ow
  obtain ⟨F', s', sb⟩ := s.kill i x
  exact ⟨R.zg, R.gu, R.uh, F', s', sb.nodup nd, fun a ha => nu a (sb.subset ha)⟩
theorem Rep.length (R : Rep w Z U G σ H σd) : σ.length = σd.length := let ⟨_, s, _⟩ := R.ow; s.length
/-- what a slot's tree reads as -/
theorem Rep.at (R : Rep w Z U G σ H σd) {i : Nat} {t : T} (e : σd[i]? = some (some t)) : ∃ v F, σ[i]? = some (some v) ∧ Own w G H v t F := by
  obtain ⟨F, s, nd, nu⟩ := R.ow
  obtain ⟨v, Fi, F', a, b, _⟩ := s.take e
  exact ⟨v, Fi, a, b⟩
theorem Own.readH {v : V} {t : T} {F : List Addr} (gh : HLe G H) (h : Own w G H v t F) : DR w H v t.er := h.read gh fun _ _ _ e => e
/-- the freezing of addresses -/
def mix (F : List Addr) (H G : Hp) : Hp := fun b => if b ∈ F then H b else G b
theorem mix_in {F : List Addr} {b : Addr} (h : b ∈ F) : mix F H G b = H b := if_pos h
theorem mix_out {F : List Addr} {b : Addr} (h : b ∉ F) : mix F H G b = G b := if_neg h
/-- the tree on top is frozen -/
theorem Rep.freeze {v : V} {t : T} (R : Rep w Z U G (some v :: σ) H (some t :: σd)) : ∃ U' G', Ext U G U' G' ∧ Rep w Z U' G' (some v :: σ) H (some (.fz t.er) :: σd) := by
  obtain ⟨F, s, nd, nu⟩ := R.ow
  cases s with
  | @so _ _ F1 _ _ F2 h r =>
    have nd' := List.nodup_append.mp nd
    have lG : HLe G (mix F1 H G) := fun b o e => by
      have : b ∉ F1 := fun hb => by
        have := nu b (List.mem_append_left _ hb)
        rw [R.gu b o e] at this; cases this
      rw [mix_out this]; exact e
    have lU : HLe U (mix F1 H U) := fun b o e => by
      have : b ∉ F1 := fun hb => by
        have := nu b (List.mem_append_left _ hb)
        rw [e] at this; cases this
      rw [mix_out this]; exact e
    refine ⟨mix F1 H U, mix F1 H G, ⟨lU, lG, fun b o u e k => ?_⟩, R.zg.re lG (fun b ps hb hu => by rw [mix_out (fun q => h.ntbl b q ps hb)]; exact hu) (fun _ _ e => e), fun b o e => ?_, fun b o e => ?_, F2, ?_, nd'.2.1, fun a ha => ?_⟩
    · have : b ∉ F1 := fun hb => by
        have := nu b (List.mem_append_left _ hb)
        rw [k] at this; cases this
      rw [mix_out this] at e; exact ⟨_, e⟩
    · unfold mix at e ⊢
      split
      · rename_i q; rw [if_pos q] at e; exact e
      · rename_i q; rw [if_neg q] at e; exact R.gu b o e
    · unfold mix at e
      split at e
      · exact e
      · exact R.uh b o e
    · exact .so (F := []) (.fz (h.read lG fun b hb o e => by rw [mix_in hb]; exact e)) (r.frame lG fun _ _ _ e => e)
    · have : a ∉ F1 := fun hb => nd'.2.2 a hb a ha rfl
      rw [mix_out this]; exact nu a (List.mem_append_right _ ha)
/-- a slot's tree comes on top -/
theorem Rep.lift {i : Nat} {t : T} (R : Rep w Z U G σ H σd) (e : σd[i]? = some (some t)) : ∃ v, σ[i]? = some (some v) ∧ Rep w Z U G (some v :: σ) H (some t :: σd.set i none) := by
  obtain ⟨F, s, nd, nu⟩ := R.ow
  obtain ⟨v, Fi, F', a, b, c, d⟩ := s.take e
  exact ⟨v, a, R.zg, R.gu, R.uh, Fi ++ F', .so b c, d.nodup_iff.mp nd, fun x hx => nu x (d.mem_iff.mpr hx)⟩
/-- the tree on top is stored -/
theorem Rep.store {v : V} {t : T} (R : Rep w Z U G (some v :: σ) H (some t :: σd)) {i : Nat} (hi : i < σd.length) : Rep w Z U G (σ.set i (some v)) H (σd.set i (some t)) := by
  obtain ⟨F, s, nd, nu⟩ := R.ow
  cases s with
  | @so _ _ F1 _ _ F2 h r =>
    obtain ⟨F', s', sb⟩ := r.kill i none
    obtain ⟨F3, s3, pm⟩ := s'.put (i := i) (by rw [List.getElem?_set_self hi]) h
    rw [List.set_set, List.set_set] at s3
    refine ⟨R.zg, R.gu, R.uh, F3, s3, pm.nodup_iff.mpr ?_, fun a ha => ?_⟩
    · exact (List.Sublist.append_left sb F1).nodup nd
    · have := pm.mem_iff.mp ha
      rcases List.mem_append.mp this with q | q
      · exact nu a (List.mem_append_left _ q)
      · exact nu a (List.mem_append_right _ (sb.subset q))
/-! ### guarding -/
def cut (F : List Addr) (U : Hp) : Hp := fun b => if b ∈ F then none else U b
theorem cut_in {F : List Addr} {b : Addr} (h : b ∈ F) : cut F U b = none := if_pos h
theorem cut_out {F : List Addr} {b : Addr} (h : b ∉ F) : cut F U b = U b := if_neg h
theorem cut_none {F : List Addr} {b : Addr} (h : U b = none) : cut F U b = none := by
  unfold cut
  split
  · rfl
  · exact h
theorem guard_le {F : List Addr} (nw : ∀ b ∈ F, U b = none) : HLe U (mix F H U) := fun b o e => by
  have : b ∉ F := fun hb => by rw [nw b hb] at e; cases e
  rw [mix_out this]; exact e
theorem guard_uh {F : List Addr} (uh : HLe U H) : HLe (mix F H U) H := fun b o e => by
  unfold mix at e
  split at e
  · exact e
  · exact uh b o e
theorem unguard {F : List Addr} {U1 G1 : Hp} (gu : HLe G U) (nw : ∀ b ∈ F, U b = none) (dm : ∀ b ∈ F, ∃ o, H b = some o) (e : Ext (mix F H U) G U1 G1) (gu1 : HLe G1 U1) :
    Ext U G (cut F U1) G1 ∧ HLe G1 (cut F U1) ∧ HLe (cut F U1) U1 ∧ ∀ b ∈ F, ∀ o, H b = some o → U1 b = some o := by
  have hF : ∀ b ∈ F, ∀ o, H b = some o → U1 b = some o := fun b hb o h => e.u b o (by rw [mix_in hb]; exact h)
  have gF : ∀ b o, G1 b = some o → b ∉ F := fun b o h hb => by
    obtain ⟨u, hu⟩ := dm b hb
    obtain ⟨v, hv⟩ := e.n b o u h (by rw [mix_in hb]; exact hu)
    have := gu b v hv
    rw [nw b hb] at this; cases this
  refine ⟨⟨fun b o h => ?_, e.g, fun b o u h k => ?_⟩, fun b o h => ?_, fun b o h => ?_, hF⟩
  · have : b ∉ F := fun hb => by rw [nw b hb] at h; cases h
    rw [cut_out this]
    exact e.u b o (guard_le nw b o h)
  · exact e.n b o u h (guard_le nw b u k)
  · rw [cut_out (gF b o h)]; exact gu1 b o h
  · unfold cut at h
    split at h
    · cases h
    · exact h
/-- the tree on top is put aside -/
theorem Rep.guard {v : V} {t : T} (R : Rep w Z U G (some v :: σ) H (some t :: σd)) : ∃ F, Own w G H v t F ∧ F.Nodup ∧ (∀ b ∈ F, U b = none) ∧ Rep w Z (mix F H U) G σ H σd := by
  obtain ⟨F, s, nd, nu⟩ := R.ow
  cases s with
  | @so _ _ F1 _ _ F2 h r =>
    have nd' := List.nodup_append.mp nd
    have nw : ∀ b ∈ F1, U b = none := fun b hb => nu b (List.mem_append_left _ hb)
    refine ⟨F1, h, nd'.1, nw, R.zg.re (.refl G) (fun b ps hb hu => by rw [mix_out (fun q => h.ntbl b q ps hb)]; exact hu) (fun _ _ e => e), R.gu.trans (guard_le nw), guard_uh R.uh, F2, r, nd'.2.1, fun a ha => ?_⟩
    have : a ∉ F1 := fun hb => nd'.2.2 a hb a ha rfl
    rw [mix_out this]
    exact nu a (List.mem_append_right _ ha)
theorem Rep.unguard {v : V} {t : T} {F : List Addr} {U1 G1 H1 : Hp} {τ : St} {σ1 : Sd} (R0 : HLe G U) (h : Own w G H v t F) (nd : F.Nodup) (nw : ∀ b ∈ F, U b = none) (e : Ext (mix F H U) G U1 G1) (R : Rep w Z U1 G1 τ H1 σ1) :
    Ext U G (cut F U1) G1 ∧ Rep w Z (cut F U1) G1 (some v :: τ) H1 (some t :: σ1) := by
  obtain ⟨e2, gu2, uu, hF⟩ := M.unguard R0 nw h.dom e R.gu
  obtain ⟨F2, s, nf, nu⟩ := R.ow
  refine ⟨e2, R.zg.re (.refl _) (fun b _ _ hu => cut_none hu) (fun _ _ e => e), gu2, uu.trans R.uh, F ++ F2, .so (h.frame e2.g fun b hb o q => R.uh b o (hF b hb o q)) s, ?_, fun a ha => ?_⟩
  · rw [List.nodup_append]
    refine ⟨nd, nf, fun a ha b hb e' => ?_⟩
    obtain ⟨o, ho⟩ := h.dom a ha
    have := hF a ha o ho
    rw [e', nu b hb] at this; cases this
  · rcases List.mem_append.mp ha with ha | ha
    · exact cut_in ha
    · by_cases hf : a ∈ F
      · exact cut_in hf
      · rw [cut_out hf]; exact nu a ha
/-- what a slot that holds nothing stands for is free -/
theorem Slots.re : ∀ {σ τ : St} {σd : Sd} {F : List Addr}, Slots w G H σ σd F → τ.length = σ.length → (∀ j : Nat, τ[j]? = σ[j]? ∨ σd[j]? = some none) → Slots w G H τ σd F
  | [], τ, _, _, .nil, hl, _ => by
    have : τ = [] := List.length_eq_zero_iff.mp hl
    subst this
    exact .nil
  | _ :: _, [], _, _, _, hl, _ => by simp at hl
  | _ :: _, y :: τ, _, _, .no r, hl, k => .no (Slots.re r (by simpa using hl) fun j => by simpa using k (j + 1))
  | _ :: _, y :: τ, _, _, .so h r, hl, k => by
    have := k 0
    simp at this
    subst this
    exact .so h (Slots.re r (by simpa using hl) fun j => by simpa using k (j + 1))
theorem Rep.re {τ : St} (R : Rep w Z U G σ H σd) (hl : τ.length = σ.length) (k : ∀ j : Nat, τ[j]? = σ[j]? ∨ σd[j]? = some none) : Rep w Z U G τ H σd := by
  obtain ⟨F, s, nd, nu⟩ := R.ow
  exact ⟨R.zg, R.gu, R.uh, F, s.re hl k, nd, nu⟩
end
end M
/-! M3: the lifts of expressions. -/
namespace M
open PySem L2
/-- what an expression gives: a value (a tree of its own, perhaps frozen), or the object of a slot -/
inductive RV where
  | t (t : T) | pl (i : Nat)
abbrev TEd := Sd → (RV → Sd → Prop) → Prop
abbrev TTd := Sd → (Bool → Sd → Prop) → Prop
abbrev TAd := Sd → (List RV → Sd → Prop) → Prop
def bindO {α : Type} (o : Option α) (K : α → Prop) : Prop := match o with
  | some a => K a
  | none => False
theorem bindO_some {α : Type} {a : α} {K : α → Prop} : bindO (some a) K = K a := rfl
theorem bindO_none {α : Type} {K : α → Prop} : bindO (none : Option α) K = False := rfl
theorem bindO_ex {α : Type} {o : Option α} {K : α → Prop} (h : bindO o K) : ∃ a, o = some a ∧ K a := by
  cases o with
  | none => exact h.elim
  | some a => exact ⟨a, rfl, h⟩
theorem bindO_of {α : Type} {o : Option α} {a : α} {K : α → Prop} (e : o = some a) (h : K a) : bindO o K := by rw [e]; exact h
def Res (w : World) (Z : Amb) (U G : Hp) (σ : St) (H : Hp) (σd : Sd) (v : V) : RV → Prop
  | .t t => Rep w Z U G (some v :: σ) H (some t :: σd)
  | .pl i => Rep w Z U G σ H σd ∧ σ[i]? = some (some v)
def Hld (w : World) (G : Hp) (σ : St) (v : V) : RV → Prop
  | .t t => DR w G v t.er
  | .pl i => σ[i]? = some (some v)
theorem Hld.le {w : World} {G G' : Hp} {σ : St} {v : V} {r : RV} (h : Hld w G σ v r) (l : HLe G G') : Hld w G' σ v r := by
  cases r with
  | t t => exact DR.le l h
  | pl i => exact h
section
variable {w : World} {Z : Amb} {U G U' G' H H' : Hp} {σ : St} {σd : Sd} {v : V} {r : RV}
theorem Rep.topDR {d : D} (R : Rep w Z U G (some v :: σ) H (some (.fz d) :: σd)) : DR w G v d := by
  obtain ⟨F, s, _, _⟩ := R.ow
  cases s with
  | so h r => cases h with | fz h => exact h
/-- what came is kept: a tree of its own is frozen -/
theorem Res.hold (R : Res w Z U G σ H σd v r) : ∃ U' G', Ext U G U' G' ∧ Rep w Z U' G' σ H σd ∧ Hld w G' σ v r := by
  cases r with
  | t t =>
    obtain ⟨U', G', e, R'⟩ := Rep.freeze R
    exact ⟨U', G', e, R'.pop, R'.topDR⟩
  | pl i => exact ⟨U, G, .refl _ _, R.1, R.2⟩
/-- read with data as items -/
def Sh (w : World) (G H : Hp) (v : V) (d : D) : Prop :=
  DR w G v d ∨ (∃ a vs ds, v = .ref a ∧ d = .lst ds ∧ H a = some (.lst vs) ∧ DRs w G vs ds) ∨
    (∃ a o ks kv vs kvs, v = .ref a ∧ d = .dic kvs ∧ (a == sysModules) = false ∧ H a = some (pin a o) ∧ DicO w o ks kv vs ∧ D.keys (kvs.map (·.1)) = some ks ∧ DRs w G kv (kvs.map (·.1)) ∧ DRs w G vs (kvs.map (·.2)))
def T.sh : T → Option D
  | .fz d => some d
  | .l ds => some (.lst ds)
  | .m kvs => some (.dic kvs)
  | _ => none
theorem T.sh_er {t : T} {d : D} (h : t.sh = some d) : t.er = d := by
  cases t with
  | fz d => exact Option.some.inj h
  | l ds => exact Option.some.inj h
  | m kvs => exact Option.some.inj h
  | _ => cases h
theorem Own.sh {t : T} {F : List Addr} {d : D} (h : Own w G H v t F) (e : t.sh = some d) : Sh w G H v d := by
  cases h with
  | fz h => cases e; exact .inl h
  | l h r => cases e; exact .inr (.inl ⟨_, _, _, rfl, rfl, h, r⟩)
  | m hn h hd hk rk rv => cases e; exact .inr (.inr ⟨_, _, _, _, _, _, rfl, rfl, hn, h, hd, hk, rk, rv⟩)
  | _ => cases e
theorem Sh.deep (gh : HLe G H) {d : D} (h : Sh w G H v d) : DR w H v d := by
  rcases h with h | ⟨a, vs, ds, rfl, rfl, h, r⟩ | ⟨a, o, ks, kv, vs, kvs, rfl, rfl, hn, h, hd, hk, rk, rv⟩
  · exact h.le gh
  · exact .lst (.inl h) (r.le gh)
  · exact .dic hn h hd hk (rk.le gh) (rv.le gh)
/-- what is read of a result: shallow, deep -/
def rdS (σd : Sd) : RV → Option D
  | .t t => some t.er
  | .pl i => match σd[i]? with
    | some (some t) => t.sh
    | _ => none
def rdE (σd : Sd) : RV → Option D
  | .t t => some t.er
  | .pl i => match σd[i]? with
    | some (some t) => some t.er
    | _ => none
theorem Hld.sh (R : Rep w Z U G σ H σd) (h : Hld w G σ v r) {d : D} (e : rdS σd r = some d) : Sh w G H v d := by
  cases r with
  | t t => cases e; exact .inl h
  | pl i =>
    dsimp only [rdS] at e
    cases q : σd[i]? with
    | none => rw [q] at e; cases e
    | some x =>
      cases x with
      | none => rw [q] at e; cases e
      | some t =>
        rw [q] at e
        obtain ⟨v', F, h1, h2⟩ := R.at q
        have h' : σ[i]? = some (some v) := h
        rw [h'] at h1; cases h1
        exact h2.sh e
theorem Hld.er (R : Rep w Z U G σ H σd) (h : Hld w G σ v r) {d : D} (e : rdE σd r = some d) : DR w H v d := by
  cases r with
  | t t => cases e; exact DR.le R.gh h
  | pl i =>
    dsimp only [rdE] at e
    cases q : σd[i]? with
    | none => rw [q] at e; cases e
    | some x =>
      cases x with
      | none => rw [q] at e; cases e
      | some t =>
        rw [q] at e
        cases e
        obtain ⟨v', F, h1, h2⟩ := R.at q
        have h' : σ[i]? = some (some v) := h
        rw [h'] at h1; cases h1
        exact h2.readH R.gh
end

def liftE (w : World) (Z : Amb) (te : TEd) : TE := fun σ H Q => ∃ U G σd K, Rep w Z U G σ H σd ∧ te σd K ∧ ∀ r σd' v H' U' G', K r σd' → Ext U G U' G' → Res w Z U' G' σ H' σd' v r → Q v H'
def liftT (w : World) (Z : Amb) (tt : TTd) : TT := fun σ H Q => ∃ U G σd K, Rep w Z U G σ H σd ∧ tt σd K ∧ ∀ b σd' H' U' G', K b σd' → Ext U G U' G' → Rep w Z U' G' σ H' σd' → Q b H'
inductive Hlds (w : World) (G : Hp) (σ : St) : List V → List RV → Prop
  | nil : Hlds w G σ [] []
  | cons {v r vs rs} : Hld w G σ v r → Hlds w G σ vs rs → Hlds w G σ (v :: vs) (r :: rs)
theorem Hlds.le {w : World} {G G' : Hp} {σ : St} (l : HLe G G') : ∀ {vs rs}, Hlds w G σ vs rs → Hlds w G' σ vs rs
  | _, _, .nil => .nil
  | _, _, .cons h r => .cons (h.le l) (Hlds.le l r)
theorem Hlds.length {w : World} {G : Hp} {σ : St} : ∀ {vs rs}, Hlds w G σ vs rs → vs.length = rs.length
  | _, _, .nil => rfl
  | _, _, .cons _ r => congrArg (· + 1) r.length
def liftA (w : World) (Z : Amb) (ta : TAd) : TA := fun σ H Q => ∃ U G σd K, Rep w Z U G σ H σd ∧ ta σd K ∧ ∀ rs σd' vs H' U' G', K rs σd' → Ext U G U' G' → Rep w Z U' G' σ H' σd' → Hlds w G' σ vs rs → Q vs H'
abbrev PEd (X : Cx) (Z : Amb) (e : Expr) (te : TEd) : Prop := PE X e (liftE X.w Z te)
abbrev PTd (X : Cx) (Z : Amb) (e : Expr) (tt : TTd) : Prop := PT X e (liftT X.w Z tt)
abbrev PWd (X : Cx) (Z : Amb) (e : Expr) (tt : TTd) : Prop := PW X e (liftT X.w Z tt)
abbrev PAd (X : Cx) (Z : Amb) (es : List Expr) (ta : TAd) : Prop := PA X es (liftA X.w Z ta)
theorem pe_imp {X : Cx} {e : Expr} {t t' : TE} (h : PE X e t) (i : ∀ σ H Q, t' σ H Q → t σ H Q) : PE X e t' := ⟨fun pins s σ H Q I q => h.run pins s σ H Q I (i _ _ _ q)⟩
theorem pt_imp {X : Cx} {e : Expr} {t t' : TT} (h : PT X e t) (i : ∀ σ H Q, t' σ H Q → t σ H Q) : PT X e t' := ⟨fun pins s σ H Q I q => h.run pins s σ H Q I (i _ _ _ q)⟩
theorem pw_imp {X : Cx} {e : Expr} {t t' : TT} (h : PW X e t) (i : ∀ σ H Q, t' σ H Q → t σ H Q) : PW X e t' := ⟨fun wh pins s σ H Q I q => h.run wh pins s σ H Q I (i _ _ _ q)⟩
theorem pa_imp {X : Cx} {es : List Expr} {t t' : TA} (h : PA X es t) (i : ∀ σ H Q, t' σ H Q → t σ H Q) : PA X es t' := ⟨fun pos pins s σ H Q I q => h.run pos pins s σ H Q I (i _ _ _ q)⟩

section
variable {X : Cx} {Z : Amb} {a b c e : Expr} {es : List Expr} {ta tb tc te : TEd} {tA tB : TTd} {pos : Pos}
/-! ### names, constants -/
def tdN (i : Nat) : TEd := fun σ K => match σ[i]? with
  | some (some (.fz d)) => K (.t (.fz d)) σ
  | some (some _) => K (.pl i) σ
  | _ => False
def tdC (d : D) : TEd := fun σ K => K (.t (.fz d)) σ
theorem pd_n {i : Nat} (h : PE X e (tVar i)) : PEd X Z e (tdN i) := by
  refine pe_imp h fun σ H Q ⟨U, G, σd, K, R, q, k⟩ => ?_
  unfold tdN at q
  cases z : σd[i]? with
  | none => rw [z] at q; exact q.elim
  | some x =>
    cases x with
    | none => rw [z] at q; exact q.elim
    | some t =>
      rw [z] at q
      obtain ⟨v, F, h1, h2⟩ := R.at z
      have own : ∀ (t : D), K (.pl i) σd → ∃ v, σ[i]? = some (some v) ∧ Q v H := fun t q => ⟨v, h1, k _ _ v H U G q (.refl _ _) ⟨R, h1⟩⟩
      cases t with
      | fz d =>
        cases h2 with
        | fz h2 => exact ⟨v, h1, k _ _ v H U G q (.refl _ _) (R.topD h2)⟩
      | l _ => exact own .non q
      | m _ => exact own .non q
      | ll _ => exact own .non q
      | mm _ => exact own .non q
      | ob _ _ => exact own .non q
      | tt _ => exact own .non q
theorem pd_c {v : V} {d : D} (h : PE X e (tC v)) (hd : ∀ G, DR X.w G v d) : PEd X Z e (tdC d) :=
  pe_imp h fun σ H Q ⟨U, G, σd, K, R, q, k⟩ => k _ _ v H U G q (.refl _ _) (R.topD (hd G))
theorem pd_int {i j pos} : PEd X Z (.Constant (.int i) j pos) (tdC (.int i)) := pd_c pe_int fun _ => .int i
theorem pd_bl {b j pos} : PEd X Z (.Constant (.bool b) j pos) (tdC (.bl b)) := pd_c pe_bl fun _ => .bl b
theorem pd_non {j pos} : PEd X Z (.Constant .none j pos) (tdC .non) := pd_c pe_non fun _ => .non
theorem pd_str {x j pos} : PEd X Z (.Constant (.str x) j pos) (tdC (.str x)) := pd_c pe_str fun _ => .str x

/-! ### what an operation by values gives -/
/-- it gives the tree t -/
def Gives (w : World) (U G H : Hp) (t : T) (Q : VK) : Prop := ∀ v H' U' G' F, Grow U G H U' G' H' → Own w G' H' v t F → F.Nodup → (∀ b ∈ F, H b = none ∧ U' b = none) → Q v H'
theorem Gives.scal {w : World} {U G H : Hp} {d : D} {Q : VK} {v : V} (g : Gives w U G H (.fz d) Q) (gu : HLe G U) (uh : HLe U H) (h : DR w G v d) : Q v H := g v H U G [] (.refl gu uh) (.fz h) .nil fun _ hb => by cases hb
theorem Gives.frz {w : World} {U G H : Hp} {d : D} {Q : VK} {p : Addr} {o : HO} (g : Gives w U G H (.fz d) Q) (gu : HLe G U) (uh : HLe U H) (hp : H p = none) (h : DR w (upd G p o) (.ref p) d) : Q (.ref p) (upd H p o) :=
  g _ _ _ _ [] (.frz gu uh hp) (.fz h) .nil fun _ hb => by cases hb
theorem Gives.own {w : World} {U G H : Hp} {t : T} {Q : VK} {p : Addr} {o : HO} (g : Gives w U G H t Q) (gu : HLe G U) (uh : HLe U H) (hp : H p = none) (h : Own w G (upd H p o) (.ref p) t [p]) : Q (.ref p) (upd H p o) :=
  g _ _ U G [p] (.own gu uh hp) h (by simp) fun b hb => by
    simp at hb; subst hb
    exact ⟨hp, uh.none hp⟩
def OpC (w : World) (r : R2) (f : D → D → Option T) : Prop := ∀ U G H x y dx dy t Q, HLe G U → HLe U H → Sh w G H x dx → Sh w G H y dy → f dx dy = some t → Gives w U G H t Q → r x y H Q
/-- .. read deep -/
def OpE (w : World) (r : R2) (f : D → D → Option D) : Prop := ∀ H x y dx dy d Q, DR w H x dx → DR w H y dy → f dx dy = some d → (∀ v, (∀ G, DR w G v d) → Q v H) → r x y H Q
def UnE (w : World) (r : V → Hp → VK → Prop) (f : D → Option D) : Prop := ∀ H x dx d Q, DR w H x dx → f dx = some d → (∀ v, (∀ G, DR w G v d) → Q v H) → r x H Q
def tdBin (f : D → D → Option T) (ta tb : TEd) : TEd := fun σ K => ta σ fun x σ1 => tb σ1 fun y σ2 => bindO (rdS σ2 x) fun dx => bindO (rdS σ2 y) fun dy => bindO (f dx dy) fun t => K (.t t) σ2
def tdBinE (f : D → D → Option D) (ta tb : TEd) : TEd := fun σ K => ta σ fun x σ1 => tb σ1 fun y σ2 => bindO (rdE σ2 x) fun dx => bindO (rdE σ2 y) fun dy => bindO (f dx dy) fun d => K (.t (.fz d)) σ2
def tdUnE (f : D → Option D) (ta : TEd) : TEd := fun σ K => ta σ fun x σ1 => bindO (rdE σ1 x) fun dx => bindO (f dx) fun d => K (.t (.fz d)) σ1
theorem op_imp {r : R2} {f : D → D → Option T} (hf : OpC X.w r f) {σ : St} {H : Hp} {Q : VK} (h : liftE X.w Z (tdBin f ta tb) σ H Q) : tOp r (liftE X.w Z ta) (liftE X.w Z tb) σ H Q := by
  obtain ⟨U, G, σd, K, R, q, k⟩ := h
  refine ⟨U, G, σd, _, R, q, fun x σ1 v1 H1 U1 G1 q1 e1 R1 => ?_⟩
  obtain ⟨U1', G1', e1', R1', h1⟩ := R1.hold
  refine ⟨U1', G1', σ1, _, R1', q1, fun y σ2 v2 H2 U2 G2 q2 e2 R2 => ?_⟩
  obtain ⟨U3, G3, e3, R3, h2⟩ := R2.hold
  obtain ⟨dx, z1, q2⟩ := bindO_ex q2
  obtain ⟨dy, z2, q2⟩ := bindO_ex q2
  obtain ⟨t, z3, q2⟩ := bindO_ex q2
  have E := (((e1.trans e1').trans e2).trans e3)
  refine hf U3 G3 H2 v1 v2 dx dy t Q R3.gu R3.uh ((h1.le (e2.g.trans e3.g)).sh R3 z1) (h2.sh R3 z2) z3 fun v H' U' G' F g o nd nw => ?_
  exact k _ _ v H' U' G' q2 (E.trans g.e) (R3.top g o nd nw)
theorem opE_imp {r : R2} {f : D → D → Option D} (hf : OpE X.w r f) {σ : St} {H : Hp} {Q : VK} (h : liftE X.w Z (tdBinE f ta tb) σ H Q) : tOp r (liftE X.w Z ta) (liftE X.w Z tb) σ H Q := by
  obtain ⟨U, G, σd, K, R, q, k⟩ := h
  refine ⟨U, G, σd, _, R, q, fun x σ1 v1 H1 U1 G1 q1 e1 R1 => ?_⟩
  obtain ⟨U1', G1', e1', R1', h1⟩ := R1.hold
  refine ⟨U1', G1', σ1, _, R1', q1, fun y σ2 v2 H2 U2 G2 q2 e2 R2 => ?_⟩
  obtain ⟨U3, G3, e3, R3, h2⟩ := R2.hold
  obtain ⟨dx, z1, q2⟩ := bindO_ex q2
  obtain ⟨dy, z2, q2⟩ := bindO_ex q2
  obtain ⟨t, z3, q2⟩ := bindO_ex q2
  have E := (((e1.trans e1').trans e2).trans e3)
  refine hf H2 v1 v2 dx dy t Q ((h1.le (e2.g.trans e3.g)).er R3 z1) (h2.er R3 z2) z3 fun v hv => ?_
  exact k _ _ v H2 U3 G3 q2 E (R3.topD (hv G3))
theorem pd_bin {op : Operator} {r : R2} {f : D → D → Option T} (hf : OpC X.w r f) (ho : OpR X (binaryOp op) r) (ha : PEd X Z a ta) (hb : PEd X Z b tb) : PEd X Z (.BinOp a op b pos) (tdBin f ta tb) := pe_imp (pe_op ho ha hb) fun _ _ _ h => op_imp hf h
theorem pd_binE {op : Operator} {r : R2} {f : D → D → Option D} (hf : OpE X.w r f) (ho : OpR X (binaryOp op) r) (ha : PEd X Z a ta) (hb : PEd X Z b tb) : PEd X Z (.BinOp a op b pos) (tdBinE f ta tb) := pe_imp (pe_op ho ha hb) fun _ _ _ h => opE_imp hf h
theorem pd_cmp {op : CmpOp} {r : R2} {f : D → D → Option D} (hf : OpE X.w r f) (ho : OpR X (compareOp op) r) (ha : PEd X Z a ta) (hb : PEd X Z b tb) (hm : behindInMarks op b = false) : PEd X Z (.Compare a [op] [b] pos) (tdBinE f ta tb) := pe_imp (pe_cmpR ho ha hb hm) fun _ _ _ h => opE_imp hf h
theorem pd_un {op : UnaryOp} {r : V → Hp → VK → Prop} {f : D → Option D} (hf : UnE X.w r f) (ho : UnR X (unaryOp op) r) (ha : PEd X Z a ta) : PEd X Z (.UnaryOp op a pos) (tdUnE f ta) := by
  refine pe_imp (pe_un ho ha) fun σ H Q ⟨U, G, σd, K, R, q, k⟩ => ?_
  refine ⟨U, G, σd, _, R, q, fun x σ1 v1 H1 U1 G1 q1 e1 R1 => ?_⟩
  obtain ⟨U1', G1', e1', R1', h1⟩ := R1.hold
  obtain ⟨dx, z1, q1⟩ := bindO_ex q1
  obtain ⟨d, z2, q1⟩ := bindO_ex q1
  exact hf H1 v1 dx d Q (h1.er R1' z1) z2 fun v hv => k _ _ v H1 U1' G1' q1 (e1.trans e1') (R1'.topD (hv G1'))

/-! ### tests -/
/-- a bool as a test -/
def tdTest (te : TEd) : TTd := fun σ K => te σ fun x σ1 => bindO (rdE σ1 x) fun d => match d with
  | .bl b => K b σ1
  | _ => False
theorem test_imp {t : TEd} {σ : St} {H : Hp} {Q : Bool → Hp → Prop} (h : liftT X.w Z (tdTest t) σ H Q) : liftE X.w Z t σ H fun x H' => ∃ k, x = .bl k ∧ Q k H' := by
  obtain ⟨U, G, σd, K, R, q, k⟩ := h
  refine ⟨U, G, σd, _, R, q, fun x σ1 v1 H1 U1 G1 q1 e1 R1 => ?_⟩
  obtain ⟨U1', G1', e1', R1', h1⟩ := R1.hold
  obtain ⟨d, z1, q1⟩ := bindO_ex q1
  have h2 := h1.er R1' z1
  cases d with
  | bl b =>
    cases h2
    exact ⟨b, rfl, k _ _ H1 U1' G1' q1 (e1.trans e1') R1'⟩
  | _ => exact q1.elim
theorem pt_b (h : PEd X Z e te) (he : ∀ whole, isTrue e X.env whole = (do let v ← whole; standAt e.pos; holding [v] (truthy v)) := by intro _; rfl) : PTd X Z e (tdTest te) :=
  pt_imp (pt_val h he) fun _ _ _ q => test_imp q
theorem pt_cmpd {op : CmpOp} {r : R2} {f : D → D → Option D} (hf : OpE X.w r f) (ho : OpR X (compareOp op) r) (ha : PEd X Z a ta) (hb : PEd X Z b tb) (hm : behindInMarks op b = false) : PTd X Z (.Compare a [op] [b] pos) (tdTest (tdBinE f ta tb)) :=
  pt_imp (pt_cmpR ho ha hb hm) fun σ H Q q => opE_imp hf (test_imp q)
def tdAnd (t u : TTd) : TTd := fun σ K => t σ fun c σ1 => if c = true then u σ1 K else K false σ1
def tdOr (t u : TTd) : TTd := fun σ K => t σ fun c σ1 => if c = true then K true σ1 else u σ1 K
def tdNot (t : TTd) : TTd := fun σ K => t σ fun c σ1 => K (!c) σ1
theorem pwd_and1 (ha : PTd X Z a tA) : PWd X Z (.BoolOp .And [a] pos) tA := pw_and1 ha
theorem pwd_or1 (ha : PTd X Z a tA) : PWd X Z (.BoolOp .Or [a] pos) tA := pw_or1 ha
theorem pwd_and {rest : List Expr} (ha : PTd X Z a tA) (hb : PWd X Z (.BoolOp .And (b :: rest) pos) tB) : PWd X Z (.BoolOp .And (a :: b :: rest) pos) (tdAnd tA tB) := by
  refine pw_imp (pw_and ha hb) fun σ H Q ⟨U, G, σd, K, R, q, k⟩ => ?_
  refine ⟨U, G, σd, _, R, q, fun c σ1 H1 U1 G1 q1 e1 R1 => ?_⟩
  cases c with
  | true =>
    refine iteT ⟨U1, G1, σ1, K, R1, by simpa using q1, fun b σ2 H2 U2 G2 q2 e2 R2 => k _ _ _ _ _ q2 (e1.trans e2) R2⟩
  | false => exact iteF (k _ _ _ _ _ (by simpa using q1) e1 R1)
theorem pwd_or {rest : List Expr} (ha : PTd X Z a tA) (hb : PWd X Z (.BoolOp .Or (b :: rest) pos) tB) : PWd X Z (.BoolOp .Or (a :: b :: rest) pos) (tdOr tA tB) := by
  refine pw_imp (pw_or ha hb) fun σ H Q ⟨U, G, σd, K, R, q, k⟩ => ?_
  refine ⟨U, G, σd, _, R, q, fun c σ1 H1 U1 G1 q1 e1 R1 => ?_⟩
  cases c with
  | true => exact iteT (k _ _ _ _ _ (by simpa using q1) e1 R1)
  | false =>
    refine iteF ⟨U1, G1, σ1, K, R1, by simpa using q1, fun b σ2 H2 U2 G2 q2 e2 R2 => k _ _ _ _ _ q2 (e1.trans e2) R2⟩
theorem ptd_not (ha : PTd X Z a tA) : PTd X Z (.UnaryOp .Not a pos) (tdNot tA) := by
  refine pt_imp (pt_not ha) fun σ H Q ⟨U, G, σd, K, R, q, k⟩ => ?_
  exact ⟨U, G, σd, _, R, q, fun c σ1 H1 U1 G1 q1 e1 R1 => k _ _ _ _ _ q1 e1 R1⟩
def tdIf (t : TTd) (ta tb : TEd) : TEd := fun σ K => t σ fun c σ1 => if c = true then ta σ1 K else tb σ1 K
theorem pd_ifExp (hc : PTd X Z c tA) (ha : PEd X Z a ta) (hb : PEd X Z b tb) : PEd X Z (.IfExp c a b pos) (tdIf tA ta tb) := by
  refine pe_imp (pe_ifExp hc ha hb) fun σ H Q ⟨U, G, σd, K, R, q, k⟩ => ?_
  refine ⟨U, G, σd, _, R, q, fun c σ1 H1 U1 G1 q1 e1 R1 => ?_⟩
  cases c with
  | true => exact iteT ⟨U1, G1, σ1, K, R1, by simpa using q1, fun r σ2 v H2 U2 G2 q2 e2 R2 => k _ _ _ _ _ _ q2 (e1.trans e2) R2⟩
  | false => exact iteF ⟨U1, G1, σ1, K, R1, by simpa using q1, fun r σ2 v H2 U2 G2 q2 e2 R2 => k _ _ _ _ _ _ q2 (e1.trans e2) R2⟩
/-- and, or, not as values (bools) -/
def tdAndV (ta tb : TEd) : TEd := fun σ K => ta σ fun x σ1 => bindO (rdE σ1 x) fun d => match d with
  | .bl true => tb σ1 K
  | .bl false => K (.t (.fz (.bl false))) σ1
  | _ => False
def tdOrV (ta tb : TEd) : TEd := fun σ K => ta σ fun x σ1 => bindO (rdE σ1 x) fun d => match d with
  | .bl true => K (.t (.fz (.bl true))) σ1
  | .bl false => tb σ1 K
  | _ => False
theorem pd_one {op} (h : PEd X Z a ta) : PEd X Z (.BoolOp op [a] pos) ta := pe_one h
theorem pd_and {rest : List Expr} (ha : PEd X Z a ta) (hb : PEd X Z (.BoolOp .And (b :: rest) pos) tb) : PEd X Z (.BoolOp .And (a :: b :: rest) pos) (tdAndV ta tb) := by
  refine pe_imp (pe_and ha hb) fun σ H Q ⟨U, G, σd, K, R, q, k⟩ => ?_
  refine ⟨U, G, σd, _, R, q, fun x σ1 v1 H1 U1 G1 q1 e1 R1 => ?_⟩
  obtain ⟨U1', G1', e1', R1', h1⟩ := R1.hold
  obtain ⟨d, z1, q1⟩ := bindO_ex q1
  have h2 := h1.er R1' z1
  cases d with
  | bl c =>
    cases h2
    cases c with
    | true => exact ⟨true, rfl, iteT ⟨U1', G1', σ1, K, R1', q1, fun r σ2 v H2 U2 G2 q2 e2 R2 => k _ _ _ _ _ _ q2 ((e1.trans e1').trans e2) R2⟩⟩
    | false => exact ⟨false, rfl, iteF (k _ _ _ _ _ _ q1 (e1.trans e1') (R1'.topD (.bl false)))⟩
  | _ => exact q1.elim
theorem pd_or {rest : List Expr} (ha : PEd X Z a ta) (hb : PEd X Z (.BoolOp .Or (b :: rest) pos) tb) : PEd X Z (.BoolOp .Or (a :: b :: rest) pos) (tdOrV ta tb) := by
  refine pe_imp (pe_or ha hb) fun σ H Q ⟨U, G, σd, K, R, q, k⟩ => ?_
  refine ⟨U, G, σd, _, R, q, fun x σ1 v1 H1 U1 G1 q1 e1 R1 => ?_⟩
  obtain ⟨U1', G1', e1', R1', h1⟩ := R1.hold
  obtain ⟨d, z1, q1⟩ := bindO_ex q1
  have h2 := h1.er R1' z1
  cases d with
  | bl c =>
    cases h2
    cases c with
    | false => exact ⟨false, rfl, iteF ⟨U1', G1', σ1, K, R1', q1, fun r σ2 v H2 U2 G2 q2 e2 R2 => k _ _ _ _ _ _ q2 ((e1.trans e1').trans e2) R2⟩⟩
    | true => exact ⟨true, rfl, iteT (k _ _ _ _ _ _ q1 (e1.trans e1') (R1'.topD (.bl true)))⟩
  | _ => exact q1.elim
def tdNotV (tA : TTd) : TEd := fun σ K => tA σ fun b σ1 => K (.t (.fz (.bl (!b)))) σ1

/-! ### argument lists, displays -/
def taNil : TAd := fun σ K => K [] σ
def taCons (te : TEd) (ta : TAd) : TAd := fun σ K => te σ fun x σ1 => ta σ1 fun xs σ2 => K (x :: xs) σ2
theorem pad_nil : PAd X Z [] taNil := pa_imp pa_nil fun σ H Q ⟨U, G, σd, K, R, q, k⟩ => k [] σd [] H U G q (.refl _ _) R .nil
theorem pad_cons {tr : TAd} (ha : PEd X Z e te) (hr : PAd X Z es tr) (hs : starEach (e :: es) X.env = (false, eval e X.env) :: starEach es X.env := by rfl) : PAd X Z (e :: es) (taCons te tr) := by
  refine pa_imp (pa_cons ha hr hs) fun σ H Q ⟨U, G, σd, K, R, q, k⟩ => ?_
  refine ⟨U, G, σd, _, R, q, fun x σ1 v1 H1 U1 G1 q1 e1 R1 => ?_⟩
  obtain ⟨U1', G1', e1', R1', h1⟩ := R1.hold
  refine ⟨U1', G1', σ1, _, R1', q1, fun rs σ2 vs H2 U2 G2 q2 e2 R2 hs => ?_⟩
  exact k _ _ _ _ _ _ q2 ((e1.trans e1').trans e2) R2 (.cons (h1.le e2.g) hs)
/-- results, all frozen: the slots that they stand in are frozen too -/
def frzR : List RV → Sd → (List D → Sd → Prop) → Prop
  | [], σ, K => K [] σ
  | .t t :: rs, σ, K => frzR rs σ fun ds σ' => K (t.er :: ds) σ'
  | .pl i :: rs, σ, K => match σ[i]? with
    | some (some t) => frzR rs (σ.set i (some (.fz t.er))) fun ds σ' => K (t.er :: ds) σ'
    | _ => False
theorem Rep.freezeAt {w : World} {Z : Amb} {U G H : Hp} {σ : St} {σd : Sd} {i : Nat} {t : T} (R : Rep w Z U G σ H σd) (e : σd[i]? = some (some t)) : ∃ U' G' v, Ext U G U' G' ∧ Rep w Z U' G' σ H (σd.set i (some (.fz t.er))) ∧ σ[i]? = some (some v) ∧ DR w G' v t.er := by
  obtain ⟨v, h1, R1⟩ := R.lift e
  obtain ⟨U', G', e1, R2⟩ := R1.freeze
  have hi : i < σd.length := (List.getElem?_eq_some_iff.mp e).1
  have R3 := R2.store (i := i) (by rw [List.length_set]; exact hi)
  rw [List.set_set] at R3
  have es : σ.set i (some v) = σ := by
    apply List.ext_getElem?
    intro j
    by_cases hj : i = j
    · subst hj
      rw [List.getElem?_set_self (by rw [R.length]; exact hi), h1]
    · rw [List.getElem?_set_ne hj]
  rw [es] at R3
  exact ⟨U', G', v, e1, R3, h1, R2.topDR⟩
theorem frz_run {w : World} {Z : Amb} {H : Hp} {σ : St} : ∀ {rs : List RV} {vs : List V} {U G : Hp} {σd : Sd} {K : List D → Sd → Prop}, Rep w Z U G σ H σd → Hlds w G σ vs rs → frzR rs σd K → ∃ U' G' ds σd', Ext U G U' G' ∧ Rep w Z U' G' σ H σd' ∧ DRs w G' vs ds ∧ K ds σd'
  | [], _, U, G, σd, K, R, .nil, q => ⟨U, G, [], σd, .refl _ _, R, .nil, q⟩
  | .t t :: rs, _, U, G, σd, K, R, .cons h hs, q => by
    obtain ⟨U', G', ds, σd', e, R', r, q⟩ := frz_run R hs q
    exact ⟨U', G', _, σd', e, R', .cons (DR.le e.g h) r, q⟩
  | .pl i :: rs, _, U, G, σd, K, R, .cons (v := v) h hs, q => by
    dsimp only [frzR] at q
    cases z : σd[i]? with
    | none => rw [z] at q; exact q.elim
    | some x =>
      cases x with
      | none => rw [z] at q; exact q.elim
      | some t =>
        rw [z] at q
        obtain ⟨U1, G1, v', e1, R1, h1, d1⟩ := R.freezeAt z
        have h' : σ[i]? = some (some v) := h
        rw [h'] at h1; cases h1
        obtain ⟨U', G', ds, σd', e, R', r, q⟩ := frz_run R1 (hs.le e1.g) q
        exact ⟨U', G', _, σd', e1.trans e, R', .cons (DR.le e.g d1) r, q⟩
def tdTup (ta : TAd) : TEd := fun σ K => ta σ fun rs σ1 => rs.length ≤ sizeLine ∧ frzR rs σ1 fun ds σ2 => K (.t (.fz (.tup ds))) σ2
def tdLst (ta : TAd) : TEd := fun σ K => ta σ fun rs σ1 => rs.length ≤ sizeLine ∧ frzR rs σ1 fun ds σ2 => K (.t (.l ds)) σ2
theorem pd_tup {ta : TAd} {x1} (h : PAd X Z es ta) : PEd X Z (.Tuple es x1 pos) (tdTup ta) := by
  refine pe_imp (pe_tup h) fun σ H Q ⟨U, G, σd, K, R, q, k⟩ => ?_
  refine ⟨U, G, σd, _, R, q, fun rs σ1 vs H1 U1 G1 q1 e1 R1 hs => ⟨by rw [hs.length]; exact q1.1, fun p hp => ?_⟩⟩
  obtain ⟨U2, G2, ds, σ2, e2, R2, r, q2⟩ := frz_run R1 hs q1.2
  have g : Grow U2 G2 H1 (upd U2 p (.tup vs)) (upd G2 p (.tup vs)) (upd H1 p (.tup vs)) := .frz R2.gu R2.uh hp
  exact k _ _ _ _ _ _ q2 ((e1.trans e2).trans g.e) (R2.topG g (.tup (.inl upd_same) (r.le g.e.g)))
theorem pd_lst {ta : TAd} (h : PAd X Z es ta) : PEd X Z (.List es pos) (tdLst ta) := by
  refine pe_imp (pe_lst h) fun σ H Q ⟨U, G, σd, K, R, q, k⟩ => ?_
  refine ⟨U, G, σd, _, R, q, fun rs σ1 vs H1 U1 G1 q1 e1 R1 hs => ⟨by rw [hs.length]; exact q1.1, fun p hp => ?_⟩⟩
  obtain ⟨U2, G2, ds, σ2, e2, R2, r, q2⟩ := frz_run R1 hs q1.2
  have g : Grow U2 G2 H1 U2 G2 (upd H1 p (.lst vs)) := .own R2.gu R2.uh hp
  exact k _ _ _ _ _ _ q2 ((e1.trans e2).trans g.e) (R2.top g (.l upd_same r) (by simp) fun b hb => by simp at hb; subst hb; exact ⟨hp, R2.uh.none hp⟩)
/-- a built-in's call by values, read shallow -/
inductive Shs (w : World) (G H : Hp) : List V → List D → Prop
  | nil : Shs w G H [] []
  | cons {v d vs ds} : Sh w G H v d → Shs w G H vs ds → Shs w G H (v :: vs) (d :: ds)
def CallC (w : World) (r : List V → Hp → VK → Prop) (f : List D → Option T) : Prop := ∀ U G H xs ds t Q, HLe G U → HLe U H → Shs w G H xs ds → f ds = some t → Gives w U G H t Q → r xs H Q
def rdSs (σ : Sd) : List RV → Option (List D)
  | [] => some []
  | r :: rs => match rdS σ r, rdSs σ rs with
    | some d, some ds => some (d :: ds)
    | _, _ => none
theorem Hlds.shs {w : World} {Z : Amb} {U G H : Hp} {σ : St} {σd : Sd} (R : Rep w Z U G σ H σd) : ∀ {vs rs ds}, Hlds w G σ vs rs → rdSs σd rs = some ds → Shs w G H vs ds
  | _, _, _, .nil, e => by cases e; exact .nil
  | _, _, _, .cons (r := r) (rs := rs) h hs, e => by
    dsimp only [rdSs] at e
    cases e1 : rdS σd r with
    | none => rw [e1] at e; cases e
    | some d =>
      cases e2 : rdSs σd rs with
      | none => rw [e1, e2] at e; cases e
      | some ds' =>
        rw [e1, e2] at e
        cases e
        exact .cons (h.sh R e1) (Hlds.shs R hs e2)
def tdCB (f : List D → Option T) (ta : TAd) : TEd := fun σ K => ta σ fun rs σ1 => bindO (rdSs σ1 rs) fun ds => bindO (f ds) fun t => K (.t t) σ1
theorem cb_imp {r : List V → Hp → VK → Prop} {f : List D → Option T} {ta : TAd} (hf : CallC X.w r f) {σ : St} {H : Hp} {Q : VK} (h : liftE X.w Z (tdCB f ta) σ H Q) : tCB r (liftA X.w Z ta) σ H Q := by
  obtain ⟨U, G, σd, K, R, q, k⟩ := h
  refine ⟨U, G, σd, _, R, q, fun rs σ1 vs H1 U1 G1 q1 e1 R1 hs => ?_⟩
  obtain ⟨ds, z1, q1⟩ := bindO_ex q1
  obtain ⟨t, z2, q1⟩ := bindO_ex q1
  exact hf U1 G1 H1 vs ds t Q R1.gu R1.uh (hs.shs R1 z1) z2 fun v H' U' G' F g o nd nw => k _ _ v H' U' G' q1 (e1.trans g.e) (R1.top g o nd nw)
end
end M
/-! M4: statements, targets, loops. -/
namespace M
open PySem L2
structure Eds where
  nx : Sd → Prop
  rt : T → Sd → Prop
  bk : Sd → Prop := fun _ => False
  ct : Sd → Prop := fun _ => False
abbrev TSd := Eds → Sd → Prop
/-- slots that stay -/
def Pin (mv : List (Nat × V)) (σ : St) : Prop := ∀ p ∈ mv, σ[p.1]? = some (some p.2)
structure EdsOk (w : World) (Z : Amb) (mv : List (Nat × V)) (U G : Hp) (De : Eds) (D : Ends) : Prop where
  nx : ∀ σ' H' σd' U' G', De.nx σd' → Ext U G U' G' → Rep w Z U' G' σ' H' σd' → Pin mv σ' → D.nx σ' H'
  bk : ∀ σ' H' σd' U' G', De.bk σd' → Ext U G U' G' → Rep w Z U' G' σ' H' σd' → Pin mv σ' → D.bk σ' H'
  ct : ∀ σ' H' σd' U' G', De.ct σd' → Ext U G U' G' → Rep w Z U' G' σ' H' σd' → Pin mv σ' → D.ct σ' H'
  rt : ∀ v H' U' G' t σ' σd', De.rt t σd' → Ext U G U' G' → Rep w Z U' G' (some v :: σ') H' (some t :: σd') → Pin mv σ' → D.rt v H'
theorem EdsOk.ext {w : World} {Z : Amb} {mv : List (Nat × V)} {U G U1 G1 : Hp} {De : Eds} {D : Ends} (o : EdsOk w Z mv U G De D) (e : Ext U G U1 G1) : EdsOk w Z mv U1 G1 De D :=
  ⟨fun a b c d f q e' => o.nx a b c d f q (e.trans e'), fun a b c d f q e' => o.bk a b c d f q (e.trans e'), fun a b c d f q e' => o.ct a b c d f q (e.trans e'), fun a b c d f g h q e' => o.rt a b c d f g h q (e.trans e')⟩
def liftS (w : World) (Z : Amb) (ms : List Nat) (td : TSd) : TS := fun D σ H => ∃ U G σd De mv, Rep w Z U G σ H σd ∧ mv.map (·.1) = ms ∧ Pin mv σ ∧ td De σd ∧ EdsOk w Z mv U G De D
abbrev PSd (X : Cx) (Z : Amb) (ms : List Nat) (st : Stmt) (td : TSd) : Prop := PS X st (liftS X.w Z ms td)
abbrev PSsd (X : Cx) (Z : Amb) (ms : List Nat) (st : List Stmt) (td : TSd) : Prop := PSs X st (liftS X.w Z ms td)
theorem ps_imp {X : Cx} {st : Stmt} {t t' : TS} (h : PS X st t) (i : ∀ D σ H, t' D σ H → t D σ H) : PS X st t' := ⟨fun pins s σ H D I q => h.run pins s σ H D I (i _ _ _ q)⟩
theorem pss_imp {X : Cx} {st : List Stmt} {t t' : TS} (h : PSs X st t) (i : ∀ D σ H, t' D σ H → t D σ H) : PSs X st t' := ⟨fun pins s σ H D I q => h.run pins s σ H D I (i _ _ _ q)⟩
theorem Rep.store' {w : World} {Z : Amb} {U G H : Hp} {σ : St} {σd : Sd} {v : V} {t : T} (R : Rep w Z U G (some v :: σ) H (some t :: σd)) (i : Nat) : Rep w Z U G (σ.set i (some v)) H (σd.set i (some t)) := by
  by_cases hi : i < σd.length
  · exact R.store hi
  · have h1 : σd.set i (some t) = σd := List.set_eq_of_length_le (Nat.le_of_not_lt hi)
    have h2 : σ.set i (some v) = σ := List.set_eq_of_length_le (by rw [R.pop.length]; exact Nat.le_of_not_lt hi)
    rw [h1, h2]
    exact R.pop
theorem Pin.set {mv : List (Nat × V)} {σ : St} {i : Nat} {x : Option V} (h : Pin mv σ) (hi : i ∉ mv.map (·.1)) : Pin mv (σ.set i x) := fun p hp => by
  have : i ≠ p.1 := fun e => hi (e ▸ List.mem_map_of_mem hp)
  rw [List.getElem?_set_ne this]
  exact h p hp

section
variable {X : Cx} {Z : Amb} {ms : List Nat} {st : Stmt} {rest : List Stmt} {t u : TSd} {e : Expr} {te : TEd} {tc : TTd} {pos : Pos}
def tdNext : TSd := fun De σ => De.nx σ
def tdSeq (t u : TSd) : TSd := fun De σ => t { De with nx := u De } σ
theorem lS {td : TSd} {ts : TS} (h : ∀ U G σd De mv (D : Ends) σ H, Rep X.w Z U G σ H σd → mv.map (·.1) = ms → Pin mv σ → td De σd → EdsOk X.w Z mv U G De D → ts D σ H) : ∀ D σ H, liftS X.w Z ms td D σ H → ts D σ H := fun D σ H ⟨U, G, σd, De, mv, R, m, p, q, o⟩ => h U G σd De mv D σ H R m p q o
theorem psd_nil : PSsd X Z ms [] tdNext := pss_imp pss_nil (lS fun U G σd De mv D σ H R m p q o => o.nx _ _ _ _ _ q (.refl _ _) R p)
theorem psd_cons (h1 : PSd X Z ms st t) (h2 : PSsd X Z ms rest u) : PSsd X Z ms (st :: rest) (tdSeq t u) :=
  pss_imp (pss_cons h1 h2) (lS fun U G σd De mv D σ H R m p q o =>
    ⟨U, G, σd, _, mv, R, m, p, q, fun σ' H' σd' U' G' q e R p => ⟨U', G', σd', De, mv, R, m, p, q, o.ext e⟩, o.bk, o.ct, o.rt⟩)
theorem psd_one (h1 : PSd X Z ms st t) : PSsd X Z ms [st] t := pss_one h1
theorem psd_pass : PSd X Z ms (.Pass pos) tdNext := ps_imp ps_pass (lS fun U G σd De mv D σ H R m p q o => o.nx _ _ _ _ _ q (.refl _ _) R p)
theorem psd_doc {x j pos pos'} : PSd X Z ms (.Expr (.Constant (.str x) j pos) pos') tdNext := ps_imp ps_doc (lS fun U G σd De mv D σ H R m p q o => o.nx _ _ _ _ _ q (.refl _ _) R p)
theorem psd_break : PSd X Z ms (.Break pos) (fun De σ => De.bk σ) := ps_imp ps_break (lS fun U G σd De mv D σ H R m p q o => o.bk _ _ _ _ _ q (.refl _ _) R p)
theorem psd_continue : PSd X Z ms (.Continue pos) (fun De σ => De.ct σ) := ps_imp ps_continue (lS fun U G σd De mv D σ H R m p q o => o.ct _ _ _ _ _ q (.refl _ _) R p)
def tdDrop (te : TEd) : TSd := fun De σ => te σ fun _ σ1 => De.nx σ1
theorem Res.rep {w : World} {Z : Amb} {U G H : Hp} {σ : St} {σd : Sd} {v : V} {r : RV} (R : Res w Z U G σ H σd v r) : Rep w Z U G σ H σd := by
  cases r with
  | t t => exact Rep.pop R
  | pl i => exact R.1
theorem psd_expr (he : PEd X Z e te) (hs : swapsWith e none pos.line X.env = pure false := by rfl) : PSd X Z ms (.Expr e pos) (tdDrop te) :=
  ps_imp (ps_expr he hs) (lS fun U G σd De mv D σ H R m p q o => ⟨U, G, σd, _, R, q, fun r σ1 v H1 U1 G1 q1 e1 R1 => o.nx _ _ _ _ _ q1 e1 R1.rep p⟩)
def tdRet (te : TEd) : TSd := fun De σ => te σ fun r σ1 => match r with
  | .t t => De.rt t σ1
  | .pl i => match σ1[i]? with
    | some (some t) => De.rt t (σ1.set i none)
    | _ => False
theorem psd_ret (he : PEd X Z e te) : PSd X Z ms (.Return (some e) pos) (tdRet te) :=
  ps_imp (ps_ret he) (lS fun U G σd De mv D σ H R m p q o => by
    refine ⟨U, G, σd, _, R, q, fun r σ1 v H1 U1 G1 q1 e1 R1 => ?_⟩
    cases r with
    | t t => exact o.rt _ _ _ _ _ _ _ q1 e1 R1 p
    | pl i =>
      dsimp only at q1
      cases z : σ1[i]? with
      | none => rw [z] at q1; exact q1.elim
      | some x =>
        cases x with
        | none => rw [z] at q1; exact q1.elim
        | some t =>
          rw [z] at q1
          obtain ⟨v', h1, R2⟩ := R1.1.lift z
          have h2 := R1.2
          rw [h1] at h2; cases h2
          exact o.rt _ _ _ _ _ _ _ q1 e1 R2 p)
def tdRetN : TSd := fun De σ => De.rt (.fz .non) σ
theorem psd_retN : PSd X Z ms (.Return none pos) tdRetN := ps_imp ps_retN (lS fun U G σd De mv D σ H R m p q o => o.rt _ _ _ _ _ _ _ q (.refl _ _) (R.topD .non) p)
def tdIfS (c : TTd) (t u : TSd) : TSd := fun De σ => c σ fun b σ1 => if b = true then t De σ1 else u De σ1
theorem psd_if {c : Expr} {a b : List Stmt} (hc : PTd X Z c tc) (ha : PSsd X Z ms a t) (hb : PSsd X Z ms b u) : PSd X Z ms (.If c a b pos) (tdIfS tc t u) :=
  ps_imp (ps_if hc ha hb) (lS fun U G σd De mv D σ H R m p q o => by
    refine ⟨U, G, σd, _, R, q, fun b σ1 H1 U1 G1 q1 e1 R1 => ?_⟩
    cases b with
    | true => exact iteT ⟨U1, G1, σ1, De, mv, R1, m, p, by simpa using q1, o.ext e1⟩
    | false => exact iteF ⟨U1, G1, σ1, De, mv, R1, m, p, by simpa using q1, o.ext e1⟩)
theorem psd_never : PSd X Z ms st (fun _ _ => False) := ps_imp ps_never (lS fun U G σd De mv D σ H R m p q o => q.elim)
/-- a name's store: a place is frozen -/
def tdSet (i : Nat) (te : TEd) : TSd := fun De σ => te σ fun r σ1 => match r with
  | .t t => De.nx (σ1.set i (some t))
  | .pl j => match σ1[j]? with
    | some (some t) => De.nx ((σ1.set j (some (.fz t.er))).set i (some (.fz t.er)))
    | _ => False
theorem psd_set {i : Nat} {x : Str} {pos' : Pos} (hN : X.N.Nodup) (hi : X.N[i]? = some x) (hx : Loc X.env.scope x) (hm : i ∉ ms) (he : PEd X Z e te) (hs : swapsWith e (some (.Name x pos')) pos.line X.env = pure false := by rfl) (hf : X.fn x = true ∨ X.env.scope.names.lookup x = some .local := by first | exact .inl rfl | exact .inr rfl | assumption) :
    PSd X Z ms (.Assign [.Name x pos'] e pos) (tdSet i te) :=
  ps_imp (ps_set (i := i) hN hi hx he hs hf) (lS fun U G σd De mv D σ H R m p q o => by
    refine ⟨U, G, σd, _, R, q, fun r σ1 v H1 U1 G1 q1 e1 R1 => ?_⟩
    have pm : ∀ y, Pin mv (σ.set i y) := fun y => p.set (by rw [m]; exact hm)
    cases r with
    | t t => exact o.nx _ _ _ _ _ q1 e1 (Rep.store' R1 i) (pm _)
    | pl j =>
      dsimp only at q1
      cases z : σ1[j]? with
      | none => rw [z] at q1; exact q1.elim
      | some x =>
        cases x with
        | none => rw [z] at q1; exact q1.elim
        | some t =>
          rw [z] at q1
          obtain ⟨U2, G2, v', e2, R2, h1, d1⟩ := R1.1.freezeAt z
          have h2 := R1.2
          rw [h1] at h2; cases h2
          exact o.nx _ _ _ _ _ q1 (e1.trans e2) (Rep.store' (R2.topD d1) i) (pm _))

/-! ### loops -/
def tdWhile (c : TTd) (tb : TSd) : TSd := fun De σ => ∃ W : Nat → Sd → Prop, (∃ m, W m σ) ∧ ∀ m σ, W m σ → c σ fun b σ1 => if b = true then tb { De with nx := fun σ' => ∃ m', m' < m ∧ W m' σ', ct := fun σ' => ∃ m', m' < m ∧ W m' σ', bk := De.nx } σ1 else De.nx σ1
theorem psd_while {c : Expr} {body : List Stmt} {tb : TSd} (hp : PassesOwn (model X.prog X.w) X.A X.env X.xe) (hc : PTd X Z c tc) (hb : PSsd X Z ms body tb) : PSd X Z ms (.While c body [] pos) (tdWhile tc tb) :=
  ps_imp (ps_while hp hc hb) (lS fun U G σd De mv D σ H R m p q o => by
    obtain ⟨W, ⟨m0, w0⟩, turn⟩ := q
    refine ⟨fun k σ H => ∃ U' G' σd', Ext U G U' G' ∧ Rep X.w Z U' G' σ H σd' ∧ Pin mv σ ∧ W k σd', ⟨m0, U, G, σd, .refl _ _, R, p, w0⟩, ?_⟩
    rintro k σ H ⟨U1, G1, σ1, e1, R1, p1, w1⟩
    refine ⟨U1, G1, σ1, _, R1, turn k σ1 w1, fun b σ2 H2 U2 G2 q2 e2 R2 => ?_⟩
    cases b with
    | true =>
      refine iteT ⟨fun σ' H' => ∃ k', k' < k ∧ ∃ U' G' σd', Ext U G U' G' ∧ Rep X.w Z U' G' σ' H' σd' ∧ Pin mv σ' ∧ W k' σd', fun σ' H' h => h, U2, G2, σ2, _, mv, R2, m, p1, by simpa using q2, ?_⟩
      have o2 := o.ext (e1.trans e2)
      refine ⟨fun σ' H' σd' U' G' q e R' p' => ?_, fun σ' H' σd' U' G' q e R' p' => o2.nx _ _ _ _ _ q e R' p', fun σ' H' σd' U' G' q e R' p' => ?_, o2.rt⟩
      · obtain ⟨k', hk, hw⟩ := q
        exact ⟨k', hk, U', G', σd', (e1.trans e2).trans e, R', p', hw⟩
      · obtain ⟨k', hk, hw⟩ := q
        exact ⟨k', hk, U', G', σd', (e1.trans e2).trans e, R', p', hw⟩
    | false => exact iteF (o.nx _ _ _ _ _ (by simpa using q2) (e1.trans e2) R2 p1))
end

/-! ### targets: names, tuples of such -/
inductive Tg where
  | nm (i : Nat) | tp (ts : List Tg)
mutual
def Tg.H (K : PySem.W.Frag) : Tg → TG
  | .nm i => gName i
  | .tp ts => gTup K ts.length (Tg.Hs K ts)
def Tg.Hs (K : PySem.W.Frag) : List Tg → TGs
  | [] => gNil
  | t :: ts => gCons (Tg.H K t) (Tg.Hs K ts)
end
mutual
def Tg.ix : Tg → List Nat
  | .nm i => [i]
  | .tp ts => Tg.ixs ts
def Tg.ixs : List Tg → List Nat
  | [] => []
  | t :: ts => Tg.ix t ++ Tg.ixs ts
end
mutual
def Tg.put : Tg → D → Sd → Option Sd
  | .nm i, d, σ => some (σ.set i (some (.fz d)))
  | .tp ts, .tup ds, σ => Tg.puts ts ds σ
  | .tp _, _, _ => none
def Tg.puts : List Tg → List D → Sd → Option Sd
  | [], [], σ => some σ
  | t :: ts, d :: ds, σ => match Tg.put t d σ with
    | some σ' => Tg.puts ts ds σ'
    | none => none
  | _, _, _ => none
end
/-- σ' differs from σ at some places alone -/
def Off (is : List Nat) (σ σ' : St) : Prop := σ'.length = σ.length ∧ ∀ j, j ∉ is → σ'[j]? = σ[j]?
theorem Off.refl (is : List Nat) (σ : St) : Off is σ σ := ⟨rfl, fun _ _ => rfl⟩
theorem Off.trans {is js ks : List Nat} {a b c : St} (x : Off is a b) (y : Off js b c) (h1 : ∀ i ∈ is, i ∈ ks) (h2 : ∀ i ∈ js, i ∈ ks) : Off ks a c :=
  ⟨y.1.trans x.1, fun j hj => (y.2 j fun q => hj (h2 j q)).trans (x.2 j fun q => hj (h1 j q))⟩
theorem Off.set (σ : St) (i : Nat) (x : Option V) : Off [i] σ (σ.set i x) := ⟨by simp, fun j hj => by rw [List.getElem?_set_ne (fun e => hj (by simp [e]))]⟩
theorem Off.pin {is : List Nat} {σ σ' : St} {mv : List (Nat × V)} (o : Off is σ σ') (h : ∀ i ∈ is, i ∉ mv.map (·.1)) (p : Pin mv σ) : Pin mv σ' := fun q hq => by
  rw [o.2 q.1 fun hi => h _ hi (List.mem_map_of_mem hq)]
  exact p q hq
mutual
theorem Tg.run {w : World} {K : PySem.W.Frag} {Z : Amb} {U G H : Hp} : ∀ (t : Tg) {σ : St} {σd σd' : Sd} {v : V} {d : D} {Q : St → Hp → Prop}, Rep w Z U G σ H σd → DR w G v d → t.put d σd = some σd' → (∀ σ', Rep w Z U G σ' H σd' → Off t.ix σ σ' → Q σ' H) → t.H K v σ H Q
  | .nm i, σ, σd, σd', v, d, Q, R, h, e, k => by
    have e' : some (σd.set i (some (.fz d))) = some σd' := e
    cases e'
    exact k _ ((R.topD h).store' i) (Off.set σ i _)
  | .tp ts, σ, σd, σd', v, d, Q, R, h, e, k => by
    cases h with
    | tup h r =>
      have e' : Tg.puts ts _ σd = some σd' := e
      exact ⟨_, _, rfl, .inl (Rd.le R.gh h), by rw [r.length]; exact Tg.put_len ts e', Tg.runs ts R r e' k⟩
    | _ => cases e
theorem Tg.runs {w : World} {K : PySem.W.Frag} {Z : Amb} {U G H : Hp} : ∀ (ts : List Tg) {σ : St} {σd σd' : Sd} {vs : List V} {ds : List D} {Q : St → Hp → Prop}, Rep w Z U G σ H σd → DRs w G vs ds → Tg.puts ts ds σd = some σd' → (∀ σ', Rep w Z U G σ' H σd' → Off (Tg.ixs ts) σ σ' → Q σ' H) → Tg.Hs K ts vs σ H Q
  | [], σ, σd, σd', _, _, Q, R, .nil, e, k => by
    have e' : some σd = some σd' := e
    cases e'
    exact ⟨rfl, k _ R (.refl _ _)⟩
  | [], _, _, _, _, _, _, _, .cons _ _, e, _ => by cases e
  | _ :: _, _, _, _, _, _, _, _, .nil, e, _ => by cases e
  | t :: ts, σ, σd, σd', _, _, Q, R, .cons (d := d) h hr, e, k => by
    dsimp only [Tg.puts] at e
    cases z : t.put d σd with
    | none => rw [z] at e; cases e
    | some σ1 =>
      rw [z] at e
      refine ⟨_, _, rfl, Tg.run t R h z fun σ2 R2 o2 => Tg.runs ts R2 hr e fun σ3 R3 o3 => k σ3 R3 ?_⟩
      exact o2.trans o3 (fun i hi => by rw [Tg.ixs]; exact List.mem_append_left _ hi) fun i hi => by rw [Tg.ixs]; exact List.mem_append_right _ hi
theorem Tg.put_len : ∀ (ts : List Tg) {ds : List D} {σd σd' : Sd}, Tg.puts ts ds σd = some σd' → ds.length = ts.length
  | [], [], _, _, _ => rfl
  | [], _ :: _, _, _, e => by cases e
  | _ :: _, [], _, _, e => by cases e
  | t :: ts, d :: ds, σd, _, e => by
    dsimp only [Tg.puts] at e
    cases z : t.put d σd with
    | none => rw [z] at e; cases e
    | some σ1 =>
      rw [z] at e
      exact congrArg (· + 1) (Tg.put_len ts e)
end
section
variable {X : Cx} {Z : Amb} {ms : List Nat} {e tg : Expr} {te : TEd} {pos : Pos}
theorem pg_nm {i : Nat} {x : Str} (hN : X.N.Nodup) (hi : X.N[i]? = some x) (hx : Loc X.env.scope x) (hf : X.fn x = true ∨ X.env.scope.names.lookup x = some .local := by first | exact .inl rfl | exact .inr rfl | assumption) : PG X (.Name x pos) (Tg.H X.K (.nm i)) := pg_name hN hi hx hf
theorem pg_tp {es : List Expr} {k : Nat} {ts : List Tg} (hc : X.calm = true) (h : PGs X es (Tg.Hs X.K ts)) (hn : (assignEach es X.env).length = ts.length := by rfl) (hst : (assignEach es X.env).findIdx? (·.1) = none := by rfl) : PG X (.Tuple es k pos) (Tg.H X.K (.tp ts)) := pg_tup hc h hn hst
theorem pgs_no : PGs X [] (Tg.Hs X.K []) := pgs_nil
theorem pgs_co {e : Expr} {es : List Expr} {t : Tg} {ts : List Tg} (h1 : PG X e (Tg.H X.K t)) (h2 : PGs X es (Tg.Hs X.K ts)) (hs : (assignEach (e :: es) X.env).map (·.2) = assign e X.env :: (assignEach es X.env).map (·.2) := by rfl) : PGs X (e :: es) (Tg.Hs X.K (t :: ts)) := pgs_cons h1 h2 hs
/-- a store to names, the value frozen -/
def tdAsg (te : TEd) (t : Tg) : TSd := fun De σ => te σ fun r σ1 => frzR [r] σ1 fun ds σ2 => match ds with
  | d :: _ => bindO (t.put d σ2) De.nx
  | [] => False
theorem psd_asg {t : Tg} (he : PEd X Z e te) (hg : PG X tg (Tg.H X.K t)) (hm : ∀ i ∈ t.ix, i ∉ ms) (hs : swapsWithSole [tg] e pos.line X.env = pure false := by rfl) (hw : swappedStores [tg] e X.env = pure none := by rfl)
    (h1 : (assignEach [tg] X.env).map (·.2) = [assign tg X.env] := by rfl) : PSd X Z ms (.Assign [tg] e pos) (tdAsg te t) :=
  ps_imp (ps_asg he hg hs hw h1) (lS fun U G σd De mv D σ H R m p q o => by
    refine ⟨U, G, σd, _, R, q, fun r σ1 v H1 U1 G1 q1 e1 R1 => ?_⟩
    obtain ⟨U2, G2, e2, R2, h2⟩ := R1.hold
    obtain ⟨U3, G3, ds, σ3, e3, R3, h3, q3⟩ := frz_run R2 (.cons h2 .nil) q1
    cases h3 with
    | cons h3 _ =>
      obtain ⟨σ4, z, q3⟩ := bindO_ex q3
      exact t.run R3 h3 z fun σ' R4 o4 => o.nx _ _ _ _ _ q3 ((e1.trans e2).trans e3) R4 (o4.pin (by rw [m]; exact hm) p))
end
end M
/-! M5: what is walked; for; list comprehensions. -/
namespace M
open PySem L2
/-- the iterator J walks the data xs -/
def ItD (w : World) (G : Hp) (xs : List D) (J : It) : Prop := ∀ i H, HLe G H →
  (∀ d, xs[i]? = some d → J.go i H ∧ ∀ x H', J.yld i H x H' → ∀ U G1, HLe G G1 → HLe G1 U → HLe U H → ∃ U' G', Grow U G1 H U' G' H' ∧ DR w G' x d) ∧ (xs.length ≤ i → J.stop i H)
abbrev TId := Sd → (List D → Sd → Prop) → Prop
def liftI (w : World) (Z : Amb) (ti : TId) : TI := fun σ H R => ∃ U G σd K, Rep w Z U G σ H σd ∧ ti σd K ∧ ∀ xs σd' J H' U' G', K xs σd' → Ext U G U' G' → Rep w Z U' G' σ H' σd' → ItD w G' xs J → R J H'
abbrev PId (X : Cx) (Z : Amb) (tg iter : Expr) (ti : TId) : Prop := PI X tg iter (liftI X.w Z ti)
theorem pi_imp {X : Cx} {tg iter : Expr} {t t' : TI} (h : PI X tg iter t) (i : ∀ σ H R, t' σ H R → t σ H R) : PI X tg iter t' := ⟨fun pins s σ H R I q => h.run pins s σ H R I (i _ _ _ q)⟩

def iSeq (K : PySem.W.Frag) (tl : TE) : TI := fun σ H R => tl σ H fun x H1 => (∃ a, x = .ref a ∧ (∃ xs, SqL K H1 a xs) ∧ R (Itl K a) H1) ∨ (∃ a, x = .ref a ∧ (∃ xs, SqT K H1 a xs) ∧ R (Itt K a) H1) ∨ (∃ y, x = .str y ∧ R (Its y) H1)
theorem pi_seq {X : Cx} {tg l : Expr} {tl : TE} (hl : PE X l tl) : PI X tg l (iSeq X.K tl) := by
  refine ⟨fun pins s σ H R I h => ?_⟩
  refine thn (hl.run pins s σ H _ I h) fun v s1 ⟨x, H1, I1, r1, q1⟩ => ?_
  rcases q1 with ⟨a, e, ⟨xs, hq⟩, q⟩ | ⟨a, e, ⟨xs, hq⟩, q⟩ | ⟨y, e, q⟩
  · subst e
    cases r1
    obtain ⟨its, rv, p, hz⟩ := I1.list hq
    refine wpAny_pyIter_list p.isList ?_
    refine ⟨s1.heap.objs.size, [s1.heap.objs.size], _, _, H1, rfl, I1.kept (t' := s1.toks) fun b o e => Heap.get?_push_of_some _ e, turn_list a _, ⟨_, Heap.get?_push_size _ rfl, rfl, rfl⟩, fun b hb => ?_, q⟩
    have e : b = s1.heap.objs.size := by simpa using hb
    subst e
    exact I1.fpOk (Nat.le_refl _) (I1.hok.fresh (Nat.le_refl _))
  · subst e
    cases r1
    obtain ⟨its, rv, p, hz⟩ := I1.tuple hq
    refine wpAny_pyIter_tuple (show s1.heap.IsTuple a its.toArray from p) ?_
    refine ⟨s1.heap.objs.size, [s1.heap.objs.size], _, _, H1, rfl, I1.kept (t' := s1.toks) fun b o e => Heap.get?_push_of_some _ e, turn_tuple a _, ⟨_, Heap.get?_push_size _ rfl, rfl, rfl⟩, fun b hb => ?_, q⟩
    have e : b = s1.heap.objs.size := by simpa using hb
    subst e
    exact I1.fpOk (Nat.le_refl _) (I1.hok.fresh (Nat.le_refl _))
  · subst e
    obtain ⟨t, rfl⟩ := r1
    cases ha : y.cps.all (· < 128)
    · exact wpAny_pyIter_wide ha (pi_one (tk := s1.toks) I1 _ (turn_str _ y t "str_iterator" (.inr rfl)) ⟨_, Heap.get?_push_size _ rfl, rfl, rfl⟩ q)
    · exact wpAny_pyIter_ascii ha (pi_one (tk := s1.toks) I1 _ (turn_str _ y t "str_ascii_iterator" (.inl rfl)) ⟨_, Heap.get?_push_size _ rfl, rfl, rfl⟩ q)
def chars (x : Str) : List D := x.cps.toList.map fun c => .str ⟨#[c]⟩
/-- what a walk of data gives -/
def D.items : D → Option (List D)
  | .lst xs => some xs
  | .tup xs => some xs
  | .str x => some (chars x)
  | _ => none
/-- an expression's value, frozen -/
def tdF (te : TEd) (σ : Sd) (K : D → Sd → Prop) : Prop := te σ fun r σ1 => frzR [r] σ1 fun ds σ2 => match ds with
  | d :: _ => K d σ2
  | [] => False
def tiSeq (te : TEd) : TId := fun σ K => tdF te σ fun d σ2 => bindO d.items fun xs => K xs σ2
section
variable {w : World} {K : PySem.W.Frag} {G : Hp} {a b : Addr} {vs us : List V} {ds es : List D}
theorem getN {α : Type} {l : List α} {i : Nat} {x : α} (h : l[i]? = some x) : i < l.length := (List.getElem?_eq_some_iff.mp h).1
theorem itd_list (h : Rd G a (.lst vs)) (r : DRs w G vs ds) : ItD w G ds (Itl K a) := fun i H gh => by
  have hq : SqL K H a vs := .inl (Rd.le gh h)
  refine ⟨fun d hd => ?_, fun hi => ⟨vs, hq, by rw [r.length]; exact hi⟩⟩
  obtain ⟨v, h1, h2⟩ := r.get hd
  refine ⟨⟨vs, v, hq, h1⟩, fun x H' y U G1 g1 gu uh => ?_⟩
  obtain ⟨e, y⟩ := y
  subst e
  have := (y vs hq).symm.trans h1
  cases this
  exact ⟨U, G1, .refl gu uh, h2.le g1⟩
theorem itd_tup (h : Rd G a (.tup vs)) (r : DRs w G vs ds) : ItD w G ds (Itt K a) := fun i H gh => by
  have hq : SqT K H a vs := .inl (Rd.le gh h)
  refine ⟨fun d hd => ?_, fun hi => ⟨vs, hq, by rw [r.length]; exact hi⟩⟩
  obtain ⟨v, h1, h2⟩ := r.get hd
  refine ⟨⟨vs, v, hq, h1⟩, fun x H' y U G1 g1 gu uh => ?_⟩
  obtain ⟨e, y⟩ := y
  subst e
  have := (y vs hq).symm.trans h1
  cases this
  exact ⟨U, G1, .refl gu uh, h2.le g1⟩
theorem itd_str (x : Str) : ItD w G (chars x) (Its x) := fun i H gh => by
  have hl : (chars x).length = x.cps.size := by simp [chars]
  refine ⟨fun d hd => ?_, fun hi => by show x.cps.size ≤ i; rw [← hl]; exact hi⟩
  have hi : i < x.cps.size := by rw [← hl]; exact getN hd
  refine ⟨hi, fun v H' y U G1 g1 gu uh => ?_⟩
  obtain ⟨e, c, hc, e2⟩ := y
  subst e; subst e2
  have : d = .str ⟨#[c]⟩ := by
    simp [chars] at hd
    obtain ⟨c', h1, h2⟩ := hd
    rw [h1] at hc
    cases hc
    exact h2.symm
  subst this
  exact ⟨U, G1, .refl gu uh, .str _⟩
theorem itd_range (lo : Int) (n : Nat) : ItD w G ((List.range n).map fun (k : Nat) => D.int (lo + (k : Int))) (Itr lo n) := fun i H gh => by
  refine ⟨fun d hd => ?_, fun hi => by show n ≤ i; simpa using hi⟩
  have hi : i < n := by simpa using getN hd
  refine ⟨hi, fun v H' y U G1 g1 gu uh => ?_⟩
  obtain ⟨e, e2⟩ := y
  subst e; subst e2
  have : d = .int (lo + i) := by
    simp [List.getElem?_map, List.getElem?_range hi] at hd
    exact hd.symm
  subst this
  exact ⟨U, G1, .refl gu uh, .int _⟩
def zipD (xs ys : List D) : List D := List.zipWith (fun x y => .tup [x, y]) xs ys
theorem itd_zip (h : Rd G a (.lst vs)) (r : DRs w G vs ds) (h' : Rd G b (.lst us)) (r' : DRs w G us es) : ItD w G (zipD ds es) (Itz K a b) := fun i H gh => by
  have hq : SqL K H a vs := .inl (Rd.le gh h)
  have hq' : SqL K H b us := .inl (Rd.le gh h')
  refine ⟨fun d hd => ?_, fun hi => ⟨vs, us, hq, hq', by
    rw [r.length, r'.length]
    have : min ds.length es.length ≤ i := by simpa [zipD] using hi
    omega⟩⟩
  unfold zipD at hd
  rw [List.getElem?_zipWith] at hd
  cases h1 : ds[i]? with
  | none => rw [h1] at hd; simp at hd
  | some d1 =>
    cases h2 : es[i]? with
    | none => rw [h1, h2] at hd; simp at hd
    | some d2 =>
      rw [h1, h2] at hd
      cases hd
      obtain ⟨v1, g1, g2⟩ := r.get h1
      obtain ⟨v2, g3, g4⟩ := r'.get h2
      refine ⟨⟨vs, us, v1, v2, hq, hq', g1, g3⟩, fun x H' y U G1 gg gu uh => ?_⟩
      obtain ⟨p, x1, x2, e, hp, e2, y1, y2⟩ := y
      subst e; subst e2
      have z1 := (y1 vs hq).symm.trans g1
      have z2 := (y2 us hq').symm.trans g3
      cases z1; cases z2
      have hG : G1 p = none := gu.none (uh.none hp)
      exact ⟨_, _, .frz gu uh hp, .tup (.inl upd_same) (.cons (g2.le (gg.trans (.upd hG))) (.cons (g4.le (gg.trans (.upd hG))) .nil))⟩
theorem itd_zipT (h : Rd G a (.tup vs)) (r : DRs w G vs ds) (h' : Rd G b (.tup us)) (r' : DRs w G us es) : ItD w G (zipD ds es) (RZ.ItzT K a b) := fun i H gh => by
  have hq : SqT K H a vs := .inl (Rd.le gh h)
  have hq' : SqT K H b us := .inl (Rd.le gh h')
  refine ⟨fun d hd => ?_, fun hi => ⟨vs, us, hq, hq', by
    rw [r.length, r'.length]
    have : min ds.length es.length ≤ i := by simpa [zipD] using hi
    omega⟩⟩
  unfold zipD at hd
  rw [List.getElem?_zipWith] at hd
  cases h1 : ds[i]? with
  | none => rw [h1] at hd; simp at hd
  | some d1 =>
    cases h2 : es[i]? with
    | none => rw [h1, h2] at hd; simp at hd
    | some d2 =>
      rw [h1, h2] at hd
      cases hd
      obtain ⟨v1, g1, g2⟩ := r.get h1
      obtain ⟨v2, g3, g4⟩ := r'.get h2
      refine ⟨⟨vs, us, v1, v2, hq, hq', g1, g3⟩, fun x H' y U G1 gg gu uh => ?_⟩
      obtain ⟨p, x1, x2, e, hp, e2, y1, y2⟩ := y
      subst e; subst e2
      have z1 := (y1 vs hq).symm.trans g1
      have z2 := (y2 us hq').symm.trans g3
      cases z1; cases z2
      have hG : G1 p = none := gu.none (uh.none hp)
      exact ⟨_, _, .frz gu uh hp, .tup (.inl upd_same) (.cons (g2.le (gg.trans (.upd hG))) (.cons (g4.le (gg.trans (.upd hG))) .nil))⟩
end

section
variable {X : Cx} {Z : Amb} {ms : List Nat} {e tg iter : Expr} {te : TEd} {pos : Pos}
theorem tdF_run {σ : St} {σd : Sd} {U G H : Hp} {K : D → Sd → Prop} {P : V → Hp → Prop} (R : Rep X.w Z U G σ H σd) (q : tdF te σd K)
    (k : ∀ d σ' v H' U' G', K d σ' → Ext U G U' G' → Rep X.w Z U' G' σ H' σ' → DR X.w G' v d → P v H') : liftE X.w Z te σ H P := by
  refine ⟨U, G, σd, _, R, q, fun r σ1 v H1 U1 G1 q1 e1 R1 => ?_⟩
  obtain ⟨U2, G2, e2, R2, h2⟩ := R1.hold
  obtain ⟨U3, G3, ds, σ3, e3, R3, h3, q3⟩ := frz_run R2 (.cons h2 .nil) q1
  cases h3 with
  | cons h3 _ => exact k _ _ _ _ _ _ q3 ((e1.trans e2).trans e3) R3 h3
theorem pid_seq (he : PEd X Z e te) : PId X Z tg e (tiSeq te) := pi_imp (pi_seq he) fun σ H R ⟨U, G, σd, K, Rp, q, k⟩ => by
  refine tdF_run Rp q fun d σ' v H' U' G' q1 e1 R1 h1 => ?_
  obtain ⟨xs, z, q1⟩ := bindO_ex q1
  cases h1 with
  | lst h r => cases z; exact .inl ⟨_, rfl, ⟨_, .inl (Rd.le R1.gh h)⟩, k _ _ _ _ _ _ q1 e1 R1 (itd_list h r)⟩
  | tup h r => cases z; exact .inr (.inl ⟨_, rfl, ⟨_, .inl (Rd.le R1.gh h)⟩, k _ _ _ _ _ _ q1 e1 R1 (itd_tup h r)⟩)
  | str x => cases z; exact .inr (.inr ⟨_, rfl, k _ _ _ _ _ _ q1 e1 R1 (itd_str x)⟩)
  | _ => cases z
def rangeD (lo : Int) (n : Nat) : List D := (List.range n).map fun (k : Nat) => D.int (lo + (k : Int))
def tiRng1 (te : TEd) : TId := fun σ K => tdF te σ fun d σ1 => match d with
  | .int j => -(2 ^ 62) ≤ j ∧ j < 2 ^ 62 ∧ K (rangeD 0 j.toNat) σ1
  | _ => False
def tiRng2 (ta tb : TEd) : TId := fun σ K => tdF ta σ fun d σ1 => tdF tb σ1 fun d2 σ2 => match d, d2 with
  | .int i, .int j => (-(2 ^ 62) ≤ i ∧ i < 2 ^ 62 ∧ -(2 ^ 62) ≤ j ∧ j < 2 ^ 62) ∧ K (rangeD i (j - i).toNat) σ2
  | _, _ => False
theorem pid_range1 {a : Expr} {ta : TEd} {p : Pos} (hg : Gl X "range") (hm : X.mg "range" = none) (ha : PEd X Z a ta) (hs : starEach [a] X.env = [(false, eval a X.env)] := by rfl) : PId X Z tg (.Call (.Name "range" p) [a] [] pos) (tiRng1 ta) :=
  pi_imp (pi_range1 hg hm (pa_cons ha pa_nil hs) hs) fun σ H R ⟨U, G, σd, K, Rp, q, k⟩ => by
    refine tdF_run Rp q fun d σ' v H' U' G' q1 e1 R1 h1 => ?_
    cases h1 with
    | int j => exact ⟨j, rfl, q1.1, q1.2.1, k _ _ _ _ _ _ q1.2.2 e1 R1 (itd_range 0 _)⟩
    | _ => exact q1.elim
theorem pid_range2 {a b : Expr} {ta tb : TEd} {p : Pos} (hg : Gl X "range") (hm : X.mg "range" = none) (ha : PEd X Z a ta) (hb : PEd X Z b tb) (hs : starEach [a, b] X.env = [(false, eval a X.env), (false, eval b X.env)] := by rfl) (hs2 : starEach [b] X.env = [(false, eval b X.env)] := by rfl) : PId X Z tg (.Call (.Name "range" p) [a, b] [] pos) (tiRng2 ta tb) :=
  pi_imp (pi_range2 hg hm (pa_cons ha (pa_cons hb pa_nil hs2) (by rw [hs, hs2])) hs hs2) fun σ H R ⟨U, G, σd, K, Rp, q, k⟩ => by
    refine tdF_run Rp q fun d σ' v H' U' G' q1 e1 R1 h1 => tdF_run R1 q1 fun d2 σ2 v2 H2 U2 G2 q2 e2 R2 h2 => ?_
    cases h1 with
    | int i =>
      cases h2 with
      | int j => exact ⟨i, j, rfl, q2.1, k _ _ _ _ _ _ q2.2 (e1.trans e2) R2 (itd_range i _)⟩
      | _ => exact q2.elim
    | _ => cases d2 <;> exact q2.elim
def tiZip (ta tb : TEd) : TId := fun σ K => tdF ta σ fun d σ1 => tdF tb σ1 fun d2 σ2 => match d, d2 with
  | .lst xs, .lst ys => K (zipD xs ys) σ2
  | .tup xs, .tup ys => K (zipD xs ys) σ2
  | _, _ => False
theorem pid_zip {a b : Expr} {ta tb : TEd} {p tpos : Pos} {elts : List Expr} {kk : Nat} (hg : Gl X "zip") (hm : X.mg "zip" = none) (ha : PEd X Z a ta) (hb : PEd X Z b tb)
    (hs : starEach [a, b] X.env = (false, eval a X.env) :: starEach [b] X.env := by rfl) (hpl : (backTo pos (starEach [b] X.env)).any (·.1) = false := by rfl) (hs2 : starEach [b] X.env = [(false, eval b X.env)] := by rfl) :
    PId X Z (.Tuple elts kk tpos) (.Call (.Name "zip" p) [a, b] [] pos) (tiZip ta tb) :=
  pi_imp (RZ.pi_zipA hg hm (pa_cons ha (pa_cons hb pa_nil hs2) hs) hs hpl) fun σ H R ⟨U, G, σd, K, Rp, q, k⟩ => by
    refine tdF_run Rp q fun d σ' v H' U' G' q1 e1 R1 h1 => tdF_run R1 q1 fun d2 σ2 v2 H2 U2 G2 q2 e2 R2 h2 => ?_
    cases h1 with
    | lst h r =>
      cases h2 with
      | lst h' r' => exact ⟨_, _, _, _, rfl, .inl ⟨.inl (Rd.le (e2.g.trans R2.gh) h), .inl (Rd.le R2.gh h'), k _ _ _ _ _ _ q2 (e1.trans e2) R2 (itd_zip (Rd.le e2.g h) (r.le e2.g) h' r')⟩⟩
      | _ => exact q2.elim
    | tup h r =>
      cases h2 with
      | tup h' r' => exact ⟨_, _, _, _, rfl, .inr ⟨.inl (Rd.le (e2.g.trans R2.gh) h), .inl (Rd.le R2.gh h'), k _ _ _ _ _ _ q2 (e1.trans e2) R2 (itd_zipT (Rd.le e2.g h) (r.le e2.g) h' r')⟩⟩
      | _ => exact q2.elim
    | _ => cases d2 <;> exact q2.elim

/-! ### for -/
def tdLoop (t : Tg) (tb : TSd) : List D → TSd
  | [], De, σ => De.nx σ
  | x :: xs, De, σ => bindO (t.put x σ) fun σ1 => tb { De with nx := fun σ' => tdLoop t tb xs De σ', ct := fun σ' => tdLoop t tb xs De σ', bk := De.nx } σ1
def tdFor (ti : TId) (t : Tg) (tb : TSd) : TSd := fun De σ => ti σ fun xs σ1 => tdLoop t tb xs De σ1
theorem psd_for {body : List Stmt} {ti : TId} {t : Tg} {tb : TSd} (hp : PassesOwn (model X.prog X.w) X.A X.env X.xe) (hc : X.calm = true) (hi : PId X Z tg iter ti) (hg : PG X tg (Tg.H X.K t)) (hm : ∀ i ∈ t.ix, i ∉ ms) (hb : PSsd X Z ms body tb)
    (hs : ∀ x, foldedSetIterable iter X.env x = pure x := by intro _; rfl) : PSd X Z ms (.For tg iter body [] pos) (tdFor ti t tb) :=
  ps_imp (ps_for hp hc hi hg hb hs) (lS fun U G σd De mv D σ H R m p q o => by
    refine ⟨U, G, σd, _, R, q, fun xs σ1 J H1 U1 G1 q1 e1 R1 it => ?_⟩
    refine ⟨fun i k σ H => k = xs.length - i ∧ i ≤ xs.length ∧ ∃ U' G' σd', Ext U1 G1 U' G' ∧ Rep X.w Z U' G' σ H σd' ∧ Pin mv σ ∧ tdLoop t tb (xs.drop i) De σd', ⟨xs.length, rfl, Nat.zero_le _, U1, G1, σ1, .refl _ _, R1, p, q1⟩, ?_⟩
    rintro i k σ2 H2 ⟨rfl, hi, U2, G2, σ3, e2, R2, p2, q2⟩
    have itd := it i H2 (e2.g.trans R2.gh)
    by_cases hlt : i < xs.length
    · obtain ⟨d, hd⟩ : ∃ d, xs[i]? = some d := ⟨xs[i], by simp [hlt]⟩
      obtain ⟨go, yld⟩ := itd.1 d hd
      have ed : xs.drop i = d :: xs.drop (i + 1) := by
        rw [List.drop_eq_getElem_cons hlt]
        have : xs[i] = d := by rw [List.getElem?_eq_getElem hlt] at hd; exact Option.some.inj hd
        rw [this]
      rw [ed] at q2
      obtain ⟨σ4, z, q2⟩ := bindO_ex q2
      refine .inr ⟨go, fun σ' H' => ∃ U' G' σd', Ext U1 G1 U' G' ∧ Rep X.w Z U' G' σ' H' σd' ∧ Pin mv σ' ∧ tdLoop t tb (xs.drop (i + 1)) De σd', fun σ' H' h => ⟨xs.length - (i + 1), by omega, rfl, hlt, h⟩, fun x H' y => ?_⟩
      obtain ⟨U5, G5, g5, d5⟩ := yld x H' y U2 G2 e2.g R2.gu R2.uh
      refine t.run (R2.grow g5) d5 z fun σ' R' o' => ?_
      have e5 := e2.trans g5.e
      have o5 := o.ext (e1.trans e5)
      refine ⟨U5, G5, σ4, _, mv, R', m, o'.pin (by rw [m]; exact hm) p2, q2, fun σ' H' σd' U' G' q e R p => ⟨U', G', σd', e5.trans e, R, p, q⟩, o5.nx, fun σ' H' σd' U' G' q e R p => ⟨U', G', σd', e5.trans e, R, p, q⟩, o5.rt⟩
    · have ei : i = xs.length := by omega
      subst ei
      rw [List.drop_length] at q2
      exact .inl ⟨itd.2 (Nat.le_refl _), o.nx _ _ _ _ _ q2 (e1.trans e2) R2 p2⟩)

/-! ### list comprehensions -/
def wipeD (σ : Sd) : List Nat → Sd
  | [] => σ
  | v :: vs => (wipeD σ vs).set v none
theorem Rep.wipe {w : World} {U G H : Hp} {σ : St} {σd : Sd} (R : Rep w Z U G σ H σd) : ∀ vs, Rep w Z U G (L2.wipe σ vs) H (wipeD σd vs)
  | [] => R
  | v :: vs => (Rep.wipe R vs).kill v none
theorem wipe_at (σ : St) (vs : List Nat) (j : Nat) : (L2.wipe σ vs)[j]? = if j ∈ vs ∧ j < σ.length then some none else σ[j]? := by
  induction vs with
  | nil => simp [L2.wipe]
  | cons v vs ih =>
    show ((L2.wipe σ vs).set v none)[j]? = _
    rw [List.getElem?_set, ih, L2.wipe_length]
    by_cases h1 : v = j
    · subst h1
      by_cases h2 : v < σ.length
      · simp [h2]
      · simp [h2]
    · have : ¬ j = v := fun e => h1 e.symm
      simp [h1, this]
theorem wipe_off {σ σ' : St} {is vs : List Nat} (o : Off is (L2.wipe σ vs) σ') (h : ∀ i ∈ is, i ∈ vs) : L2.wipe σ' vs = L2.wipe σ vs := by
  have hl : σ'.length = σ.length := by rw [o.1, L2.wipe_length]
  apply List.ext_getElem?
  intro j
  rw [wipe_at, wipe_at, hl]
  by_cases hj : j ∈ vs ∧ j < σ.length
  · rw [if_pos hj, if_pos hj]
  · rw [if_neg hj, if_neg hj]
    by_cases hv : j ∈ vs
    · have hn : ¬ j < σ.length := fun q => hj ⟨hv, q⟩
      rw [List.getElem?_eq_none (by omega), List.getElem?_eq_none (by omega)]
    · rw [o.2 j fun q => hv (h j q), wipe_at, if_neg (fun q => hv q.1)]
/-- σd1 with the block's own slots as they were -/
def ttYes : TTd := fun σ K => K true σ
def lcLoop (t : Tg) (tt : TTd) (te : TEd) (vs : List Nat) : List D → List D → Sd → (List D → Sd → Prop) → Prop
  | [], acc, σ, K => K acc σ
  | x :: xs, acc, σ, K => bindO (t.put x (wipeD σ vs)) fun σ2 => tt σ2 fun b σ3 => if b = true then tdF te σ3 fun d σ4 => acc.length < sizeLine ∧ lcLoop t tt te vs xs (acc ++ [d]) σ4 K else lcLoop t tt te vs xs acc σ3 K
/-- the slots behind: the block's own data as it was ahead -/
def backD (σ0 : Sd) : List Nat → Sd → Sd
  | [], σ => σ
  | v :: vs, σ => match σ0[v]? with
    | some (some (.fz d)) => (backD σ0 vs σ).set v (some (.fz d))
    | _ => backD σ0 vs σ
theorem wipeD_length (σ : Sd) : ∀ vs, (wipeD σ vs).length = σ.length
  | [] => rfl
  | v :: vs => by show ((wipeD σ vs).set v none).length = _; rw [List.length_set, wipeD_length σ vs]
theorem wipeD_at (σ : Sd) (vs : List Nat) (j : Nat) (h : j ∈ vs) (hl : j < σ.length) : (wipeD σ vs)[j]? = some none := by
  induction vs with
  | nil => cases h
  | cons v vs ih =>
    show ((wipeD σ vs).set v none)[j]? = _
    by_cases e : v = j
    · subst e; rw [List.getElem?_set_self (by rw [wipeD_length]; exact hl)]
    · rw [List.getElem?_set_ne e]
      rcases List.mem_cons.mp h with q | q
      · exact absurd q.symm e
      · exact ih q
theorem back_run {w : World} {U G H U1 G1 H1 : Hp} {σ : St} {σ0 σ1 : Sd} (R0 : Rep w Z U G σ H σ0) (g : HLe G G1) (R1 : Rep w Z U1 G1 σ H1 σ1) : ∀ vs, Rep w Z U1 G1 σ H1 (backD σ0 vs σ1)
  | [] => R1
  | v :: vs => by
    unfold backD
    have ih := back_run R0 g R1 vs
    split
    · rename_i d h
      obtain ⟨x, F, h1, h2⟩ := R0.at h
      cases h2 with
      | fz h2 =>
        have := (ih.topD (h2.le g)).store' v
        have es : σ.set v (some x) = σ := by
          apply List.ext_getElem?
          intro j
          by_cases hj : v = j
          · subst hj
            rw [List.getElem?_set_self (getN h1), h1]
          · rw [List.getElem?_set_ne hj]
        rw [es] at this
        exact this
    · exact ih
theorem Rep.unwipe {w : World} {U G H : Hp} {σ : St} {σd : Sd} {vs : List Nat} (R : Rep w Z U G (L2.wipe σ vs) H (wipeD σd vs)) : Rep w Z U G σ H (wipeD σd vs) := by
  have hl := R.length
  rw [L2.wipe_length, wipeD_length] at hl
  refine R.re (L2.wipe_length σ vs).symm fun j => ?_
  rw [wipe_at]
  by_cases h : j ∈ vs ∧ j < σ.length
  · exact .inr (wipeD_at σd vs j h.1 (by omega))
  · rw [if_neg h]; exact .inl rfl
def tdLc (ti : TId) (t : Tg) (tt : TTd) (te : TEd) (vs : List Nat) : TEd := fun σ K => ti σ fun xs σ1 => lcLoop t tt te vs xs [] σ1 fun ds σ2 => K (.t (.l ds)) (backD σ1 vs (wipeD σ2 vs))
theorem lc_imp {ti : TId} {t : Tg} {tt : TTd} {vs : List Nat} (hm : ∀ i ∈ t.ix, i ∈ vs) {σ : St} {H : Hp} {Q : VK} (h : liftE X.w Z (tdLc ti t tt te vs) σ H Q) : tLc (liftI X.w Z ti) (Tg.H X.K t) (liftT X.w Z tt) (liftE X.w Z te) vs σ H Q := by
  obtain ⟨U, G, σd, K, R, q, k⟩ := h
  refine ⟨U, G, σd, _, R, q, fun xs σ1 J H1 U1 G1 q1 e1 R1 it D hD => ?_⟩
  have g0 : Grow U1 G1 H1 U1 G1 (upd H1 D (.lst [])) := .own R1.gu R1.uh hD
  have R2 := (R1.wipe vs).top g0 (v := .ref D) (t := .l []) (.l upd_same .nil) (by simp) fun b hb => by simp at hb; subst hb; exact ⟨hD, R1.uh.none hD⟩
  refine ⟨fun i m H => m = xs.length - i ∧ i ≤ xs.length ∧ ∃ U' G' σd' acc, Ext U1 G1 U' G' ∧ Rep X.w Z U' G' (some (.ref D) :: L2.wipe σ vs) H (some (.l acc) :: wipeD σd' vs) ∧ lcLoop t tt te vs (xs.drop i) acc σd' fun ds σ2 => K (.t (.l ds)) (backD σ1 vs (wipeD σ2 vs)), ⟨xs.length, rfl, Nat.zero_le _, U1, G1, σ1, [], .refl _ _, R2, q1⟩, ?_⟩
  rintro i m H2 ⟨rfl, hi, U2, G2, σ2, acc, e2, R2, q2⟩
  have itd := it i H2 (e2.g.trans R2.gh)
  by_cases hlt : i < xs.length
  · obtain ⟨d, hd⟩ : ∃ d, xs[i]? = some d := ⟨xs[i], by simp [hlt]⟩
    obtain ⟨go, yld⟩ := itd.1 d hd
    have ed : xs.drop i = d :: xs.drop (i + 1) := by
      rw [List.drop_eq_getElem_cons hlt]
      have : xs[i] = d := by rw [List.getElem?_eq_getElem hlt] at hd; exact Option.some.inj hd
      rw [this]
    rw [ed] at q2
    obtain ⟨σ4, z, q2⟩ := bindO_ex q2
    refine .inr ⟨go, fun H => ∃ U' G' σd' acc, Ext U1 G1 U' G' ∧ Rep X.w Z U' G' (some (.ref D) :: L2.wipe σ vs) H (some (.l acc) :: wipeD σd' vs) ∧ lcLoop t tt te vs (xs.drop (i + 1)) acc σd' fun ds σ2 => K (.t (.l ds)) (backD σ1 vs (wipeD σ2 vs)), fun H' h => ⟨xs.length - (i + 1), by omega, rfl, hlt, h⟩, fun x H' y => ?_⟩
    obtain ⟨U5, G5, g5, d5⟩ := yld x H' y U2 G2 e2.g R2.gu R2.uh
    have R5 := R2.grow g5
    have e5 := e2.trans g5.e
    obtain ⟨F, oF, nF, nw, R6⟩ := R5.guard
    refine t.run R6 d5 z fun σ' R' o' => ⟨wipe_off o' hm, ?_⟩
    have ew : L2.wipe σ' vs = L2.wipe σ vs := wipe_off o' hm
    refine ⟨_, _, σ4, _, R', q2, fun b σ6 H6 U6 G6 q6 e6 R6' => ?_⟩
    cases b with
    | true =>
      refine iteT ?_
      rw [if_pos rfl] at q6
      refine tdF_run R6' q6 fun d' σ7 v7 H7 U7 G7 q7 e7 R7 d7 => ?_
      obtain ⟨hz, q7⟩ := q7
      obtain ⟨e8, R8⟩ := Rep.unguard R5.gu oF nF nw (e6.trans e7) R7
      -- the new list
      obtain ⟨v', F', hv, own⟩ := R8.at (i := 0) (t := .l acc) rfl
      cases hv
      cases own with
      | @l a us _ hl r =>
        refine ⟨us, hl, by rw [r.length]; exact hz, cut F U7, G7, σ7, acc ++ [d'], e5.trans e8, ?_, q7⟩
        have R9 := R8.pop.wipe vs
        rw [ew] at R9
        have R8w : Rep X.w Z (cut F U7) G7 (some (.ref D) :: L2.wipe σ' vs) H7 (some (.l acc) :: wipeD σ7 vs) := by
          have key : ∀ (vs : List Nat), Rep X.w Z (cut F U7) G7 (some (.ref D) :: L2.wipe σ' vs) H7 (some (.l acc) :: wipeD σ7 vs) := by
            intro vs
            induction vs with
            | nil => exact R8
            | cons v vs ih => exact ih.kill (v + 1) none
          exact key vs
        rw [ew] at R8w
        obtain ⟨FF, s, nd, nu⟩ := R8w.ow
        cases s with
        | so hh rr =>
          cases hh with
          | l hh r2 =>
            have nd' := List.nodup_append.mp nd
            have nD : ∀ b, b ≠ D → upd H7 D (.lst (us ++ [v7])) b = H7 b := fun b hb => upd_ne hb
            have uD : cut F U7 D = none := nu D (by simp)
            refine ⟨R8w.zg.mut (fun ps e => by rw [hh] at e; cases e), R8w.gu, fun b o h => ?_, _, .so (.l upd_same (r.append (.cons d7 .nil))) (rr.frame (.refl _) fun b hb o h => ?_), nd, nu⟩
            · rw [nD b (ne_of_none h uD)]
              exact R8w.uh b o h
            · rw [nD b (fun e => nd'.2.2 D (by simp) b hb e.symm)]
              exact h
    | false =>
      refine iteF ?_
      rw [if_neg Bool.false_ne_true] at q6
      obtain ⟨e8, R8⟩ := Rep.unguard R5.gu oF nF nw e6 R6'
      have R8w : Rep X.w Z (cut F U6) G6 (some (.ref D) :: L2.wipe σ' vs) H6 (some (.l acc) :: wipeD σ6 vs) := by
        have key : ∀ (vs : List Nat), Rep X.w Z (cut F U6) G6 (some (.ref D) :: L2.wipe σ' vs) H6 (some (.l acc) :: wipeD σ6 vs) := by
          intro vs
          induction vs with
          | nil => exact R8
          | cons v vs ih => exact ih.kill (v + 1) none
        exact key vs
      rw [ew] at R8w
      exact ⟨_, _, σ6, acc, e5.trans e8, R8w, q6⟩
  · have ei : i = xs.length := by omega
    subst ei
    rw [List.drop_length] at q2
    refine .inl ⟨itd.2 (Nat.le_refl _), ?_⟩
    refine k _ _ _ _ _ _ q2 (e1.trans e2) ?_
    obtain ⟨F, oF, nF, nw, R6⟩ := R2.guard
    have R7 := back_run R1 e2.g R6.unwipe vs
    have := Rep.unguard R2.gu oF nF nw (.refl _ _) R7
    obtain ⟨e8, R8⟩ := this
    refine ⟨R2.zg.re (.refl _) (fun _ _ _ e => e) (fun _ _ e => e), R2.gu, R2.uh, ?_⟩
    obtain ⟨FF, s, nd, nu⟩ := R8.ow
    refine ⟨FF, s, nd, fun a ha => ?_⟩
    have := nu a ha
    by_cases hf : a ∈ F
    · exact nw a hf
    · rw [cut_out hf, mix_out hf] at this; exact this
theorem pd_lc {elt : Expr} {ifs : List Expr} {scope : Scope} {own : List (Str × Nat)} {ti : TId} {t : Tg} {tt : TTd} (hm : ∀ i ∈ t.ix, i ∈ own.map (·.2)) (hc : X.calm = true) (hN : X.N.Nodup) (hi : PId X Z tg iter ti) (ok : BlkOk X.N X.env.scope scope own)
    (hg : ∀ (s : Shared) (H : Hp) (C : Addr) (cl : List (Str × Addr)) (fp : List Addr), PG (X.blk s H scope (compEnvC scope cl C X.env) fp) tg (Tg.H X.K t)) (ht : ∀ (s : Shared) (H : Hp) (C : Addr) (cl : List (Str × Addr)) (fp : List Addr), PTs (X.blk s H scope (compEnvC scope cl C X.env) fp) ifs (liftT X.w Z tt))
    (he : ∀ (s : Shared) (H : Hp) (C : Addr) (cl : List (Str × Addr)) (fp : List Addr), PE (X.blk s H scope (compEnvC scope cl C X.env) fp) elt (liftE X.w Z te)) (hs : ∀ x, foldedSetIterable iter X.env x = pure x := by intro _; rfl) :
    PEd X Z (.ListComp elt [⟨tg, iter, ifs, 0⟩] scope pos) (tdLc ti t tt te (own.map (·.2))) := pe_imp (pe_lc hc hN hi ok hg ht he hs) fun _ _ _ h => lc_imp hm h
theorem ptsd_nil : PTs X [] (liftT X.w Z ttYes) := ⟨fun pins s σ H Q I ⟨U, G, σd, K, R, q, k⟩ => pts_nil.run pins s σ H Q I (k _ _ _ _ _ q (.refl _ _) R)⟩
theorem ptsd_one {c : Expr} {tt : TTd} (h : PTd X Z c tt) : PTs X [c] (liftT X.w Z tt) := pts_one h
/-- name = [..] on one line -/
theorem psd_setLc {i : Nat} {y : Str} {py : Pos} {elt : Expr} {ifs : List Expr} {scope : Scope} {own : List (Str × Nat)} {spos : Pos} {ti : TId} {t : Tg} {tt : TTd} (hm : ∀ i ∈ t.ix, i ∈ own.map (·.2)) (him : i ∉ ms) (hc : X.calm = true) (hN : X.N.Nodup) (hy : X.N[i]? = some y) (hyl : X.env.scope.names.lookup y = some .local)
    (hsw : swapsWith (.ListComp elt [⟨tg, iter, ifs, 0⟩] scope pos) (some (.Name y py)) spos.line X.env = pure true) (hi : PId X Z tg iter ti) (ok : BlkOk X.N X.env.scope scope own)
    (hg : ∀ (s : Shared) (H : Hp) (C : Addr) (cl : List (Str × Addr)) (fp : List Addr), PG (X.blk s H scope (compEnvC scope cl C X.env) fp) tg (Tg.H X.K t)) (ht : ∀ (s : Shared) (H : Hp) (C : Addr) (cl : List (Str × Addr)) (fp : List Addr), PTs (X.blk s H scope (compEnvC scope cl C X.env) fp) ifs (liftT X.w Z tt))
    (he : ∀ (s : Shared) (H : Hp) (C : Addr) (cl : List (Str × Addr)) (fp : List Addr), PE (X.blk s H scope (compEnvC scope cl C X.env) fp) elt (liftE X.w Z te)) (hs : ∀ x, foldedSetIterable iter X.env x = pure x := by intro _; rfl) :
    PSd X Z ms (.Assign [.Name y py] (.ListComp elt [⟨tg, iter, ifs, 0⟩] scope pos) spos) (tdSet i (tdLc ti t tt te (own.map (·.2)))) :=
  ps_imp (ps_setLc (i := i) hc hN hy hyl hsw hi ok hg ht he hs) (lS fun U G σd De mv D σ H R m p q o => by
    refine lc_imp hm ⟨U, G, σd, _, R, q, fun r σ1 v H1 U1 G1 q1 e1 R1 => ?_⟩
    have pm : ∀ y, Pin mv (σ.set i y) := fun y => p.set (by rw [m]; exact him)
    cases r with
    | t t => exact o.nx _ _ _ _ _ q1 e1 (Rep.store' R1 i) (pm _)
    | pl j =>
      dsimp only at q1
      cases z : σ1[j]? with
      | none => rw [z] at q1; exact q1.elim
      | some x =>
        cases x with
        | none => rw [z] at q1; exact q1.elim
        | some t =>
          rw [z] at q1
          obtain ⟨U2, G2, v', e2, R2, h1, d1⟩ := R1.1.freezeAt z
          have h2 := R1.2
          rw [h1] at h2; cases h2
          exact o.nx _ _ _ _ _ q1 (e1.trans e2) (Rep.store' (R2.topD d1) i) (pm _))
end
end M
/-! M6: calls, defs, methods, instances. -/
namespace M
open PySem L2
/-- results handed on as arguments: true: a slot's own object, taken out of its slot; false: frozen -/
def passA : List Bool → List RV → Sd → (List T → Sd → Prop) → Prop
  | [], [], σ, K => K [] σ
  | false :: ms, .t t :: rs, σ, K => passA ms rs σ fun ts σ' => K (.fz t.er :: ts) σ'
  | false :: ms, .pl i :: rs, σ, K => match σ[i]? with
    | some (some t) => passA ms rs (σ.set i (some (.fz t.er))) fun ts σ' => K (.fz t.er :: ts) σ'
    | _ => False
  | true :: ms, .pl i :: rs, σ, K => match σ[i]? with
    | some (some t) => passA ms rs (σ.set i none) fun ts σ' => K (t :: ts) σ'
    | _ => False
  | _, _, _, _ => False
/-- .. and put back -/
def putA : List Bool → List RV → List (Option T) → Sd → Sd
  | true :: ms, .pl i :: rs, x :: fin, σ => putA ms rs fin (σ.set i x)
  | _ :: ms, _ :: rs, _ :: fin, σ => putA ms rs fin σ
  | _, _, _, σ => σ
structure Parts (w : World) (Z : Amb) (U G : Hp) (vs : List V) (ts : List T) (σ : St) (H : Hp) (σd : Sd) (F1 F2 : List Addr) : Prop where
  zg : Am Z U G H
  gu : HLe G U
  uh : HLe U H
  own : Owns w G H vs ts F1
  slots : Slots w G H σ σd F2
  nd : (F1 ++ F2).Nodup
  nu : ∀ a ∈ F1 ++ F2, U a = none
theorem pass_run {w : World} {Z : Amb} {H : Hp} {σ : St} : ∀ {ms : List Bool} {rs : List RV} {vs : List V} {U G : Hp} {σd : Sd} {K : List T → Sd → Prop}, Rep w Z U G σ H σd → Hlds w G σ vs rs → passA ms rs σd K →
    ∃ U' G' ts σd2 F1 F2, Ext U G U' G' ∧ Parts w Z U' G' vs ts σ H σd2 F1 F2 ∧ K ts σd2
  | [], [], _, U, G, σd, K, R, .nil, q => by
    obtain ⟨F, s, nd, nu⟩ := R.ow
    exact ⟨U, G, [], σd, [], F, .refl _ _, ⟨R.zg, R.gu, R.uh, .nil, s, nd, nu⟩, q⟩
  | [], _ :: _, _, _, _, _, _, _, _, q => q.elim
  | true :: _, [], _, _, _, _, _, _, _, q => q.elim
  | false :: _, [], _, _, _, _, _, _, _, q => q.elim
  | true :: _, .t _ :: _, _, _, _, _, _, _, _, q => q.elim
  | false :: ms, .t t :: rs, _, U, G, σd, K, R, .cons h hs, q => by
    obtain ⟨U', G', ts, σ2, F1, F2, e, P, k⟩ := pass_run (ms := ms) R hs q
    exact ⟨U', G', _, σ2, F1, F2, e, ⟨P.zg, P.gu, P.uh, .cons (F := []) (.fz (DR.le e.g h)) P.own, P.slots, P.nd, P.nu⟩, k⟩
  | false :: ms, .pl i :: rs, _, U, G, σd, K, R, .cons (v := v) h hs, q => by
    dsimp only [passA] at q
    cases z : σd[i]? with
    | none => rw [z] at q; exact q.elim
    | some x =>
      cases x with
      | none => rw [z] at q; exact q.elim
      | some t =>
        rw [z] at q
        obtain ⟨U1, G1, v', e1, R1, h1, d1⟩ := R.freezeAt z
        have h' : σ[i]? = some (some v) := h
        rw [h'] at h1; cases h1
        obtain ⟨U', G', ts, σ2, F1, F2, e, P, k⟩ := pass_run (ms := ms) R1 (hs.le e1.g) q
        exact ⟨U', G', _, σ2, F1, F2, e1.trans e, ⟨P.zg, P.gu, P.uh, .cons (F := []) (.fz (DR.le e.g d1)) P.own, P.slots, P.nd, P.nu⟩, k⟩
  | true :: ms, .pl i :: rs, _, U, G, σd, K, R, .cons (v := v) h hs, q => by
    dsimp only [passA] at q
    cases z : σd[i]? with
    | none => rw [z] at q; exact q.elim
    | some x =>
      cases x with
      | none => rw [z] at q; exact q.elim
      | some t =>
        rw [z] at q
        obtain ⟨v', h1, R1⟩ := R.lift z
        have h' : σ[i]? = some (some v) := h
        rw [h'] at h1; cases h1
        obtain ⟨F, oF, nF, nw, R2⟩ := R1.guard
        obtain ⟨U', G', ts, σ2, F1, F2, e, P, k⟩ := pass_run (ms := ms) R2 hs q
        obtain ⟨e2, gu2, uu, hF⟩ := unguard R1.gu nw oF.dom e P.gu
        have dis : ∀ a ∈ F, a ∉ F1 ++ F2 := fun a ha hb => by
          obtain ⟨o, ho⟩ := oF.dom a ha
          have := hF a ha o ho
          rw [P.nu a hb] at this; cases this
        refine ⟨_, G', _, σ2, F ++ F1, F2, e2, ⟨P.zg.re (.refl _) (fun b _ _ hu => cut_none hu) (fun _ _ e => e), gu2, uu.trans P.uh, .cons (oF.frame e2.g fun _ _ _ q => q) P.own, P.slots, ?_, fun a ha => ?_⟩, k⟩
        · rw [List.append_assoc, List.nodup_append]
          exact ⟨nF, P.nd, fun a ha b hb e' => dis a ha (e' ▸ hb)⟩
        · rw [List.append_assoc] at ha
          rcases List.mem_append.mp ha with ha | ha
          · exact cut_in ha
          · by_cases hf : a ∈ F
            · exact cut_in hf
            · rw [cut_out hf]; exact P.nu a ha
theorem set_same {σ : St} {i : Nat} {x : Option V} (h : σ[i]? = some x) : σ.set i x = σ := by
  apply List.ext_getElem?
  intro j
  by_cases hj : i = j
  · subst hj; rw [List.getElem?_set_self (getN h), h]
  · rw [List.getElem?_set_ne hj]
theorem Slots.store {w : World} {G H : Hp} {σ : St} {σd : Sd} {F Fi : List Addr} {v : V} {t : T} {i : Nat} (s : Slots w G H σ σd F) (h : Own w G H v t Fi) (hv : σ[i]? = some (some v)) (nd : (Fi ++ F).Nodup) :
    ∃ F', Slots w G H σ (σd.set i (some t)) F' ∧ F'.Nodup ∧ ∀ a ∈ F', a ∈ Fi ++ F := by
  have hi : i < σd.length := by rw [← s.length]; exact getN hv
  obtain ⟨F1, s1, sb⟩ := s.kill i none
  obtain ⟨F2, s2, pm⟩ := s1.put (i := i) (by rw [List.getElem?_set_self hi]) h
  rw [List.set_set, List.set_set, set_same hv] at s2
  refine ⟨F2, s2, pm.nodup_iff.mpr ((List.Sublist.append_left sb Fi).nodup nd), fun a ha => ?_⟩
  rcases List.mem_append.mp (pm.mem_iff.mp ha) with q | q
  · exact List.mem_append_left _ q
  · exact List.mem_append_right _ (sb.subset q)
theorem put_run {w : World} {G H : Hp} {σ : St} : ∀ {ms : List Bool} {rs : List RV} {vs : List V} {fin : List (Option T)} {σd : Sd} {F1 F2 : List Addr}, Slots w G H (vs.map some) fin F1 → Slots w G H σ σd F2 → (F1 ++ F2).Nodup → (∀ (j i : Nat) (v : V), rs[j]? = some (RV.pl i) → vs[j]? = some v → σ[i]? = some (some v)) →
    ∃ F, Slots w G H σ (putA ms rs fin σd) F ∧ F.Nodup ∧ ∀ a ∈ F, a ∈ F1 ++ F2
  | [], rs, vs, fin, σd, F1, F2, s1, s2, nd, k => ⟨F2, by cases rs <;> cases fin <;> exact s2, (List.nodup_append.mp nd).2.1, fun a ha => List.mem_append_right _ ha⟩
  | b :: ms, [], vs, fin, σd, F1, F2, s1, s2, nd, k => ⟨F2, by cases b <;> exact s2, (List.nodup_append.mp nd).2.1, fun a ha => List.mem_append_right _ ha⟩
  | b :: ms, r :: rs, [], [], σd, F1, F2, s1, s2, nd, k => ⟨F2, by cases b <;> cases r <;> exact s2, (List.nodup_append.mp nd).2.1, fun a ha => List.mem_append_right _ ha⟩
  | b :: ms, r :: rs, [], _ :: _, σd, F1, F2, s1, s2, nd, k => by cases s1
  | b :: ms, r :: rs, _ :: _, [], σd, F1, F2, s1, s2, nd, k => by cases s1
  | b :: ms, r :: rs, v :: vs, x :: fin, σd, F1, F2, s1, s2, nd, k => by
    have k' : ∀ (j i : Nat) (v : V), rs[j]? = some (RV.pl i) → vs[j]? = some v → σ[i]? = some (some v) := fun j i u h1 h2 => k (j + 1) i u (by simpa using h1) (by simpa using h2)
    have skip : ∀ {Fx : List Addr}, Slots w G H (vs.map some) fin Fx → (Fx ++ F2).Nodup → (∀ a ∈ Fx, a ∈ F1) → ∃ F, Slots w G H σ (putA ms rs fin σd) F ∧ F.Nodup ∧ ∀ a ∈ F, a ∈ F1 ++ F2 := fun {Fx} s n h => by
      obtain ⟨F, a, b, c⟩ := put_run (ms := ms) s s2 n k'
      refine ⟨F, a, b, fun y hy => ?_⟩
      rcases List.mem_append.mp (c y hy) with q | q
      · exact List.mem_append_left _ (h y q)
      · exact List.mem_append_right _ q
    cases s1 with
    | no s1 =>
      have go : ∃ F, Slots w G H σ (putA ms rs fin σd) F ∧ F.Nodup ∧ ∀ a ∈ F, a ∈ F1 ++ F2 := skip s1 nd fun _ h => h
      cases b with
      | false => cases r <;> exact go
      | true =>
        cases r with
        | t t => exact go
        | pl i =>
          have hv := k 0 i v rfl rfl
          obtain ⟨F3, s3, sb⟩ := s2.kill i (some v)
          rw [set_same hv] at s3
          obtain ⟨F, a, b, c⟩ := put_run (ms := ms) s1 s3 ((List.Sublist.append_left sb F1).nodup nd) k'
          refine ⟨F, a, b, fun y hy => ?_⟩
          rcases List.mem_append.mp (c y hy) with q | q
          · exact List.mem_append_left _ q
          · exact List.mem_append_right _ (sb.subset q)
    | @so _ t Fa _ _ Fb h s1 =>
      rw [List.append_assoc] at nd
      have nd' := List.nodup_append.mp nd
      have go : ∃ F, Slots w G H σ (putA ms rs fin σd) F ∧ F.Nodup ∧ ∀ a ∈ F, a ∈ (Fa ++ Fb) ++ F2 := skip s1 nd'.2.1 fun _ h => List.mem_append_right _ h
      cases b with
      | false => cases r <;> exact go
      | true =>
        cases r with
        | t t => exact go
        | pl i =>
          have hv := k 0 i v rfl rfl
          have nd2 : (Fa ++ F2).Nodup := by
            rw [List.nodup_append]
            exact ⟨nd'.1, (List.nodup_append.mp nd'.2.1).2.1, fun a ha b hb => nd'.2.2 a ha b (List.mem_append_right _ hb)⟩
          obtain ⟨F3, s3, n3, c3⟩ := s2.store h hv nd2
          have nd3 : (Fb ++ F3).Nodup := by
            rw [List.nodup_append]
            refine ⟨(List.nodup_append.mp nd'.2.1).1, n3, fun a ha b hb e => ?_⟩
            rcases List.mem_append.mp (c3 b hb) with q | q
            · exact nd'.2.2 b q a (List.mem_append_left _ ha) e.symm
            · exact (List.nodup_append.mp nd'.2.1).2.2 a ha b q e
          obtain ⟨F, a, b, c⟩ := put_run (ms := ms) s1 s3 nd3 k'
          refine ⟨F, a, b, fun y hy => ?_⟩
          rcases List.mem_append.mp (c y hy) with q | q
          · exact List.mem_append_left _ (List.mem_append_right _ q)
          · rcases List.mem_append.mp (c3 y q) with q | q
            · exact List.mem_append_left _ (List.mem_append_left _ q)
            · exact List.mem_append_right _ q
abbrev Z0 : Amb := ⟨fun _ => none, []⟩
/-- a def's promise over data: from the arguments' trees, the result's tree and what the arguments' own objects are then -/
abbrev SpD := List T → (T → List (Option T) → Prop) → Prop
def spOf (w : World) (Z : Amb) (n : Nat) (S : SpD) : Sp := fun vs H Q _ => ∃ U G ts K, ts.length = n ∧ Rep w Z U G (vs.map some) H (ts.map some) ∧ S ts K ∧
  ∀ t fin v H' U' G', K t fin → Ext U G U' G' → Rep w Z U' G' (some v :: vs.map some) H' (some t :: fin) → Q v H'
theorem spOf_len {w : World} {Z : Amb} {n : Nat} {S : SpD} : ∀ vs H Q E, spOf w Z n S vs H Q E → vs.length = n := fun vs H Q E ⟨U, G, ts, K, hl, R, _⟩ => by
  have := R.length
  simp at this
  omega
theorem Owns.slots {w : World} {G H : Hp} : ∀ {vs ts F}, Owns w G H vs ts F → Slots w G H (vs.map some) (ts.map some) F
  | _, _, _, .nil => .nil
  | _, _, _, .cons h r => .so h (Owns.slots r)
theorem Owns.length {w : World} {G H : Hp} : ∀ {vs ts F}, Owns w G H vs ts F → vs.length = ts.length
  | _, _, _, .nil => rfl
  | _, _, _, .cons _ r => congrArg (· + 1) r.length
theorem DRs.owns {w : World} {G H : Hp} : ∀ {us : List V} {es : List D}, DRs w G us es → Owns w G H us (es.map .fz) []
  | _, _, .nil => .nil
  | _, _, .cons h r => .cons (F := []) (F' := []) (.fz h) (DRs.owns r)
theorem Owns.app {w : World} {G H : Hp} {us : List V} {es : List D} (s : DRs w G us es) : ∀ {vs ts F}, Owns w G H vs ts F → Owns w G H (vs ++ us) (ts ++ es.map .fz) F
  | _, _, _, .nil => s.owns
  | _, _, _, .cons h r => .cons h (Owns.app s r)
/-- the heart of a call: the arguments handed on, the promise, what is put back -/
theorem call_core {w : World} {Z : Amb} {U G H : Hp} {σ : St} {σd : Sd} {vs dv : List V} {dd : List D} {rs : List RV} {ms : List Bool} {n : Nat} {S : SpD} {K : RV → Sd → Prop} {Q : VK} {E : XK} (R : Rep w Z U G σ H σd) (hs : Hlds w G σ vs rs) (hd : ∀ G, DRs w G dv dd)
    (hn : rs.length + dd.length = n) (q : passA ms rs σd fun ts σ2 => S (ts ++ dd.map .fz) fun t fin => K (.t t) (putA ms rs fin σ2)) (k : ∀ r σd' v H' U' G', K r σd' → Ext U G U' G' → Res w Z U' G' σ H' σd' v r → Q v H') : spOf w Z n S (vs ++ dv) H Q E := by
  obtain ⟨U1, G1, ts, σ2, F1, F2, e1, P, q⟩ := pass_run R hs q
  have ndp := List.nodup_append.mp P.nd
  have nw : ∀ b ∈ F2, U1 b = none := fun b hb => P.nu b (List.mem_append_right _ hb)
  have own := P.own.app (hd G1)
  refine ⟨mix F2 H U1, G1, _, _, ?_, ⟨P.zg.re (.refl _) (fun b ps hb hu => by rw [mix_out (fun q => P.slots.ntbl b q ps hb)]; exact hu) (fun _ _ e => e), P.gu.trans (guard_le nw), guard_uh P.uh, F1, own.slots, ndp.1, fun a ha => ?_⟩, q, fun t fin v H' U' G' hk e R' => ?_⟩
  · have h1 := hs.length
    have h2 := P.own.length
    simp
    omega
  · have : a ∉ F2 := fun hb => ndp.2.2 a ha a hb rfl
    rw [mix_out this]
    exact P.nu a (List.mem_append_left _ ha)
  · obtain ⟨e2, gu2, uu, hF⟩ := unguard P.gu nw P.slots.dom e R'.gu
    obtain ⟨F, s, nd, nu⟩ := R'.ow
    have s2 := P.slots.frame e2.g fun b hb o h => R'.uh b o (hF b hb o h)
    have disj : ∀ a ∈ F, a ∉ F2 := fun a ha hb => by
      obtain ⟨o, ho⟩ := P.slots.dom a hb
      have := hF a hb o ho
      rw [nu a ha] at this; cases this
    cases s with
    | @so _ _ Fv _ _ Ff h s =>
      have nd' := List.nodup_append.mp nd
      have hk2 : ∀ (j i : Nat) (v : V), rs[j]? = some (RV.pl i) → (vs ++ dv)[j]? = some v → σ[i]? = some (some v) := fun j i v h1 h2 => by
        have : ∀ {vs : List V} {rs : List RV} {G : Hp}, Hlds w G σ vs rs → ∀ (j : Nat), rs[j]? = some (RV.pl i) → (vs ++ dv)[j]? = some v → σ[i]? = some (some v) := by
          intro vs rs G hs
          induction hs with
          | nil => intro j h1; simp at h1
          | cons hh _ ih =>
            intro j h1 h2
            cases j with
            | zero =>
              simp at h1 h2
              subst h1; subst h2
              exact hh
            | succ j => exact ih j (by simpa using h1) (by simpa using h2)
        exact this hs j h1 h2
      have nf : (Ff ++ F2).Nodup := by
        rw [List.nodup_append]
        exact ⟨nd'.2.1, ndp.2.1, fun a ha b hb e => disj a (List.mem_append_right _ ha) (e ▸ hb)⟩
      obtain ⟨F3, s3, n3, c3⟩ := put_run (ms := ms) (rs := rs) s s2 nf hk2
      refine k _ _ v H' (cut F2 U') G' hk (e1.trans e2) ⟨R'.zg.re (.refl _) (fun b _ _ hu => cut_none hu) (fun _ _ e => e), gu2, uu.trans R'.uh, Fv ++ F3, .so h s3, ?_, fun a ha => ?_⟩
      · rw [List.nodup_append]
        refine ⟨nd'.1, n3, fun a ha b hb e => ?_⟩
        rcases List.mem_append.mp (c3 b hb) with q | q
        · exact nd'.2.2 a ha b q e
        · exact disj a (List.mem_append_left _ ha) (e ▸ q)
      · have : a ∈ Fv ++ Ff ∨ a ∈ F2 := by
          rcases List.mem_append.mp ha with q | q
          · exact .inl (List.mem_append_left _ q)
          · rcases List.mem_append.mp (c3 a q) with q | q
            · exact .inl (List.mem_append_right _ q)
            · exact .inr q
        by_cases hf : a ∈ F2
        · exact cut_in hf
        · rw [cut_out hf]
          rcases this with q | q
          · exact nu a q
          · exact absurd q hf

section
variable {X : Cx} {Z : Amb} {ms : List Nat} {e o : Expr} {es : List Expr} {te to : TEd} {ta : TAd} {pos p apos : Pos} {CX : CXT} {k : Nat} {f C : Addr} {fd : FuncData} {ps : List Str} {ds : List Value} {x m : Str} {E : XK} {S : SpD} {mds : List Bool} {dv : List V} {dd : List D} {n : Nat}
/-- f(..) -/
def tdCall (mds : List Bool) (dd : List D) (n : Nat) (S : SpD) (ta : TAd) : TEd := fun σ K => ta σ fun rs σ1 => rs.length + dd.length = n ∧ passA mds rs σ1 fun ts σ2 => S (ts ++ dd.map .fz) fun t fin => K (.t t) (putA mds rs fin σ2)
theorem call_imp (hd : ∀ G, DRs X.w G dv dd) {σ : St} {H : Hp} {Q : VK} (h : liftE X.w Z (tdCall mds dd n S ta) σ H Q) : tCall (spOf X.w Z n S) dv E (liftA X.w Z ta) σ H Q := by
  obtain ⟨U, G, σd, K, R, q, kk⟩ := h
  refine ⟨U, G, σd, _, R, q, fun rs σ1 vs H1 U1 G1 q1 e1 R1 hs => ?_⟩
  exact call_core R1 hs hd q1.1 q1.2 fun r σ2 v H2 U2 G2 q2 e2 R2 => kk r σ2 v H2 U2 G2 q2 (e1.trans e2) R2
theorem pd_call (F : FnOk X.prog X.w X.K X.mg X.base CX k f fd ps (spOf X.w Z n S)) (hr : Room k X.A) (hg : Gl X x) (hm : X.mg x = some (.ref f)) (hk : PySem.W.keepIn X.K (.ref f) = true) (hb : Binds X.K fd ps ds) (hd : Vals dv ds) (hx : Passes CX X E) (hdd : ∀ G, DRs X.w G dv dd)
    (ha : PAd X Z (e :: es) ta) (hdb : (x == ("__debug__" : Str)) = false := by decide) (he : starEach (e :: es) X.env = (false, eval e X.env) :: starEach es X.env := by rfl) (hpl : (backTo pos (starEach es X.env)).any (·.1) = false := by rfl) : PEd X Z (.Call (.Name x p) (e :: es) [] pos) (tdCall mds dd n S ta) :=
  pe_imp (pe_call F hr hg hm hk hb hd hx ha hdb he hpl) fun _ _ _ h => call_imp hdd h
theorem pd_call0 (F : FnOk X.prog X.w X.K X.mg X.base CX k f fd ps (spOf X.w Z n S)) (hr : Room k X.A) (hg : Gl X x) (hm : X.mg x = some (.ref f)) (hk : PySem.W.keepIn X.K (.ref f) = true) (hb : Binds X.K fd ps ds) (hd : Vals dv ds) (hx : Passes CX X E) (hdd : ∀ G, DRs X.w G dv dd)
    (hdb : (x == ("__debug__" : Str)) = false := by decide) : PEd X Z (.Call (.Name x p) [] [] pos) (tdCall mds dd n S taNil) :=
  pe_imp (pe_call0 F hr hg hm hk hb hd hx hdb) fun σ H Q ⟨U, G, σd, K, R, q, kk⟩ => call_core (E := E) (rs := []) (vs := []) R .nil hdd q.1 q.2 kk
/-- an instance of the class at C without an attribute m -/
def isIns (C : Addr) (m : Str) (d : D) : Prop := match d with
  | .ins C' fs => C' = C ∧ m ∉ fs.map (·.1)
  | _ => False
theorem look_none {fs : List (Str × V)} {m : Str} (h : m ∉ fs.map (·.1)) : fs.lookup m = none := by
  induction fs with
  | nil => rfl
  | cons y r ih =>
    have h1 : m ≠ y.1 := fun e => h (by simp [e])
    have h2 : m ∉ r.map (·.1) := fun e => h (by simp at e ⊢; exact .inr e)
    obtain ⟨g, z⟩ := y
    have hb : (m == g) = false := beq_eq_false_iff_ne.mpr h1
    simp only [List.lookup, hb]
    exact ih h2
theorem isIns_run {w : World} {H : Hp} {v : V} {d : D} (h : DR w H v d) (i : isIns C m d) : ∃ a dx fs, v = .ref a ∧ H a = some (.ins C dx fs) ∧ fs.lookup m = none := by
  cases h with
  | ins h hk r =>
    obtain ⟨rfl, i⟩ := i
    exact ⟨_, _, _, rfl, h, look_none (by rw [hk]; exact i)⟩
  | _ => exact i.elim
/-- o.m(..) -/
def tdMeth (C : Addr) (m : Str) (mds : List Bool) (dd : List D) (n : Nat) (S : SpD) (to : TEd) (ta : TAd) : TEd := fun σ K => to σ fun r σ1 => bindO (rdE σ1 r) fun d => isIns C m d ∧ ta σ1 fun rs σ2 => (r :: rs).length + dd.length = n ∧ passA mds (r :: rs) σ2 fun ts σ3 => S (ts ++ dd.map .fz) fun t fin => K (.t t) (putA mds (r :: rs) fin σ3)
theorem meth_imp {tr : TA} {σ : St} {H : Hp} {Q : VK} (hd : ∀ G, DRs X.w G dv dd) (ht : ∀ σ H Q, liftA X.w Z ta σ H Q → tr σ H Q) (h : liftE X.w Z (tdMeth C m mds dd n S to ta) σ H Q) : tMeth C m (spOf X.w Z n S) dv E (liftE X.w Z to) tr σ H Q := by
  obtain ⟨U, G, σd, K, R, q, kk⟩ := h
  refine ⟨U, G, σd, _, R, q, fun r σ1 v H1 U1 G1 q1 e1 R1 => ?_⟩
  obtain ⟨U2, G2, e2, R2, h2⟩ := R1.hold
  obtain ⟨d, z, q1⟩ := bindO_ex q1
  obtain ⟨a, dx, fs, rfl, ha, hl⟩ := isIns_run (h2.er R2 z) q1.1
  refine ⟨a, dx, fs, rfl, ha, hl, ht _ _ _ ⟨U2, G2, σ1, _, R2, q1.2, fun rs σ2 vs H3 U3 G3 q3 e3 R3 hs => ?_⟩⟩
  have := call_core (E := E) R3 (.cons (h2.le e3.g) hs) hd q3.1 q3.2 fun r σ4 v H4 U4 G4 q4 e4 R4 => kk r σ4 v H4 U4 G4 q4 (((e1.trans e2).trans e3).trans e4) R4
  exact this
theorem pd_meth {pl : Sem Bool} (ho : PEd X Z o to) (c : Cls X.K C) (hm : Meth X.K C m f) (F : FnOk X.prog X.w X.K X.mg X.base CX k f fd ps (spOf X.w Z n S)) (hr : Room k X.A) (hb : Binds X.K fd ps ds) (hd : Vals dv ds) (hx : Passes CX X E) (hdd : ∀ G, DRs X.w G dv dd) (ha : PAd X Z (e :: es) ta)
    (hst : starEach (e :: es) X.env = (false, eval e X.env) :: starEach es X.env := by rfl) (hpl : (backTo pos (starEach es X.env)).any (·.1) = false := by rfl)
    (ht : eval (.Call (.Attribute o m apos) (e :: es) [] pos) X.env = (do
      let ov ← eval o X.env
      standAt apos.atName
      let (f, first) ← holding [ov] (getMethod ov m pl)
      callWith pos f first (backTo pos (starEach (e :: es) X.env)) (backToKw pos (keywordEach [] X.env))) := by rfl) : PEd X Z (.Call (.Attribute o m apos) (e :: es) [] pos) (tdMeth C m mds dd n S to ta) :=
  pe_imp (pe_meth (pl := pl) ho c hm F hr hb hd hx ha hst hpl ht) fun _ _ _ h => meth_imp hdd (fun _ _ _ h => h) h
theorem pd_meth0 {pl : Sem Bool} (ho : PEd X Z o to) (c : Cls X.K C) (hm : Meth X.K C m f) (F : FnOk X.prog X.w X.K X.mg X.base CX k f fd ps (spOf X.w Z n S)) (hr : Room k X.A) (hb : Binds X.K fd ps ds) (hd : Vals dv ds) (hx : Passes CX X E) (hdd : ∀ G, DRs X.w G dv dd)
    (ht : eval (.Call (.Attribute o m apos) [] [] pos) X.env = (do
      let ov ← eval o X.env
      standAt apos.atName
      let (f, first) ← holding [ov] (getMethod ov m pl)
      callWith pos f first (backTo pos (starEach [] X.env)) (backToKw pos (keywordEach [] X.env))) := by rfl) : PEd X Z (.Call (.Attribute o m apos) [] [] pos) (tdMeth C m mds dd n S to taNil) :=
  pe_imp (pe_meth0 (pl := pl) ho c hm F hr hb hd hx ht) fun _ _ _ h => meth_imp hdd (fun σ H Q ⟨U, G, σd, K, R, q, kk⟩ => kk [] σd [] H U G q (.refl _ _) R .nil) h
/-- C(..) -/
def tdMake (C : Addr) (mds : List Bool) (dd : List D) (n : Nat) (S : SpD) (ta : TAd) : TEd := fun σ K => ta σ fun rs σ1 => rs.length + dd.length + 1 = n ∧ passA mds rs σ1 fun ts σ2 => S (.ob C [] :: (ts ++ dd.map .fz)) fun t fin => match t, fin with
  | .fz .non, some o :: fin => K (.t o) (putA mds rs fin σ2)
  | _, _ => False
theorem make_imp {tr : TA} {σ : St} {H : Hp} {Q : VK} (hd : ∀ G, DRs X.w G dv dd) (ht : ∀ σ H Q, liftA X.w Z ta σ H Q → tr σ H Q) (h : liftE X.w Z (tdMake C mds dd n S ta) σ H Q) : tMake C (spOf X.w Z n S) dv E tr σ H Q := by
  obtain ⟨U, G, σd, K, R, q, kk⟩ := h
  refine ht _ _ _ ⟨U, G, σd, _, R, q, fun rs σ1 vs H1 U1 G1 q1 e1 R1 hs => ?_⟩
  intro x dx hx hdx hne
  obtain ⟨hn, q1⟩ := q1
  -- the arguments
  obtain ⟨U2, G2, ts, σ2, F1, F2, e2, P, q2⟩ := pass_run R1 hs q1
  have ndp := List.nodup_append.mp P.nd
  have nw : ∀ b ∈ F2, U2 b = none := fun b hb => P.nu b (List.mem_append_right _ hb)
  have own := P.own.app (hd G2)
  have l0 : HLe H1 (upd H1 dx (.own x)) := .upd hdx
  have hx1 : upd H1 dx (.own x) x = none := by rw [upd_ne (Ne.symm hne)]; exact hx
  have l1 : HLe H1 (upd (upd H1 dx (.own x)) x (.ins C dx [])) := l0.trans (.upd hx1)
  have d1 : ∀ a ∈ F1, a ≠ x := fun a ha e => by
    obtain ⟨o, ho⟩ := P.own.dom a ha
    rw [e, hx] at ho; cases ho
  have d2 : ∀ a ∈ F2, a ≠ x := fun a ha e => by
    obtain ⟨o, ho⟩ := P.slots.dom a ha
    rw [e, hx] at ho; cases ho
  have ux : U2 x = none := P.uh.none hx
  refine ⟨mix F2 H1 U2, G2, .ob C [] :: (ts ++ dd.map .fz), _, ?_, ⟨P.zg.re (.refl _) (fun b ps hb hu => by rw [mix_out (fun q => P.slots.ntbl b q ps hb)]; exact hu) (fun b ps e => l1 _ _ e), P.gu.trans (guard_le nw), (guard_uh P.uh).trans l1, [x] ++ F1, ?_, ?_, fun a ha => ?_⟩, q2, fun t fin v H' U' G' hk e R' => ?_⟩
  · have h1 := hs.length
    have h2 := P.own.length
    simp
    omega
  · exact .so (.ob (F := []) upd_same rfl .nil) (own.slots.frame (.refl _) fun b _ o h => l1 b o h)
  · exact List.nodup_cons.mpr ⟨fun h => d1 x h rfl, ndp.1⟩
  · rcases List.mem_append.mp ha with ha | ha
    · simp at ha
      subst ha
      rw [mix_out (fun hb => d2 a hb rfl)]
      exact ux
    · rw [mix_out fun hb => ndp.2.2 a ha a hb rfl]
      exact P.nu a (List.mem_append_left _ ha)
  · -- behind __init__
    cases t with
    | fz d =>
      cases d with
      | non =>
        cases fin with
        | nil => exact hk.elim
        | cons y fin =>
          cases y with
          | none => exact hk.elim
          | some o =>
            obtain ⟨e3, gu2, uu, hF⟩ := unguard (H := H1) P.gu nw P.slots.dom e R'.gu
            obtain ⟨F, s, nd, nu⟩ := R'.ow
            have s2 := P.slots.frame (H' := H') e3.g fun b hb o h => R'.uh b o (hF b hb o h)
            have disj : ∀ a ∈ F, a ∉ F2 := fun a ha hb => by
              obtain ⟨o, ho⟩ := P.slots.dom a hb
              have := hF a hb o ho
              rw [nu a ha] at this; cases this
            cases s with
            | @so _ _ Fv _ _ Ff h s =>
              cases h with
              | fz h =>
                cases h
                refine ⟨rfl, ?_⟩
                cases s with
                | @so _ _ Fo _ _ Fr ho s =>
                  have nd' := List.nodup_append.mp (show (Fo ++ Fr).Nodup from nd)
                  have hk2 : ∀ (j i : Nat) (v : V), rs[j]? = some (RV.pl i) → (vs ++ dv)[j]? = some v → σ[i]? = some (some v) := fun j i v h1 h2 => by
                    have : ∀ {vs : List V} {rs : List RV} {G : Hp}, Hlds X.w G σ vs rs → ∀ (j : Nat), rs[j]? = some (RV.pl i) → (vs ++ dv)[j]? = some v → σ[i]? = some (some v) := by
                      intro vs rs G hs
                      induction hs with
                      | nil => intro j h1; simp at h1
                      | cons hh _ ih =>
                        intro j h1 h2
                        cases j with
                        | zero =>
                          simp at h1 h2
                          subst h1; subst h2
                          exact hh
                        | succ j => exact ih j (by simpa using h1) (by simpa using h2)
                    exact this hs j h1 h2
                  have nf : (Fr ++ F2).Nodup := by
                    rw [List.nodup_append]
                    exact ⟨nd'.2.1, ndp.2.1, fun a ha b hb e => disj a (by simp [ha]) (e ▸ hb)⟩
                  obtain ⟨F3, s3, n3, c3⟩ := put_run (ms := mds) (rs := rs) s s2 nf hk2
                  refine kk _ _ _ H' (cut F2 U') G' hk ((e1.trans e2).trans e3) ⟨R'.zg.re (.refl _) (fun b _ _ hu => cut_none hu) (fun _ _ e => e), gu2, uu.trans R'.uh, Fo ++ F3, .so ho s3, ?_, fun a ha => ?_⟩
                  · rw [List.nodup_append]
                    refine ⟨nd'.1, n3, fun a ha b hb e => ?_⟩
                    rcases List.mem_append.mp (c3 b hb) with q | q
                    · exact nd'.2.2 a ha b q e
                    · exact disj a (by simp [ha]) (e ▸ q)
                  · by_cases hf : a ∈ F2
                    · exact cut_in hf
                    · rw [cut_out hf]
                      refine nu a ?_
                      rcases List.mem_append.mp ha with q | q
                      · simp [q]
                      · rcases List.mem_append.mp (c3 a q) with q | q
                        · simp [q]
                        · exact absurd q hf
      | _ => exact hk.elim
    | _ => exact hk.elim
theorem pd_make (mk : Mk X.K C f) (F : FnOk X.prog X.w X.K X.mg X.base CX k f fd ps (spOf X.w Z n S)) (hr : Room (k + 1) X.A) (hg : Gl X x) (hm : X.mg x = some (.ref C)) (hb : Binds X.K fd ps ds) (hd : Vals dv ds) (hx : Passes CX X E) (hdd : ∀ G, DRs X.w G dv dd)
    (ha : PAd X Z (e :: es) ta) (hdb : (x == ("__debug__" : Str)) = false := by decide) (he : starEach (e :: es) X.env = (false, eval e X.env) :: starEach es X.env := by rfl) (hpl : (backTo pos (starEach es X.env)).any (·.1) = false := by rfl) : PEd X Z (.Call (.Name x p) (e :: es) [] pos) (tdMake C mds dd n S ta) :=
  pe_imp (pe_make mk F hr hg hm hb hd hx ha hdb he hpl) fun _ _ _ h => make_imp hdd (fun _ _ _ h => h) h
theorem pd_make0 (mk : Mk X.K C f) (F : FnOk X.prog X.w X.K X.mg X.base CX k f fd ps (spOf X.w Z n S)) (hr : Room (k + 1) X.A) (hg : Gl X x) (hm : X.mg x = some (.ref C)) (hb : Binds X.K fd ps ds) (hd : Vals dv ds) (hx : Passes CX X E) (hdd : ∀ G, DRs X.w G dv dd)
    (hdb : (x == ("__debug__" : Str)) = false := by decide) : PEd X Z (.Call (.Name x p) [] [] pos) (tdMake C mds dd n S taNil) :=
  pe_imp (pe_make0 mk F hr hg hm hb hd hx hdb) fun _ _ _ h => make_imp hdd (fun σ H Q ⟨U, G, σd, K, R, q, kk⟩ => kk [] σd [] H U G q (.refl _ _) R .nil) h
end
end M
/-! M7: a def by its body; attributes. -/
namespace M
open PySem PyProof.Rows L2
/-- what a def's own-object arguments are at its end -/
def finM : List Bool → Sd → List (Option T)
  | [], _ => []
  | b :: bs, x :: σ => (if b = true then x else none) :: finM bs σ
  | _ :: bs, [] => none :: finM bs []
def trues : Nat → List Bool → List Nat
  | _, [] => []
  | n, true :: bs => n :: trues (n + 1) bs
  | n, false :: bs => trues (n + 1) bs
def mvOf : Nat → List Bool → List V → List (Nat × V)
  | n, true :: bs, v :: vs => (n, v) :: mvOf (n + 1) bs vs
  | n, false :: bs, _ :: vs => mvOf (n + 1) bs vs
  | _, _, _ => []
theorem mvOf_fst : ∀ (n : Nat) (bs : List Bool) (vs : List V), vs.length = bs.length → (mvOf n bs vs).map (·.1) = trues n bs
  | _, [], [], _ => rfl
  | _, [], _ :: _, h => by simp at h
  | _, _ :: _, [], h => by simp at h
  | n, true :: bs, v :: vs, h => by
    show n :: (mvOf (n + 1) bs vs).map (·.1) = n :: trues (n + 1) bs
    rw [mvOf_fst (n + 1) bs vs (by simpa using h)]
  | n, false :: bs, v :: vs, h => by
    show (mvOf (n + 1) bs vs).map (·.1) = trues (n + 1) bs
    rw [mvOf_fst (n + 1) bs vs (by simpa using h)]
theorem mvOf_mem : ∀ (n : Nat) (bs : List Bool) (vs : List V) (p : Nat × V), p ∈ mvOf n bs vs → ∃ j, p.1 = n + j ∧ bs[j]? = some true ∧ vs[j]? = some p.2
  | _, [], vs, p, h => by cases vs <;> cases h
  | _, true :: _, [], p, h => by cases h
  | _, false :: _, [], p, h => by cases h
  | n, true :: bs, v :: vs, p, h => by
    rcases List.mem_cons.mp h with rfl | h
    · exact ⟨0, rfl, rfl, rfl⟩
    · obtain ⟨j, h1, h2, h3⟩ := mvOf_mem (n + 1) bs vs p h
      exact ⟨j + 1, by omega, by simpa using h2, by simpa using h3⟩
  | n, false :: bs, v :: vs, p, h => by
    obtain ⟨j, h1, h2, h3⟩ := mvOf_mem (n + 1) bs vs p h
    exact ⟨j + 1, by omega, by simpa using h2, by simpa using h3⟩
theorem mem_mvOf : ∀ (n : Nat) (bs : List Bool) (vs : List V) (j : Nat) (v : V), bs[j]? = some true → vs[j]? = some v → (n + j, v) ∈ mvOf n bs vs
  | _, [], _, j, v, h, _ => by simp at h
  | _, _ :: _, [], j, v, _, h => by simp at h
  | n, b :: bs, u :: vs, 0, v, h1, h2 => by
    simp at h1 h2
    subst h1; subst h2
    exact List.mem_cons_self
  | n, true :: bs, u :: vs, j + 1, v, h1, h2 => by
    refine List.mem_cons_of_mem _ ?_
    have := mem_mvOf (n + 1) bs vs j v (by simpa using h1) (by simpa using h2)
    rw [show n + 1 + j = n + (j + 1) by omega] at this
    exact this
  | n, false :: bs, u :: vs, j + 1, v, h1, h2 => by
    have := mem_mvOf (n + 1) bs vs j v (by simpa using h1) (by simpa using h2)
    rw [show n + 1 + j = n + (j + 1) by omega] at this
    exact this
theorem finM_run {w : World} {G H : Hp} : ∀ {bs : List Bool} {vs : List V} {σ : L2.St} {σd : Sd} {F : List Addr}, Slots w G H σ σd F → vs.length = bs.length → (∀ (j : Nat) v, bs[j]? = some true → vs[j]? = some v → σ[j]? = some (some v)) →
    ∃ F', Slots w G H (vs.map some) (finM bs σd) F' ∧ List.Sublist F' F
  | [], [], _, _, F, s, _, _ => ⟨[], .nil, List.nil_sublist _⟩
  | [], _ :: _, _, _, _, _, h, _ => by simp at h
  | _ :: _, [], _, _, _, _, h, _ => by simp at h
  | b :: bs, v :: vs, _, _, _, .nil, hl, k => by
    obtain ⟨F', s', sb⟩ := finM_run (w := w) (G := G) (H := H) (bs := bs) (vs := vs) (σ := []) (σd := []) (F := []) .nil (by simpa using hl) fun j u h1 h2 => by
      have := k (j + 1) u (by simpa using h1) (by simpa using h2)
      simp at this
    exact ⟨F', .no s', sb⟩
  | b :: bs, v :: vs, _, _, _, .no s, hl, k => by
    obtain ⟨F', s', sb⟩ := finM_run (bs := bs) (vs := vs) s (by simpa using hl) fun j u h1 h2 => by simpa using k (j + 1) u (by simpa using h1) (by simpa using h2)
    refine ⟨F', ?_, sb⟩
    show Slots w G H _ ((if b = true then none else none) :: finM bs _) F'
    rw [ite_self]
    exact .no s'
  | b :: bs, v :: vs, _, _, _, .so (F := F1) h s, hl, k => by
    obtain ⟨F', s', sb⟩ := finM_run (bs := bs) (vs := vs) s (by simpa using hl) fun j u h1 h2 => by simpa using k (j + 1) u (by simpa using h1) (by simpa using h2)
    cases b with
    | true =>
      have := k 0 v rfl rfl
      simp at this
      subst this
      exact ⟨F1 ++ F', .so h s', List.Sublist.append_left sb F1⟩
    | false => exact ⟨F', .no s', sb.trans (List.sublist_append_right _ _)⟩
theorem start_rep {w : World} {Z : Amb} {U G H : Hp} {vs : List V} {ts : List T} (N : List Str) (R : Rep w Z U G (vs.map some) H (ts.map some)) : Rep w Z U G (L2.start N vs) H (ts.map some ++ List.replicate (N.length - ts.length) none) := by
  obtain ⟨F, s, nd, nu⟩ := R.ow
  have hl : vs.length = ts.length := by have := R.length; simpa using this
  have := s.app (Slots.nones (w := w) (G := G) (H := H) (List.replicate (N.length - vs.length) (none : Option V)))
  rw [List.length_replicate, List.append_nil, hl] at this
  refine ⟨R.zg, R.gu, R.uh, F, ?_, nd, nu⟩
  unfold L2.start
  rw [hl]
  exact this
section
variable {P : Program} {w : World} {K : PySem.W.Frag} {mg : Str → Option Value} {base : Heap}
theorem finM_rep {bs : List Bool} {vs : List V} {U' G' H' : Hp} {σ' : L2.St} {σd' : Sd} {v : V} {t : T} (hl : vs.length = bs.length) (R : Rep w Z U' G' (some v :: σ') H' (some t :: σd')) (p : Pin (mvOf 0 bs vs) σ') : Rep w Z U' G' (some v :: vs.map some) H' (some t :: finM bs σd') := by
  obtain ⟨F, s, nd, nu⟩ := R.ow
  cases s with
  | @so _ _ Fv _ _ F2 h s =>
    obtain ⟨F', s', sb⟩ := finM_run s hl fun j u h1 h2 => by
      have := p _ (mem_mvOf 0 bs vs j u h1 h2)
      simpa using this
    exact ⟨R.zg, R.gu, R.uh, Fv ++ F', .so h s', (List.Sublist.append_left sb Fv).nodup nd, fun a ha => by
      rcases List.mem_append.mp ha with q | q
      · exact nu a (List.mem_append_left _ q)
      · exact nu a (List.mem_append_right _ (sb.subset q))⟩
/-- THE RULE for a def over data -/
theorem fnd {x qual : Str} {st : Stmt} {f : Addr} {fd : FuncData} {N ps : List Str} {k : Nat} {S : SpD} {td : TSd} (F : Fun K x qual st f fd) (Sc : FnScope N ps (defScope st)) (bs : List Bool) (hbs : ps.length = bs.length)
    (body : ∀ (cdv : Value) (A : Around) (outer : List Env) (s : Shared) (H : Hp) (E : XK), Room k (A.deeper (envOfC qual (defScope st) s.heap.objs.size f cdv)) → PSsd (cxOf CX0 P w K mg base N qual (defScope st) f cdv A outer s H E).nox Z (trues 0 bs) (defBody st) td)
    (sem : ∀ ts Kc, ts.length = bs.length → S ts Kc → td { nx := fun σ => Kc (.fz .non) (finM bs σ), rt := fun t σ => Kc t (finM bs σ) } (ts.map some ++ List.replicate (N.length - bs.length) none)) :
    FnOk P w K mg base CX0 (k + 1) f fd ps (spOf w Z bs.length S) := by
  refine F.ok Sc (fun vs H Q E h => (spOf_len vs H Q E h).trans hbs.symm) (fun cdv A outer s H vs Q E hr h => ⟨_, body cdv A outer s H E hr, ?_⟩)
  have hlv := spOf_len vs H Q E h
  obtain ⟨U, G, ts, Kc, hl, R, q, kk⟩ := h
  have R1 := start_rep N R
  rw [hl] at R1
  refine ⟨U, G, _, _, mvOf 0 bs vs, R1, mvOf_fst 0 bs vs hlv, fun p hp => ?_, sem ts Kc hl q, fun σ' H' σd' U' G' q1 e1 R2 p2 => ?_, fun _ _ _ _ _ z => z.elim, fun _ _ _ _ _ z => z.elim, fun v H' U' G' t σ' σd' q1 e1 R2 p2 => ?_⟩
  · obtain ⟨j, h1, h2, h3⟩ := mvOf_mem 0 bs vs p hp
    have hj : j < vs.length := getN h3
    show (vs.map some ++ _)[p.1]? = _
    rw [h1, Nat.zero_add, List.getElem?_append_left (by simpa using hj), List.getElem?_map, h3]
    rfl
  · exact kk _ _ _ _ _ _ q1 e1 (finM_rep hlv (R2.topD .non) p2)
  · exact kk _ _ _ _ _ _ q1 e1 (finM_rep hlv R2 p2)
end

/-! ### attributes -/
def lkF {α : Type} (f : Str) : List (Str × α) → Option α
  | [] => none
  | (g, x) :: r => if g = f then some x else lkF f r
def putFT {α : Type} (f : Str) (x : α) : List (Str × α) → List (Str × α)
  | [] => [(f, x)]
  | (g, y) :: r => if g = f then (g, x) :: r else (g, y) :: putFT f x r
theorem look_cons (f g : Str) (x : V) (r : List (Str × V)) : List.lookup f ((g, x) :: r) = if f = g then some x else List.lookup f r := by
  by_cases h : f = g
  · have hb : (f == g) = true := beq_iff_eq.mpr h
    simp only [List.lookup, hb, if_pos h]
  · have hb : (f == g) = false := beq_eq_false_iff_ne.mpr h
    simp only [List.lookup, hb, if_neg h]
theorem lkF_DRs {w : World} {G : Hp} {f : Str} : ∀ {fvs : List (Str × V)} {fds : List (Str × D)} {d : D}, fvs.map (·.1) = fds.map (·.1) → DRs w G (fvs.map (·.2)) (fds.map (·.2)) → lkF f fds = some d → ∃ v, fvs.lookup f = some v ∧ DR w G v d
  | [], [], _, _, _, e => by cases e
  | [], _ :: _, _, h, _, _ => by simp at h
  | _ :: _, [], _, h, _, _ => by simp at h
  | (g, v) :: fvs, (g', x) :: fds, d, h, r, e => by
    have h' := h
    simp only [List.map_cons, List.cons.injEq] at h'
    obtain ⟨rfl, h2⟩ := h'
    cases r with
    | cons h3 r =>
      rw [look_cons]
      dsimp only [lkF] at e
      by_cases hg : g = f
      · rw [if_pos hg] at e; cases e
        rw [if_pos hg.symm]
        exact ⟨v, rfl, h3⟩
      · rw [if_neg hg] at e
        rw [if_neg (fun e => hg e.symm)]
        exact lkF_DRs h2 r e
theorem lkF_Owns {w : World} {G H : Hp} {f : Str} : ∀ {fvs : List (Str × V)} {fts : List (Str × T)} {t : T} {F : List Addr}, fvs.map (·.1) = fts.map (·.1) → Owns w G H (fvs.map (·.2)) (fts.map (·.2)) F → lkF f fts = some t → ∃ v F', fvs.lookup f = some v ∧ Own w G H v t F'
  | [], [], _, _, _, _, e => by cases e
  | [], _ :: _, _, _, h, _, _ => by simp at h
  | _ :: _, [], _, _, h, _, _ => by simp at h
  | (g, v) :: fvs, (g', x) :: fts, t, F, h, r, e => by
    have h' := h
    simp only [List.map_cons, List.cons.injEq] at h'
    obtain ⟨rfl, h2⟩ := h'
    cases r with
    | cons h3 r =>
      rw [look_cons]
      dsimp only [lkF] at e
      by_cases hg : g = f
      · rw [if_pos hg] at e; cases e
        rw [if_pos hg.symm]
        exact ⟨v, _, rfl, h3⟩
      · rw [if_neg hg] at e
        rw [if_neg (fun e => hg e.symm)]
        exact lkF_Owns h2 r e
/-- an attribute is stored: the fields' own objects behind -/
theorem putF_Owns {w : World} {G H : Hp} {f : Str} {v : V} {t : T} {Fv : List Addr} (o : Own w G H v t Fv) : ∀ {fvs : List (Str × V)} {fts : List (Str × T)} {F : List Addr}, fvs.map (·.1) = fts.map (·.1) → Owns w G H (fvs.map (·.2)) (fts.map (·.2)) F → (Fv ++ F).Nodup →
    ∃ F', Owns w G H ((putF f v fvs).map (·.2)) ((putFT f t fts).map (·.2)) F' ∧ (putF f v fvs).map (·.1) = (putFT f t fts).map (·.1) ∧ F'.Nodup ∧ ∀ a ∈ F', a ∈ Fv ++ F
  | [], [], F, _, r, nd => by
    cases r
    exact ⟨Fv ++ [], .cons o .nil, rfl, nd, fun a h => h⟩
  | [], _ :: _, _, h, _, _ => by simp at h
  | _ :: _, [], _, h, _, _ => by simp at h
  | (g, u) :: fvs, (g', x) :: fts, F, h, r, nd => by
    have h' := h
    simp only [List.map_cons, List.cons.injEq] at h'
    obtain ⟨rfl, h2⟩ := h'
    cases r with
    | @cons _ _ Fa _ _ Fb h3 r =>
      have nd' := List.nodup_append.mp nd
      have nd2 := List.nodup_append.mp nd'.2.1
      by_cases hg : g = f
      · refine ⟨Fv ++ Fb, ?_, ?_, ?_, fun a ha => ?_⟩
        · simp only [putF, putFT, if_pos hg, List.map_cons]
          exact .cons o r
        · simp only [putF, putFT, if_pos hg, List.map_cons, h2]
        · rw [List.nodup_append]
          exact ⟨nd'.1, nd2.2.1, fun a ha b hb => nd'.2.2 a ha b (List.mem_append_right _ hb)⟩
        · rcases List.mem_append.mp ha with q | q
          · exact List.mem_append_left _ q
          · exact List.mem_append_right _ (List.mem_append_right _ q)
      · obtain ⟨F', r', hk, n', c'⟩ := putF_Owns o h2 r (by
          rw [List.nodup_append]
          exact ⟨nd'.1, nd2.2.1, fun a ha b hb => nd'.2.2 a ha b (List.mem_append_right _ hb)⟩)
        refine ⟨Fa ++ F', ?_, ?_, ?_, fun a ha => ?_⟩
        · simp only [putF, putFT, if_neg hg, List.map_cons]
          exact .cons h3 r'
        · simp only [putF, putFT, if_neg hg, List.map_cons, hk]
        · rw [List.nodup_append]
          refine ⟨nd2.1, n', fun a ha b hb e => ?_⟩
          rcases List.mem_append.mp (c' b hb) with q | q
          · exact nd'.2.2 b q a (List.mem_append_left _ ha) e.symm
          · exact nd2.2.2 a ha b q e
        · rcases List.mem_append.mp ha with q | q
          · exact List.mem_append_right _ (List.mem_append_left _ q)
          · rcases List.mem_append.mp (c' a q) with q | q
            · exact List.mem_append_left _ q
            · exact List.mem_append_right _ (List.mem_append_right _ q)
section
variable {X : Cx} {Z : Amb} {ms : List Nat} {e : Expr} {te : TEd} {pos pos' : Pos} {C : Addr} {f x : Str}
/-- e.f: the field of a frozen instance, or a frozen field of a slot's own instance -/
def tdFld (C : Addr) (f : Str) (te : TEd) : TEd := fun σ K => te σ fun r σ1 => match r with
  | .t t => match t.er with
    | .ins C' fs => C' = C ∧ bindO (lkF f fs) fun d => K (.t (.fz d)) σ1
    | _ => False
  | .pl i => match σ1[i]? with
    | some (some (.ob C' fs)) => C' = C ∧ bindO (lkF f fs) fun t => match t with
      | .fz d => K (.t (.fz d)) σ1
      | _ => False
    | _ => False
theorem pd_fld (he : PEd X Z e te) (c : Cls X.K C) (na : NoAttr X.K C f) (hb : attributeBase e f X.env (eval e X.env) = eval e X.env := by rfl) : PEd X Z (.Attribute e f pos) (tdFld C f te) :=
  pe_imp (pe_fld he hb) fun σ H Q ⟨U, G, σd, K, R, q, k⟩ => by
    refine ⟨U, G, σd, _, R, q, fun r σ1 v H1 U1 G1 q1 e1 R1 => ?_⟩
    obtain ⟨U2, G2, e2, R2, h2⟩ := R1.hold
    cases r with
    | t t =>
      dsimp only at q1
      have h3 : DR X.w G2 v t.er := h2
      generalize t.er = d at q1 h3
      cases h3 with
      | ins h hk r =>
        obtain ⟨rfl, q1⟩ := q1
        obtain ⟨d, z, q1⟩ := bindO_ex q1
        obtain ⟨u, hu, hd⟩ := lkF_DRs hk r z
        exact ⟨_, _, _, _, u, rfl, R2.gh _ _ h, c, na, hu, k _ _ _ _ _ _ q1 (e1.trans e2) (R2.topD hd)⟩
      | _ => exact q1.elim
    | pl i =>
      dsimp only at q1
      cases z : σ1[i]? with
      | none => rw [z] at q1; exact q1.elim
      | some y =>
        cases y with
        | none => rw [z] at q1; exact q1.elim
        | some t =>
          rw [z] at q1
          obtain ⟨v', F, h1, o⟩ := R2.at z
          have h2' : σ[i]? = some (some v) := h2
          rw [h2'] at h1; cases h1
          cases t with
          | ob C' fs =>
            dsimp only at q1
            obtain ⟨rfl, q1⟩ := q1
            obtain ⟨t, zt, q1⟩ := bindO_ex q1
            cases o with
            | ob h hk r =>
              obtain ⟨u, F', hu, ho⟩ := lkF_Owns hk r zt
              cases t with
              | fz d =>
                cases ho with
                | fz hd => exact ⟨_, _, _, _, u, rfl, h, c, na, hu, k _ _ _ _ _ _ q1 (e1.trans e2) (R2.topD hd)⟩
              | _ => exact q1.elim
          | _ => exact q1.elim
/-- x.f = e, x a slot's own instance; a place is frozen -/
def tdFldSet (C : Addr) (f : Str) (i : Nat) (te : TEd) : TSd := fun De σ => te σ fun r σ1 => match r with
  | .t t => match σ1[i]? with
    | some (some (.ob C' fs)) => C' = C ∧ fs.length < 1000 ∧ De.nx (σ1.set i (some (.ob C (putFT f t fs))))
    | _ => False
  | .pl j => match σ1[j]? with
    | some (some t) => match (σ1.set j (some (.fz t.er)))[i]? with
      | some (some (.ob C' fs)) => C' = C ∧ fs.length < 1000 ∧ De.nx ((σ1.set j (some (.fz t.er))).set i (some (.ob C (putFT f (.fz t.er) fs))))
      | _ => False
    | _ => False
theorem fldset_core {w : World} {U G H : Hp} {σ : L2.St} {σd : Sd} {v : V} {t : T} {i : Nat} {fs : List (Str × T)} (R : Rep w Z U G (some v :: σ) H (some t :: σd)) (z : σd[i]? = some (some (.ob C fs))) :
    ∃ a dx fvs, σ[i]? = some (some (.ref a)) ∧ H a = some (.ins C dx fvs) ∧ fvs.length = fs.length ∧ Rep w Z U G σ (upd H a (.ins C dx (putF f v fvs))) (σd.set i (some (.ob C (putFT f t fs)))) := by
  obtain ⟨F, s, nd, nu⟩ := R.ow
  cases s with
  | @so _ _ Fv _ _ F2 h s =>
    obtain ⟨v', Fi, F3, h1, o, s3, pm⟩ := s.take z
    cases o with
    | @ob a _ dx fvs _ Fo ha hk r =>
      have hl : fvs.length = fs.length := by simpa using congrArg List.length hk
      have nd' := List.nodup_append.mp nd
      have n2 : (a :: Fo ++ F3).Nodup := pm.nodup_iff.mp nd'.2.1
      have n2' := List.nodup_append.mp n2
      have nFo : (Fv ++ Fo).Nodup := by
        rw [List.nodup_append]
        exact ⟨nd'.1, (List.nodup_cons.mp n2'.1).2, fun x hx y hy => nd'.2.2 x hx y (pm.mem_iff.mpr (by simp [hy]))⟩
      have av : a ∉ Fv := fun q => nd'.2.2 a q a (pm.mem_iff.mpr (by simp)) rfl
      have ao : a ∉ Fo := (List.nodup_cons.mp n2'.1).1
      have a3 : a ∉ F3 := fun q => n2'.2.2 a (by simp) a q rfl
      have ua : U a = none := nu a (List.mem_append_right _ (pm.mem_iff.mpr (by simp)))
      have ne : ∀ b ≠ a, ∀ o, H b = some o → upd H a (.ins C dx (putF f v fvs)) b = some o := fun b hb o e => by rw [upd_ne hb]; exact e
      have h' := h.frame (H' := upd H a (.ins C dx (putF f v fvs))) (.refl G) fun b hb o e => ne b (fun q => av (q ▸ hb)) o e
      have r' := r.frame (H' := upd H a (.ins C dx (putF f v fvs))) (.refl G) fun b hb o e => ne b (fun q => ao (q ▸ hb)) o e
      have s3' := s3.frame (H' := upd H a (.ins C dx (putF f v fvs))) (.refl G) fun b hb o e => ne b (fun q => a3 (q ▸ hb)) o e
      obtain ⟨F4, r4, hk4, n4, c4⟩ := putF_Owns (f := f) h' hk r' nFo
      refine ⟨a, dx, fvs, h1, ha, hl, R.zg.mut (fun ps e => by rw [ha] at e; cases e), R.gu, fun b o e => ?_, ?_⟩
      · have : b ≠ a := fun q => by rw [q, ua] at e; cases e
        exact ne b this o (R.uh b o e)
      · have n5 : (a :: F4).Nodup := List.nodup_cons.mpr ⟨fun q => by
          rcases List.mem_append.mp (c4 a q) with q | q
          · exact av q
          · exact ao q, n4⟩
        have n6 : ((a :: F4) ++ F3).Nodup := by
          rw [List.nodup_append]
          refine ⟨n5, n2'.2.1, fun x hx y hy e => ?_⟩
          rcases List.mem_cons.mp hx with q | q
          · exact a3 (by rw [← q, e]; exact hy)
          · rcases List.mem_append.mp (c4 x q) with q | q
            · exact nd'.2.2 x q y (pm.mem_iff.mpr (by simp [hy])) e
            · exact n2'.2.2 x (by simp [q]) y hy e
        have hi : i < σd.length := getN z
        obtain ⟨F5, s5, p5⟩ := s3'.put (i := i) (t := .ob C (putFT f t fs)) (v := .ref a) (by rw [List.getElem?_set_self hi]) (.ob upd_same hk4 r4)
        rw [List.set_set, set_same h1] at s5
        refine ⟨F5, s5, p5.nodup_iff.mpr n6, fun x hx => ?_⟩
        rcases List.mem_append.mp (p5.mem_iff.mp hx) with q | q
        · rcases List.mem_cons.mp q with q | q
          · rw [q]; exact ua
          · rcases List.mem_append.mp (c4 x q) with q | q
            · exact nu x (List.mem_append_left _ q)
            · exact nu x (List.mem_append_right _ (pm.mem_iff.mpr (by simp [q])))
        · exact nu x (List.mem_append_right _ (pm.mem_iff.mpr (by simp [q])))
theorem psd_fld {i : Nat} {o : Expr} (ho : PE X o (tVar i)) (he : PEd X Z e te) (c : Cls X.K C) (na : NoAttr X.K C f) (hs : swapsWith e (some (.Attribute o f pos')) pos.line X.env = pure false := by rfl) : PSd X Z ms (.Assign [.Attribute o f pos'] e pos) (tdFldSet C f i te) :=
  ps_imp (ps_fld ho he hs) (lS fun U G σd De mv D σ H R m p q o => by
    refine ⟨U, G, σd, _, R, q, fun r σ1 v H1 U1 G1 q1 e1 R1 => ?_⟩
    have go : ∀ {U2 G2 : Hp} {σ2 : Sd} {t : T}, Ext U G U2 G2 → Rep X.w Z U2 G2 (some v :: σ) H1 (some t :: σ2) → (match σ2[i]? with
      | some (some (.ob C' fs)) => C' = C ∧ fs.length < 1000 ∧ De.nx (σ2.set i (some (.ob C (putFT f t fs))))
      | _ => False) → ∃ v', σ[i]? = some (some v') ∧ ∃ a C dx fs, v' = .ref a ∧ H1 a = some (.ins C dx fs) ∧ Cls X.K C ∧ NoAttr X.K C f ∧ fs.length < 1000 ∧ D.nx σ (upd H1 a (.ins C dx (putF f v fs))) := fun {U2 G2 σ2 t} e2 R2 q2 => by
      cases z : σ2[i]? with
      | none => rw [z] at q2; exact q2.elim
      | some y =>
        cases y with
        | none => rw [z] at q2; exact q2.elim
        | some t' =>
          rw [z] at q2
          cases t' with
          | ob C' fs =>
            obtain ⟨rfl, hl, q2⟩ := q2
            obtain ⟨a, dx, fvs, h1, h2, h3, R3⟩ := fldset_core (f := f) R2 z
            exact ⟨_, h1, a, _, dx, fvs, rfl, h2, c, na, by omega, o.nx _ _ _ _ _ q2 e2 R3 p⟩
          | _ => exact q2.elim
    cases r with
    | t t => exact go e1 R1 q1
    | pl j =>
      dsimp only at q1
      cases z : σ1[j]? with
      | none => rw [z] at q1; exact q1.elim
      | some x =>
        cases x with
        | none => rw [z] at q1; exact q1.elim
        | some t =>
          rw [z] at q1
          obtain ⟨U2, G2, v', e2, R2, h1, d1⟩ := R1.1.freezeAt z
          have h2 := R1.2
          rw [h1] at h2; cases h2
          exact go (e1.trans e2) (R2.topD d1) q1)
end
end M
/-! M8: operations on data. -/
namespace M
open PySem L2
section
variable {X : Cx} {w : World} {Z : Amb} {ms : List Nat} {e a b : Expr} {es : List Expr} {te tb : TEd} {ta : TAd} {pos p : Pos}
/-! ### whole numbers -/
def int2 (f : Int → Int → Option D) : D → D → Option D
  | .int i, .int j => f i j
  | _, _ => none
theorem int2_ok {r : R2} {f : Int → Int → Option D} (h : ∀ i j d H Q, f i j = some d → (∀ v, (∀ G, DR w G v d) → Q v H) → r (.int i) (.int j) H Q) : OpE w r (int2 f) := fun H x y dx dy d Q hx hy e k => by
  cases hx with
  | int i =>
    cases hy with
    | int j => exact h i j d H Q e k
    | _ => cases e
  | _ => cases e
def subD : D → D → Option D := int2 fun i j => some (.int (i - j))
def fdivD : D → D → Option D := int2 fun i j => if 0 < j ∧ j < 1073741824 then some (.int (i / j)) else none
def modD : D → D → Option D := int2 fun i j => if 0 < j then some (.int (i % j)) else none
def powD : D → D → Option D := int2 fun i j => if 0 ≤ j ∧ j ≤ 1000000 ∧ i.natAbs < 2 ^ 64 then some (.int (i ^ j.toNat)) else none
theorem ok_sub : OpE w (rI0 fun i j => .int (i - j)) subD := int2_ok fun i j d H Q e k => by cases e; exact ⟨i, j, rfl, rfl, k _ fun _ => .int _⟩
theorem ok_fdiv : OpE w (rI CDiv fun i j => .int (i / j)) fdivD := int2_ok fun i j d H Q e k => by
  split at e
  · cases e; exact ⟨i, j, rfl, rfl, by assumption, k _ fun _ => .int _⟩
  · cases e
theorem ok_mod : OpE w (rI (fun _ j => 0 < j) fun i j => .int (i % j)) modD := int2_ok fun i j d H Q e k => by
  split at e
  · cases e; exact ⟨i, j, rfl, rfl, by assumption, k _ fun _ => .int _⟩
  · cases e
theorem ok_pow : OpE w (rI CPow fun i j => .int (i ^ j.toNat)) powD := int2_ok fun i j d H Q e k => by
  split at e
  · cases e; exact ⟨i, j, rfl, rfl, by assumption, k _ fun _ => .int _⟩
  · cases e
theorem pd_sub (ha : PEd X Z a te) (hb : PEd X Z b tb) : PEd X Z (.BinOp a .Sub b pos) (tdBinE subD te tb) := pd_binE ok_sub op_sub ha hb
theorem pd_fdiv (ha : PEd X Z a te) (hb : PEd X Z b tb) : PEd X Z (.BinOp a .FloorDiv b pos) (tdBinE fdivD te tb) := pd_binE ok_fdiv op_fdiv ha hb
theorem pd_mod (ha : PEd X Z a te) (hb : PEd X Z b tb) : PEd X Z (.BinOp a .Mod b pos) (tdBinE modD te tb) := pd_binE ok_mod op_mod ha hb
theorem pd_pow (ha : PEd X Z a te) (hb : PEd X Z b tb) : PEd X Z (.BinOp a .Pow b pos) (tdBinE powD te tb) := pd_binE ok_pow op_pow ha hb
def negD : D → Option D
  | .int i => some (.int (-i))
  | _ => none
theorem ok_neg : UnE w (rU fun i => .int (-i)) negD := fun H x dx d Q hx e k => by
  cases hx with
  | int i => cases e; exact ⟨i, rfl, k _ fun _ => .int _⟩
  | _ => cases e
theorem pd_neg (ha : PEd X Z a te) : PEd X Z (.UnaryOp .USub a pos) (tdUnE negD te) := pd_un ok_neg un_neg ha

/-! ### + -/
def addT : D → D → Option T
  | .int i, .int j => some (.fz (.int (i + j)))
  | .str x, .str y => if x.length + y.length ≤ sizeLine then some (.fz (.str (x ++ y))) else none
  | .lst xs, .lst ys => if xs.length + ys.length ≤ sizeLine then some (.l (xs ++ ys)) else none
  | .tup xs, .tup ys => if xs.length + ys.length ≤ sizeLine then some (.fz (.tup (xs ++ ys))) else none
  | _, _ => none
def rCatL (K : PySem.W.Frag) : R2 := fun x y H Q => ∃ l b xs zs, x = .ref l ∧ y = .ref b ∧ SqL K H l xs ∧ SqL K H b zs ∧ xs.length + zs.length ≤ sizeLine ∧ ∀ p, H p = none → Q (.ref p) (upd H p (.lst (xs ++ zs)))
theorem op_catL : OpR X (binaryOp .Add) (rCatL X.K) := by
  intro pins s σ H x y v u Q I rx ry h
  obtain ⟨l, b, xs, zs, rfl, rfl, hH, hB, hz, q⟩ := h
  cases rx
  cases ry
  obtain ⟨its, r, p1, z1⟩ := I.list hH
  obtain ⟨its2, r2, p2, z2⟩ := I.list hB
  obtain ⟨⟨cls, dd, data, sl⟩, ho, hc, n, hd⟩ := id p1.isList
  obtain ⟨⟨cls2, dd2, data2, sl2⟩, ho2, hc2, n2, hd2⟩ := id p2.isList
  simp only at hc hd hc2 hd2
  subst hc hd hc2 hd2
  have e : its.toArray ++ its2.toArray = (its ++ its2).toArray := by simp
  have hl1 := r.length
  have hl2 := r2.length
  refine PySem.concat_meets ⟨_, ho, rfl⟩ ⟨_, ho2, rfl⟩ noFill_list_add seq_list_add PySem.F.slot_list_add PySem.F.entry_list_add (PySem.F.args_list_add_2 _ _) (PyProof.Rows.list_addW l b its.toArray its2.toArray n n2 dd dd2 sl sl2 (by simp; omega)) ⟨ho, ho2, ?_⟩
  rw [e]
  exact ⟨.ref _, _, I.lnew (t' := s.toks) (r.append r2) (by rw [List.length_append]; omega), rfl, q _ I.fresh⟩
/-- read as a list, as a tuple -/
theorem Sh.lst {G H : Hp} {v : V} {ds : List D} (h : Sh w G H v (.lst ds)) (gh : HLe G H) : ∃ a vs, v = .ref a ∧ Rd H a (.lst vs) ∧ DRs w G vs ds := by
  rcases h with h | ⟨a, vs, es, rfl, e, h, r⟩ | ⟨a, o, ks, kv, vs, kvs, rfl, e, _⟩
  · cases h with
    | lst h r => exact ⟨_, _, rfl, Rd.le gh h, r⟩
  · cases e; exact ⟨a, vs, rfl, .inl h, r⟩
  · cases e
theorem Sh.tup {G H : Hp} {v : V} {ds : List D} (h : Sh w G H v (.tup ds)) : ∃ a vs, v = .ref a ∧ Rd G a (.tup vs) ∧ DRs w G vs ds := by
  rcases h with h | ⟨a, vs, es, rfl, e, h, r⟩ | ⟨a, o, ks, kv, vs, kvs, rfl, e, _⟩
  · cases h with
    | tup h r => exact ⟨_, _, rfl, h, r⟩
  · cases e
  · cases e
theorem Sh.int {G H : Hp} {v : V} {i : Int} (h : Sh w G H v (.int i)) : v = .int i := by
  rcases h with h | ⟨a, vs, es, rfl, e, h, r⟩ | ⟨a, o, ks, kv, vs, kvs, rfl, e, _⟩
  · cases h; rfl
  · cases e
  · cases e
theorem Sh.str {G H : Hp} {v : V} {i : Str} (h : Sh w G H v (.str i)) : v = .str i := by
  rcases h with h | ⟨a, vs, es, rfl, e, h, r⟩ | ⟨a, o, ks, kv, vs, kvs, rfl, e, _⟩
  · cases h; rfl
  · cases e
  · cases e
def rAdd4 (K : PySem.W.Frag) : R2 := fun x y H Q => (rI0 (fun i j => .int (i + j)) x y H Q) ∨ (∃ i j, x = .str i ∧ y = .str j ∧ i.length + j.length ≤ sizeLine ∧ Q (.str (i ++ j)) H) ∨ rCatL K x y H Q ∨ rCatA K x y H Q
theorem op_add4 : OpR X (binaryOp .Add) (rAdd4 X.K) := op_add.or (op_add_str.or (op_catL.or op_catA))
theorem ok_add {K : PySem.W.Frag} : OpC w (rAdd4 K) addT := fun U G H x y dx dy t Q gu uh hx hy e k => by
  unfold addT at e
  split at e
  · cases e
    cases hx.int
    cases hy.int
    exact .inl ⟨_, _, rfl, rfl, k.scal gu uh (.int _)⟩
  · split at e
    · cases e
      cases hx.str
      cases hy.str
      exact .inr (.inl ⟨_, _, rfl, rfl, by assumption, k.scal gu uh (.str _)⟩)
    · cases e
  · split at e
    · cases e
      obtain ⟨a, vs, rfl, h1, r1⟩ := hx.lst (gu.trans uh)
      obtain ⟨b, us, rfl, h2, r2⟩ := hy.lst (gu.trans uh)
      exact .inr (.inr (.inl ⟨a, b, vs, us, rfl, rfl, .inl h1, .inl h2, by rw [r1.length, r2.length]; assumption, fun p hp => k.own gu uh hp (.l upd_same (r1.append r2))⟩))
    · cases e
  · split at e
    · cases e
      obtain ⟨a, vs, rfl, h1, r1⟩ := hx.tup
      obtain ⟨b, us, rfl, h2, r2⟩ := hy.tup
      have gh := gu.trans uh
      refine .inr (.inr (.inr ⟨a, b, vs, us, rfl, rfl, .inl (Rd.le gh h1), .inl (Rd.le gh h2), by rw [r1.length, r2.length]; assumption, fun e => ?_, fun _ e => ?_, fun _ _ p hp => ?_⟩))
      · subst e
        cases r1
        exact k.scal gu uh (.tup h2 r2)
      · subst e
        cases r2
        rw [List.append_nil] at k
        exact k.scal gu uh (.tup h1 r1)
      · have hG : G p = none := gu.none (uh.none hp)
        exact k.frz gu uh hp (.tup (.inl upd_same) ((r1.append r2).le (.upd hG)))
    · cases e
  · cases e
theorem pd_add (ha : PEd X Z a te) (hb : PEd X Z b tb) : PEd X Z (.BinOp a .Add b pos) (tdBin addT te tb) := pd_bin ok_add op_add4 ha hb
/-! ### * -/
def mulT : D → D → Option T
  | .int i, .int j => if (-(2 ^ 64) < i ∧ i < 2 ^ 64) ∨ (-(2 ^ 64) < j ∧ j < 2 ^ 64) then some (.fz (.int (i * j))) else none
  | _, _ => none
theorem ok_mul : OpC w (rI CMul fun i j => .int (i * j)) mulT := fun U G H x y dx dy t Q gu uh hx hy e k => by
  unfold mulT at e
  split at e
  · split at e
    · cases e
      cases hx.int
      cases hy.int
      exact ⟨_, _, rfl, rfl, by assumption, k.scal gu uh (.int _)⟩
    · cases e
  · cases e
theorem pd_mul (ha : PEd X Z a te) (hb : PEd X Z b tb) : PEd X Z (.BinOp a .Mult b pos) (tdBin mulT te tb) := pd_bin ok_mul op_mul ha hb

/-! ### comparisons -/
def ltD : D → D → Option D := int2 fun i j => some (.bl (decide (i < j)))
def leD : D → D → Option D := int2 fun i j => some (.bl (decide (i ≤ j)))
def gtD : D → D → Option D := int2 fun i j => some (.bl (decide (j < i)))
def geD : D → D → Option D := int2 fun i j => some (.bl (decide (j ≤ i)))
theorem ok_lt : OpE w (rI0 fun i j => .bl (decide (i < j))) ltD := int2_ok fun i j d H Q e k => by cases e; exact ⟨i, j, rfl, rfl, k _ fun _ => .bl _⟩
theorem ok_le : OpE w (rI0 fun i j => .bl (decide (i ≤ j))) leD := int2_ok fun i j d H Q e k => by cases e; exact ⟨i, j, rfl, rfl, k _ fun _ => .bl _⟩
theorem ok_gt : OpE w (rI0 fun i j => .bl (decide (j < i))) gtD := int2_ok fun i j d H Q e k => by cases e; exact ⟨i, j, rfl, rfl, k _ fun _ => .bl _⟩
theorem ok_ge : OpE w (rI0 fun i j => .bl (decide (j ≤ i))) geD := int2_ok fun i j d H Q e k => by cases e; exact ⟨i, j, rfl, rfl, k _ fun _ => .bl _⟩
theorem pd_lt (ha : PEd X Z a te) (hb : PEd X Z b tb) : PEd X Z (.Compare a [.Lt] [b] pos) (tdBinE ltD te tb) := pd_cmp ok_lt op_lt ha hb (nomark _)
theorem pd_le (ha : PEd X Z a te) (hb : PEd X Z b tb) : PEd X Z (.Compare a [.LtE] [b] pos) (tdBinE leD te tb) := pd_cmp ok_le op_le ha hb (nomark _)
theorem pd_gt (ha : PEd X Z a te) (hb : PEd X Z b tb) : PEd X Z (.Compare a [.Gt] [b] pos) (tdBinE gtD te tb) := pd_cmp ok_gt op_gt ha hb (nomark _)
theorem pd_ge (ha : PEd X Z a te) (hb : PEd X Z b tb) : PEd X Z (.Compare a [.GtE] [b] pos) (tdBinE geD te tb) := pd_cmp ok_ge op_ge ha hb (nomark _)
theorem pt_lt (ha : PEd X Z a te) (hb : PEd X Z b tb) : PTd X Z (.Compare a [.Lt] [b] pos) (tdTest (tdBinE ltD te tb)) := pt_cmpd ok_lt op_lt ha hb (nomark _)
theorem pt_le (ha : PEd X Z a te) (hb : PEd X Z b tb) : PTd X Z (.Compare a [.LtE] [b] pos) (tdTest (tdBinE leD te tb)) := pt_cmpd ok_le op_le ha hb (nomark _)
theorem pt_gt (ha : PEd X Z a te) (hb : PEd X Z b tb) : PTd X Z (.Compare a [.Gt] [b] pos) (tdTest (tdBinE gtD te tb)) := pt_cmpd ok_gt op_gt ha hb (nomark _)
theorem pt_ge (ha : PEd X Z a te) (hb : PEd X Z b tb) : PTd X Z (.Compare a [.GtE] [b] pos) (tdTest (tdBinE geD te tb)) := pt_cmpd ok_ge op_ge ha hb (nomark _)
end

/-! ### data of the library -/
mutual
def D.py : D → Option PyData
  | .non => some .none
  | .bl b => some (.bool b)
  | .int i => some (.int i)
  | .str x => some (.str x)
  | .tup xs => (D.pys xs).map .tuple
  | .lst xs => (D.pys xs).map .list
  | .ref _ => none
  | .dic _ => none
  | .ins _ _ => none
  | .fn _ => none
  | .opq _ => none
def D.pys : List D → Option (List PyData)
  | [] => some []
  | x :: xs => match D.py x, D.pys xs with
    | some k, some ks => some (k :: ks)
    | _, _ => none
end
mutual
theorem DR.dp {w : World} {K : PySem.W.Frag} {H : Hp} : ∀ {v : V} {d : D} {p : PyData}, DR w H v d → d.py = some p → Dp K H v p
  | _, _, _, .non, e => by cases e; exact .non
  | _, _, _, .bl b, e => by cases e; exact .bl b
  | _, _, _, .int i, e => by cases e; exact .int i
  | _, _, _, .str x, e => by cases e; exact .str x
  | _, _, _, .ref a, e => by cases e
  | _, _, _, .tup (ds := ds) h r, e => by
    dsimp only [D.py] at e
    cases z : D.pys ds with
    | none => rw [z] at e; cases e
    | some ps =>
      rw [z] at e
      cases e
      exact .tup (.inl h) (DRs.dp r z)
  | _, _, _, .lst (ds := ds) h r, e => by
    dsimp only [D.py] at e
    cases z : D.pys ds with
    | none => rw [z] at e; cases e
    | some ps =>
      rw [z] at e
      cases e
      exact .lst (.inl h) (DRs.dp r z)
  | _, _, _, .dic _ _ _ _ _ _, e => by cases e
  | _, _, _, .ins _ _ _, e => by cases e
theorem DRs.dp {w : World} {K : PySem.W.Frag} {H : Hp} : ∀ {vs : List V} {ds : List D} {ps : List PyData}, DRs w H vs ds → D.pys ds = some ps → DpAll K H vs ps
  | _, _, _, .nil, e => by cases e; exact .nil
  | _, _, _, .cons (d := d) (ds := ds) h r, e => by
    dsimp only [D.pys] at e
    cases z : D.py d with
    | none => rw [z] at e; cases e
    | some p =>
      cases z2 : D.pys ds with
      | none => rw [z, z2] at e; cases e
      | some ps =>
        rw [z, z2] at e
        cases e
        exact .cons (DR.dp h z) (DRs.dp r z2)
end
section
variable {X : Cx} {w : World} {Z : Amb} {ms : List Nat} {e a b : Expr} {es : List Expr} {te tb : TEd} {ta : TAd} {pos p : Pos}
def eqB (x y : D) : Option Bool := match x.py, y.py with
  | some p, some q => if SeqAt.shaped p = true ∧ SeqAt.shaped q = true then some (PyData.eqv p q) else none
  | _, _ => none
def eqD (x y : D) : Option D := (eqB x y).map .bl
def neD (x y : D) : Option D := (eqB x y).map fun c => .bl (!c)
theorem eqB_run {x y : D} {c : Bool} (e : eqB x y = some c) : ∃ p q, x.py = some p ∧ y.py = some q ∧ SeqAt.shaped p = true ∧ SeqAt.shaped q = true ∧ PyData.eqv p q = c := by
  unfold eqB at e
  cases z1 : x.py with
  | none => rw [z1] at e; cases e
  | some p =>
    cases z2 : y.py with
    | none => rw [z1, z2] at e; cases e
    | some q =>
      rw [z1, z2] at e
      dsimp only at e
      split at e
      · rename_i h
        exact ⟨p, q, rfl, rfl, h.1, h.2, Option.some.inj e⟩
      · cases e
theorem ok_eq {K : PySem.W.Frag} : OpE w (rEqD K) eqD := fun H x y dx dy d Q hx hy e k => by
  unfold eqD at e
  cases z : eqB dx dy with
  | none => rw [z] at e; cases e
  | some c =>
    rw [z] at e
    cases e
    obtain ⟨p, q, e1, e2, s1, s2, rfl⟩ := eqB_run z
    exact ⟨p, q, hx.dp e1, hy.dp e2, s1, s2, k _ fun _ => .bl _⟩
theorem ok_ne {K : PySem.W.Frag} : OpE w (rNeD K) neD := fun H x y dx dy d Q hx hy e k => by
  unfold neD at e
  cases z : eqB dx dy with
  | none => rw [z] at e; cases e
  | some c =>
    rw [z] at e
    cases e
    obtain ⟨p, q, e1, e2, s1, s2, rfl⟩ := eqB_run z
    exact ⟨p, q, hx.dp e1, hy.dp e2, s1, s2, k _ fun _ => .bl _⟩
theorem pd_eq (hu : X.A.units + 64 < cLine) (ha : PEd X Z a te) (hb : PEd X Z b tb) : PEd X Z (.Compare a [.Eq] [b] pos) (tdBinE eqD te tb) := pd_cmp ok_eq (op_eqD hu) ha hb (nomark _)
theorem pd_ne (hu : X.A.units + 64 < cLine) (ha : PEd X Z a te) (hb : PEd X Z b tb) : PEd X Z (.Compare a [.NotEq] [b] pos) (tdBinE neD te tb) := pd_cmp ok_ne (op_neD hu) ha hb (nomark _)
theorem pt_eq (hu : X.A.units + 64 < cLine) (ha : PEd X Z a te) (hb : PEd X Z b tb) : PTd X Z (.Compare a [.Eq] [b] pos) (tdTest (tdBinE eqD te tb)) := pt_cmpd ok_eq (op_eqD hu) ha hb (nomark _)
theorem pt_ne (hu : X.A.units + 64 < cLine) (ha : PEd X Z a te) (hb : PEd X Z b tb) : PTd X Z (.Compare a [.NotEq] [b] pos) (tdTest (tdBinE neD te tb)) := pt_cmpd ok_ne (op_neD hu) ha hb (nomark _)
/-! ### is None -/
def D.isN : D → Bool
  | .non => true
  | _ => false
theorem DR.isN {H : Hp} {v : V} {d : D} (h : DR w H v d) : decide (v = .non) = d.isN := by
  cases h <;> rfl
def isND (x _ : D) : Option D := some (.bl x.isN)
def ntND (x _ : D) : Option D := some (.bl (!x.isN))
theorem ok_isN : OpE w (fun x y H Q => y = .non ∧ Q (.bl (decide (x = .non))) H) fun x y => match y with
  | .non => isND x y
  | _ => none := fun H x y dx dy d Q hx hy e k => by
  cases hy with
  | non => cases e; exact ⟨rfl, k _ fun _ => by rw [hx.isN]; exact .bl _⟩
  | _ => cases e
theorem ok_ntN : OpE w (fun x y H Q => y = .non ∧ Q (.bl (!decide (x = .non))) H) fun x y => match y with
  | .non => ntND x y
  | _ => none := fun H x y dx dy d Q hx hy e k => by
  cases hy with
  | non => cases e; exact ⟨rfl, k _ fun _ => by rw [hx.isN]; exact .bl _⟩
  | _ => cases e
/-- x is None, by x alone -/
def tdIsN (te : TEd) : TEd := fun σ K => te σ fun x σ1 => bindO (rdE σ1 x) fun d => K (.t (.fz (.bl d.isN))) σ1
def tdNtN (te : TEd) : TEd := fun σ K => te σ fun x σ1 => bindO (rdE σ1 x) fun d => K (.t (.fz (.bl (!d.isN)))) σ1
theorem isN_imp {f : Bool → Bool} {σ : St} {H : Hp} {Q : VK} (h : liftE X.w Z (fun σ K => te σ fun x σ1 => bindO (rdE σ1 x) fun d => K (.t (.fz (.bl (f d.isN)))) σ1) σ H Q) : liftE X.w Z te σ H fun x H1 => Q (.bl (f (decide (x = .non)))) H1 := by
  obtain ⟨U, G, σd, K, R, q, k⟩ := h
  refine ⟨U, G, σd, _, R, q, fun x σ1 v1 H1 U1 G1 q1 e1 R1 => ?_⟩
  obtain ⟨U2, G2, e2, R2, h2⟩ := R1.hold
  obtain ⟨d, z, q1⟩ := bindO_ex q1
  have := (h2.er R2 z).isN
  rw [this]
  exact k _ _ _ _ _ _ q1 (e1.trans e2) (R2.topD (.bl _))
theorem pd_isN {j pos'} (ha : PEd X Z a te) : PEd X Z (.Compare a [.Is] [.Constant .none j pos'] pos) (tdIsN te) := pe_imp (pe_cmp (pc_isN ha) rfl) fun _ _ _ h => isN_imp (f := fun b => b) h
theorem pd_ntN {j pos'} (ha : PEd X Z a te) : PEd X Z (.Compare a [.IsNot] [.Constant .none j pos'] pos) (tdNtN te) := pe_imp (pe_cmp (pc_notN ha) rfl) fun _ _ _ h => isN_imp (f := fun b => !b) h
theorem pt_isN {j pos'} (ha : PEd X Z a te) : PTd X Z (.Compare a [.Is] [.Constant .none j pos'] pos) (tdTest (tdIsN te)) := pt_imp (pt_cmp (pc_isN ha) rfl) fun σ H Q h => isN_imp (f := fun b => b) (test_imp h)
theorem pt_ntN {j pos'} (ha : PEd X Z a te) : PTd X Z (.Compare a [.IsNot] [.Constant .none j pos'] pos) (tdTest (tdNtN te)) := pt_imp (pt_cmp (pc_notN ha) rfl) fun σ H Q h => isN_imp (f := fun b => !b) (test_imp h)
/-! ### in, not in: lists, tuples -/
def rInDT (K : PySem.W.Frag) (neg : Bool) : R2 := fun x y H Q => ∃ d ds, Dp K H x d ∧ (Dp K H y (.list ds) ∨ Dp K H y (.tuple ds)) ∧ SeqAt.shaped d = true ∧ SeqAt.shaped (.list ds) = true ∧ Q (.bl (neg != ds.any fun z => PyData.eqv z d)) H
theorem op_inDT (hu : X.A.units + 65 < cLine) : OpR X (compareOp .In) (rInDT X.K false) := by
  intro pins s σ H x y v u Q I rx ry h
  obtain ⟨d, ds, hd, he, sd, se, q⟩ := h
  obtain ⟨as, r1⟩ := Dp.reads I d x v hd rx
  have q' : Q (.bl (ds.any fun z => PyData.eqv z d)) H := by simpa using q
  rcases he with he | he
  · obtain ⟨bs, r2⟩ := Dp.reads I (.list ds) y u he ry
    exact SeqAt.in_list_reads r2 r1 (SeqAt.canLay_of_shaped se) (SeqAt.canLay_of_shaped sd) (PyProof.Rows.room_in_shaped sd hu) ⟨.bl _, H, I, rfl, q'⟩
  · obtain ⟨bs, r2⟩ := Dp.reads I (.tuple ds) y u he ry
    exact SeqAt.in_tuple_reads r2 r1 (SeqAt.canLay_of_shaped se) (SeqAt.canLay_of_shaped sd) (PyProof.Rows.room_in_shaped sd hu) ⟨.bl _, H, I, rfl, q'⟩
theorem op_notInDT (hu : X.A.units + 65 < cLine) : OpR X (compareOp .NotIn) (rInDT X.K true) := by
  intro pins s σ H x y v u Q I rx ry h
  obtain ⟨d, ds, hd, he, sd, se, q⟩ := h
  obtain ⟨as, r1⟩ := Dp.reads I d x v hd rx
  have q' : Q (.bl (!ds.any fun z => PyData.eqv z d)) H := by simpa using q
  rcases he with he | he
  · obtain ⟨bs, r2⟩ := Dp.reads I (.list ds) y u he ry
    exact SeqAt.notIn_list_reads r2 r1 (SeqAt.canLay_of_shaped se) (SeqAt.canLay_of_shaped sd) (PyProof.Rows.room_in_shaped sd hu) ⟨.bl _, H, I, rfl, q'⟩
  · obtain ⟨bs, r2⟩ := Dp.reads I (.tuple ds) y u he ry
    exact SeqAt.notIn_tuple_reads r2 r1 (SeqAt.canLay_of_shaped se) (SeqAt.canLay_of_shaped sd) (PyProof.Rows.room_in_shaped sd hu) ⟨.bl _, H, I, rfl, q'⟩
def D.seq : D → Option (List D)
  | .lst xs => some xs
  | .tup xs => some xs
  | _ => none
def inB (x y : D) : Option Bool := match x.py, y.seq with
  | some p, some ys => match D.pys ys with
    | some qs => if SeqAt.shaped p = true ∧ SeqAt.shaped (.list qs) = true then some (qs.any fun z => PyData.eqv z p) else none
    | none => none
  | _, _ => none
theorem inB_run {K : PySem.W.Frag} {H : Hp} {x y : D} {vx vy : V} {c : Bool} (hx : DR w H vx x) (hy : DR w H vy y) (e : inB x y = some c) : ∃ d ds, Dp K H vx d ∧ (Dp K H vy (.list ds) ∨ Dp K H vy (.tuple ds)) ∧ SeqAt.shaped d = true ∧ SeqAt.shaped (.list ds) = true ∧ (ds.any fun z => PyData.eqv z d) = c := by
  unfold inB at e
  cases z1 : x.py with
  | none => rw [z1] at e; cases e
  | some p =>
    cases z2 : y.seq with
    | none => rw [z1, z2] at e; cases e
    | some ys =>
      rw [z1, z2] at e
      dsimp only at e
      cases z3 : D.pys ys with
      | none => rw [z3] at e; cases e
      | some qs =>
        rw [z3] at e
        dsimp only at e
        split at e
        · rename_i h
          refine ⟨p, qs, hx.dp z1, ?_, h.1, h.2, Option.some.inj e⟩
          cases y with
          | lst xs => cases z2; exact .inl (hy.dp (by show (D.pys _).map _ = _; rw [z3]; rfl))
          | tup xs => cases z2; exact .inr (hy.dp (by show (D.pys _).map _ = _; rw [z3]; rfl))
          | _ => cases z2
        · cases e
def inD (x y : D) : Option D := (inB x y).map .bl
def niD (x y : D) : Option D := (inB x y).map fun c => .bl (!c)
theorem ok_in {K : PySem.W.Frag} : OpE w (rInDT K false) inD := fun H x y dx dy d Q hx hy e k => by
  unfold inD at e
  cases z : inB dx dy with
  | none => rw [z] at e; cases e
  | some c =>
    rw [z] at e
    cases e
    obtain ⟨d, ds, h1, h2, h3, h4, h5⟩ := inB_run hx hy z
    exact ⟨d, ds, h1, h2, h3, h4, k _ fun _ => by rw [h5]; cases c <;> exact .bl _⟩
theorem ok_ni {K : PySem.W.Frag} : OpE w (rInDT K true) niD := fun H x y dx dy d Q hx hy e k => by
  unfold niD at e
  cases z : inB dx dy with
  | none => rw [z] at e; cases e
  | some c =>
    rw [z] at e
    cases e
    obtain ⟨d, ds, h1, h2, h3, h4, h5⟩ := inB_run hx hy z
    exact ⟨d, ds, h1, h2, h3, h4, k _ fun _ => by rw [h5]; cases c <;> exact .bl _⟩

/-! ### truth -/
def D.tru : D → Option Bool
  | .non => some false
  | .bl b => some b
  | .int i => some (i != 0)
  | .lst xs => some (!xs.isEmpty)
  | .tup xs => some (!xs.isEmpty)
  | _ => none
def tdTru (te : TEd) : TTd := fun σ K => te σ fun x σ1 => bindO (rdE σ1 x) fun d => bindO d.tru fun c => K c σ1
theorem tru_run {K : PySem.W.Frag} {H : Hp} {v : V} {d : D} {c : Bool} (h : DR w H v d) (e : d.tru = some c) : TruV K v H c := by
  have em : ∀ {vs : List V} {ds : List D}, DRs w H vs ds → (!ds.isEmpty) = !vs.isEmpty := fun r => by cases r <;> rfl
  cases h with
  | non => cases e; rfl
  | bl b => cases e; rfl
  | int i => cases e; rfl
  | lst h r => cases e; exact .inl ⟨_, .inl h, em r⟩
  | tup h r => cases e; exact .inr (.inl ⟨_, .inl h, em r⟩)
  | _ => cases e
theorem pt_tru (ha : PEd X Z a te) (he : ∀ whole, isTrue a X.env whole = (do let v ← whole; standAt a.pos; holding [v] (truthy v)) := by intro _; rfl) : PTd X Z a (tdTru te) :=
  pt_imp (pt_truth ha he) fun σ H Q ⟨U, G, σd, K, R, q, k⟩ => by
    refine ⟨U, G, σd, _, R, q, fun x σ1 v1 H1 U1 G1 q1 e1 R1 => ?_⟩
    obtain ⟨U2, G2, e2, R2, h2⟩ := R1.hold
    obtain ⟨d, z, q1⟩ := bindO_ex q1
    obtain ⟨c, z2, q1⟩ := bindO_ex q1
    exact ⟨c, tru_run (h2.er R2 z) z2, k _ _ _ _ _ q1 (e1.trans e2) R2⟩

/-! ### built-in functions -/
/-- of deep readings -/
inductive DRl (w : World) (H : Hp) : List V → List D → Prop
  | nil : DRl w H [] []
  | cons {v d vs ds} : DR w H v d → DRl w H vs ds → DRl w H (v :: vs) (d :: ds)
def CallE (w : World) (r : List V → Hp → VK → Prop) (f : List D → Option D) : Prop := ∀ H xs ds d Q, DRs w H xs ds → f ds = some d → (∀ v, (∀ G, DR w G v d) → Q v H) → r xs H Q
def rdEs (σ : Sd) : List RV → Option (List D)
  | [] => some []
  | r :: rs => match rdE σ r, rdEs σ rs with
    | some d, some ds => some (d :: ds)
    | _, _ => none
theorem Hlds.ers {U G H : Hp} {σ : St} {σd : Sd} (R : Rep w Z U G σ H σd) : ∀ {vs rs ds}, Hlds w G σ vs rs → rdEs σd rs = some ds → DRs w H vs ds
  | _, _, _, .nil, e => by cases e; exact .nil
  | _, _, _, .cons (r := r) (rs := rs) h hs, e => by
    dsimp only [rdEs] at e
    cases e1 : rdE σd r with
    | none => rw [e1] at e; cases e
    | some d =>
      cases e2 : rdEs σd rs with
      | none => rw [e1, e2] at e; cases e
      | some ds' =>
        rw [e1, e2] at e
        cases e
        exact .cons (h.er R e1) (Hlds.ers R hs e2)
def tdCE (f : List D → Option D) (ta : TAd) : TEd := fun σ K => ta σ fun rs σ1 => bindO (rdEs σ1 rs) fun ds => bindO (f ds) fun d => K (.t (.fz d)) σ1
theorem ce_imp {r : List V → Hp → VK → Prop} {f : List D → Option D} (hf : CallE X.w r f) {σ : St} {H : Hp} {Q : VK} (h : liftE X.w Z (tdCE f ta) σ H Q) : tCB r (liftA X.w Z ta) σ H Q := by
  obtain ⟨U, G, σd, K, R, q, k⟩ := h
  refine ⟨U, G, σd, _, R, q, fun rs σ1 vs H1 U1 G1 q1 e1 R1 hs => ?_⟩
  obtain ⟨ds, z1, q1⟩ := bindO_ex q1
  obtain ⟨d, z2, q1⟩ := bindO_ex q1
  exact hf H1 vs ds d Q (hs.ers R1 z1) z2 fun v hv => k _ _ _ _ _ _ q1 e1 (R1.topD (hv G1))
def lenD : List D → Option D
  | [.lst xs] => some (.int xs.length)
  | [.tup xs] => some (.int xs.length)
  | [.str x] => if x.length ≤ sizeLine then some (.int x.length) else none
  | _ => none
theorem ok_len {K : PySem.W.Frag} : CallE w (fun xs H Q => ∃ x n, xs = [x] ∧ LenV K x H n ∧ Q (.int n) H) lenD := fun H xs ds d Q h e k => by
  unfold lenD at e
  split at e
  · cases e
    cases h with
    | cons h t =>
      cases t
      cases h with
      | lst h r => exact ⟨_, _, rfl, .inl ⟨_, .inl h, rfl⟩, k _ fun _ => by rw [r.length]; exact .int _⟩
  · cases e
    cases h with
    | cons h t =>
      cases t
      cases h with
      | tup h r => exact ⟨_, _, rfl, .inr ⟨_, .inl h, rfl⟩, k _ fun _ => by rw [r.length]; exact .int _⟩
  · split at e
    · cases e
      cases h with
      | cons h t =>
        cases t
        cases h with
        | str x => exact ⟨_, _, rfl, ⟨by assumption, rfl⟩, k _ fun _ => .int _⟩
    · cases e
  · cases e
end
end M
/-! M10: dicts: the raw object, the operations by values. -/
namespace M
open PySem L2
theorem leafIs_of {k : Leaf} {v : Value} (h : leafIs k v = true) : k.isOf v = true := (Bool.and_eq_true_iff.mp h).1
def pl3 (P : Program) (w : World) : PySem.KeyKind P w Leaf where
  is := leafIs
  hash := fun k => k.key.hash w
  inj := fun v a b ha hb => (leafKind P w).inj v a b (leafIs_of ha) (leafIs_of hb)
  byValue := fun k v h => (leafKind P w).byValue k v (leafIs_of h)
  pyHash := fun hv h => (leafKind P w).pyHash (leafIs_of hv) h
  eqBool := fun hu hv h => (leafKind P w).eqBool (leafIs_of hu) (leafIs_of hv) h
  «strs» := fun k x t v h => by
    have h1 := (leafKind P w).strs k x t v (leafIs_of h)
    have h2 : leafIs k v = k.isOf v := by
      unfold leafIs
      cases v <;> simp
      cases k <;> simp [leafIs, Leaf.isOf, Value.isStrOf] at h ⊢
    exact h2.trans h1
theorem leafIs_rel {k : Leaf} {v : Value} : leafIs k v = true ↔ RelV (leafV k) v := by
  constructor
  · intro h
    have h1 := leafIs_of h
    cases k with
    | none => cases v <;> first | rfl | (simp [Leaf.isOf] at h1)
    | num i =>
      cases v with
      | int j t =>
        have : j = i := of_decide_eq_true h1
        subst this
        exact ⟨t, rfl⟩
      | bool b => simp [leafIs] at h
      | _ => simp [Leaf.isOf] at h1
    | text x =>
      obtain ⟨t, rfl⟩ := Value.isStrOf_shape (show Value.isStrOf x v = true from h1)
      exact ⟨t, rfl⟩
  · intro h
    cases k with
    | none => cases h; rfl
    | num i => obtain ⟨t, rfl⟩ := h; simp [leafIs, Leaf.isOf]
    | text x => obtain ⟨t, rfl⟩ := h; simp [leafIs, Leaf.isOf, Value.isStrOf]
theorem LEnt.len {w : World} : ∀ {es ks us}, LEnt w es ks us → es.length = us.length ∧ ks.length = us.length
  | _, _, _, .nil => ⟨rfl, rfl⟩
  | _, _, _, .cons _ _ _ r => ⟨congrArg (· + 1) r.len.1, congrArg (· + 1) r.len.2⟩
theorem LEnt.pairs {P : Program} {w : World} : ∀ {es ks us}, LEnt w es ks us → Pairs (pl3 P w) es (ks.zip us)
  | _, _, _, .nil => .nil
  | _, _, _, .cons h1 _ h3 r => .cons h1 h3 r.pairs
theorem LEnt.keys {P : Program} {w : World} : ∀ {es ks us}, LEnt w es ks us → ∀ e ∈ es, ∃ k, (pl3 P w).is k e.key = true ∧ e.hash = (pl3 P w).hash k
  | _, _, _, .nil, e, h => by cases h
  | _, _, _, .cons h1 h2 _ r, e, h => by
    rcases List.mem_cons.mp h with rfl | h
    · exact ⟨_, h1, h2⟩
    · exact r.keys e h
theorem LEnt.of {P : Program} {w : World} : ∀ {es : List DictEntry} {kvs : List (Leaf × Value)}, Pairs (pl3 P w) es kvs → (∀ e ∈ es, ∃ k, (pl3 P w).is k e.key = true ∧ e.hash = (pl3 P w).hash k) → LEnt w es (kvs.map (·.1)) (kvs.map (·.2))
  | _, _, .nil, _ => .nil
  | _, _, .cons (e := e) (kv := kv) h1 h2 r, hk => by
    obtain ⟨k, a, b⟩ := hk e List.mem_cons_self
    have : k = kv.1 := (pl3 P w).inj e.key k kv.1 a h1
    subst this
    exact .cons h1 b h2 (LEnt.of r fun e he => hk e (List.mem_cons_of_mem _ he))
/-- tuple keys -/
def isTupK : NestedKey → Bool
  | .tup _ => true
  | _ => false
theorem leaf_notTup (l : Leaf) : isTupK l.key = false := by cases l <;> rfl
/-- the place of a key -/
def idxK : List NestedKey → NestedKey → Option Nat
  | [], _ => none
  | k :: ks, q => if k = q then some 0 else (idxK ks q).map (· + 1)
theorem idxK_cons (k : NestedKey) (ks : List NestedKey) (q : NestedKey) : idxK (k :: ks) q = if k = q then some 0 else (idxK ks q).map (· + 1) := rfl
theorem nodup_of_map {α β : Type} {f : α → β} {l : List α} (h : (l.map f).Nodup) : l.Nodup := by
  induction l with
  | nil => exact .nil
  | cons a l ih =>
    rw [List.map_cons, List.nodup_cons] at h
    exact List.nodup_cons.mpr ⟨fun q => h.1 (List.mem_map_of_mem q), ih h.2⟩
theorem idxK_get {ks : List NestedKey} {q : NestedKey} {i : Nat} (h : idxK ks q = some i) : ks[i]? = some q := by
  induction ks generalizing i with
  | nil => cases h
  | cons k ks ih =>
    unfold idxK at h
    by_cases e : k = q
    · rw [if_pos e] at h; cases h; simp [e]
    · rw [if_neg e] at h
      cases z : idxK ks q with
      | none => rw [z] at h; cases h
      | some j => rw [z] at h; cases h; simpa using ih z
theorem idxK_none {ks : List NestedKey} {q : NestedKey} (h : idxK ks q = none) : q ∉ ks := by
  induction ks with
  | nil => simp
  | cons k ks ih =>
    unfold idxK at h
    by_cases e : k = q
    · rw [if_pos e] at h; cases h
    · rw [if_neg e] at h
      cases z : idxK ks q with
      | none =>
        intro hm
        rcases List.mem_cons.mp hm with r | r
        · exact e r.symm
        · exact ih z r
      | some j => rw [z] at h; cases h
/-- at a stands the dict o with the keys ks (their values kv), the values vs -/
structure DicV (w : World) (H : Hp) (a : Addr) (o : Obj) (ks : List NestedKey) (kv vs : List V) : Prop where
  at_ : H a = some (pin a o)
  ok : DicO w o ks kv vs
  ns : (a == sysModules) = false
  rd : ∃ kds, DRs w H kv kds ∧ D.keys kds = some ks
mutual
/-- a value that reads as a key is that key -/
theorem DR.nested {P : Program} {w : World} {H : Hp} {h : Heap} (ok : HOk P w H h) : ∀ {v : V} {d : D} {k : NestedKey} {u : Value}, DR w H v d → d.key = some k → RelV v u → NestedIs h k u
  | _, _, _, _, .non, e, r => by cases e; cases r; exact .none
  | _, _, _, _, .bl b, e, r => by cases e
  | _, _, _, _, .int i, e, r => by cases e; obtain ⟨t, rfl⟩ := r; exact .int _ _
  | _, _, _, _, .str x, e, r => by cases e; obtain ⟨t, rfl⟩ := r; exact .text _ _
  | _, _, _, _, .ref a, e, r => by cases e
  | _, _, _, _, .tup (ds := ds) hh rr, e, r => by
    dsimp only [D.key] at e
    cases z : D.keys ds with
    | none => rw [z] at e; cases e
    | some ks =>
      rw [z] at e
      cases e
      cases r
      obtain ⟨_, its, rv, ob, ho, hc, n, hd⟩ := hh.ok ok
      exact .tup ho hc hd (by simpa using DRs.nested ok rr z rv)
  | _, _, _, _, .lst _ _, e, r => by cases e
  | _, _, _, _, .dic _ _ _ _ _ _, e, r => by cases e
  | _, _, _, _, .ins _ _ _, e, r => by cases e
  | _, _, _, _, .fn _ _ _, e, r => by cases e
  | _, _, _, _, .opq _, e, r => by cases e
theorem DRs.nested {P : Program} {w : World} {H : Hp} {h : Heap} (ok : HOk P w H h) : ∀ {vs : List V} {ds : List D} {ks : List NestedKey} {us : List Value}, DRs w H vs ds → D.keys ds = some ks → Vals vs us → NestedAll h ks us
  | _, _, _, _, .nil, e, r => by cases e; cases r; exact .nil
  | _, _, _, _, .cons (d := d) (ds := ds) hh rr, e, r => by
    dsimp only [D.keys] at e
    cases z : D.key d with
    | none => rw [z] at e; cases e
    | some k =>
      cases z2 : D.keys ds with
      | none => rw [z, z2] at e; cases e
      | some ks =>
        rw [z, z2] at e
        cases e
        cases r with
        | cons r1 r2 => exact .cons (DR.nested ok hh z r1) (DRs.nested ok rr z2 r2)
end
/-- a value as a key -/
def KeyR (w : World) (H : Hp) (k : NestedKey) (y : V) : Prop := ∃ d, DR w H y d ∧ d.key = some k ∧ k.depth ≤ 8
theorem KeyR.leaf {w : World} {H : Hp} {k : NestedKey} {y : V} (h : KeyR w H k y) (nt : isTupK k = false) : ∃ l : Leaf, k = l.key ∧ y = leafV l := by
  obtain ⟨d, r, e, _⟩ := h
  cases r with
  | non => cases e; exact ⟨.none, rfl, rfl⟩
  | bl b => cases e
  | int i => cases e; exact ⟨.num i, rfl, rfl⟩
  | str x => cases e; exact ⟨.text x, rfl, rfl⟩
  | ref a => cases e
  | tup h r =>
    dsimp only [D.key] at e
    cases z : D.keys _ with
    | none => rw [z] at e; cases e
    | some ks => rw [z] at e; cases e; cases nt
  | lst _ _ => cases e
  | dic _ _ _ _ _ _ => cases e
  | ins _ _ _ => cases e
  | fn _ _ _ => cases e
  | opq _ => cases e
theorem KeyR.tup {w : World} {H : Hp} {k : NestedKey} {y : V} (h : KeyR w H k y) (t : isTupK k = true) : ∃ b, y = .ref b := by
  obtain ⟨d, r, e, _⟩ := h
  cases r with
  | tup h r => exact ⟨_, rfl⟩
  | non => cases e; cases t
  | bl b => cases e
  | int i => cases e; cases t
  | str x => cases e; cases t
  | ref a => cases e
  | lst _ _ => cases e
  | dic _ _ _ _ _ _ => cases e
  | ins _ _ _ => cases e
  | fn _ _ _ => cases e
  | opq _ => cases e
/-- where a dict's keys are all leaves, it is a leaf dict; .. -/
theorem DicO.asLeaf {w : World} {o : Obj} {ks : List NestedKey} {kv vs : List V} (h : DicO w o ks kv vs) (nt : ∀ k ∈ ks, isTupK k = false) : ∃ es ep us ls, o.ExactDict ∧ o.data = .dict es ep ∧ LEnt w es.toList ls us ∧ ls.Nodup ∧ Vals vs us ∧ vs.length ≤ sizeLine ∧ ks = ls.map Leaf.key ∧ kv = ls.map leafV := by
  cases h with
  | leaf hx hd he nd r sz => exact ⟨_, _, _, _, hx, hd, he, nd, r, sz, rfl, rfl⟩
  | @tup es ep xs vs hx hd he ht nd r sz =>
    have : xs = [] := by
      cases xs with
      | nil => rfl
      | cons x xs =>
        obtain ⟨r, e, _⟩ := ht x List.mem_cons_self
        have := nt x.1 (by simp)
        rw [e] at this; cases this
    subst this
    cases r
    exact ⟨es, ep, [], [], hx, hd, by rw [he]; exact .nil, .nil, .nil, sz, rfl, rfl⟩
theorem DicO.asTup {w : World} {o : Obj} {ks : List NestedKey} {kv vs : List V} (h : DicO w o ks kv vs) (t : ∀ k ∈ ks, isTupK k = true) : ∃ (es : Array DictEntry) (ep : Nat) (xs : List (NestedKey × Addr × Value)), o.ExactDict ∧ o.data = .dict es ep ∧ (es.toList = xs.map fun x => (⟨x.1.hash w, .ref x.2.1, x.2.2⟩ : DictEntry)) ∧
    (∀ x ∈ xs, ∃ r, x.1 = .tup r ∧ x.1.depth ≤ 8) ∧ (xs.map (·.1)).Nodup ∧ Vals vs (xs.map (·.2.2)) ∧ vs.length ≤ sizeLine ∧ ks = xs.map (·.1) ∧ kv = xs.map fun x => V.ref x.2.1 := by
  cases h with
  | @tup es ep xs vs hx hd he ht nd r sz => exact ⟨es, ep, xs, hx, hd, he, ht, nd, r, sz, rfl, rfl⟩
  | @leaf es ep ls us vs hx hd he nd r sz =>
    have : ls = [] := by
      cases ls with
      | nil => rfl
      | cons x xs =>
        have := t x.key (by simp)
        rw [leaf_notTup] at this; cases this
    subst this
    generalize hes : es.toList = el at he
    cases he
    cases r
    exact ⟨es, ep, [], hx, hd, hes, fun x hx => (by cases hx), .nil, .nil, sz, rfl, rfl⟩
theorem DicO.lens {w : World} {o : Obj} {ks : List NestedKey} {kv vs : List V} (h : DicO w o ks kv vs) : ks.length = vs.length ∧ kv.length = vs.length ∧ vs.length ≤ sizeLine ∧ ks.Nodup := by
  cases h with
  | leaf hx hd he nd r sz =>
    have h1 := he.len
    have h2 := r.length
    refine ⟨by simp; omega, by simp; omega, sz, ?_⟩
    exact List.Pairwise.map _ (fun a b h e => h (Leaf.key_inj e)) nd
  | tup hx hd he ht nd r sz =>
    have h2 := r.length
    simp at h2
    exact ⟨by simp; omega, by simp; omega, sz, nd⟩
end M
namespace M
open PySem L2
section
variable {X : Cx} {pins : List (Addr × Obj)} {σ : St} {H : Hp} {s : Shared} {a : Addr} {o : Obj} {ks : List NestedKey} {kv vs : List V} {A : Around} {E : Value → Shared → Prop}
theorem pin_at (I : Inv X pins σ H s) (h : H a = some (pin a o)) : s.heap.get? a = some o := (I.hok a _ h).1
theorem pin_ok {P : Program} {w : World} {H : Hp} {h : Heap} (e : h.get? a = some o) : ObjOk P w H h a (pin a o) := ⟨e, ⟨o, e⟩, fun h1 h2 p k => k _ p⟩
theorem DicV.leafD (I : Inv X pins σ H s) (d : DicV X.w H a o ks kv vs) (nt : ∀ k ∈ ks, isTupK k = false) : ∃ (ls : List Leaf) (us : List Value), s.heap.DictOf (pl3 X.prog X.w) a (ls.zip us) ∧ Vals vs us ∧ ks = ls.map Leaf.key ∧ kv = ls.map leafV ∧ ls.length = us.length ∧ vs.length ≤ sizeLine := by
  obtain ⟨es, ep, us, ls, hx, hd, he, nd, r, sz, e1, e2⟩ := d.ok.asLeaf nt
  have hl := he.len
  refine ⟨ls, us, ⟨o, es, ep, pin_at I d.at_, hx, hd, fun e he' => ?_, he.pairs, ?_⟩, r, e1, e2, hl.2, sz⟩
  · exact he.keys e (by simpa using he')
  · rw [List.map_fst_zip (by omega)]; exact nd
theorem DicV.tupD (I : Inv X pins σ H s) (d : DicV X.w H a o ks kv vs) (t : ∀ k ∈ ks, isTupK k = true) : ∃ xs : List (NestedKey × Addr × Value), s.heap.DictOfH (nestedKind X.prog X.w) a xs ∧ Vals vs (xs.map (·.2.2)) ∧ ks = xs.map (·.1) ∧ kv = (xs.map fun x => V.ref x.2.1) ∧ vs.length ≤ sizeLine := by
  obtain ⟨es, ep, xs, hx, hd, he, ht, nd, r, sz, e1, e2⟩ := d.ok.asTup t
  obtain ⟨kds, rk, ek⟩ := d.rd
  refine ⟨xs, ⟨o, es, ep, pin_at I d.at_, hx, hd, he, fun x hxm => ⟨?_, (ht x hxm).choose_spec.2⟩, nd⟩, r, e1, e2, sz⟩
  -- the key's tuple
  obtain ⟨i, hi⟩ := List.mem_iff_getElem?.mp hxm
  have hv : Vals kv (xs.map fun x => Value.ref x.2.1) := by
    rw [e2]
    clear hxm hi
    induction xs with
    | nil => exact .nil
    | cons x xs ih => exact .cons rfl (by
        clear ih
        generalize xs = l
        induction l with
        | nil => exact .nil
        | cons y l ih => exact .cons rfl ih)
  have all := DRs.nested I.hok rk (ek.trans (by rw [e1])) hv
  have : ∀ {kks : List NestedKey} {vvs : List Value}, NestedAll s.heap kks vvs → ∀ (i : Nat) k v, kks[i]? = some k → vvs[i]? = some v → NestedIs s.heap k v := by
    intro kks vvs h
    induction kks generalizing vvs with
    | nil => intro i k v h1; simp at h1
    | cons kk kks ih =>
      cases h with
      | cons h1 h2 =>
        intro i k v e1 e2
        cases i with
        | zero => simp at e1 e2; subst e1; subst e2; exact h1
        | succ i => exact ih h2 i k v (by simpa using e1) (by simpa using e2)
  exact this all i x.1 (.ref x.2.1) (by rw [List.getElem?_map, hi]; rfl) (by rw [List.getElem?_map, hi]; rfl)
/-- keys of one family -/
def fam (k : NestedKey) (ks : List NestedKey) : Bool := ks.all fun q => isTupK q == isTupK k
theorem fam_leaf {k : NestedKey} {ks : List NestedKey} (f : fam k ks = true) (h : isTupK k = false) : ∀ q ∈ ks, isTupK q = false := fun q hq => by
  have := List.all_eq_true.mp f q hq
  rw [h] at this
  simpa using this
theorem fam_tup {k : NestedKey} {ks : List NestedKey} (f : fam k ks = true) (h : isTupK k = true) : ∀ q ∈ ks, isTupK q = true := fun q hq => by
  have := List.all_eq_true.mp f q hq
  rw [h] at this
  simpa using this
theorem valueAt_zip {ls : List Leaf} {us : List Value} (k : Leaf) : valueAt (ls.zip us) k = (idxK (ls.map Leaf.key) k.key).bind fun i => us[i]? := by
  induction ls generalizing us with
  | nil => rfl
  | cons l ls ih =>
    cases us with
    | nil =>
      show none = _
      cases idxK _ _ <;> simp
    | cons u us =>
      show (((l, u) :: ls.zip us).find? fun kv => decide (kv.1 = k)).map (·.2) = _
      rw [List.find?_cons, List.map_cons]
      unfold idxK
      by_cases e : l = k
      · simp [e]
      · have : ¬ l.key = k.key := fun q => e (Leaf.key_inj q)
        rw [if_neg this]
        simp only [e, decide_false]
        have := ih (us := us)
        unfold valueAt at this
        rw [this]
        cases idxK (ls.map Leaf.key) k.key <;> rfl
theorem atKey_ix {xs : List (NestedKey × Addr × Value)} (k : NestedKey) : (atKey xs k).map (·.2) = (idxK (xs.map (·.1)) k).bind fun i => (xs.map (·.2.2))[i]? := by
  induction xs with
  | nil => rfl
  | cons x xs ih =>
    unfold atKey at ih ⊢
    rw [List.find?_cons, List.map_cons, List.map_cons]
    unfold idxK
    by_cases e : x.1 = k
    · simp [e]
    · rw [if_neg e]
      simp only [e, decide_false]
      rw [ih]
      cases idxK (xs.map (·.1)) k <;> rfl
theorem dic_get {k : NestedKey} {y v : V} {u : Value} {i : Nat} {Q : Value → Shared → Prop} (hu : A.units + 10 < cLine) (I : Inv X pins σ H s) (d : DicV X.w H a o ks kv vs) (ky : KeyR X.w H k y) (ry : RelV y u) (f : fam k ks = true) (hi : idxK ks k = some i) (hv : vs[i]? = some v)
    (q : ∀ s' u', Inv X pins σ H s' → RelV v u' → Q u' s') : wpAny (model X.prog X.w) A (getItem (.ref a) u) Q E s := by
  cases t : isTupK k with
  | false =>
    obtain ⟨ls, us, hd, r, e1, e2, hl, sz⟩ := d.leafD I (fam_leaf f t)
    obtain ⟨l, rfl, rfl⟩ := ky.leaf t
    obtain ⟨u', hu', ru'⟩ := r.get hv
    refine wpAny_getItem_of (knd := pl3 X.prog X.w) (k := l) (leafIs_rel.mpr ry) hd.mapOf ?_ (q _ u' (I.tok _) ru')
    rw [valueAt_zip, ← e1, hi]
    exact hu'
  | true =>
    obtain ⟨xs, hd, r, e1, e2, sz⟩ := d.tupD I (fam_tup f t)
    obtain ⟨b, rfl⟩ := ky.tup t
    obtain ⟨dd, h1, h2, h3⟩ := ky
    cases ry
    obtain ⟨u', hu', ru'⟩ := r.get hv
    have hat : (atKey xs k).map (·.2) = some u' := by rw [atKey_ix, ← e1, hi]; exact hu'
    obtain ⟨p, hp, e⟩ := Option.map_eq_some_iff.mp hat
    subst e
    exact wpAny_getItem_heap (knd := nestedKind X.prog X.w) (by show A.in1.units + 8 < cLine; simp only [Around.in1_units]; omega) ⟨DR.nested I.hok h1 h2 rfl, h3⟩ hd hp (q _ p.2 (I.tok _) ru')
theorem isSome_idx {α : Type} {ks : List NestedKey} {us : List α} (h : ks.length = us.length) (k : NestedKey) : ((idxK ks k).bind fun i => us[i]?).isSome = (idxK ks k).isSome := by
  cases z : idxK ks k with
  | none => rfl
  | some i =>
    have := getN (idxK_get z)
    show (us[i]?).isSome = true
    rw [List.getElem?_eq_getElem (by omega)]
    rfl
theorem dic_in {k : NestedKey} {y : V} {u : Value} {neg : Bool} {Q : Value → Shared → Prop} (hu : A.units + 10 < cLine) (I : Inv X pins σ H s) (d : DicV X.w H a o ks kv vs) (ky : KeyR X.w H k y) (ry : RelV y u) (f : fam k ks = true)
    (q : ∀ s', Inv X pins σ H s' → Q (.bool (neg != (idxK ks k).isSome)) s') : wpAny (model X.prog X.w) A (compareOp (if neg then .NotIn else .In) u (.ref a)) Q E s := by
  have hl0 := d.ok.lens.1
  cases t : isTupK k with
  | false =>
    obtain ⟨ls, us, hd, r, e1, e2, hl, sz⟩ := d.leafD I (fam_leaf f t)
    obtain ⟨l, rfl, rfl⟩ := ky.leaf t
    have e : (valueAt (ls.zip us) l).isSome = (idxK ks l.key).isSome := by
      rw [valueAt_zip, ← e1, isSome_idx (by rw [e1]; simpa using hl)]
    cases neg with
    | false => exact wpAny_in_of (knd := pl3 X.prog X.w) (k := l) (leafIs_rel.mpr ry) d.ns hd.mapOf (by rw [e]; simpa using q _ (I.tok _))
    | true => exact wpAny_notIn_of (knd := pl3 X.prog X.w) (k := l) (leafIs_rel.mpr ry) d.ns hd.mapOf (by rw [e]; simpa using q _ (I.tok _))
  | true =>
    obtain ⟨xs, hd, r, e1, e2, sz⟩ := d.tupD I (fam_tup f t)
    obtain ⟨b, rfl⟩ := ky.tup t
    obtain ⟨dd, h1, h2, h3⟩ := ky
    cases ry
    have hr : (nestedKind X.prog X.w).room A.in1 := by show A.in1.units + 8 < cLine; simp only [Around.in1_units]; omega
    have hk : (nestedKind X.prog X.w).is s.heap k b := ⟨DR.nested I.hok h1 h2 rfl, h3⟩
    have e : (atKey xs k).isSome = (idxK ks k).isSome := by
      have := atKey_ix (xs := xs) k
      rw [← e1] at this
      rw [← Option.isSome_map (f := fun p : Addr × Value => p.2), this, isSome_idx (by rw [e1]; simp)]
    cases neg with
    | false => exact wpAny_in_heap hr hk d.ns hd (by rw [e]; simpa using q _ (I.tok _))
    | true =>
      show wpAny _ _ (do return .bool (!(← contains (.ref a) (.ref b)))) Q E s
      exact wpAny_bind (wpAny_contains_heap hr hk d.ns hd (wpAny_pure (by rw [e]; simpa using q _ (I.tok _))))
/-- behind d[k] = v -/
def putK3 (ks : List NestedKey) (kv vs : List V) (k : NestedKey) (y v : V) : List NestedKey × List V × List V := match idxK ks k with
  | some i => (ks, kv, vs.set i v)
  | none => (ks ++ [k], kv ++ [y], vs ++ [v])
theorem any_ix {ls : List Leaf} {us : List Value} (hl : ls.length = us.length) (k : Leaf) : ((ls.zip us).any fun kv => decide (kv.1 = k)) = (idxK (ls.map Leaf.key) k.key).isSome := by
  induction ls generalizing us with
  | nil => rfl
  | cons l ls ih =>
    cases us with
    | nil => cases hl
    | cons u us =>
      show (decide (l = k) || (ls.zip us).any _) = _
      rw [ih (by simpa using hl), List.map_cons, idxK_cons]
      by_cases e : l = k
      · simp [e]
      · have : ¬ l.key = k.key := fun q => e (Leaf.key_inj q)
        rw [if_neg this]
        simp [e]
theorem map_set_ix {ls : List Leaf} {us : List Value} {k : Leaf} {i : Nat} {v : Value} (hl : ls.length = us.length) (nd : ls.Nodup) (h : idxK (ls.map Leaf.key) k.key = some i) : ((ls.zip us).map fun kv => if kv.1 = k then (kv.1, v) else kv) = ls.zip (us.set i v) := by
  induction ls generalizing us i with
  | nil => cases h
  | cons l ls ih =>
    cases us with
    | nil => cases hl
    | cons u us =>
      rw [List.map_cons] at h
      unfold idxK at h
      have nd' := List.nodup_cons.mp nd
      by_cases e : l = k
      · subst e
        rw [if_pos rfl] at h
        cases h
        rw [List.zip_cons_cons, List.map_cons, List.set_cons_zero, List.zip_cons_cons]
        rw [if_pos rfl]
        congr 1
        have : ∀ {ls : List Leaf} {us : List Value}, l ∉ ls → ((ls.zip us).map fun kv => if kv.1 = l then (kv.1, v) else kv) = ls.zip us := by
          intro ls
          induction ls with
          | nil => intro us _; rfl
          | cons a ls ih =>
            intro us hm
            cases us with
            | nil => rfl
            | cons b us =>
              have h1 : ¬ a = l := fun e => hm (by simp [e])
              rw [List.zip_cons_cons, List.map_cons]
              rw [if_neg h1, ih (fun q => hm (List.mem_cons_of_mem _ q))]
        exact this nd'.1
      · have : ¬ l.key = k.key := fun q => e (Leaf.key_inj q)
        rw [if_neg this] at h
        cases z : idxK (ls.map Leaf.key) k.key with
        | none => rw [z] at h; cases h
        | some j =>
          rw [z] at h
          cases h
          rw [List.zip_cons_cons, List.map_cons, List.set_cons_succ, List.zip_cons_cons]
          rw [if_neg e, ih (by simpa using hl) nd'.2 z]
theorem putAt_set {xs : List (NestedKey × Addr × Value)} {k : NestedKey} {i : Nat} {v : Value} (nd : (xs.map (·.1)).Nodup) (h : idxK (xs.map (·.1)) k = some i) : (xs.map (putAt k v)).map (·.2.2) = (xs.map (·.2.2)).set i v ∧ (xs.map (putAt k v)).map (·.1) = xs.map (·.1) ∧ ((xs.map (putAt k v)).map fun x => V.ref x.2.1) = xs.map fun x => V.ref x.2.1 := by
  refine ⟨?_, keys_map_putAt xs k v, ?_⟩
  · induction xs generalizing i with
    | nil => cases h
    | cons x xs ih =>
      rw [List.map_cons] at h nd
      unfold idxK at h
      have nd' := List.nodup_cons.mp nd
      by_cases e : x.1 = k
      · rw [if_pos e] at h
        cases h
        rw [List.map_cons, List.map_cons, putAt, if_pos e, map_putAt_of_not_mem _ _ _ (by rw [← e]; exact nd'.1)]
        rfl
      · rw [if_neg e] at h
        cases z : idxK (xs.map (·.1)) k with
        | none => rw [z] at h; cases h
        | some j =>
          rw [z] at h
          cases h
          rw [List.map_cons, List.map_cons, putAt, if_neg e, ih nd'.2 z]
          rfl
  · rw [List.map_map]
    refine List.map_congr_left fun x _ => ?_
    show V.ref (putAt k v x).2.1 = _
    unfold putAt
    split <;> rfl
theorem inv_pinW {o' : Obj} {h' : Heap} {t' : Nat} (I : Inv X pins σ H s) (d : H a = some (pin a o)) (sb : Heap.SameBut a s.heap h') (e : h'.get? a = some o') : Inv X pins σ (upd H a (pin a o')) { s with heap := h', toks := t' } :=
  I.write (x := a) (e := a) (by rw [d]; exact True.intro) (.inl rfl) (fun b u hb q => (sb.2 b hb).trans q) ⟨o', e⟩ (pin_ok e)
theorem dic_put {k : NestedKey} {y v : V} {u r : Value} {Q : Unit → Shared → Prop} (hu : A.units + 10 < cLine) (I : Inv X pins σ H s) (d : DicV X.w H a o ks kv vs) (ky : KeyR X.w H k y) (ry : RelV y u) (rv : RelV v r) (f : fam k ks = true) (hz : vs.length < sizeLine)
    (q : ∀ s' o', Inv X pins σ (upd H a (pin a o')) s' → DicO X.w o' (putK3 ks kv vs k y v).1 (putK3 ks kv vs k y v).2.1 (putK3 ks kv vs k y v).2.2 → Q () s') : wpAny (model X.prog X.w) A (setItem (.ref a) u r) Q E s := by
  cases t : isTupK k with
  | false =>
    obtain ⟨ls, us, hd, rr, e1, e2, hl, sz⟩ := d.leafD I (fam_leaf f t)
    obtain ⟨l, rfl, rfl⟩ := ky.leaf t
    have hlu := rr.length
    have nd : ls.Nodup := by
      have := d.ok.lens.2.2.2
      rw [e1] at this
      exact nodup_of_map this
    refine wpAny_setItem_pairs (knd := pl3 X.prog X.w) (k := l) (leafIs_rel.mpr ry) hd (fun h' hd' sb => ?_) (by simp; omega)
    obtain ⟨o', es, ep, ho, hx, hdt, hk, hp, hn⟩ := hd'
    refine q _ o' (inv_pinW I d.at_ sb ho) ?_
    have L := LEnt.of hp fun e he => hk e (by simpa using he)
    unfold putK3
    unfold stored at L hn
    rw [any_ix hl l, ← e1] at L hn
    cases z : idxK ks l.key with
    | some i =>
      rw [z] at L hn
      simp only [Option.isSome_some, if_true] at L hn
      rw [e1] at z
      rw [map_set_ix hl nd z, List.map_fst_zip (by rw [List.length_set]; omega), List.map_snd_zip (by rw [List.length_set]; omega)] at L
      rw [e1, e2]
      exact .leaf hx hdt L nd (rr.set rv i) (by rw [List.length_set]; exact sz)
    | none =>
      rw [z] at L hn
      simp only [Option.isSome_none, if_neg Bool.false_ne_true] at L hn
      rw [List.map_append, List.map_append, List.map_fst_zip (by omega), List.map_snd_zip (by omega)] at L
      rw [List.map_append, List.map_fst_zip (by omega)] at hn
      rw [e1, e2]
      have := DicO.leaf (w := X.w) hx hdt L hn (rr.append (.cons rv .nil)) (by rw [List.length_append, List.length_singleton]; omega)
      rw [List.map_append, List.map_append] at this
      exact this
  | true =>
    obtain ⟨xs, hd, rr, e1, e2, sz⟩ := d.tupD I (fam_tup f t)
    obtain ⟨b, rfl⟩ := ky.tup t
    obtain ⟨dd, h1, h2, h3⟩ := ky
    cases ry
    have hr : (nestedKind X.prog X.w).room A.in1 := by show A.in1.units + 8 < cLine; simp only [Around.in1_units]; omega
    have hk : (nestedKind X.prog X.w).is s.heap k b := ⟨DR.nested I.hok h1 h2 rfl, h3⟩
    have nd : (xs.map (·.1)).Nodup := by rw [← e1]; exact d.ok.lens.2.2.2
    have hlu := rr.length
    simp at hlu
    have hall : ∀ x ∈ xs, ∃ r, x.1 = .tup r ∧ x.1.depth ≤ 8 := by
      obtain ⟨es, ep, xs', hx, hdt, he, ht, nd', rr', sz', e1', e2'⟩ := d.ok.asTup (fam_tup f t)
      intro x hxm
      obtain ⟨x', hx', ex⟩ := List.mem_map.mp (show x.1 ∈ xs'.map (·.1) by rw [← e1', e1]; exact List.mem_map_of_mem hxm)
      obtain ⟨r, q1, q2⟩ := ht x' hx'
      exact ⟨r, by rw [← ex]; exact q1, by rw [← ex]; exact q2⟩
    refine wpAny_setItem_heap hr hk hd (fun h' hd' sb => ?_) (by omega)
    obtain ⟨o', es, ep, ho, hx, hdt, he, hi, hn⟩ := hd'
    refine q _ o' (inv_pinW I d.at_ sb ho) ?_
    have hs : (atKey xs k).isSome = (idxK ks k).isSome := by
      have := atKey_ix (xs := xs) k
      rw [← e1] at this
      rw [← Option.isSome_map (f := fun p : Addr × Value => p.2), this, isSome_idx (by rw [e1]; simp)]
    have he' : es.toList = (storedH xs k b r).map fun x => (⟨x.1.hash X.w, .ref x.2.1, x.2.2⟩ : DictEntry) := he
    unfold putK3
    unfold storedH at he' hn
    rw [hs] at he' hn
    cases z : idxK ks k with
    | some i =>
      rw [z] at he' hn
      simp only [Option.isSome_some, if_true] at he' hn
      rw [e1] at z
      obtain ⟨p1, p2, p3⟩ := putAt_set (v := r) nd z
      have := DicO.tup (w := X.w) (vs := vs.set i v) hx hdt he' (fun x hxm => ?_) hn (by rw [p1]; exact rr.set rv i) (by rw [List.length_set]; exact sz)
      · rw [p2, p3] at this
        rw [e1, e2]
        exact this
      · obtain ⟨x', hx', ex⟩ := List.mem_map.mp hxm
        have : x.1 = x'.1 := by
          rw [← ex]
          unfold putAt
          split <;> rfl
        rw [this]
        exact hall x' hx'
    | none =>
      rw [z] at he' hn
      simp only [Option.isSome_none, if_neg Bool.false_ne_true] at he' hn
      have := DicO.tup (w := X.w) (vs := vs ++ [v]) hx hdt he' (fun x hxm => ?_) hn (by rw [List.map_append]; exact rr.append (.cons rv .nil)) (by rw [List.length_append, List.length_singleton]; omega)
      · rw [List.map_append, List.map_append] at this
        rw [e1, e2]
        exact this
      · rcases List.mem_append.mp hxm with q | q
        · exact hall x q
        · simp at q
          subst q
          obtain ⟨rr', hrr⟩ : ∃ rr', k = .tup rr' := by cases k <;> first | exact ⟨_, rfl⟩ | cases t
          exact ⟨rr', hrr, h3⟩
end
end M
/-! M11: subscripts, stores, methods of lists and dicts, built-in functions. -/
namespace M
open PySem PyProof.Rows L2
section
variable {X : Cx} {w : World} {Z : Amb} {ms : List Nat}
/-! ### subscripts by values -/
def rIxD (w : World) : R2 := fun x y H Q => ∃ a o ks kv vs k i v, x = .ref a ∧ DicV w H a o ks kv vs ∧ KeyR w H k y ∧ fam k ks = true ∧ idxK ks k = some i ∧ vs[i]? = some v ∧ Q v H
theorem dic_typeIs {pins : List (Addr × Obj)} {σ : L2.St} {H : Hp} {s : Shared} {a : Addr} {o : Obj} {ks : List NestedKey} {kv vs : List V} (I : Inv X pins σ H s) (d : DicV X.w H a o ks kv vs) : s.TypeIs (.ref a) "dict" ∧ o.ExactDict := by
  have h := pin_at I d.at_
  cases d.ok with
  | leaf hx _ _ _ _ _ => exact ⟨⟨o, h, hx.1⟩, hx⟩
  | tup hx _ _ _ _ _ _ => exact ⟨⟨o, h, hx.1⟩, hx⟩
theorem ix_dic (hu : X.A.units + 10 < cLine) : IxR X (rIxD X.w) := by
  intro value slice pins s σ H x y v u Q I rx ry h hs
  obtain ⟨a, o, ks, kv, vs, k, i, z, rfl, d, ky, f, hi, hv, q⟩ := h
  cases rx
  exact tail_any (dic_typeIs I d).1 PySem.F.slot_dict_getitem.lookup (dic_get hu I d ky ry f hi hv fun s' u' I' r' => ⟨z, H, I', r', q⟩) hs
def rIx4 (K : PySem.W.Frag) (w : World) : R2 := fun x y H Q => rIxD w x y H Q ∨ rIx K x y H Q
theorem ix_any (hu : X.A.units + 10 < cLine) : IxR X (rIx4 X.K X.w) := (ix_dic hu).or ix_seq
/-- a key's place in a dict of data: none where the key can't be asked -/
def dicIx (kvs : List (D × D)) (kd : D) : Option (NestedKey × List NestedKey) := match D.keys (kvs.map (·.1)), kd.key with
  | some ks, some k => if fam k ks = true ∧ k.depth ≤ 8 then some (k, ks) else none
  | _, _ => none
theorem dicIx_run {kvs : List (D × D)} {kd : D} {k : NestedKey} {ks : List NestedKey} (e : dicIx kvs kd = some (k, ks)) : D.keys (kvs.map (·.1)) = some ks ∧ kd.key = some k ∧ fam k ks = true ∧ k.depth ≤ 8 := by
  unfold dicIx at e
  cases z1 : D.keys (kvs.map (·.1)) with
  | none => rw [z1] at e; cases e
  | some ks' =>
    cases z2 : kd.key with
    | none => rw [z1, z2] at e; cases e
    | some k' =>
      rw [z1, z2] at e
      dsimp only at e
      split at e
      · rename_i h
        cases e
        exact ⟨rfl, rfl, h.1, h.2⟩
      · cases e
def dicAt (kvs : List (D × D)) (kd : D) : Option D := match dicIx kvs kd with
  | some (k, ks) => (idxK ks k).bind fun i => (kvs.map (·.2))[i]?
  | none => none
def dicHas (kvs : List (D × D)) (kd : D) : Option Bool := match dicIx kvs kd with
  | some (k, ks) => some (idxK ks k).isSome
  | none => none
def dicPut (kvs : List (D × D)) (kd v : D) : Option (List (D × D)) := match dicIx kvs kd with
  | some (k, ks) => match idxK ks k with
    | some i => some (kvs.modify i fun p => (p.1, v))
    | none => if kvs.length < sizeLine then some (kvs ++ [(kd, v)]) else none
  | none => none
def atD : D → D → Option D
  | .lst xs, .int i => atI xs i
  | .tup xs, .int i => atI xs i
  | .str x, .int i => if x.length ≤ sizeLine then (atI x.cps.toList i).map fun c => .str ⟨#[c]⟩ else none
  | .dic kvs, k => dicAt kvs k
  | _, _ => none
theorem atI_some {α : Type} {xs : List α} {i : Int} {d : α} (h : atI xs i = some d) : ∃ j, ixN xs.length i = some j ∧ xs[j]? = some d := by
  unfold atI at h
  cases z : ixN xs.length i with
  | none => rw [z] at h; cases h
  | some j => rw [z] at h; exact ⟨j, rfl, h⟩
theorem atI_DRs {H : Hp} {vs : List V} {ds : List D} {i : Int} {d : D} (r : DRs w H vs ds) (h : atI ds i = some d) : ∃ v, atI vs i = some v ∧ DR w H v d := by
  obtain ⟨j, h1, h2⟩ := atI_some h
  obtain ⟨v, h3, h4⟩ := r.get h2
  exact ⟨v, by unfold atI; rw [r.length, h1]; exact h3, h4⟩
/-- a value's dict view -/
theorem DicV.of {H : Hp} {a : Addr} {o : Obj} {ks : List NestedKey} {kv vs : List V} {kds : List D} (hn : (a == sysModules) = false) (h : H a = some (pin a o)) (hd : DicO w o ks kv vs) (hk : D.keys kds = some ks) (rk : DRs w H kv kds) : DicV w H a o ks kv vs := ⟨h, hd, hn, kds, rk, hk⟩
/-- x[i]: the item is data where x is read shallow -/
def tdIx (ta tb : TEd) : TEd := fun σ K => ta σ fun x σ1 => tb σ1 fun y σ2 => bindO (rdS σ2 x) fun dx => bindO (rdE σ2 y) fun dy => bindO (atD dx dy) fun d => K (.t (.fz d)) σ2
theorem pd_ix {a b : Expr} {ta tb : TEd} {pos : Pos} (hu : X.A.units + 10 < cLine) (ha : PEd X Z a ta) (hb : PEd X Z b tb) (hs : PlainIx b := by exact fun _ _ => rfl) : PEd X Z (.Subscript a b pos) (tdIx ta tb) :=
  pe_imp (pe_ix (ix_any hu) ha hb hs) fun σ H Q ⟨U, G, σd, K, R, q, k⟩ => by
    refine ⟨U, G, σd, _, R, q, fun x σ1 v1 H1 U1 G1 q1 e1 R1 => ?_⟩
    obtain ⟨U1', G1', e1', R1', h1⟩ := R1.hold
    refine ⟨U1', G1', σ1, _, R1', q1, fun y σ2 v2 H2 U2 G2 q2 e2 R2 => ?_⟩
    obtain ⟨U3, G3, e3, R3, h2⟩ := R2.hold
    obtain ⟨dx, z1, q2⟩ := bindO_ex q2
    obtain ⟨dy, z2, q2⟩ := bindO_ex q2
    obtain ⟨d, z3, q2⟩ := bindO_ex q2
    have hx := (h1.le (e2.g.trans e3.g)).sh R3 z1
    have hy := h2.er R3 z2
    have fin : ∀ v, DR X.w G3 v d → Q v H2 := fun v hv => k _ _ _ _ _ _ q2 (((e1.trans e1').trans e2).trans e3) (R3.topD hv)
    cases dx with
    | lst xs =>
      cases dy with
      | int i =>
        cases hy
        obtain ⟨a, vs, rfl, h4, r⟩ := hx.lst R3.gh
        obtain ⟨v, h5, h6⟩ := atI_DRs r z3
        exact .inr (.inl ⟨a, vs, i, v, rfl, rfl, .inl h4, h5, fin v h6⟩)
      | _ => cases z3
    | tup xs =>
      cases dy with
      | int i =>
        cases hy
        obtain ⟨a, vs, rfl, h4, r⟩ := hx.tup
        obtain ⟨v, h5, h6⟩ := atI_DRs r z3
        exact .inr (.inr (.inl ⟨a, vs, i, v, rfl, rfl, .inl (Rd.le R3.gh h4), h5, fin v h6⟩))
      | _ => cases z3
    | str x =>
      cases dy with
      | int i =>
        cases hy
        cases hx.str
        dsimp only [atD] at z3
        split at z3
        · obtain ⟨c, h5, h6⟩ := Option.map_eq_some_iff.mp z3
          subst h6
          exact .inr (.inr (.inr ⟨x, i, c, rfl, rfl, by assumption, h5, fin _ (.str _)⟩))
        · cases z3
      | _ => cases z3
    | dic kvs =>
      have z3 : dicAt kvs dy = some d := by
        cases dy <;> exact z3
      unfold dicAt at z3
      cases z4 : dicIx kvs dy with
      | none => rw [z4] at z3; cases z3
      | some p =>
        obtain ⟨kk, ks⟩ := p
        rw [z4] at z3
        dsimp only at z3
        obtain ⟨g1, g2, g3, g4⟩ := dicIx_run z4
        cases z5 : idxK ks kk with
        | none => rw [z5] at z3; cases z3
        | some i =>
          rw [z5] at z3
          have z3 : (kvs.map (·.2))[i]? = some d := z3
          have gh := R3.gh
          rcases hx with hx | ⟨a, vs, es, rfl, e, _⟩ | ⟨a, o, ks', kv, vs, kvs', rfl, e, hn, h, hd, hk, rk, rv⟩
          · cases hx with
            | dic hn h hd hk rk rv =>
              rw [g1] at hk; cases hk
              obtain ⟨v, h5, h6⟩ := rv.get z3
              exact .inl ⟨_, _, _, _, _, _, i, v, rfl, .of hn (gh _ _ h) hd g1 (rk.le gh), ⟨dy, hy, g2, g4⟩, g3, z5, h5, fin v h6⟩
          · cases e
          · cases e
            rw [g1] at hk; cases hk
            obtain ⟨v, h5, h6⟩ := rv.get z3
            exact .inl ⟨_, _, _, _, _, _, i, v, rfl, .of hn h hd g1 (rk.le gh), ⟨dy, hy, g2, g4⟩, g3, z5, h5, fin v h6⟩
    | _ => cases dy <;> cases z3

/-! ### slices -/
def tdPart (t : Option TEd) (σ : Sd) (K : Option Int → Sd → Prop) : Prop := match t with
  | none => K none σ
  | some te => tdF te σ fun d σ1 => match d with
    | .int i => K (some i) σ1
    | _ => False
def cutD (xs : List D) (lo hi : Option Int) : List D := (xs.drop (HT.sIx xs.length 0 lo)).take (HT.sIx xs.length xs.length hi - HT.sIx xs.length 0 lo)
def sliceT (d : D) (lo hi : Option Int) : Option T := match d with
  | .lst xs => some (.l (cutD xs lo hi))
  | .tup xs => some (.fz (.tup (cutD xs lo hi)))
  | .str x => if x.length ≤ sizeLine then some (.fz (.str (cutS x lo hi))) else none
  | _ => none
theorem cut_DRs {H : Hp} {vs : List V} {ds : List D} (r : DRs w H vs ds) (lo hi : Option Int) : DRs w H (cutV vs lo hi) (cutD ds lo hi) := by
  unfold cutV cutD
  rw [r.length]
  exact (r.drop _).take _
theorem cut_whole (xs : List D) {lo hi : Option Int} (h : HT.sIx xs.length 0 lo = 0 ∧ HT.sIx xs.length xs.length hi = xs.length) : cutD xs lo hi = xs := by
  unfold cutD
  rw [h.1, h.2]
  simp
def rSl3 (K : PySem.W.Frag) : V → Option Int → Option Int → Hp → VK → Prop := fun x lo hi H Q => rSlL K x lo hi H Q ∨ rSlA K x lo hi H Q ∨ rSlS x lo hi H Q
theorem sl_any : SlR X (rSl3 X.K) := sl_list.or (sl_tupA.or sl_str)
theorem sl_run {U G H : Hp} {v : V} {d : D} {lo hi : Option Int} {t : T} {Q : VK} {K : PySem.W.Frag} (gu : HLe G U) (uh : HLe U H) (h : Sh w G H v d) (e : sliceT d lo hi = some t) (k : Gives w U G H t Q) : rSl3 K v lo hi H Q := by
  unfold sliceT at e
  split at e
  · cases e
    obtain ⟨a, vs, rfl, h4, r⟩ := h.lst (gu.trans uh)
    exact .inl ⟨a, vs, rfl, .inl h4, fun p hp => k.own gu uh hp (.l upd_same (cut_DRs r lo hi))⟩
  · cases e
    obtain ⟨a, vs, rfl, h4, r⟩ := h.tup
    refine .inr (.inl ⟨a, vs, rfl, .inl (Rd.le (gu.trans uh) h4), fun hw => ?_, fun _ p hp => ?_⟩)
    · rw [r.length] at hw
      refine k.scal gu uh ?_
      rw [cut_whole _ hw]
      exact .tup h4 r
    · have hG : G p = none := gu.none (uh.none hp)
      exact k.frz gu uh hp (.tup (.inl upd_same) ((cut_DRs r lo hi).le (.upd hG)))
  · split at e
    · cases e
      cases h.str
      exact .inr (.inr ⟨_, rfl, by assumption, k.scal gu uh (.str _)⟩)
    · cases e
  · cases e
def tdSl (ta : TEd) (tl th : Option TEd) : TEd := fun σ K => ta σ fun x σ1 => tdPart tl σ1 fun lo σ2 => tdPart th σ2 fun hi σ3 => bindO (rdS σ3 x) fun d => bindO (sliceT d lo hi) fun t => K (.t t) σ3
/-- a slice's part over data -/
def liftO (w : World) (Z : Amb) (t : Option TEd) : TO := match t with
  | none => tNoPart
  | some te => tPart (liftE w Z te)
theorem part_run {U G H : Hp} {σ : L2.St} {σd : Sd} {t : Option TEd} {K : Option Int → Sd → Prop} {P : Option Int → Hp → Prop} (R : Rep w Z U G σ H σd) (q : tdPart t σd K)
    (k : ∀ o σ' H' U' G', K o σ' → Ext U G U' G' → Rep w Z U' G' σ H' σ' → P o H') : liftO w Z t σ H P := by
  cases t with
  | none => exact k _ _ _ _ _ q (.refl _ _) R
  | some te =>
    refine ⟨U, G, σd, _, R, q, fun r σ1 v H1 U1 G1 q1 e1 R1 => ?_⟩
    obtain ⟨U2, G2, e2, R2, h2⟩ := R1.hold
    obtain ⟨U3, G3, ds, σ3, e3, R3, h3, q3⟩ := frz_run R2 (.cons h2 .nil) q1
    cases h3 with
    | cons h3 _ =>
      cases h3 with
      | int i => exact ⟨i, rfl, k _ _ _ _ _ q3 ((e1.trans e2).trans e3) R3⟩
      | _ => exact q3.elim
theorem pod_none : PO X none (liftO X.w Z none) := po_none
theorem pod_some {e : Expr} {te : TEd} (h : PEd X Z e te) : PO X (some e) (liftO X.w Z (some te)) := po_some h
theorem pd_slice {a : Expr} {lo hi : Option Expr} {ta : TEd} {tl th : Option TEd} {pos p2 : Pos} (ha : PEd X Z a ta) (hl : PO X lo (liftO X.w Z tl)) (hh : PO X hi (liftO X.w Z th)) : PEd X Z (.Subscript a (.Slice lo hi none p2) pos) (tdSl ta tl th) :=
  pe_imp (pe_slice sl_any ha hl hh) fun σ H Q ⟨U, G, σd, K, R, q, k⟩ => by
    refine ⟨U, G, σd, _, R, q, fun x σ1 v1 H1 U1 G1 q1 e1 R1 => ?_⟩
    obtain ⟨U1', G1', e1', R1', h1⟩ := R1.hold
    refine part_run R1' q1 fun lo σ2 H2 U2 G2 q2 e2 R2 => part_run R2 q2 fun hi σ3 H3 U3 G3 q3 e3 R3 => ?_
    obtain ⟨d, z1, q3⟩ := bindO_ex q3
    obtain ⟨t, z2, q3⟩ := bindO_ex q3
    exact sl_run R3.gu R3.uh ((h1.le (e2.g.trans e3.g)).sh R3 z1) z2 fun v H' U' G' F g o nd nw => k _ _ _ _ _ _ q3 ((((e1.trans e1').trans e2).trans e3).trans g.e) (R3.top g o nd nw)

/-! ### one object changed -/
theorem Rep.mut1 {U G H : Hp} {σ : L2.St} {σd : Sd} {i : Nat} {t t' : T} {a : Addr} {o : HO} (R : Rep w Z U G σ H σd) (z : σd[i]? = some (some t)) (hv : σ[i]? = some (some (.ref a))) (h : ∀ v F, Own w G H v t F → v = .ref a → F = [a]) (h' : Own w G (upd H a o) (.ref a) t' [a]) : Rep w Z U G σ (upd H a o) (σd.set i (some t')) := by
  obtain ⟨F, s, nd, nu⟩ := R.ow
  obtain ⟨v, Fi, F', h1, h2, s', pm⟩ := s.take z
  rw [hv] at h1; cases h1
  have e := h _ _ h2 rfl
  subst e
  have nd' := pm.nodup_iff.mp nd
  have a3 : a ∉ F' := fun q => (List.nodup_append.mp nd').2.2 a (by simp) a q rfl
  have ua : U a = none := nu a (pm.mem_iff.mpr (by simp))
  have ne : ∀ b ≠ a, ∀ u, H b = some u → upd H a o b = some u := fun b hb u e => by rw [upd_ne hb]; exact e
  have s3 := s'.frame (H' := upd H a o) (.refl G) fun b hb u e => ne b (fun q => a3 (q ▸ hb)) u e
  have hi : i < σd.length := getN z
  obtain ⟨F5, s5, p5⟩ := s3.put (i := i) (t := t') (v := .ref a) (by rw [List.getElem?_set_self hi]) h'
  rw [List.set_set, set_same hv] at s5
  refine ⟨R.zg.mut (h2.ntbl a (by simp)), R.gu, fun b u e => ne b (fun q => by rw [q, ua] at e; cases e) u (R.uh b u e), F5, s5, p5.nodup_iff.mpr nd', fun x hx => ?_⟩
  exact nu x (pm.mem_iff.mpr (p5.mem_iff.mp hx))
theorem own_l {G H : Hp} {v : V} {F : List Addr} {ds : List D} (h : Own w G H v (.l ds) F) : ∃ a vs, v = .ref a ∧ F = [a] ∧ H a = some (.lst vs) ∧ DRs w G vs ds := by
  cases h with
  | l h r => exact ⟨_, _, rfl, rfl, h, r⟩
theorem own_m {G H : Hp} {v : V} {F : List Addr} {kvs : List (D × D)} (h : Own w G H v (.m kvs) F) : ∃ a o ks kv vs, v = .ref a ∧ F = [a] ∧ (a == sysModules) = false ∧ H a = some (pin a o) ∧ DicO w o ks kv vs ∧ D.keys (kvs.map (·.1)) = some ks ∧ DRs w G kv (kvs.map (·.1)) ∧ DRs w G vs (kvs.map (·.2)) := by
  cases h with
  | m hn h hd hk rk rv => exact ⟨_, _, _, _, _, rfl, rfl, hn, h, hd, hk, rk, rv⟩

/-! ### x[i] = e: a slot's own list or dict -/
def rSetD (w : World) : V → V → V → Hp → (Hp → Prop) → Prop := fun x y v H Q => ∃ a o ks kv vs k, x = .ref a ∧ DicV w H a o ks kv vs ∧ KeyR w H k y ∧ fam k ks = true ∧ vs.length < sizeLine ∧
  ∀ o', DicO w o' (putK3 ks kv vs k y v).1 (putK3 ks kv vs k y v).2.1 (putK3 ks kv vs k y v).2.2 → Q (upd H a (pin a o'))
theorem set_dic (hu : X.A.units + 10 < cLine) : PSet X (rSetD X.w) := by
  intro pins s σ H x i v xv iv u Q I rx ri rv h
  obtain ⟨a, o, ks, kv, vs, k, rfl, d, ky, f, hz, q⟩ := h
  cases rx
  exact dic_put hu I d ky ri rv f hz fun s' o' I' d' => ⟨_, I', q o' d'⟩
def rSet2 (w : World) : V → V → V → Hp → (Hp → Prop) → Prop := fun x y v H Q => rSetL x y v H Q ∨ rSetD w x y v H Q
theorem set_any (hu : X.A.units + 10 < cLine) : PSet X (rSet2 X.w) := by
  intro pins s σ H x i v xv iv u Q I rx ri rv h
  rcases h with h | h
  · exact set_list pins s σ H x i v xv iv u Q I rx ri rv h
  · exact set_dic hu pins s σ H x i v xv iv u Q I rx ri rv h
def putT (t : T) (k d : D) : Option T := match t with
  | .l ds => match k with
    | .int j => (ixN ds.length j).map fun n => .l (ds.set n d)
    | _ => none
  | .m kvs => if kvs.length < sizeLine then (dicPut kvs k d).map .m else none
  | _ => none
theorem keys_append {xs ys : List D} {a b : List NestedKey} (h1 : D.keys xs = some a) (h2 : D.keys ys = some b) : D.keys (xs ++ ys) = some (a ++ b) := by
  induction xs generalizing a with
  | nil => cases h1; exact h2
  | cons x xs ih =>
    dsimp only [D.keys] at h1
    cases z : x.key with
    | none => rw [z] at h1; cases h1
    | some k =>
      cases z2 : D.keys xs with
      | none => rw [z, z2] at h1; cases h1
      | some ks =>
        rw [z, z2] at h1
        cases h1
        show (match x.key, D.keys (xs ++ ys) with | some k, some ks => some (k :: ks) | _, _ => none) = _
        rw [z, ih z2]
        rfl
theorem modify_fst (kvs : List (D × D)) (i : Nat) (v : D) : (kvs.modify i fun p => (p.1, v)).map (·.1) = kvs.map (·.1) := by
  induction kvs generalizing i with
  | nil => cases i <;> rfl
  | cons x kvs ih => cases i with
    | zero => rfl
    | succ i => simp [ih i]
theorem modify_snd (kvs : List (D × D)) (i : Nat) (v : D) : (kvs.modify i fun p => (p.1, v)).map (·.2) = (kvs.map (·.2)).set i v := by
  induction kvs generalizing i with
  | nil => cases i <;> rfl
  | cons x kvs ih => cases i with
    | zero => rfl
    | succ i => simp [ih i]
/-- behind a store, the dict's data -/
theorem dicPut_own {G : Hp} {H H' : Hp} {a : Addr} {o' : Obj} {ks : List NestedKey} {kv vs : List V} {kvs kvs' : List (D × D)} {kd d : D} {y v : V} {k : NestedKey} {ks0 : List NestedKey} (hn : (a == sysModules) = false) (hk : D.keys (kvs.map (·.1)) = some ks) (rk : DRs w G kv (kvs.map (·.1))) (rv : DRs w G vs (kvs.map (·.2)))
    (hy : DR w G y kd) (hd : DR w G v d) (z : dicIx kvs kd = some (k, ks0)) (e : dicPut kvs kd d = some kvs') (ho : H' a = some (pin a o')) (ok : DicO w o' (putK3 ks kv vs k y v).1 (putK3 ks kv vs k y v).2.1 (putK3 ks kv vs k y v).2.2) : Own w G H' (.ref a) (.m kvs') [a] := by
  obtain ⟨g1, g2, g3, g4⟩ := dicIx_run z
  rw [hk] at g1; cases g1
  unfold dicPut at e
  rw [z] at e
  dsimp only at e
  unfold putK3 at ok
  cases zi : idxK ks k with
  | some i =>
    rw [zi] at e ok
    cases e
    exact .m hn ho ok (by rw [modify_fst]; exact hk) (by rw [modify_fst]; exact rk) (by rw [modify_snd]; exact rv.set i hd)
  | none =>
    rw [zi] at e ok
    dsimp only at e
    split at e
    · cases e
      refine .m hn ho ok ?_ ?_ ?_
      · rw [List.map_append]
        exact keys_append hk (by show (match kd.key, D.keys [] with | some k, some ks => some (k :: ks) | _, _ => none) = _; rw [g2]; rfl)
      · rw [List.map_append]; exact rk.append (.cons hy .nil)
      · rw [List.map_append]; exact rv.append (.cons hd .nil)
    · cases e
/-- x[i] = e, x a slot -/
def hasS (i : Nat) (σ : Sd) : Prop := match σ[i]? with
  | some (some _) => True
  | _ => False
theorem hasS_run {U G H : Hp} {σ : L2.St} {σd : Sd} {i : Nat} (R : Rep w Z U G σ H σd) (h : hasS i σd) : ∃ x, σ[i]? = some (some x) := by
  unfold hasS at h
  cases z : σd[i]? with
  | none => rw [z] at h; exact h.elim
  | some u =>
    cases u with
    | none => rw [z] at h; exact h.elim
    | some t =>
      obtain ⟨v, F, h1, _⟩ := R.at z
      exact ⟨v, h1⟩
def tdPut (i : Nat) (tk te : TEd) : TSd := fun De σ => tdF te σ fun d σ1 => hasS i σ1 ∧ tdF tk σ1 fun k σ2 => match σ2[i]? with
  | some (some t) => bindO (putT t k d) fun t' => De.nx (σ2.set i (some t'))
  | _ => False
theorem put_run1 {U G H : Hp} {σ : L2.St} {σd : Sd} {i : Nat} {t t' : T} {k d : D} {y v : V} (R : Rep w Z U G σ H σd) (z : σd[i]? = some (some t)) (hy : DR w G y k) (hd : DR w G v d) (e : putT t k d = some t')
    {Q : Hp → Prop} (fin : ∀ H', Rep w Z U G σ H' (σd.set i (some t')) → Q H') : ∃ x, σ[i]? = some (some x) ∧ rSet2 w x y v H Q := by
  obtain ⟨x, F, hx, own⟩ := R.at z
  refine ⟨x, hx, ?_⟩
  unfold putT at e
  split at e
  · rename_i ds
    split at e
    · rename_i j
      obtain ⟨n, hn, e2⟩ := Option.map_eq_some_iff.mp e
      subst e2
      obtain ⟨a, vs, rfl, rfl, h1, r⟩ := own_l own
      cases hy
      refine .inl ⟨a, vs, j, n, rfl, rfl, h1, by rw [r.length]; exact hn, fin _ (R.mut1 z hx (fun v F h e => ?_) (.l upd_same (r.set n hd)))⟩
      obtain ⟨b, us, e1, e2, _⟩ := own_l h
      rw [e] at e1; cases e1; exact e2
    · cases e
  · rename_i kvs
    split at e
    · rename_i hl
      obtain ⟨kvs', he, e2⟩ := Option.map_eq_some_iff.mp e
      subst e2
      obtain ⟨a, o, ks, kv, vs, rfl, rfl, hn, h1, hd0, hk, rk, rv⟩ := own_m own
      cases zi : dicIx kvs k with
      | none => unfold dicPut at he; rw [zi] at he; cases he
      | some p =>
        obtain ⟨kk, ks0⟩ := p
        obtain ⟨g1, g2, g3, g4⟩ := dicIx_run zi
        rw [hk] at g1; cases g1
        have gh := R.gh
        have lv := rv.length
        simp at lv
        refine .inr ⟨a, o, ks, kv, vs, kk, rfl, .of hn h1 hd0 hk (rk.le gh), ⟨k, hy.le gh, g2, g4⟩, g3, by omega, fun o' ok => fin _ (R.mut1 z hx (fun v F h e => ?_) (dicPut_own (H := H) hn hk rk rv hy hd zi he upd_same ok))⟩
        obtain ⟨b, _, _, _, _, e1, e2, _⟩ := own_m h
        rw [e] at e1; cases e1; exact e2
    · cases e
  · cases e
theorem psd_put {i : Nat} {o k e : Expr} {tk te : TEd} {pos pos' : Pos} (hu : X.A.units + 10 < cLine) (ho : PE X o (tVar i)) (hk : PEd X Z k tk) (he : PEd X Z e te)
    (ha : ∀ v, assign (.Subscript o k pos') X.env v = (do
      let ov ← holding [v] (eval o X.env)
      let iv ← holding [v, ov] (eval k X.env)
      standAt pos'
      holding [v, ov, iv] (setItem ov iv v)
      release [v, ov, iv] []) := by intro _; rfl) (hs : swapsWithSole [.Subscript o k pos'] e pos.line X.env = pure false := by rfl) (hw : swappedStores [.Subscript o k pos'] e X.env = pure none := by rfl)
    (h1 : (assignEach [.Subscript o k pos'] X.env).map (·.2) = [assign (.Subscript o k pos') X.env] := by rfl) : PSd X Z ms (.Assign [.Subscript o k pos'] e pos) (tdPut i tk te) :=
  ps_imp (ps_asg he (pg_sub ho hk (set_any hu) ha) hs hw h1) (lS fun U G σd De mv D' σ H R m p q ok => by
    refine tdF_run R q fun d σ1 v H1 U1 G1 q1 e1 R1 h1 => ?_
    obtain ⟨x, hx⟩ := hasS_run R1 q1.1
    refine ⟨x, hx, tdF_run R1 q1.2 fun kd σ2 y H2 U2 G2 q2 e2 R2 h2 => ?_⟩
    cases z : σ2[i]? with
    | none => rw [z] at q2; exact q2.elim
    | some u =>
      cases u with
      | none => rw [z] at q2; exact q2.elim
      | some t =>
        rw [z] at q2
        obtain ⟨t', zt, q2⟩ := bindO_ex q2
        obtain ⟨x', hx', g⟩ := put_run1 R2 z h2 (h1.le e2.g) zt (Q := fun H3 => D'.nx σ H3) fun H' R' => ok.nx _ _ _ _ _ q2 (e1.trans e2) R' p
        rw [hx] at hx'; cases hx'
        exact g)
end
end M
/-! M12: methods of a slot's own list; built-in functions; in over dicts; displays of dicts. -/
namespace M
open PySem PyProof.Rows L2
section
variable {X : Cx} {w : World} {Z : Amb} {ms : List Nat}
/-! ### x.append(e), x.pop(): x a slot's own list -/
/-- the receiver is a slot, the arguments frozen -/
def tdMut (f : T → List D → Option (T × D)) (i : Nat) (ta : TAd) : TEd := fun σ K => hasS i σ ∧ (match σ[i]? with
  | some (some (.l _)) => True
  | _ => False) ∧ ta σ fun rs σ1 => frzR rs σ1 fun ds σ2 => match σ2[i]? with
  | some (some t) => bindO (f t ds) fun p => K (.t (.fz p.2)) (σ2.set i (some p.1))
  | _ => False
def appendT (t : T) (ds : List D) : Option (T × D) := match t, ds with
  | .l xs, [d] => if xs.length < sizeLine then some (.l (xs ++ [d]), .non) else none
  | _, _ => none
def popT (t : T) (ds : List D) : Option (T × D) := match t, ds with
  | .l xs, [] => match xs.getLast? with
    | some d => some (.l xs.dropLast, d)
    | none => none
  | _, _ => none
theorem isL_run {U G H : Hp} {σ : L2.St} {σd : Sd} {i : Nat} (R : Rep w Z U G σ H σd) (h : match σd[i]? with
  | some (some (.l _)) => True
  | _ => False) : ∃ a vs, σ[i]? = some (some (.ref a)) ∧ H a = some (.lst vs) := by
  cases z : σd[i]? with
  | none => rw [z] at h; exact h.elim
  | some u =>
    cases u with
    | none => rw [z] at h; exact h.elim
    | some t =>
      rw [z] at h
      cases t with
      | l ds =>
        obtain ⟨v, F, h1, o⟩ := R.at z
        obtain ⟨a, vs, rfl, _, h2, _⟩ := own_l o
        exact ⟨a, vs, h1, h2⟩
      | _ => exact h.elim
theorem psd_append {i : Nat} {o e : Expr} {te : TEd} {apos cpos : Pos} (ho : PE X o (tVar i)) (he : PEd X Z e te) (hbase : attributeBase o "append" X.env (eval o X.env) = eval o X.env := by rfl)
    (hfew : ((backTo cpos (starEach [e] X.env)).all (fun x => !x.1) && (backToKw cpos (keywordEach [] X.env)).all (fun x => x.1.isSome)
      && decide ([e].length + ([] : List Keyword).length + (if ([] : List Keyword).isEmpty then 0 else 1) < 30)) = true := by rfl)
    (hline : (apos.endLine == cpos.line) = true := by rfl) (hs : starEach [e] X.env = [(false, eval e X.env)] := by rfl) (hplain : (backTo cpos (starEach ([] : List Expr) X.env)).any (·.1) = false := by rfl) :
    PEd X Z (.Call (.Attribute o "append" apos) [e] [] cpos) (tdMut appendT i (taCons te taNil)) :=
  pe_imp (pe_bm PySem.F.plainAttrs_list PySem.F.slot_list_append PySem.F.type_list_append mt_append ho (pad_cons he pad_nil hs) hbase hfew hline hs hplain) fun σ H Q ⟨U, G, σd, K, R, q, k⟩ => by
    obtain ⟨q0, ql, q⟩ := q
    obtain ⟨a, vs0, hx, hl0⟩ := isL_run R ql
    refine ⟨_, hx, .inl ⟨rfl, _, .inl (.inl hl0)⟩, U, G, σd, _, R, q, fun rs σ1 us H1 U1 G1 q1 e1 R1 hs => ?_⟩
    obtain ⟨U2, G2, ds, σ2, e2, R2, r, q2⟩ := frz_run R1 hs q1
    cases z : σ2[i]? with
    | none => rw [z] at q2; exact q2.elim
    | some u =>
      cases u with
      | none => rw [z] at q2; exact q2.elim
      | some t =>
        rw [z] at q2
        obtain ⟨p, zp, q2⟩ := bindO_ex q2
        obtain ⟨x', F, hx', own⟩ := R2.at z
        rw [hx] at hx'; cases hx'
        unfold appendT at zp
        split at zp
        · rename_i xs d
          split at zp
          · cases zp
            obtain ⟨b, vs, eb, rfl, h1, r1⟩ := own_l own
            cases eb
            cases r with
            | cons hd rn =>
              cases rn
              refine ⟨a, vs, _, rfl, rfl, h1, by rw [r1.length]; assumption, k _ _ _ _ _ _ q2 (e1.trans e2) ((R2.mut1 z hx (fun v F h e => ?_) (.l upd_same (r1.append (.cons hd .nil)))).topD .non)⟩
              obtain ⟨c, us, e3, e4, _⟩ := own_l h
              rw [e] at e3; cases e3; exact e4
          · cases zp
        · cases zp
theorem getLast_DRs {H : Hp} {vs : List V} {ds : List D} {d : D} (r : DRs w H vs ds) (h : ds.getLast? = some d) : ∃ v, vs[vs.length - 1]? = some v ∧ DR w H v d := by
  rw [List.getLast?_eq_getElem?] at h
  rw [r.length]
  exact r.get h
theorem dropLast_DRs {H : Hp} {vs : List V} {ds : List D} (r : DRs w H vs ds) : DRs w H vs.dropLast ds.dropLast := by
  rw [List.dropLast_eq_take, List.dropLast_eq_take, r.length]
  exact r.take _
theorem pd_pop {i : Nat} {o : Expr} {apos cpos : Pos} (ho : PE X o (tVar i)) (hbase : attributeBase o "pop" X.env (eval o X.env) = eval o X.env := by rfl) (hline : (apos.endLine == cpos.line) = true := by rfl) :
    PEd X Z (.Call (.Attribute o "pop" apos) [] [] cpos) (tdMut popT i taNil) :=
  pe_imp (pe_bm0 PySem.F.plainAttrs_list PySem.F.slot_list_pop PySem.F.type_list_pop mt_pop ho hbase hline) fun σ H Q ⟨U, G, σd, K, R, q, k⟩ => by
    obtain ⟨q0, ql, q⟩ := q
    obtain ⟨a, vs0, hx, hl0⟩ := isL_run R ql
    refine ⟨_, hx, .inl ⟨rfl, _, .inl (.inl hl0)⟩, ?_⟩
    have q2 : match σd[i]? with
      | some (some t) => bindO (popT t []) fun p => K (.t (.fz p.2)) (σd.set i (some p.1))
      | _ => False := q
    cases z : σd[i]? with
    | none => rw [z] at q2; exact q2.elim
    | some u =>
      cases u with
      | none => rw [z] at q2; exact q2.elim
      | some t =>
        rw [z] at q2
        obtain ⟨p, zp, q2⟩ := bindO_ex q2
        obtain ⟨x', F, hx', own⟩ := R.at z
        rw [hx] at hx'; cases hx'
        unfold popT at zp
        split at zp
        · rename_i xs
          split at zp
          · rename_i d hd
            cases zp
            obtain ⟨b, vs, eb, rfl, h1, r1⟩ := own_l own
            cases eb
            obtain ⟨v, hv, dv⟩ := getLast_DRs r1 hd
            refine ⟨a, vs, v, rfl, rfl, h1, hv, k _ _ _ _ _ _ q2 (.refl _ _) ((R.mut1 z hx (fun v F h e => ?_) (.l upd_same (dropLast_DRs r1))).topD dv)⟩
            obtain ⟨c, us, e3, e4, _⟩ := own_l h
            rw [e] at e3; cases e3; exact e4
          · cases zp
        · cases zp
/-! ### in, not in, over lists, tuples, dicts -/
def rInM (K : PySem.W.Frag) (w : World) (neg : Bool) : R2 := fun x y H Q => rInDT K neg x y H Q ∨ ∃ a o ks kv vs k, y = .ref a ∧ DicV w H a o ks kv vs ∧ KeyR w H k x ∧ fam k ks = true ∧ Q (.bl (neg != (idxK ks k).isSome)) H
theorem op_inM (hu : X.A.units + 65 < cLine) : OpR X (compareOp .In) (rInM X.K X.w false) := by
  intro pins s σ H x y v u Q I rx ry h
  rcases h with h | ⟨a, o, ks, kv, vs, k, rfl, d, ky, f, q⟩
  · exact op_inDT hu pins s σ H x y v u Q I rx ry h
  · cases ry
    exact dic_in (neg := false) (by omega) I d ky rx f fun s' I' => ⟨.bl _, H, I', rfl, q⟩
theorem op_niM (hu : X.A.units + 65 < cLine) : OpR X (compareOp .NotIn) (rInM X.K X.w true) := by
  intro pins s σ H x y v u Q I rx ry h
  rcases h with h | ⟨a, o, ks, kv, vs, k, rfl, d, ky, f, q⟩
  · exact op_notInDT hu pins s σ H x y v u Q I rx ry h
  · cases ry
    exact dic_in (neg := true) (by omega) I d ky rx f fun s' I' => ⟨.bl _, H, I', rfl, q⟩
def inBM (x y : D) : Option Bool := match y with
  | .dic kvs => dicHas kvs x
  | _ => inB x y
def inDM (x y : D) : Option D := (inBM x y).map .bl
def niDM (x y : D) : Option D := (inBM x y).map fun c => .bl (!c)
theorem inM_run {K : PySem.W.Frag} {neg : Bool} {H : Hp} {x y : V} {dx dy : D} {c : Bool} {Q : VK} (hx : DR w H x dx) (hy : DR w H y dy) (e : inBM dx dy = some c) (q : Q (.bl (neg != c)) H) : rInM K w neg x y H Q := by
  unfold inBM at e
  split at e
  · rename_i kvs
    unfold dicHas at e
    cases z : dicIx kvs dx with
    | none => rw [z] at e; cases e
    | some p =>
      obtain ⟨k, ks⟩ := p
      rw [z] at e
      cases e
      obtain ⟨g1, g2, g3, g4⟩ := dicIx_run z
      cases hy with
      | dic hn h hd hk rk rv =>
        rw [g1] at hk; cases hk
        exact .inr ⟨_, _, _, _, _, k, rfl, .of hn h hd g1 rk, ⟨dx, hx, g2, g4⟩, g3, q⟩
  · obtain ⟨d, ds, h1, h2, h3, h4, h5⟩ := inB_run hx hy e
    exact .inl ⟨d, ds, h1, h2, h3, h4, by rw [h5]; exact q⟩
theorem ok_inM {K : PySem.W.Frag} : OpE w (rInM K w false) inDM := fun H x y dx dy d Q hx hy e k => by
  unfold inDM at e
  obtain ⟨c, z, rfl⟩ := Option.map_eq_some_iff.mp e
  exact inM_run hx hy z (k _ fun _ => by cases c <;> exact .bl _)
theorem ok_niM {K : PySem.W.Frag} : OpE w (rInM K w true) niDM := fun H x y dx dy d Q hx hy e k => by
  unfold niDM at e
  obtain ⟨c, z, rfl⟩ := Option.map_eq_some_iff.mp e
  exact inM_run hx hy z (k _ fun _ => by cases c <;> exact .bl _)
theorem pd_in {a b : Expr} {te tb : TEd} {pos : Pos} (hu : X.A.units + 65 < cLine) (ha : PEd X Z a te) (hb : PEd X Z b tb) (hm : behindInMarks .In b = false := by rfl) : PEd X Z (.Compare a [.In] [b] pos) (tdBinE inDM te tb) := pd_cmp ok_inM (op_inM hu) ha hb hm
theorem pd_ni {a b : Expr} {te tb : TEd} {pos : Pos} (hu : X.A.units + 65 < cLine) (ha : PEd X Z a te) (hb : PEd X Z b tb) (hm : behindInMarks .NotIn b = false := by rfl) : PEd X Z (.Compare a [.NotIn] [b] pos) (tdBinE niDM te tb) := pd_cmp ok_niM (op_niM hu) ha hb hm
theorem pt_in {a b : Expr} {te tb : TEd} {pos : Pos} (hu : X.A.units + 65 < cLine) (ha : PEd X Z a te) (hb : PEd X Z b tb) (hm : behindInMarks .In b = false := by rfl) : PTd X Z (.Compare a [.In] [b] pos) (tdTest (tdBinE inDM te tb)) := pt_cmpd ok_inM (op_inM hu) ha hb hm
theorem pt_ni {a b : Expr} {te tb : TEd} {pos : Pos} (hu : X.A.units + 65 < cLine) (ha : PEd X Z a te) (hb : PEd X Z b tb) (hm : behindInMarks .NotIn b = false := by rfl) : PTd X Z (.Compare a [.NotIn] [b] pos) (tdTest (tdBinE niDM te tb)) := pt_cmpd ok_niM (op_niM hu) ha hb hm

/-! ### built-in functions -/
section
variable {e e2 : Expr} {es : List Expr} {te t2 : TEd} {ta : TAd} {pos p : Pos}
theorem pd_len (hg : Gl X "len") (hm : X.mg "len" = none) (ha : PEd X Z e te) (he : starEach [e] X.env = [(false, eval e X.env)] := by rfl) (hpl : (backTo pos (starEach ([] : List Expr) X.env)).any (·.1) = false := by rfl) : PEd X Z (.Call (.Name "len" p) [e] [] pos) (tdCE lenD (taCons te taNil)) :=
  pe_imp (pe_callB call_len hg hm PySem.boot_len (pad_cons ha pad_nil he) (by decide) (by decide) he hpl) fun _ _ _ h => ce_imp ok_len h
def absD : List D → Option D
  | [.int i] => some (.int (if i < 0 then -i else i))
  | _ => none
theorem ok_abs : CallE w (fun xs H Q => ∃ i, xs = [.int i] ∧ Q (.int (if i < 0 then -i else i)) H) absD := fun H xs ds d Q h e k => by
  unfold absD at e
  split at e
  · cases e
    cases h with
    | cons h t => cases t; cases h; exact ⟨_, rfl, k _ fun _ => .int _⟩
  · cases e
theorem pd_abs (hg : Gl X "abs") (hm : X.mg "abs" = none) (ha : PEd X Z e te) (he : starEach [e] X.env = [(false, eval e X.env)] := by rfl) (hpl : (backTo pos (starEach ([] : List Expr) X.env)).any (·.1) = false := by rfl) : PEd X Z (.Call (.Name "abs" p) [e] [] pos) (tdCE absD (taCons te taNil)) :=
  pe_imp (pe_callB call_abs hg hm PyProof.Rows.boot_abs (pad_cons ha pad_nil he) (by decide) (by decide) he hpl) fun _ _ _ h => ce_imp ok_abs h
def maxD : List D → Option D
  | [.int i, .int j] => some (.int (if j > i then j else i))
  | _ => none
def minD : List D → Option D
  | [.int i, .int j] => some (.int (if j < i then j else i))
  | _ => none
theorem ok_max : CallE w (fun xs H Q => ∃ i j, xs = [.int i, .int j] ∧ Q (.int (if j > i then j else i)) H) maxD := fun H xs ds d Q h e k => by
  unfold maxD at e
  split at e
  · cases e
    cases h with
    | cons h t =>
      cases t with
      | cons h2 t => cases t; cases h; cases h2; exact ⟨_, _, rfl, k _ fun _ => .int _⟩
  · cases e
theorem ok_min : CallE w (fun xs H Q => ∃ i j, xs = [.int i, .int j] ∧ Q (.int (if j < i then j else i)) H) minD := fun H xs ds d Q h e k => by
  unfold minD at e
  split at e
  · cases e
    cases h with
    | cons h t =>
      cases t with
      | cons h2 t => cases t; cases h; cases h2; exact ⟨_, _, rfl, k _ fun _ => .int _⟩
  · cases e
theorem pd_max2 (hc : X.calm = true) (hg : Gl X "max") (hm : X.mg "max" = none) (ha : PEd X Z e te) (hb : PEd X Z e2 t2) (he : starEach [e, e2] X.env = (false, eval e X.env) :: starEach [e2] X.env := by rfl) (he2 : starEach [e2] X.env = [(false, eval e2 X.env)] := by rfl) (hpl : (backTo pos (starEach [e2] X.env)).any (·.1) = false := by rfl) : PEd X Z (.Call (.Name "max" p) [e, e2] [] pos) (tdCE maxD (taCons te (taCons t2 taNil))) :=
  pe_imp (pe_callB (call_max2 hc) hg hm PyProof.Rows.boot_max (pad_cons ha (pad_cons hb pad_nil he2) he) (by decide) (by decide) he hpl) fun _ _ _ h => ce_imp ok_max h
theorem pd_min2 (hc : X.calm = true) (hg : Gl X "min") (hm : X.mg "min" = none) (ha : PEd X Z e te) (hb : PEd X Z e2 t2) (he : starEach [e, e2] X.env = (false, eval e X.env) :: starEach [e2] X.env := by rfl) (he2 : starEach [e2] X.env = [(false, eval e2 X.env)] := by rfl) (hpl : (backTo pos (starEach [e2] X.env)).any (·.1) = false := by rfl) : PEd X Z (.Call (.Name "min" p) [e, e2] [] pos) (tdCE minD (taCons te (taCons t2 taNil))) :=
  pe_imp (pe_callB (call_min2 hc) hg hm PyProof.Rows.boot_min (pad_cons ha (pad_cons hb pad_nil he2) he) (by decide) (by decide) he hpl) fun _ _ _ h => ce_imp ok_min h
/-- tuple(x), list(x) of a list or a tuple -/
def tupleT : List D → Option T
  | [.lst xs] => some (.fz (.tup xs))
  | [.tup xs] => some (.fz (.tup xs))
  | _ => none
def listT : List D → Option T
  | [.lst xs] => some (.l xs)
  | [.tup xs] => some (.l xs)
  | _ => none
theorem Shs.one {G H : Hp} {vs : List V} {d : D} (h : Shs w G H vs [d]) : ∃ v, vs = [v] ∧ Sh w G H v d := by
  cases h with
  | cons h t => cases t; exact ⟨_, rfl, h⟩
theorem ok_tuple {K : PySem.W.Frag} : CallC w (fun xs H Q => ∃ p ys, xs = [.ref p] ∧ ((SqL K H p ys ∧ ∀ l, H l = none → Q (.ref l) (upd H l (.tup ys))) ∨ (SqT K H p ys ∧ Q (.ref p) H))) tupleT := fun U G H xs ds t Q gu uh h e k => by
  unfold tupleT at e
  split at e
  · cases e
    obtain ⟨v, rfl, h'⟩ := h.one
    obtain ⟨a, vs, rfl, h4, r⟩ := h'.lst (gu.trans uh)
    refine ⟨a, vs, rfl, .inl ⟨.inl h4, fun p hp => ?_⟩⟩
    have hG : G p = none := gu.none (uh.none hp)
    exact k.frz gu uh hp (.tup (.inl upd_same) (r.le (.upd hG)))
  · cases e
    obtain ⟨v, rfl, h'⟩ := h.one
    obtain ⟨a, vs, rfl, h4, r⟩ := h'.tup
    exact ⟨a, vs, rfl, .inr ⟨.inl (Rd.le (gu.trans uh) h4), k.scal gu uh (.tup h4 r)⟩⟩
  · cases e
theorem ok_list {K : PySem.W.Frag} : CallC w (fun xs H Q => ∃ p ys, xs = [.ref p] ∧ (SqL K H p ys ∨ SqT K H p ys) ∧ ∀ l, H l = none → Q (.ref l) (upd H l (.lst ys))) listT := fun U G H xs ds t Q gu uh h e k => by
  unfold listT at e
  split at e
  · cases e
    obtain ⟨v, rfl, h'⟩ := h.one
    obtain ⟨a, vs, rfl, h4, r⟩ := h'.lst (gu.trans uh)
    exact ⟨a, vs, rfl, .inl (.inl h4), fun p hp => k.own gu uh hp (.l upd_same r)⟩
  · cases e
    obtain ⟨v, rfl, h'⟩ := h.one
    obtain ⟨a, vs, rfl, h4, r⟩ := h'.tup
    exact ⟨a, vs, rfl, .inr (.inl (Rd.le (gu.trans uh) h4)), fun p hp => k.own gu uh hp (.l upd_same r)⟩
  · cases e
theorem pd_tuple (hg : Gl X "tuple") (hm : X.mg "tuple" = none) (ha : PEd X Z e te) (he : starEach [e] X.env = [(false, eval e X.env)] := by rfl) (hpl : (backTo pos (starEach ([] : List Expr) X.env)).any (·.1) = false := by rfl) : PEd X Z (.Call (.Name "tuple" p) [e] [] pos) (tdCB tupleT (taCons te taNil)) :=
  pe_imp (pe_callTy call_tuple_of hg hm PyProof.Rows.boot_tuple (pad_cons ha pad_nil he) (by decide) (by decide) he hpl) fun _ _ _ h => cb_imp ok_tuple h
theorem pd_list (hg : Gl X "list") (hm : X.mg "list" = none) (ha : PEd X Z e te) (he : starEach [e] X.env = [(false, eval e X.env)] := by rfl) (hpl : (backTo pos (starEach ([] : List Expr) X.env)).any (·.1) = false := by rfl) : PEd X Z (.Call (.Name "list" p) [e] [] pos) (tdCB listT (taCons te taNil)) :=
  pe_imp (pe_callTy call_list_of hg hm PyProof.Rows.boot_list (pad_cons ha pad_nil he) (by decide) (by decide) he hpl) fun _ _ _ h => cb_imp ok_list h
/-! ### isinstance(x, T), T a built-in class -/
/-- whether a datum is of a built-in class -/
def D.isTy (n : String) : D → Option Bool
  | .non => some (n == "NoneType")
  | .bl _ => some (n == "bool" || n == "int")
  | .int _ => some (n == "int")
  | .str _ => some (n == "str")
  | .tup _ => some (n == "tuple")
  | .lst _ => some (n == "list")
  | _ => none
def tyName : D → Option String
  | .non => some "NoneType"
  | .bl _ => some "bool"
  | .int _ => some "int"
  | .str _ => some "str"
  | .tup _ => some "tuple"
  | .lst _ => some "list"
  | _ => none
theorem DR.tyx {K : PySem.W.Frag} {H : Hp} {v : V} {d : D} {n : String} (h : DR w H v d) (e : tyName d = some n) : TyX K H v (.type n) := by
  cases h with
  | non => cases e; exact .base .non
  | bl b => cases e; exact .base (.bl b)
  | int i => cases e; exact .base (.int i)
  | str x => cases e; exact .base (.str x)
  | tup h r =>
    cases e
    rcases h with h | ⟨o, h⟩
    · exact .base (.tup h)
    · exact .fTuple h
  | lst h r =>
    cases e
    rcases h with h | ⟨o, h⟩
    · exact .base (.lst h)
    · exact .base (.frz h)
  | _ => cases e
def kitTab : List (String × String × Bool) := [("NoneType", "tuple", false), ("NoneType", "bool", false), ("NoneType", "int", false), ("NoneType", "str", false), ("NoneType", "list", false),
  ("bool", "tuple", false), ("bool", "bool", true), ("bool", "int", true), ("bool", "str", false), ("bool", "list", false), ("int", "tuple", false), ("int", "bool", false), ("int", "int", true), ("int", "str", false), ("int", "list", false),
  ("str", "tuple", false), ("str", "bool", false), ("str", "int", false), ("str", "str", true), ("str", "list", false), ("tuple", "tuple", true), ("tuple", "bool", false), ("tuple", "int", false), ("tuple", "str", false), ("tuple", "list", false),
  ("list", "tuple", false), ("list", "bool", false), ("list", "int", false), ("list", "str", false), ("list", "list", true)]
theorem kitTab_ok : kitTab.all (fun p => decide (kitB p.1 p.2.1 = some p.2.2)) = true := by decide +kernel
def isiB (n : String) (d : D) : Option Bool := match tyName d with
  | some m => (kitTab.find? fun p => p.1 == m && p.2.1 == n).map (·.2.2)
  | none => none
theorem isiB_kit {K : PySem.W.Frag} {H : Hp} {v : V} {n : String} {d : D} {c : Bool} (h : DR w H v d) (e : isiB n d = some c) : ∃ t, TyX K H v t ∧ PySem.W.kitOne K t (.type n) = some c := by
  unfold isiB at e
  cases z : tyName d with
  | none => rw [z] at e; cases e
  | some m =>
    rw [z] at e
    obtain ⟨p, hp, rfl⟩ := Option.map_eq_some_iff.mp e
    have h1 := List.find?_some hp
    have h2 := List.mem_of_find?_eq_some hp
    have h3 := of_decide_eq_true (List.all_eq_true.mp kitTab_ok p h2)
    simp at h1
    rw [h1.1, h1.2] at h3
    exact ⟨_, h.tyx z, kit_ty h3⟩
def tdIsi (n : String) (te : TEd) : TEd := fun σ K => te σ fun x σ1 => bindO (rdE σ1 x) fun d => bindO (isiB n d) fun c => K (.t (.fz (.bl c))) σ1
theorem pd_isi {n : String} {x : Str} {p2 : Pos} (hg : Gl X "isinstance") (hm : X.mg "isinstance" = none) (hg2 : Gl X x) (hm2 : X.mg x = none) (hv : bootBuiltins x = some (.type n)) (ha : PEd X Z e te) (hnn : x ≠ "__name__" := by decide) (hdb : (x == ("__debug__" : Str)) = false := by decide)
    (he : starEach [e, .Name x p2] X.env = (false, eval e X.env) :: starEach [.Name x p2] X.env := by rfl) (he2 : starEach [.Name x p2] X.env = [(false, eval (.Name x p2) X.env)] := by rfl) (hpl : (backTo pos (starEach [.Name x p2] X.env)).any (·.1) = false := by rfl) :
    PEd X Z (.Call (.Name "isinstance" p) [e, .Name x p2] [] pos) (tdIsi n te) :=
  pe_imp (pe_callB call_isi hg hm PyProof.Rows.boot_isinstance (pa_cons ha (pa_cons (pe_bltn (v := .ty n) hg2 hm2 hv rfl hnn hdb) pa_nil he2) he) (by decide) (by decide) he hpl) fun σ H Q ⟨U, G, σd, K, R, q, k⟩ => by
    refine ⟨U, G, σd, _, R, q, fun r σ1 v H1 U1 G1 q1 e1 R1 => ?_⟩
    obtain ⟨U2, G2, e2, R2, h2⟩ := R1.hold
    obtain ⟨d, z, q1⟩ := bindO_ex q1
    obtain ⟨c, zc, q1⟩ := bindO_ex q1
    obtain ⟨t, ht, kt⟩ := isiB_kit (K := X.K) (h2.er R2 z) zc
    exact ⟨v, .ty n, t, .type n, c, rfl, .ty n, ht, kt, k _ _ _ _ _ _ q1 (e1.trans e2) (R2.topD (.bl _))⟩
end
end
end M
/-! M13: displays of dicts. -/
namespace M
open PySem PyProof.Rows L2
section
variable {X : Cx} {w : World} {Z : Amb} {ms : List Nat} {pos : Pos}
def emptyDict : Obj := { cls := .type "dict", data := .dict #[] }
theorem emptyDic : DicO w emptyDict [] [] [] := by
  have := DicO.leaf (w := w) (o := emptyDict) (es := #[]) (ep := 0) (ks := []) (us := []) (vs := []) ⟨rfl, rfl, rfl⟩ rfl .nil .nil .nil (Nat.zero_le _)
  exact this
theorem big_ns {pins : List (Addr × Obj)} {σ : L2.St} {H : Hp} {s : Shared} (I : Inv X pins σ H s) : (s.heap.objs.size == sysModules) = false := by
  have := L2.Inv.big I
  exact beq_eq_false_iff_ne.mpr (Nat.ne_of_gt this)
/-- {} -/
theorem pd_dnew : PEd X Z (.Dict [] [] pos) (fun σ K => K (.t (.m [])) σ) := ⟨fun pins s σ H Q I ⟨U, G, σd, K, R, q, k⟩ => by
  refine wpAny_Dict_empty ?_
  have hp : H s.heap.objs.size = none := I.hok.fresh (Nat.le_refl _)
  have I' := I.laid (a := s.heap.objs.size) (o := pin s.heap.objs.size emptyDict) (h' := s.heap.push emptyDict) (t' := s.toks) (fun _ _ q => Heap.get?_push_of_some _ q) (Nat.le_refl _) (pin_ok (Heap.get?_push_size _ rfl))
  refine ⟨.ref s.heap.objs.size, _, I', rfl, k _ _ _ _ U G q (.refl _ _) (R.top (.own R.gu R.uh hp) (.m (big_ns I) upd_same emptyDic rfl .nil .nil) (by simp) fun b hb => by simp at hb; subst hb; exact ⟨hp, R.uh.none hp⟩)⟩⟩
/-- {k: v}, k no tuple -/
def tdDisp1 (tk tv : TEd) : TEd := fun σ K => tdF tk σ fun k σ1 => tdF tv σ1 fun v σ2 => (match k.key with
  | some q => isTupK q = false
  | none => False) ∧ K (.t (.m [(k, v)])) σ2
theorem pd_disp1 {ke ve : Expr} {tk tv : TEd} (hk : PEd X Z ke tk) (hv : PEd X Z ve tv) : PEd X Z (.Dict [some ke] [ve] pos) (tdDisp1 tk tv) := ⟨fun pins s σ H Q I ⟨U, G, σd, K, R, q, k⟩ => by
  have hp : H s.heap.objs.size = none := I.hok.fresh (Nat.le_refl _)
  have I1 := I.laid (a := s.heap.objs.size) (o := pin s.heap.objs.size emptyDict) (h' := s.heap.push emptyDict) (t' := s.toks) (fun _ _ q => Heap.get?_push_of_some _ q) (Nat.le_refl _) (pin_ok (Heap.get?_push_size _ rfl))
  have R1 := R.top (.own (o := pin s.heap.objs.size emptyDict) R.gu R.uh hp) (v := .ref s.heap.objs.size) (t := .m []) (.m (big_ns I) upd_same emptyDic rfl .nil .nil) (by simp) fun b hb => by simp at hb; subst hb; exact ⟨hp, R.uh.none hp⟩
  obtain ⟨F, oF, nF, nw, R2⟩ := R1.guard
  refine wpAny_Dict_walk (knd := pl3 X.prog X.w) (by rfl) (by rfl) (by simp) (by simp) (thn ((pps_cons hk hv pps_nil).run pins _ σ _ (fun ps H2 => H2 s.heap.objs.size = some (pin s.heap.objs.size emptyDict) ∧ ∃ (l : Leaf) (y : V), ps = [(leafV l, y)] ∧ ∀ o', DicO X.w o' [l.key] [leafV l] [y] → Q (.ref s.heap.objs.size) (upd H2 s.heap.objs.size (pin s.heap.objs.size o'))) I1 ?_) fun ws s2 ⟨ps, H2, I2, rel, e, l, y, ep, q2⟩ => ?_)
  · refine tdF_run R2 q fun kd σ1 vk H3 U3 G3 q3 e3 R3 h3 => tdF_run R3 q3 fun vd σ4 vv H4 U4 G4 q4 e4 R4 h4 => ?_
    obtain ⟨qk, q4⟩ := q4
    obtain ⟨e5, R5⟩ := Rep.unguard R1.gu oF nF nw (e3.trans e4) R4
    cases zk : kd.key with
    | none => rw [zk] at qk; exact qk.elim
    | some kk =>
      rw [zk] at qk
      have hG5 : DR X.w G4 vk kd := h3.le e4.g
      have dep : kk.depth ≤ 8 := by
        cases kk with
        | tup r => exact absurd qk (by simp [isTupK])
        | _ => simp [NestedKey.depth]
      obtain ⟨l, rfl, rfl⟩ := KeyR.leaf ⟨kd, hG5.le R4.gh, zk, dep⟩ qk
      obtain ⟨v', F', hv', own⟩ := R5.at (i := 0) (t := .m []) rfl
      cases hv'
      obtain ⟨a, o, ks, kv, vs, ea, _, hn, h1, hd, hkk, rk, rv⟩ := own_m own
      cases ea
      -- the pin of the empty dict
      have hpin : H4 s.heap.objs.size = some (pin s.heap.objs.size emptyDict) := by
        have := oF
        cases this with
        | m hn h _ _ _ _ =>
          have hx : (mix [s.heap.objs.size] (upd H s.heap.objs.size (pin s.heap.objs.size emptyDict)) U) s.heap.objs.size = some (pin s.heap.objs.size emptyDict) := by rw [mix_in (by simp)]; exact upd_same
          exact R4.uh _ _ ((e3.trans e4).u _ _ hx)
      refine ⟨hpin, l, vv, rfl, fun o' ok => k _ _ _ _ (cut F U4) G4 q4 e5 ?_⟩
      -- the new dict in its place
      obtain ⟨FF, ss, nd, nu⟩ := R5.ow
      cases ss with
      | @so _ _ Fa _ _ Fb hh rr =>
        obtain ⟨b, _, _, _, _, eb, eF, _⟩ := own_m hh
        cases eb
        subst eF
        have nd' := List.nodup_append.mp nd
        have up : cut F U4 s.heap.objs.size = none := nu _ (by simp)
        refine ⟨R5.zg.mut (hh.ntbl _ (by simp)), R5.gu, fun b u hb => ?_, _, .so (F := [s.heap.objs.size]) (.m hn upd_same ok (by show (match kd.key, D.keys [] with | some k, some ks => some (k :: ks) | _, _ => none) = _; rw [zk]; rfl) (.cons hG5 .nil) (.cons h4 .nil)) (rr.frame (.refl _) fun b hb u h => ?_), nd, nu⟩
        · rw [upd_ne (ne_of_none hb up)]; exact R5.uh b u hb
        · rw [upd_ne (fun e => nd'.2.2 s.heap.objs.size (by simp) b hb e.symm)]; exact h
  · subst ep
    cases rel with
    | @cons _ wv _ _ r1 rn =>
      cases rn
      obtain ⟨rk, rv⟩ := r1
      have hpa := pin_at I2 e
      refine ⟨[(l, wv.2)], ⟨leafIs_rel.mpr rk, rfl, True.intro⟩, ⟨emptyDict, #[], 0, hpa, ⟨rfl, rfl, rfl⟩, rfl, fun _ h => by simp at h, .nil, .nil⟩, fun h' dd hs => ?_⟩
      obtain ⟨o', es, ep, ho, hx, hdt, hkk, hpp, hnn⟩ := dd
      have L := LEnt.of hpp fun e he => hkk e (by simpa using he)
      have := DicO.leaf (w := X.w) (vs := [y]) hx hdt L hnn (.cons rv .nil) (by show 1 ≤ sizeLine; decide)
      exact ⟨.ref s.heap.objs.size, _, inv_pinW I2 e hs ho, rfl, q2 o' this⟩⟩
end
end M
/-! M14: objects of one's own inside objects of one's own: ways into a slot's tree. -/
namespace M
open PySem PyProof.Rows L2
inductive St1 where
  | ix (n : Nat) | fl (C : Addr) (f : Str)
inductive Way (H : Hp) : V → List St1 → V → Prop
  | nil (v) : Way H v [] v
  | ix {a vs n u p v} : H a = some (.lst vs) → vs[n]? = some u → Way H u p v → Way H (.ref a) (.ix n :: p) v
  | fl {a C dx fs f u p v} : H a = some (.ins C dx fs) → fs.lookup f = some u → Way H u p v → Way H (.ref a) (.fl C f :: p) v
theorem Way.split {H : Hp} : ∀ {p q : List St1} {v x : V}, Way H v (p ++ q) x → ∃ u, Way H v p u ∧ Way H u q x
  | [], q, v, x, h => ⟨v, .nil v, h⟩
  | _ :: p, q, v, x, h => by
    cases h with
    | ix h1 h2 h3 => obtain ⟨u, a, b⟩ := Way.split h3; exact ⟨u, .ix h1 h2 a, b⟩
    | fl h1 h2 h3 => obtain ⟨u, a, b⟩ := Way.split h3; exact ⟨u, .fl h1 h2 a, b⟩
/-- the value behind a way, nothing changed -/
def tP (i : Nat) (p : List St1) : TE := fun σ H Q => ∃ v0 v, σ[i]? = some (some v0) ∧ Way H v0 p v ∧ Q v H
def T.at : T → List St1 → Option T
  | t, [] => some t
  | .ll ts, .ix n :: p => match ts[n]? with
    | some t => t.at p
    | none => none
  | .ob C fs, .fl C' f :: p => if C = C' then match lkF f fs with
    | some t => t.at p
    | none => none
    else none
  | _, _ => none
def T.setAt : T → List St1 → T → T
  | t, [], x => x
  | .ll ts, .ix n :: p, x => match ts[n]? with
    | some t => .ll (ts.set n (t.setAt p x))
    | none => .ll ts
  | .ob C fs, .fl C' f :: p, x => match lkF f fs with
    | some t => .ob C (putFT f (t.setAt p x) fs)
    | none => .ob C fs
  | t, _, _ => t
section
variable {w : World} {G H : Hp}
theorem mem3 {b : Addr} {F F1 F2 : List Addr} (h : b ∈ F1 ++ F2) : b ∈ (F ++ F1) ++ F2 := by rw [List.append_assoc]; exact List.mem_append_right _ h
theorem Owns.nth : ∀ {vs : List V} {ts : List T} {F : List Addr} {n : Nat} {t : T}, Owns w G H vs ts F → ts[n]? = some t →
    ∃ v Fi F1 F2, vs[n]? = some v ∧ Own w G H v t Fi ∧ F = F1 ++ (Fi ++ F2) ∧ ∀ H' t'' Fj, (∀ b ∈ F1 ++ F2, ∀ o, H b = some o → H' b = some o) → Own w G H' v t'' Fj → Owns w G H' vs (ts.set n t'') (F1 ++ (Fj ++ F2))
  | _, _, _, n, _, .nil, e => by simp at e
  | _, _, _, 0, t, .cons (F := F) (F' := F') h r, e => by
    simp at e; subst e
    exact ⟨_, F, [], F', rfl, h, rfl, fun H' t'' Fj fr o => Owns.cons (F := Fj) o (Owns.frame (.refl G) r fun b hb => fr b hb)⟩
  | _, _, _, n + 1, t, .cons (F := F) (F' := F') h r, e => by
    obtain ⟨v, Fi, F1, F2, h1, h2, h3, h4⟩ := Owns.nth (n := n) r (by simpa using e)
    refine ⟨v, Fi, F ++ F1, F2, by simpa using h1, h2, by rw [h3, List.append_assoc], fun H' t'' Fj fr o => ?_⟩
    have a := h4 H' t'' Fj (fun b hb => fr b (mem3 hb)) o
    have b := Own.frame (.refl G) h fun b hb => fr b (by simp [hb])
    have := Owns.cons b a
    rw [List.append_assoc]
    exact this
theorem lkF_nth {f : Str} : ∀ {fvs : List (Str × V)} {fts : List (Str × T)} {F : List Addr} {t : T}, fvs.map (·.1) = fts.map (·.1) → Owns w G H (fvs.map (·.2)) (fts.map (·.2)) F → lkF f fts = some t →
    ∃ v Fi F1 F2, fvs.lookup f = some v ∧ Own w G H v t Fi ∧ F = F1 ++ (Fi ++ F2) ∧ ∀ H' t'' Fj, (∀ b ∈ F1 ++ F2, ∀ o, H b = some o → H' b = some o) → Own w G H' v t'' Fj → Owns w G H' (fvs.map (·.2)) ((putFT f t'' fts).map (·.2)) (F1 ++ (Fj ++ F2)) ∧ fvs.map (·.1) = (putFT f t'' fts).map (·.1)
  | [], [], _, _, _, _, e => by cases e
  | [], _ :: _, _, _, h, _, _ => by simp at h
  | _ :: _, [], _, _, h, _, _ => by simp at h
  | (g, u) :: fvs, (g', x) :: fts, _, t, h, .cons (F := F) (F' := F') h3 r, e => by
    have h' := h
    simp only [List.map_cons, List.cons.injEq] at h'
    obtain ⟨rfl, h2⟩ := h'
    dsimp only [lkF] at e
    by_cases hg : g = f
    · rw [if_pos hg] at e; cases e
      refine ⟨u, F, [], F', by rw [look_cons, if_pos hg.symm], h3, rfl, fun H' t'' Fj fr o => ?_⟩
      simp only [putFT, if_pos hg, List.map_cons]
      exact ⟨Owns.cons (F := Fj) o (Owns.frame (.refl G) r fun b hb => fr b hb), by rw [h2]⟩
    · rw [if_neg hg] at e
      obtain ⟨v, Fi, F1, F2, k1, k2, k3, k4⟩ := lkF_nth h2 r e
      refine ⟨v, Fi, F ++ F1, F2, by rw [look_cons, if_neg (fun q => hg q.symm)]; exact k1, k2, by rw [k3, List.append_assoc], fun H' t'' Fj fr o => ?_⟩
      obtain ⟨a, a2⟩ := k4 H' t'' Fj (fun b hb => fr b (mem3 hb)) o
      have b := Own.frame (.refl G) h3 fun b hb => fr b (by simp [hb])
      simp only [putFT, if_neg hg, List.map_cons]
      rw [List.append_assoc]
      exact ⟨.cons b a, by rw [← a2]⟩
theorem Own.zip : ∀ (p : List St1) {v : V} {t t' : T} {F : List Addr}, Own w G H v t F → t.at p = some t' → F.Nodup →
    ∃ v' F', Way H v p v' ∧ Own w G H v' t' F' ∧ F'.Nodup ∧ (∀ a ∈ F', a ∈ F) ∧ ∀ H' t'', (∀ b, b ∉ F' → ∀ o, H b = some o → H' b = some o) → Own w G H' v' t'' F' → Own w G H' v (t.setAt p t'') F
  | [], v, t, t', F, h, e, nd => by
    have e' : some t = some t' := by cases t <;> exact e
    cases e'
    refine ⟨v, F, .nil v, h, nd, fun _ h => h, fun H' t'' fr o => ?_⟩
    have : t.setAt [] t'' = t'' := by cases t <;> rfl
    rw [this]; exact o
  | .ix n :: p, v, t, t', F, h, e, nd => by
    cases h with
    | ll h r =>
      rename_i a vs ts F0
      dsimp only [T.at] at e
      cases z : ts[n]? with
      | none => rw [z] at e; cases e
      | some t1 =>
        rw [z] at e
        dsimp only at e
        obtain ⟨u, Fi, F1, F2, h1, h2, h3, h4⟩ := Owns.nth r z
        subst h3
        have nd1 := (List.nodup_cons.mp nd).2
        have nd2 := (List.nodup_append.mp nd1).2.1
        obtain ⟨v', F', w1, o1, nd', sb, k⟩ := Own.zip p h2 e (List.nodup_append.mp nd2).1
        have sb' : ∀ b ∈ F', b ∈ F1 ++ (Fi ++ F2) := fun b hb => List.mem_append_right _ (List.mem_append_left _ (sb b hb))
        refine ⟨v', F', .ix h h1 w1, o1, nd', fun b hb => List.mem_cons_of_mem _ (sb' b hb), fun H' t'' fr o => ?_⟩
        have na : a ∉ F' := fun q => (List.nodup_cons.mp nd).1 (sb' a q)
        have := h4 H' _ Fi (fun b hb u hu => fr b (fun q => ?_) u hu) (k H' t'' fr o)
        · simp only [T.setAt, z]
          exact .ll (fr a na _ h) this
        · have qi := sb b q
          rcases List.mem_append.mp hb with hb | hb
          · exact (List.nodup_append.mp nd1).2.2 b hb b (List.mem_append_left _ qi) rfl
          · exact (List.nodup_append.mp nd2).2.2 b qi b hb rfl
    | _ => cases e
  | .fl C f :: p, v, t, t', F, h, e, nd => by
    cases h with
    | ob h hk r =>
      rename_i a C' dx fvs fts F0
      dsimp only [T.at] at e
      split at e
      · rename_i hc
        subst hc
        cases z : lkF f fts with
        | none => rw [z] at e; cases e
        | some t1 =>
          rw [z] at e
          dsimp only at e
          obtain ⟨u, Fi, F1, F2, h1, h2, h3, h4⟩ := lkF_nth hk r z
          subst h3
          have nd1 := (List.nodup_cons.mp nd).2
          have nd2 := (List.nodup_append.mp nd1).2.1
          obtain ⟨v', F', w1, o1, nd', sb, k⟩ := Own.zip p h2 e (List.nodup_append.mp nd2).1
          have sb' : ∀ b ∈ F', b ∈ F1 ++ (Fi ++ F2) := fun b hb => List.mem_append_right _ (List.mem_append_left _ (sb b hb))
          refine ⟨v', F', .fl h h1 w1, o1, nd', fun b hb => List.mem_cons_of_mem _ (sb' b hb), fun H' t'' fr o => ?_⟩
          have na : a ∉ F' := fun q => (List.nodup_cons.mp nd).1 (sb' a q)
          obtain ⟨g1, g2⟩ := h4 H' _ Fi (fun b hb u hu => fr b (fun q => by
            have qi := sb b q
            rcases List.mem_append.mp hb with hb | hb
            · exact (List.nodup_append.mp nd1).2.2 b hb b (List.mem_append_left _ qi) rfl
            · exact (List.nodup_append.mp nd2).2.2 b qi b hb rfl) u hu) (k H' t'' fr o)
          simp only [T.setAt, z]
          exact .ob (fr a na _ h) g2 g1
      · cases e
    | _ => cases e
/-- a slot's tree, something changed inside -/
theorem Rep.zip {Z : Amb} {U : Hp} {σ : L2.St} {σd : Sd} {i : Nat} {p : List St1} {t t' : T} (R : Rep w Z U G σ H σd) (z : σd[i]? = some (some t)) (e : t.at p = some t') :
    ∃ v0 v' F', σ[i]? = some (some v0) ∧ Way H v0 p v' ∧ Own w G H v' t' F' ∧ F'.Nodup ∧ (∀ H' t'', (∀ b, b ∉ F' → ∀ o, H b = some o → H' b = some o) → Own w G H' v' t'' F' → Rep w Z U G σ H' (σd.set i (some (t.setAt p t'')))) := by
  obtain ⟨F, s, nd, nu⟩ := R.ow
  obtain ⟨v, Fi, F', h1, h2, s', pm⟩ := s.take z
  have nd' := pm.nodup_iff.mp nd
  have ndi := (List.nodup_append.mp nd').1
  obtain ⟨v', Fj, w1, o1, ndj, sb, k⟩ := Own.zip p h2 e ndi
  refine ⟨v, v', Fj, h1, w1, o1, ndj, fun H' t'' fr o => ?_⟩
  · have a3 : ∀ b ∈ F', b ∉ Fj := fun b hb q => (List.nodup_append.mp nd').2.2 b (sb b q) b hb rfl
    have s3 := s'.frame (H' := H') (.refl G) fun b hb u e => fr b (a3 b hb) u e
    have hi : i < σd.length := getN z
    obtain ⟨F5, s5, p5⟩ := s3.put (i := i) (t := t.setAt p t'') (v := v) (by rw [List.getElem?_set_self hi]) (k H' t'' fr o)
    rw [List.set_set, set_same h1] at s5
    refine ⟨R.zg.re (.refl _) (fun _ _ _ e => e) (fun b ps e => fr b (fun q => s.ntbl b (pm.mem_iff.mpr (List.mem_append_left _ (sb b q))) ps e) _ e), R.gu, fun b u e => fr b (fun q => ?_) u (R.uh b u e), F5, s5, p5.nodup_iff.mpr nd', fun x hx => nu x (pm.mem_iff.mpr (p5.mem_iff.mp hx))⟩
    have := nu b (pm.mem_iff.mpr (List.mem_append_left _ (sb b q)))
    rw [this] at e; cases e
end
end M
namespace M
open PySem PyProof.Rows L2
theorem Owns.setv {w : World} {G H : Hp} : ∀ {vs : List V} {ts : List T} {F : List Addr} {n : Nat} {d0 d : D} {v : V}, Owns w G H vs ts F → ts[n]? = some (.fz d0) → DR w G v d → Owns w G H (vs.set n v) (ts.set n (.fz d)) F
  | _, _, _, n, _, _, _, .nil, e, _ => by simp at e
  | _, _, _, 0, _, _, _, .cons h r, e, hd => by
    simp at e
    subst e
    cases h
    exact .cons (.fz hd) r
  | _, _, _, n + 1, _, _, _, .cons h r, e, hd => .cons h (Owns.setv r (by simpa using e) hd)
theorem ixN_nat {n l : Nat} (h : n < l) : ixN l ((n : Nat) : Int) = some n := by
  unfold ixN
  simp [h]
end M
/-! M15: what is done behind a way: read, length, item, stores. -/
namespace M
open PySem PyProof.Rows L2
section
variable {X : Cx} {w : World} {Z : Amb} {ms : List Nat}
theorem ix_run {K : PySem.W.Frag} {G H : Hp} {v1 v2 : V} {dx dy d : D} {Q : VK} (gh : HLe G H) (hx : Sh w G H v1 dx) (hy : DR w H v2 dy) (z3 : atD dx dy = some d) (fin : ∀ v, DR w G v d → Q v H) : rIx4 K w v1 v2 H Q := by
  cases dx with
  | lst xs =>
    cases dy with
    | int i =>
      cases hy
      obtain ⟨a, vs, rfl, h4, r⟩ := hx.lst gh
      obtain ⟨v, h5, h6⟩ := atI_DRs r z3
      exact .inr (.inl ⟨a, vs, i, v, rfl, rfl, .inl h4, h5, fin v h6⟩)
    | _ => cases z3
  | tup xs =>
    cases dy with
    | int i =>
      cases hy
      obtain ⟨a, vs, rfl, h4, r⟩ := hx.tup
      obtain ⟨v, h5, h6⟩ := atI_DRs r z3
      exact .inr (.inr (.inl ⟨a, vs, i, v, rfl, rfl, .inl (Rd.le gh h4), h5, fin v h6⟩))
    | _ => cases z3
  | str x =>
    cases dy with
    | int i =>
      cases hy
      cases hx.str
      dsimp only [atD] at z3
      split at z3
      · obtain ⟨c, h5, h6⟩ := Option.map_eq_some_iff.mp z3
        subst h6
        exact .inr (.inr (.inr ⟨x, i, c, rfl, rfl, by assumption, h5, fin _ (.str _)⟩))
      · cases z3
    | _ => cases z3
  | dic kvs =>
    have z3 : dicAt kvs dy = some d := by
      cases dy <;> exact z3
    unfold dicAt at z3
    cases z4 : dicIx kvs dy with
    | none => rw [z4] at z3; cases z3
    | some p =>
      obtain ⟨kk, ks⟩ := p
      rw [z4] at z3
      dsimp only at z3
      obtain ⟨g1, g2, g3, g4⟩ := dicIx_run z4
      cases z5 : idxK ks kk with
      | none => rw [z5] at z3; cases z3
      | some i =>
        rw [z5] at z3
        have z3 : (kvs.map (·.2))[i]? = some d := z3
        rcases hx with hx | ⟨a, vs, es, rfl, e, _⟩ | ⟨a, o, ks', kv, vs, kvs', rfl, e, hn, h, hd, hk, rk, rv⟩
        · cases hx with
          | dic hn h hd hk rk rv =>
            rw [g1] at hk; cases hk
            obtain ⟨v, h5, h6⟩ := rv.get z3
            exact .inl ⟨_, _, _, _, _, _, i, v, rfl, .of hn (gh _ _ h) hd g1 (rk.le gh), ⟨dy, hy, g2, g4⟩, g3, z5, h5, fin v h6⟩
        · cases e
        · cases e
          rw [g1] at hk; cases hk
          obtain ⟨v, h5, h6⟩ := rv.get z3
          exact .inl ⟨_, _, _, _, _, _, i, v, rfl, .of hn h hd g1 (rk.le gh), ⟨dy, hy, g2, g4⟩, g3, z5, h5, fin v h6⟩
  | _ => cases dy <;> cases z3
variable {o e k : Expr} {te tk : TEd} {pos pos' : Pos} {i j : Nat} {p : List St1}
theorem pp_nm (h : PE X e (tVar i)) : PE X e (tP i []) := pe_imp h fun σ H Q ⟨v0, v, h1, h2, q⟩ => by
  cases h2
  exact ⟨_, h1, q⟩
theorem pp_ix {n : Nat} {z : Int} {kk : Nat} (h : PE X o (tP i p)) (hz : z = (n : Int)) : PE X (.Subscript o (.Constant (.int z) kk pos') pos) (tP i (p ++ [.ix n])) := pe_imp (pe_ix ix_list h pe_int fun _ _ => rfl) fun σ H Q ⟨v0, v, h1, h2, q⟩ => by
  obtain ⟨u, w1, w2⟩ := h2.split
  cases w2 with
  | ix h3 h4 h5 =>
    cases h5
    refine ⟨v0, _, h1, w1, _, _, z, v, rfl, rfl, .inl (.inl h3), ?_, q⟩
    subst hz
    obtain ⟨hl, _⟩ := List.getElem?_eq_some_iff.mp h4
    unfold atI
    rw [show ixN _ ((n : Nat) : Int) = some n from ixN_nat hl]
    exact h4
theorem pp_fl {C : Addr} {f : Str} (h : PE X o (tP i p)) (c : Cls X.K C) (na : NoAttr X.K C f) (hb : attributeBase o f X.env (eval o X.env) = eval o X.env := by rfl) : PE X (.Attribute o f pos) (tP i (p ++ [.fl C f])) := pe_imp (pe_fld h hb) fun σ H Q ⟨v0, v, h1, h2, q⟩ => by
  obtain ⟨u, w1, w2⟩ := h2.split
  cases w2 with
  | fl h3 h4 h5 =>
    cases h5
    exact ⟨v0, _, h1, w1, _, _, _, _, _, rfl, h3, c, na, h4, q⟩
/-- a slot's tree at a way -/
def atP (i : Nat) (p : List St1) (σ : Sd) : Option T := match σ[i]? with
  | some (some t) => t.at p
  | _ => none
def setP (i : Nat) (p : List St1) (x : T) (σ : Sd) : Sd := match σ[i]? with
  | some (some t) => σ.set i (some (t.setAt p x))
  | _ => σ
theorem atP_run {U G H : Hp} {σ : L2.St} {σd : Sd} {t' : T} (R : Rep w Z U G σ H σd) (e : atP i p σd = some t') : ∃ v0 v' F', σ[i]? = some (some v0) ∧ Way H v0 p v' ∧ Own w G H v' t' F' ∧ F'.Nodup ∧ (∀ H' t'', (∀ b, b ∉ F' → ∀ o, H b = some o → H' b = some o) → Own w G H' v' t'' F' → Rep w Z U G σ H' (setP i p t'' σd)) := by
  unfold atP at e
  split at e
  · rename_i t z
    obtain ⟨a, b, c, d, f, g, nd, h⟩ := R.zip z e
    refine ⟨a, b, c, d, f, g, nd, fun H' t'' fr o => ?_⟩
    unfold setP
    rw [z]
    exact h H' t'' fr o
  · cases e
def tdP (i : Nat) (p : List St1) : TEd := fun σ K => bindO (atP i p σ) fun t => match t with
  | .fz d => K (.t (.fz d)) σ
  | _ => False
theorem pd_p (h : PE X e (tP i p)) : PEd X Z e (tdP i p) := pe_imp h fun σ H Q ⟨U, G, σd, K, R, q, k⟩ => by
  obtain ⟨t, z, q⟩ := bindO_ex q
  obtain ⟨v0, v', F', h1, h2, h3, _⟩ := atP_run R z
  cases t with
  | fz d =>
    cases h3 with
    | fz h3 => exact ⟨v0, v', h1, h2, k _ _ _ _ _ _ q (.refl _ _) (R.topD h3)⟩
  | _ => exact q.elim
def tdLenP (i : Nat) (p : List St1) : TEd := fun σ K => bindO (atP i p σ) fun t => bindO (lenD [t.er]) fun d => K (.t (.fz d)) σ
theorem pd_lenP {pp : Pos} (hg : Gl X "len") (hm : X.mg "len" = none) (h : PE X e (tP i p)) (he : starEach [e] X.env = [(false, eval e X.env)] := by rfl) (hpl : (backTo pos (starEach ([] : List Expr) X.env)).any (·.1) = false := by rfl) : PEd X Z (.Call (.Name "len" pp) [e] [] pos) (tdLenP i p) :=
  pe_imp (pe_callB call_len hg hm PySem.boot_len (pa_cons h pa_nil he) (by decide) (by decide) he hpl) fun σ H Q ⟨U, G, σd, K, R, q, k⟩ => by
    obtain ⟨t, z, q⟩ := bindO_ex q
    obtain ⟨d, z2, q⟩ := bindO_ex q
    obtain ⟨v0, v', F', h1, h2, h3, _⟩ := atP_run R z
    have h4 : DR X.w H v' t.er := h3.read R.gh fun b _ o e => e
    exact ⟨v0, v', h1, h2, ok_len H [v'] [t.er] d Q (.cons h4 .nil) z2 fun v hv => k _ _ _ _ _ _ q (.refl _ _) (R.topD (hv G))⟩
/-- way[name] -/
def tdIxP (i : Nat) (p : List St1) (j : Nat) : TEd := fun σ K => bindO (atP i p σ) fun t => bindO t.sh fun dx => bindO (atP j [] σ) fun u => match u with
  | .fz dy => bindO (atD dx dy) fun d => K (.t (.fz d)) σ
  | _ => False
theorem pd_ixP (hu : X.A.units + 10 < cLine) (h : PE X o (tP i p)) (hk : PE X k (tVar j)) (hs : PlainIx k := by exact fun _ _ => rfl) : PEd X Z (.Subscript o k pos) (tdIxP i p j) := pe_imp (pe_ix (ix_any hu) h hk hs) fun σ H Q ⟨U, G, σd, K, R, q, k⟩ => by
  obtain ⟨t, z, q⟩ := bindO_ex q
  obtain ⟨dx, z1, q⟩ := bindO_ex q
  obtain ⟨u, z2, q⟩ := bindO_ex q
  obtain ⟨v0, v', F', h1, h2, h3, _⟩ := atP_run R z
  obtain ⟨y0, y', F2, g1, g2, g3, _⟩ := atP_run R z2
  cases u with
  | fz dy =>
    obtain ⟨d, z3, q⟩ := bindO_ex q
    cases g2
    cases g3 with
    | fz g3 => exact ⟨v0, v', h1, h2, y0, g1, ix_run R.gh (h3.sh z1) (g3.le R.gh) z3 fun v hv => k _ _ _ _ _ _ q (.refl _ _) (R.topD hv)⟩
  | _ => exact q.elim
/-- way[name] = e, the way's object a list of data -/
def tdPutP (i : Nat) (p : List St1) (j : Nat) (te : TEd) : TSd := fun De σ => tdF te σ fun d σ1 => bindO (atP i p σ1) fun t => bindO (atP j [] σ1) fun u => match t, u with
  | .l ds, .fz (.int z) => bindO (ixN ds.length z) fun n => De.nx (setP i p (.l (ds.set n d)) σ1)
  | _, _ => False
theorem psd_putP (h : PE X o (tP i p)) (hk : PE X k (tVar j)) (he : PEd X Z e te)
    (ha : ∀ v, assign (.Subscript o k pos') X.env v = (do
      let ov ← holding [v] (eval o X.env)
      let iv ← holding [v, ov] (eval k X.env)
      standAt pos'
      holding [v, ov, iv] (setItem ov iv v)
      release [v, ov, iv] []) := by intro _; rfl) (hs : swapsWithSole [.Subscript o k pos'] e pos.line X.env = pure false := by rfl) (hw : swappedStores [.Subscript o k pos'] e X.env = pure none := by rfl)
    (h1 : (assignEach [.Subscript o k pos'] X.env).map (·.2) = [assign (.Subscript o k pos') X.env] := by rfl) : PSd X Z ms (.Assign [.Subscript o k pos'] e pos) (tdPutP i p j te) :=
  ps_imp (ps_asg he (pg_sub h hk set_list ha) hs hw h1) (lS fun U G σd De mv D' σ H R m pn q ok => by
    refine tdF_run R q fun d σ1 v H1 U1 G1 q1 e1 R1 hd => ?_
    obtain ⟨t, z, q1⟩ := bindO_ex q1
    obtain ⟨u, z2, q1⟩ := bindO_ex q1
    obtain ⟨v0, v', F', h1, h2, h3, nd, rep⟩ := atP_run R1 z
    obtain ⟨y0, y', F2, g1, g2, g3, _⟩ := atP_run R1 z2
    cases g2
    cases t with
    | l ds =>
      cases u with
      | fz dy =>
        cases dy with
        | int zz =>
          obtain ⟨n, z3, q1⟩ := bindO_ex q1
          cases h3 with
          | l h3 r =>
            cases g3 with
            | fz g3 =>
              cases g3
              exact ⟨v0, _, h1, h2, _, g1, _, _, zz, n, rfl, rfl, h3, by rw [r.length]; exact z3, ok.nx _ _ _ _ _ q1 e1 (rep _ _ (fun b hb o ho => by rw [upd_ne (fun e => hb (by simp [e]))]; exact ho) (.l upd_same (r.set n hd))) pn⟩
        | _ => exact q1.elim
      | _ => exact q1.elim
    | _ => exact q1.elim)
/-- way[n] = e, the way's object a list of trees, data at n ahead -/
def tdPutC (i : Nat) (p : List St1) (n : Nat) (te : TEd) : TSd := fun De σ => tdF te σ fun d σ1 => bindO (atP i p σ1) fun t => match t with
  | .ll ts => bindO ts[n]? fun t0 => match t0 with
    | .fz _ => De.nx (setP i p (.ll (ts.set n (.fz d))) σ1)
    | _ => False
  | _ => False
theorem psd_putC {n : Nat} {z : Int} {kk : Nat} {p3 : Pos} (h : PE X o (tP i p)) (hz : z = (n : Int)) (he : PEd X Z e te)
    (ha : ∀ v, assign (.Subscript o (.Constant (.int z) kk p3) pos') X.env v = (do
      let ov ← holding [v] (eval o X.env)
      let iv ← holding [v, ov] (eval (.Constant (.int z) kk p3) X.env)
      standAt pos'
      holding [v, ov, iv] (setItem ov iv v)
      release [v, ov, iv] []) := by intro _; rfl) (hs : swapsWithSole [.Subscript o (.Constant (.int z) kk p3) pos'] e pos.line X.env = pure false := by rfl) (hw : swappedStores [.Subscript o (.Constant (.int z) kk p3) pos'] e X.env = pure none := by rfl)
    (h1 : (assignEach [.Subscript o (.Constant (.int z) kk p3) pos'] X.env).map (·.2) = [assign (.Subscript o (.Constant (.int z) kk p3) pos') X.env] := by rfl) : PSd X Z ms (.Assign [.Subscript o (.Constant (.int z) kk p3) pos'] e pos) (tdPutC i p n te) :=
  ps_imp (ps_asg he (pg_sub h pe_int set_list ha) hs hw h1) (lS fun U G σd De mv D' σ H R m pn q ok => by
    refine tdF_run R q fun d σ1 v H1 U1 G1 q1 e1 R1 hd => ?_
    obtain ⟨t, z1, q1⟩ := bindO_ex q1
    obtain ⟨v0, v', F', h1, h2, h3, nd, rep⟩ := atP_run R1 z1
    cases t with
    | ll ts =>
      obtain ⟨t0, z2, q1⟩ := bindO_ex q1
      cases t0 with
      | fz d0 =>
        cases h3 with
        | ll h3 r =>
          rename_i a vs F0
          obtain ⟨u, Fi, F1, F2, k1, k2, k3, k4⟩ := r.nth z2
          cases k2
          subst k3
          obtain ⟨hl, _⟩ := List.getElem?_eq_some_iff.mp k1
          refine ⟨v0, _, h1, h2, _, _, z, n, rfl, rfl, h3, by subst hz; exact ixN_nat hl, ok.nx _ _ _ _ _ q1 e1 (rep _ _ (fun b hb o ho => by rw [upd_ne (fun e => hb (by simp [e]))]; exact ho) (.ll upd_same ?_)) pn⟩
          have na := (List.nodup_cons.mp nd).1
          exact Owns.frame (.refl _) (r.setv z2 hd) fun b hb o ho => by rw [upd_ne (fun e => na (by rw [← e]; exact hb))]; exact ho
      | _ => exact q1.elim
    | _ => exact q1.elim)
/-- [e, c]: the first kept as one's own -/
def tdPair (d : D) (te : TEd) : TEd := fun σ K => te σ fun r σ1 => match r with
  | .t t => K (.t (.ll [t, .fz d])) σ1
  | _ => False
theorem pd_pair {e2 : Expr} {v2 : V} {d : D} (he : PEd X Z e te) (h2 : PE X e2 (tC v2)) (hd : ∀ G, DR X.w G v2 d) (hs : starEach [e, e2] X.env = (false, eval e X.env) :: starEach [e2] X.env := by rfl) (hs2 : starEach [e2] X.env = [(false, eval e2 X.env)] := by rfl) : PEd X Z (.List [e, e2] pos) (tdPair d te) :=
  pe_imp (pe_lst (pa_cons he (pa_cons h2 pa_nil hs2) hs)) fun σ H Q ⟨U, G, σd, K, R, q, k⟩ => by
    refine ⟨U, G, σd, _, R, q, fun r σ1 v H1 U1 G1 q1 e1 R1 => ?_⟩
    cases r with
    | t t =>
      refine ⟨by show 2 ≤ sizeLine; decide, fun l hl => k _ _ _ _ _ _ q1 e1 ?_⟩
      obtain ⟨F, s, nd, nu⟩ := R1.ow
      cases s with
      | @so _ _ F1 _ _ F2 h r =>
        have dm : ∀ b ∈ F1 ++ F2, b ≠ l := fun b hb e => by
          obtain ⟨o, ho⟩ := Slots.dom (.so h r) b hb
          rw [e, hl] at ho; cases ho
        have up : ∀ b ∈ F1 ++ F2, ∀ o, H1 b = some o → upd H1 l (.lst [v, v2]) b = some o := fun b hb o ho => by rw [upd_ne (dm b hb)]; exact ho
        refine ⟨R1.zg.re (.refl _) (fun _ _ _ e => e) (fun b ps e => by rw [upd_ne (ne_of_none e hl)]; exact e), R1.gu, R1.uh.trans (.upd hl), l :: (F1 ++ ([] ++ [])) ++ F2, .so (.ll upd_same (.cons (h.frame (.refl _) fun b hb => up b (List.mem_append_left _ hb)) (.cons (.fz (hd _)) .nil))) (r.frame (.refl _) fun b hb => up b (List.mem_append_right _ hb)), ?_, fun a ha => ?_⟩
        · simp only [List.append_nil, List.cons_append]
          exact List.nodup_cons.mpr ⟨fun hb => dm l hb rfl, nd⟩
        · simp only [List.append_nil, List.cons_append] at ha
          rcases List.mem_cons.mp ha with rfl | ha
          · exact R1.uh.none hl
          · exact nu a ha
    | _ => exact q1.elim
end
end M
/-! M16: lambdas with captured names: made, handed on, called from other frames. -/
namespace M
open PySem PySem.Spec PyProof.Rows L2 LamX NdefX
/-! ### a cell shown and hidden -/
def cellO (c : Addr) (o : Obj) : HO := .frz o (.ext fun h => h.get? c = some o)
section
variable {P : Program} {w : World} {H H' : Hp} {h h' : Heap} {c : Addr} {o : Obj}
theorem cut1 (b : Addr) : cut [c] H b = if b = c then none else H b := by
  unfold cut
  by_cases e : b = c <;> simp [e]
theorem cut1_same : cut [c] H c = none := by rw [cut1, if_pos rfl]
theorem cut1_ne {b : Addr} (e : b ≠ c) : cut [c] H b = H b := by rw [cut1, if_neg e]
theorem cut1_le : HLe (cut [c] H) H := fun b u e => by
  by_cases q : b = c
  · rw [q, cut1_same] at e; cases e
  · rw [cut1_ne q] at e; exact e
theorem upd_cut1 (e : H c = some (cellO c o)) : upd (cut [c] H) c (cellO c o) = H := by
  funext b
  by_cases q : b = c
  · rw [q, upd_same]; exact e.symm
  · rw [upd_ne q, cut1_ne q]
theorem cut1_upd (e : H c = none) {u : HO} : cut [c] (upd H c u) = H := by
  funext b
  by_cases q : b = c
  · rw [q, cut1_same]; exact e.symm
  · rw [cut1_ne q, upd_ne q]
theorem hok_hide (x : HOk P w H h) (e : H c = some (cellO c o)) : HOk P w (cut [c] H) h := fun a u q => by
  have hc : a ≠ c := fun z => by rw [z, cut1_same] at q; cases q
  rw [cut1_ne hc] at q
  exact (x a u q).stay (fun _ _ _ z => z) (fun b z => by rw [cut1_ne (fun y => by rw [y, e] at z; cases z)]; exact z) fun b xs z => by rw [cut1_ne (fun y => by rw [y, e] at z; cases z)]; exact z
theorem hok_shown (x : HOk P w H h) (n : H c = none) (g : h.get? c = some o) : HOk P w (upd H c (cellO c o)) h := fun a u q => by
  by_cases hc : a = c
  · subst hc
    rw [upd_same] at q
    cases q
    exact ⟨g, g, ⟨o, g⟩, fun h1 h2 p k => k _ p⟩
  · rw [upd_ne hc] at q
    exact (x a u q).stay (fun _ _ _ z => z) (fun b z => by rw [upd_ne (ne_of_none z n)]; exact z) fun b xs z => by rw [upd_ne (ne_of_none z n)]; exact z
theorem hok_cellAt (x : HOk P w H h) (e : H c = some (cellO c o)) : h.get? c = some o := (x c _ e).1
/-- a call that knew the cell: the cell forgotten behind it -/
theorem ce_hide {outer : List Env} {s s' : Shared} {Q Q2 : VK} {u : Value} (n : H c = none) (g : s.heap.get? c = some o) (nf : c ∉ frs outer) (x : CE outer P w (upd H c (cellO c o)) s Q u s') (k : ∀ v H', H' c = some (cellO c o) → Q v H' → Q2 v (cut [c] H')) : CE outer P w H s Q2 u s' := by
  obtain ⟨v, H', os, bare, un, hok, r, q⟩ := x
  have ec : H' c = some (cellO c o) := un.frzs _ _ _ upd_same
  have g' := hok_cellAt hok ec
  refine ⟨v, cut [c] H', os, bare, ⟨fun b ob hb hn hf hx => ?_, fun b ob hb hn hf hx => ?_, fun b ob hb hn hx => ?_, un.there, fun b xs e => ?_, fun b ob u e => ?_, fun b ps e => ?_⟩, hok_hide hok ec, r, k v H' ec q⟩
  · by_cases e : b = c
    · subst e; rw [g] at hb; cases hb; exact g'
    · exact un.keep b ob hb (by rw [upd_ne e]; exact hn) hf hx
  · have e : b ≠ c := fun z => nf (z ▸ hf)
    exact un.slot b ob hb (by rw [upd_ne e]; exact hn) hf hx
  · by_cases e : b = c
    · rw [e]; exact cut1_same
    · rw [cut1_ne e]; exact un.free b ob hb (by rw [upd_ne e]; exact hn) hx
  · have z := ne_of_none e n
    rw [cut1_ne z]; exact un.tups b xs (by rw [upd_ne z]; exact e)
  · have z := ne_of_none e n
    rw [cut1_ne z]; exact un.frzs b ob u (by rw [upd_ne z]; exact e)
  · have z := ne_of_none e n
    rw [cut1_ne z]; exact un.tbls b ps (by rw [upd_ne z]; exact e)
/-- a call that did not know the cell: the cell known behind it -/
theorem ce_shown {outer : List Env} {s s' : Shared} {Q Q2 : VK} {u : Value} (ec : H c = some (cellO c o)) (hok0 : HOk P w H s.heap) (nf : c ∉ frs outer) (x : CE outer P w (cut [c] H) s Q u s') (k : ∀ v H', H' c = none → Q v H' → Q2 v (upd H' c (cellO c o))) : CE outer P w H s Q2 u s' := by
  obtain ⟨v, H', os, bare, un, hok, r, q⟩ := x
  have g := hok_cellAt hok0 ec
  have n' : H' c = none := un.free c o g cut1_same (by simp)
  have g' : s'.heap.get? c = some o := un.keep c o g cut1_same nf (by simp)
  have z : ∀ {b : Addr} {u : HO}, H b = some u → u ≠ cellO c o → b ≠ c := fun {b u} e hu y => by rw [y, ec] at e; exact hu (Option.some.inj e).symm
  refine ⟨v, upd H' c (cellO c o), os, bare, ⟨fun b ob hb hn hf hx => ?_, fun b ob hb hn hf hx => ?_, fun b ob hb hn hx => ?_, un.there, fun b xs e => ?_, fun b ob u e => ?_, fun b ps e => ?_⟩, hok_shown hok n' g', r, k v H' n' q⟩
  · have e : b ≠ c := (ne_of_none ec hn).symm
    exact un.keep b ob hb (by rw [cut1_ne e]; exact hn) hf hx
  · have e : b ≠ c := (ne_of_none ec hn).symm
    exact un.slot b ob hb (by rw [cut1_ne e]; exact hn) hf hx
  · have e : b ≠ c := (ne_of_none ec hn).symm
    rw [upd_ne e]; exact un.free b ob hb (by rw [cut1_ne e]; exact hn) hx
  · have y := z e (by intro q; cases q)
    rw [upd_ne y]; exact un.tups b xs (by rw [cut1_ne y]; exact e)
  · by_cases y : b = c
    · subst y; rw [upd_same]; rw [ec] at e; exact e
    · rw [upd_ne y]; exact un.frzs b ob u (by rw [cut1_ne y]; exact e)
  · have y := z e (by intro q; cases q)
    rw [upd_ne y]; exact un.tbls b ps (by rw [cut1_ne y]; exact e)
theorem rd_cut {G : Hp} {a : Addr} {u : HO} (e : G c = some (cellO c o)) (h : Rd G a u) (nu : ∀ φ, u ≠ .ext φ) (nz : ∀ o' u', u ≠ .frz o' u') : Rd (M.cut [c] G) a u := by
  rcases h with h | ⟨o', h⟩
  · exact .inl (by rw [cut1_ne (fun q => by rw [q, e] at h; exact nz _ _ (Option.some.inj h).symm)]; exact h)
  · exact .inr ⟨o', by rw [cut1_ne (fun q => by rw [q, e] at h; cases h; exact nu _ rfl)]; exact h⟩
mutual
theorem DR.cut {w : World} {G : Hp} (e : G c = some (cellO c o)) : ∀ {v d}, DR w G v d → DR w (M.cut [c] G) v d
  | _, _, .non => .non
  | _, _, .bl b => .bl b
  | _, _, .int i => .int i
  | _, _, .str x => .str x
  | _, _, .ref a => .ref a
  | _, _, .tup h r => .tup (rd_cut e h (by intro φ q; cases q) (by intro a b q; cases q)) (DRs.cut e r)
  | _, _, .lst h r => .lst (rd_cut e h (by intro φ q; cases q) (by intro a b q; cases q)) (DRs.cut e r)
  | _, _, .dic hn h hd hk rk rv => .dic hn (by rw [cut1_ne (fun q => by rw [q, e] at h; cases h)]; exact h) hd hk (DRs.cut e rk) (DRs.cut e rv)
  | _, _, .ins h hk r => .ins (by rw [cut1_ne (fun q => by rw [q, e] at h; cases h)]; exact h) hk (DRs.cut e r)
  | _, _, .fn h hc p => .fn (by rw [cut1_ne (fun q => by rw [q, e] at h; cases h)]; exact h) (by rw [cut1_ne (fun q => by rw [q, e] at hc; cases hc)]; exact hc) p
  | _, _, .opq h => .opq h
theorem DRs.cut {w : World} {G : Hp} (e : G c = some (cellO c o)) : ∀ {vs ds}, DRs w G vs ds → DRs w (M.cut [c] G) vs ds
  | _, _, .nil => .nil
  | _, _, .cons h r => .cons (DR.cut e h) (DRs.cut e r)
end
end
theorem env0_hide {P : Program} {w : World} {K : PySem.W.Frag} {mg : Str → Option Value} {base : Heap} {A : Around} {outer : List Env} {s : Shared} {H : Hp} {c : Addr} {o : Obj} (e0 : Env0 P w K mg base A outer s H) (e : H c = some (cellO c o)) : Env0 P w K mg base A outer s (cut [c] H) :=
  ⟨e0.frames, e0.mod, fun b ob h => ⟨(e0.bs b ob h).1, cut_none (e0.bs b ob h).2⟩, e0.bsz, e0.funs, fun b hb => cut_none (e0.frf b hb), hok_hide e0.hok e, e0.bare⟩
theorem env0_shown {P : Program} {w : World} {K : PySem.W.Frag} {mg : Str → Option Value} {base : Heap} {A : Around} {outer : List Env} {s : Shared} {H : Hp} {c : Addr} {o : Obj} (e0 : Env0 P w K mg base A outer s H) (n : H c = none) (g : s.heap.get? c = some o) (nb : base.get? c = none) (nf : c ∉ frs outer) : Env0 P w K mg base A outer s (upd H c (cellO c o)) :=
  ⟨e0.frames, e0.mod, fun b ob h => ⟨(e0.bs b ob h).1, by rw [upd_ne (fun q => by rw [q, nb] at h; cases h)]; exact (e0.bs b ob h).2⟩, e0.bsz, e0.funs, fun b hb => by rw [upd_ne (fun q => nf (by rw [← q]; exact hb))]; exact e0.frf b hb, hok_shown e0.hok n g, e0.bare⟩
/-! ### a lambda's call -/
section
variable {CX : CXT} {P : Program} {w : World} {K : PySem.W.Frag} {mg : Str → Option Value} {base : Heap} {N ps fr : List Str} {L : LF} {f : Addr} {k : Nat}
theorem lamO_at {H : Hp} {h : Heap} (hok : HOk P w H h) (e : H f = some (LamO f L)) : ∃ (od : Option Addr) (sl : Array (Option Value)) (pm ctv : Value), h.get? f = some (⟨.type "function", od, .func (PySem.W.kla_fn L.F.name L.F.qual L.F.params L.be L.F.scope L.F.cl pm (.ref L.F.c) ctv), sl⟩ : Obj) := by
  obtain ⟨z, _, _⟩ := hok f _ e
  exact z
theorem lam_call {A : Around} {outer : List Env} {s : Shared} {H : Hp} {us : List Value} {vs : List V} {ws : List (Option V)} {Q : VK} {E : XK} {t : TE} (S : NScope N ps fr L.F.scope)
    (hb : ∀ (pm ctv : Value) (us : List Value), us.length = ps.length → bindArgs (PySem.W.kla_fn L.F.name L.F.qual L.F.params L.be L.F.scope L.F.cl pm (.ref L.F.c) ctv) ⟨us, []⟩ = pure (ps.zip us)) (hl : vs.length = ps.length)
    (hr : Room (k + 1) A) (e0 : Env0 P w K mg base A outer s H) (hf : H f = some (LamO f L)) (hc : H L.F.c = some (CodeO L.F.c L.F.qual)) (C : CellsAt L.F.cl fr ws s.heap H) (r : Vals vs us)
    (ht : PE (ncx CX P w K mg base N L.F f A outer s H E) L.be t) (q : t (startF N vs ws) H Q) : codeAny (model P w) A (.call (.ref f) ⟨us, []⟩) (CR CX outer P w H s Q E) s := by
  have lim : s.heap.NoLimit := e0.mod.nolimit.keeps fun b o e => (e0.bs b o e).1
  obtain ⟨od, sl, pm, ctv, ho⟩ := lamO_at e0.hok hf
  refine PySem.W.kla_callFunE hr.depth ho rfl S.co S.gen rfl (codeO_at e0.hok hc) ?_
  rw [hb pm ctv us (by rw [← r.length]; exact hl)]
  refine wpAny_pure (wpAny_newFunctionEnv S.nocell (fun ⟨n, _⟩ hy => S.par n (List.of_mem_zip hy).1) (fun h₁ hns hsb => ⟨lim.fresh _ hsb, ?_⟩) S.kind)
  refine PySem.W.kla_codeExpr ?_
  have kp : ∀ b o, s.heap.get? b = some o → h₁.get? b = some o := fun b o e => hsb.extBut b o (Nat.ne_of_lt (Heap.lt_size e)) (Heap.get?_push_of_some _ e)
  have I : Inv (ncx CX P w K mg base N L.F f A outer s H E) [] (startF N vs ws) H { s with heap := h₁, toks := s.toks + (ps.zip us).length } := inv_startN S hr.hd e0 hl r C hns kp
  refine wpAny_mono (ht.run [] _ (startF N vs ws) H _ I q) (fun u s' hs => ?_) fun e s' hs => hs
  obtain ⟨v, H', J, rv, q⟩ := hs
  exact ⟨v, H', J.os, J.bare, J.base, J.hok, rv, q⟩
end
end M
/-! M17: the closure over one name that looks up a dict: its call; a lambda's making; calls bundled; pairs with one's own list. -/
namespace M
open PySem PySem.Spec PyProof.Rows L2 LamX NdefX
/-- a def by name -/
def Kn (P : Program) (w : World) (K : PySem.W.Frag) (mg : Str → Option Value) (base : Heap) (Z : Amb) (k : Nat) (x : Str) (n : Nat) (S : SpD) : Prop :=
  ∃ f fd ps, FnOk P w K mg base CX0 k f fd ps (spOf w Z n S) ∧ mg x = some (.ref f) ∧ PySem.W.keepIn K (.ref f) = true ∧ Binds K fd ps []
/-- a method -/
def KM (P : Program) (w : World) (K : PySem.W.Frag) (mg : Str → Option Value) (base : Heap) (Z : Amb) (k : Nat) (C : Addr) (m : Str) (n : Nat) (S : SpD) : Prop :=
  ∃ f fd ps, FnOk P w K mg base CX0 k f fd ps (spOf w Z n S) ∧ Meth K C m f ∧ Binds K fd ps []
/-- a class's making -/
def KC (P : Program) (w : World) (K : PySem.W.Frag) (mg : Str → Option Value) (base : Heap) (Z : Amb) (k : Nat) (x : Str) (C : Addr) (n : Nat) (S : SpD) : Prop :=
  ∃ f fd ps, FnOk P w K mg base CX0 k f fd ps (spOf w Z n S) ∧ Mk K C f ∧ mg x = some (.ref C) ∧ Binds K fd ps []
section
variable {X : Cx} {Z : Amb} {ms : List Nat} {e o : Expr} {es : List Expr} {te to : TEd} {ta : TAd} {pos p apos : Pos} {k j : Nat} {C : Addr} {x m : Str} {S : SpD} {mds : List Bool} {n : Nat}
theorem pd_kn (h : Kn X.prog X.w X.K X.mg X.base Z k x n S) (hr : Room j X.A) (hk : k ≤ j) (hg : Gl X x) (ha : PAd X Z (e :: es) ta) (hdb : (x == ("__debug__" : Str)) = false := by decide) (he : starEach (e :: es) X.env = (false, eval e X.env) :: starEach es X.env := by rfl) (hpl : (backTo pos (starEach es X.env)).any (·.1) = false := by rfl) :
    PEd X Z (.Call (.Name x p) (e :: es) [] pos) (tdCall mds [] n S ta) := by
  obtain ⟨f, fd, ps, F, hm, hkp, hb⟩ := h
  exact pd_call (E := E0) F (hr.mono hk) hg hm hkp hb .nil pass0 (fun _ => .nil) ha hdb he hpl
theorem pd_kn0 (h : Kn X.prog X.w X.K X.mg X.base Z k x n S) (hr : Room j X.A) (hk : k ≤ j) (hg : Gl X x) (hdb : (x == ("__debug__" : Str)) = false := by decide) : PEd X Z (.Call (.Name x p) [] [] pos) (tdCall mds [] n S taNil) := by
  obtain ⟨f, fd, ps, F, hm, hkp, hb⟩ := h
  exact pd_call0 (E := E0) F (hr.mono hk) hg hm hkp hb .nil pass0 (fun _ => .nil) hdb
theorem pd_km0 {pl : Sem Bool} (h : KM X.prog X.w X.K X.mg X.base Z k C m n S) (c : Cls X.K C) (hr : Room j X.A) (hk : k ≤ j) (ho : PEd X Z o to)
    (ht : eval (.Call (.Attribute o m apos) [] [] pos) X.env = (do
      let ov ← eval o X.env
      standAt apos.atName
      let (f, first) ← holding [ov] (getMethod ov m pl)
      callWith pos f first (backTo pos (starEach [] X.env)) (backToKw pos (keywordEach [] X.env))) := by rfl) : PEd X Z (.Call (.Attribute o m apos) [] [] pos) (tdMeth C m mds [] n S to taNil) := by
  obtain ⟨f, fd, ps, F, hm, hb⟩ := h
  exact pd_meth0 (pl := pl) (E := E0) ho c hm F (hr.mono hk) hb .nil pass0 (fun _ => .nil) ht
theorem pd_kc (h : KC X.prog X.w X.K X.mg X.base Z k x C n S) (hr : Room j X.A) (hk : k + 1 ≤ j) (hg : Gl X x) (ha : PAd X Z (e :: es) ta) (hdb : (x == ("__debug__" : Str)) = false := by decide) (he : starEach (e :: es) X.env = (false, eval e X.env) :: starEach es X.env := by rfl) (hpl : (backTo pos (starEach es X.env)).any (·.1) = false := by rfl) :
    PEd X Z (.Call (.Name x p) (e :: es) [] pos) (tdMake C mds [] n S ta) := by
  obtain ⟨f, fd, ps, F, mk, hm, hb⟩ := h
  exact pd_make (E := E0) mk F (hr.mono hk) hg hm hb .nil pass0 (fun _ => .nil) ha hdb he hpl
def tdNotE (te : TEd) : TEd := fun σ K => te σ fun x σ1 => bindO (rdE σ1 x) fun d => match d with
  | .bl b => K (.t (.fz (.bl (!b)))) σ1
  | _ => False
theorem pd_notV {a : Expr} {ta : TEd} (ha : PEd X Z a ta) : PEd X Z (.UnaryOp .Not a pos) (tdNotE ta) := by
  refine pe_imp (pe_not ha) fun σ H Q ⟨U, G, σd, K, R, q, k⟩ => ?_
  refine ⟨U, G, σd, _, R, q, fun x σ1 v H1 U1 G1 q1 e1 R1 => ?_⟩
  obtain ⟨U2, G2, e2, R2, h2⟩ := R1.hold
  obtain ⟨d, z, q1⟩ := bindO_ex q1
  have h := h2.er R2 z
  cases d with
  | bl b => cases h; exact ⟨b, rfl, k _ _ _ _ _ _ q1 (e1.trans e2) (R2.topD (.bl _))⟩
  | _ => exact q1.elim
/-! ### (x, e) returned, x a slot's own object; a, b = x -/
def tdRetP (i : Nat) (te : TEd) : TSd := fun De σ => hasS i σ ∧ tdF te σ fun d σ1 => match σ1[i]? with
  | some (some t) => De.rt (.tt [t, .fz d]) (σ1.set i none)
  | _ => False
theorem psd_retP {i : Nat} {e1 e2 : Expr} {te : TEd} {kk : Nat} {p2 : Pos} (h1 : PE X e1 (tVar i)) (h2 : PEd X Z e2 te) (hs : starEach [e1, e2] X.env = (false, eval e1 X.env) :: starEach [e2] X.env := by rfl) (hs2 : starEach [e2] X.env = [(false, eval e2 X.env)] := by rfl) : PSd X Z ms (.Return (some (.Tuple [e1, e2] kk p2)) pos) (tdRetP i te) :=
  ps_imp (ps_ret (pe_tup (pa_cons h1 (pa_cons h2 pa_nil hs2) hs))) (lS fun U G σd De mv D σ H R m pn q ok => by
    obtain ⟨x, hx⟩ := hasS_run R q.1
    refine ⟨x, hx, tdF_run R q.2 fun d σ1 v H1 U1 G1 q1 e1 R1 hd => ?_⟩
    refine ⟨by show 2 ≤ sizeLine; decide, fun l hl => ?_⟩
    cases z : σ1[i]? with
    | none => rw [z] at q1; exact q1.elim
    | some u =>
      cases u with
      | none => rw [z] at q1; exact q1.elim
      | some t =>
        rw [z] at q1
        obtain ⟨x', hx', R2⟩ := R1.lift z
        rw [hx] at hx'; cases hx'
        have g : Grow U1 G1 H1 (upd U1 l (.tup [x, v])) (upd G1 l (.tup [x, v])) (upd H1 l (.tup [x, v])) := .frz R1.gu R1.uh hl
        have R3 := R2.grow g
        obtain ⟨F, s, nd, nu⟩ := R3.ow
        cases s with
        | @so _ _ F1 _ _ F2 h r =>
          refine ok.rt _ _ _ _ _ _ _ q1 (e1.trans g.e) ⟨R3.zg, R3.gu, R3.uh, (F1 ++ ([] ++ [])) ++ F2, .so (.tt upd_same (.cons h (.cons (.fz (hd.le g.e.g)) .nil))) r, by simpa using nd, by simpa using nu⟩ pn)
def tdUnP (i a b : Nat) : TSd := fun De σ => match σ[i]? with
  | some (some (.tt [t1, t2])) => De.nx (((σ.set i none).set a (some t1)).set b (some t2))
  | _ => False
end
/-! ### the call of a closure -/
/-- the closure over one name y, a dict; what it tells of a key is what the dict holds -/
def CloP (P : Program) (w : World) (K : PySem.W.Frag) (mg : Str → Option Value) (base : Heap) (y : Str) (Zh : Hp) (kvs : List (D × D)) (L : LF) : Prop :=
  ∃ (c : Addr) (o : Obj) (u : Value) (xv : V) (N ps : List Str), (∀ y' c', L.F.cl.lookup y' = some c' → y' = y ∧ c' = c) ∧ L.F.cl.lookup y = some c ∧ Zh c = some (cellO c o) ∧ o.data = .cell (some u) ∧ RelV xv u ∧ DR w Zh xv (.dic kvs) ∧ NScope N ps [y] L.F.scope ∧ ps.length = 1 ∧
    (∀ (pm ctv : Value) (us : List Value), us.length = ps.length → bindArgs (PySem.W.kla_fn L.F.name L.F.qual L.F.params L.be L.F.scope L.F.cl pm (.ref L.F.c) ctv) ⟨us, []⟩ = pure (ps.zip us)) ∧
    ∀ (f : Addr) (A : Around) (outer : List Env) (s : Shared) (H : Hp), A.units + 20 < cLine → PE (ncx CX0 P w K mg base N L.F f A outer s H E0) L.be (tOp (rIx4 K w) (tVar 1) (tVar 0))
def tdClo (y : Str) (kvs : List (D × D)) (P : LF → Prop) (i j : Nat) : TEd := fun σ K => ∃ Φ, atP i [] σ = some (.fz (.fn Φ)) ∧ (∀ L, Φ L → P L) ∧ bindO (atP j [] σ) fun u => match u with
  | .fz dy => bindO (dicAt kvs dy) fun d => K (.t (.fz d)) σ
  | _ => False
theorem pd_clo {X : Cx} {Z : Amb} {y x : Str} {kvs : List (D × D)} {i j k : Nat} {e : Expr} {p pos : Pos} {Pc : LF → Prop} (hPc : Pc = CloP X.prog X.w X.K X.mg X.base y Z.Z kvs) (hr : Room (k + 1) X.A) (hN : X.N[i]? = some x) (hv : Vis X.env.scope x) (ha : PE X e (tVar j))
    (hd : (x == ("__debug__" : Str)) = false := by decide) (hcd : (x == ("__classdict__" : Str)) = false := by decide)
    (he : starEach [e] X.env = (false, eval e X.env) :: starEach [] X.env := by rfl) (hpl : (backTo pos (starEach ([] : List Expr) X.env)).any (·.1) = false := by rfl) : PEd X Z (.Call (.Name x p) [e] [] pos) (tdClo y kvs Pc i j) := by
  subst hPc
  refine ⟨fun pins s σ H Q I h => ?_⟩
  obtain ⟨U, G, σd, Kc, R, ⟨Φ, z1, hΦ, q⟩, kk⟩ := h
  obtain ⟨dd, z2, q⟩ := bindO_ex q
  obtain ⟨f0, f1, F1, g1, w1, o1, _⟩ := atP_run R z1
  obtain ⟨yq, y1, F2, g2, w2, o2, _⟩ := atP_run R z2
  cases w1
  obtain rfl : yq = y1 := by cases w2; rfl
  cases dd with
  | fz dy =>
    obtain ⟨d, z3, q⟩ := bindO_ex q
    cases o1 with
    | fz o1 =>
      cases o1 with
      | @fn a L _ hf hc hp =>
        cases o2 with
        | fz o2 =>
          obtain ⟨c, o, u, xv, N, ps, cl1, cl2, hcz, ho, rx, dx, S, hps, hb, body⟩ := hΦ L hp
          have hcG : G c = some (cellO c o) := R.zg.z _ _ hcz
          have hcH : H c = some (cellO c o) := R.gh _ _ hcG
          have hfH := R.gh _ _ hf
          refine wpAny_Call_Name_kw (thn ((pe_var (pos := p) hN hv hd hcd).run pins s σ H (fun v H1 => v = .ref a ∧ H1 = H) I ⟨.ref a, g1, rfl, rfl⟩) fun u1 s1 ⟨v, H1, I1, r1, q1⟩ => ?_)
          obtain ⟨ev, eH⟩ := q1
          subst ev
          rw [eH] at I1
          obtain rfl : u1 = Value.ref a := r1
          have fa : ∀ {s' : Shared}, Inv X pins σ H s' → PySem.W.FnAt a s'.heap := fun {s'} I' => by
            obtain ⟨od, sl, pm, ctv, h⟩ := lamO_at I'.hok hfH
            exact ⟨_, _, _, _, h⟩
          refine PySem.W.callWith_F (first := []) (fa I1) (thn ((pa_cons ha pa_nil he).run pos pins s1 σ H (fun vs H2 => vs = [yq] ∧ H2 = H) I1 ⟨yq, g2, rfl, rfl⟩) fun us s2 ⟨vs, H2, I2, r, ev, eH2⟩ => ?_) he hpl
          subst ev
          rw [eH2] at I2
          refine ⟨fa I2, ?_⟩
          show wpAny _ _ (call (.ref a) us) _ _ _
          have nfc : c ∉ frs X.stack := fun hb => by
            have := I2.stkFree c hb
            rw [hcH] at this; cases this
          have ihc : ∃ v, s2.heap.IsCell c v := ⟨some u, o, hok_cellAt I2.hok hcH, ho⟩
          have Cc : CellsAt L.F.cl [y] [some xv] s2.heap (cut [c] H) := ⟨rfl, fun y' c' e => by
            obtain ⟨rfl, rfl⟩ := cl1 y' c' e
            exact ⟨cut1_same, ihc⟩, fun y1 y2 c' e1 e2 => (cl1 y1 c' e1).1.trans (cl1 y2 c' e2).1.symm, fun i' y' e => by
            cases i' with
            | zero =>
              cases e
              refine ⟨c, cl2, fun v ev => ?_⟩
              cases ev
              exact ⟨u, rx, o, hok_cellAt I2.hok hcH, ho⟩
            | succ i' => simp at e⟩
          have kf : cut [c] H a = some (LamO a L) := by rw [cut1_ne (fun q => by rw [q, hcH] at hfH; cases hfH)]; exact hfH
          have kc : cut [c] H L.F.c = some (CodeO L.F.c L.F.qual) := by
            have := R.gh _ _ hc
            rw [cut1_ne (fun q => by rw [q, hcH] at this; cases this)]; exact this
          have dxG : DR X.w G xv (.dic kvs) := dx.le R.zg.z
          have gle : HLe (cut [c] G) (cut [c] H) := fun b ob e => by
            by_cases q : b = c
            · rw [q, cut1_same] at e; cases e
            · rw [cut1_ne q] at e ⊢; exact R.gh _ _ e
          refine wpAny_call (codeAny_mono (lam_call (k := k) (vs := [yq]) (ws := [some xv]) (Q := fun v H' => Q v (upd H' c (cellO c o))) (E := E0) S hb hps.symm hr (env0_hide I2.env0 hcH) kf kc Cc r (body a X.A X.stack s2 (cut [c] H) (by have := hr.un; omega)) ?_) fun rr s' hq => ?_)
          · refine ⟨xv, rfl, yq, rfl, ix_run gle (.inl (DR.cut hcG dxG)) ((DR.cut hcG o2).le gle) (show atD (.dic kvs) dy = some d by cases dy <;> exact z3) fun v hv => ?_⟩
            rw [upd_cut1 hcH]
            exact kk _ _ _ _ _ _ q (.refl _ _) (R.topD (hv.le cut1_le))
          · cases rr with
            | error e => exact hq.elim
            | ok fl =>
              cases fl with
              | ret u => exact I2.after (ce_shown hcH I2.hok nfc hq fun v H' _ q => q)
              | next => exact False.elim hq
              | brk => exact False.elim hq
              | cont => exact False.elim hq
  | _ => exact q.elim
end M
/-! M18: a lambda is made; a method is called that knows a cell of this frame; a def whose reading depends on its frame; a, b = x. -/
namespace M
open PySem PySem.Spec PyProof.Rows L2 LamX NdefX
section
variable {X : Cx} {Z : Amb} {ms : List Nat} {pos : Pos}
theorem psd_unP {i a b : Nat} {e e1 e2 : Expr} {k2 : Nat} {p2 : Pos} (hc : X.calm = true) (he : PE X e (tVar i)) (h1 : PG X e1 (gName a)) (h2 : PG X e2 (gName b)) (ha : a ∉ ms) (hb : b ∉ ms)
    (hn : (assignEach [e1, e2] X.env).length = 2 := by rfl) (hst : (assignEach [e1, e2] X.env).findIdx? (·.1) = none := by rfl) (s1 : (assignEach [e1, e2] X.env).map (·.2) = assign e1 X.env :: (assignEach [e2] X.env).map (·.2) := by rfl) (s2 : (assignEach [e2] X.env).map (·.2) = assign e2 X.env :: (assignEach [] X.env).map (·.2) := by rfl)
    (hs : swapsWithSole [.Tuple [e1, e2] k2 p2] e pos.line X.env = pure false := by rfl) (hw : swappedStores [.Tuple [e1, e2] k2 p2] e X.env = pure none := by rfl)
    (h3 : (assignEach [.Tuple [e1, e2] k2 p2] X.env).map (·.2) = [assign (.Tuple [e1, e2] k2 p2) X.env] := by rfl) : PSd X Z ms (.Assign [.Tuple [e1, e2] k2 p2] e pos) (tdUnP i a b) :=
  ps_imp (ps_asg he (pg_tup hc (pgs_cons h1 (pgs_cons h2 pgs_nil s2) s1) hn hst) hs hw h3) (lS fun U G σd De mv D' σ H R m pn q ok => by
    unfold tdUnP at q
    split at q
    · rename_i t1 t2 z
      obtain ⟨F, s, nd, nu⟩ := R.ow
      obtain ⟨v, Fi, F', k1, k2, s', pm⟩ := s.take z
      cases k2 with
      | @tt l vs _ _ hl r =>
        cases r with
        | @cons v1 _ Fa _ _ _ o1 r =>
          cases r with
          | @cons v2 _ Fb _ _ _ o2 r =>
            cases r
            refine ⟨_, k1, l, [v1, v2], rfl, .inl (.inl (R.gh _ _ hl)), rfl, ?_⟩
            have nd' := pm.nodup_iff.mp nd
            have R2 : Rep X.w Z U G (some v1 :: some v2 :: σ) H (some t1 :: some t2 :: σd.set i none) := ⟨R.zg, R.gu, R.uh, Fa ++ (Fb ++ F'), .so o1 (.so o2 s'), by simpa using nd', fun x hx => nu x (pm.mem_iff.mpr (by simpa using hx))⟩
            have R3 := R2.store' (a + 1)
            have R4 : Rep X.w Z U G ((σ.set a (some v1)).set b (some v2)) H (((σd.set i none).set a (some t1)).set b (some t2)) := Rep.store' (σ := σ.set a (some v1)) (σd := (σd.set i none).set a (some t1)) R3 b
            exact ⟨v1, [v2], rfl, v2, [], rfl, rfl, ok.nx _ _ _ _ _ q (.refl _ _) R4 ((pn.set (by rw [m]; exact ha)).set (by rw [m]; exact hb))⟩
    · exact q.elim)
/-! ### a lambda is made -/
def lfOf (X : Cx) (params : Arguments) (body : Expr) (scope : Scope) (c' : Addr) : LF := ⟨⟨"<lambda>", X.env.qual ++ "<lambda>", params, [], scope, cloFrom X.env.cells scope.names [], c'⟩, body⟩
theorem lamO_ok {P : Program} {w : World} {H : Hp} {h : Heap} {f : Addr} {L : LF} {pm ctv : Value} (e : h.get? f = some (PySem.W.kla_obj L.F.name L.F.qual L.F.params L.be L.F.scope L.F.cl pm L.F.c ctv)) : ObjOk P w H h f (LamO f L) :=
  ⟨⟨none, _, pm, ctv, e⟩, ⟨_, e⟩, fun h1 h2 ⟨od, sl, pm, ctv, p⟩ k => ⟨od, sl, pm, ctv, k _ p⟩⟩
theorem rep_tab {w : World} {U G H : Hp} {σ : L2.St} {σd : Sd} {P c' : Addr} {q : Str} {ps : Array Value} (R : Rep w Z U G σ H σd) (hm : (P, q) ∈ Z.T) (hu : ∀ p ∈ Z.T, p.1 = P → p.2 = q) (hP : H P = some (.tbl ps)) (ht : TriplesOk ps.toList) (hc : codeAmong pos ps.toList = none) (nC : H c' = none)
    (hcodes : ∀ (pos : Pos) (cv : Value), codeAmong pos ps.toList = some cv → ∃ c, cv = .ref c ∧ G c = some (CodeO c q)) :
    Ext U G (upd U c' (CodeO c' q)) (upd G c' (CodeO c' q)) ∧ Rep w Z (upd U c' (CodeO c' q)) (upd G c' (CodeO c' q)) σ (upd (upd H P (.tbl (ps ++ #[rawInt pos.line, rawInt pos.col, .ref c']))) c' (CodeO c' q)) σd := by
  have uP : U P = none := (R.zg.tb _ hm).2
  have nPc : P ≠ c' := ne_of_none hP nC
  have uc : U c' = none := R.uh.none nC
  have gc : G c' = none := R.gu.none uc
  have l2 : ∀ b o, H b = some o → b ≠ P → upd (upd H P (.tbl (ps ++ #[rawInt pos.line, rawInt pos.col, .ref c']))) c' (CodeO c' q) b = some o := fun b o e n => by rw [upd_ne (ne_of_none e nC), upd_ne n]; exact e
  obtain ⟨F, s, nd, nu⟩ := R.ow
  have eL : (ps ++ #[rawInt pos.line, rawInt pos.col, .ref c']).toList = ps.toList ++ [rawInt pos.line, rawInt pos.col, .ref c'] := by simp
  refine ⟨⟨.upd uc, .upd gc, fun b o u h k => ?_⟩, ⟨R.zg.z.trans (.upd gc), fun p hp => ?_⟩, R.gu.upd2, fun b o e => ?_, F, s.frame (.upd gc) (fun b hb o e => l2 b o e (fun y => s.ntbl b hb ps (by rw [y]; exact hP))), nd, fun a ha => ?_⟩
  · have := ne_of_none k uc
    rw [upd_ne this] at h
    exact ⟨_, h⟩
  · obtain ⟨⟨ps', h1, h2, h3⟩, h4⟩ := R.zg.tb p hp
    by_cases hb : p.1 = P
    · refine ⟨⟨_, by rw [hb, upd_ne nPc, upd_same], by rw [eL]; exact PySem.TriplesOk_snoc _ _ _ _ ht, fun p' cv hcv => ?_⟩, by rw [hb, upd_ne nPc]; exact uP⟩
      rw [eL] at hcv
      rw [hu p hp hb]
      rcases among_app _ ht hcv with y | y
      · obtain ⟨c0, e1, e2⟩ := hcodes p' cv y
        exact ⟨c0, e1, by rw [upd_ne (ne_of_none e2 gc)]; exact e2⟩
      · exact ⟨c', y, upd_same⟩
    · refine ⟨⟨ps', l2 _ _ h1 hb, h2, fun p' cv hcv => ?_⟩, by rw [upd_ne (ne_of_none h1 nC)]; exact h4⟩
      obtain ⟨c0, e1, e2⟩ := h3 p' cv hcv
      exact ⟨c0, e1, by rw [upd_ne (ne_of_none e2 gc)]; exact e2⟩
  · by_cases y : b = c'
    · rw [y, upd_same] at e; rw [y, upd_same]; exact e
    · rw [upd_ne y] at e
      exact l2 b o (R.uh b o e) (fun z => by rw [z, uP] at e; cases e)
  · obtain ⟨o, ho⟩ := s.dom a ha
    rw [upd_ne (ne_of_none ho nC)]
    exact nu a ha
theorem pd_lam {c P : Addr} {params : Arguments} {body : Expr} {scope : Scope} {Ψ : LF → Prop} (TB : TabB X.base X.mg c P) (hcode : X.env.code = .ref c) (hm : (P, X.env.qual ++ "<lambda>") ∈ Z.T) (hu : ∀ p ∈ Z.T, p.1 = P → p.2 = X.env.qual ++ "<lambda>")
    (hfree : ∀ y ∈ scope.names, y.2 = .free → X.env.scope.names.lookup y.1 = some .cell ∨ X.env.scope.names.lookup y.1 = some .free) (hΨ : X.Ok → ∀ c', Ψ (lfOf X params body scope c')) (hdef : defaultsOf params X.env = ([], []) := by rfl) :
    PEd X Z (.Lambda params body scope pos) (fun σ K => K (.t (.fz (.fn Ψ))) σ) := by
  refine ⟨fun pins s σ H Q I ⟨U, G, σd, Kc, R, q, k⟩ => ?_⟩
  have hfr : ∀ y ∈ scope.names, y.2 = .free → ∃ c, X.env.cells.lookup y.1 = some c := fun y hy e => (hfree y hy e).elim (fun z => I.ok.has _ (.inl z)) fun z => I.ok.has _ (.inr z)
  obtain ⟨⟨ps, hP, ht, ha⟩, uP⟩ := R.zg.tb _ hm
  refine PySem.W.kla_eval hdef ?_
  have bP : s.heap.BuiltinsAt X.mg P := TB.bm.keeps I.bk
  have hP' : s.heap.get? P = some { cls := .none, data := .fields ps } := I.hok P _ hP
  have fin : ∀ {U1 G1 H1 : Hp} {h' : Heap} {tk : Nat} {c' : Addr} {pm ctv : Value}, Ext U G U1 G1 → Rep X.w Z U1 G1 σ H1 σd → Inv X pins σ H1 { s with heap := h', toks := tk } → G1 c' = some (CodeO c' (X.env.qual ++ "<lambda>")) →
      EP X pins σ Q (.ref h'.objs.size) { s with heap := h'.push (PySem.W.kla_obj "<lambda>" (X.env.qual ++ "<lambda>") params body scope (cloFrom X.env.cells scope.names []) pm c' ctv), toks := tk } := fun {U1 G1 H1 h' tk c' pm ctv} e1 R1 I1 hc => by
    have nF : H1 h'.objs.size = none := I1.hok.fresh (Nat.le_refl _)
    have I2 := I1.laid (a := h'.objs.size) (o := LamO h'.objs.size (lfOf X params body scope c')) (h' := h'.push (PySem.W.kla_obj "<lambda>" (X.env.qual ++ "<lambda>") params body scope (cloFrom X.env.cells scope.names []) pm c' ctv)) (t' := tk) (fun _ _ q => Heap.get?_push_of_some _ q) (Nat.le_refl _) (lamO_ok (L := lfOf X params body scope c') (Heap.get?_push_size _ rfl))
    have g : Grow U1 G1 H1 (upd U1 h'.objs.size (LamO h'.objs.size (lfOf X params body scope c'))) (upd G1 h'.objs.size (LamO h'.objs.size (lfOf X params body scope c'))) (upd H1 h'.objs.size (LamO h'.objs.size (lfOf X params body scope c'))) := .frz R1.gu R1.uh nF
    exact ⟨.ref h'.objs.size, _, I2, rfl, k _ _ _ _ _ _ q (e1.trans g.e) (R1.topG g (.fn (L := lfOf X params body scope c') upd_same (g.e.g _ _ hc) (hΨ I.ok c')))⟩
  cases hc : codeAmong pos ps.toList with
  | none =>
    refine PySem.W.kla_makeFunction (mg := X.mg) (c := c) (P := P) (ps := ps) (closure_ok hfr) I.ok.glob (I.mod.glob.keeps I.bk) hcode (TB.code.keeps I.bk) hP' ht hc TB.gP bP fun c' ctv h' tk hx hge hlt hrec htb => ?_
    obtain ⟨c2, oc, vs, t, e2, hoc, hd, hv⟩ := hrec
    cases e2
    have nC : H c' = none := I.hok.fresh hge
    obtain ⟨e1, R1⟩ := rep_tab R hm hu hP ht hc nC ha
    exact fin e1 R1 (inv_table (t' := tk) (more := #[rawInt pos.line, rawInt pos.col, .ref c']) (h' := h') I hP (fun b o hb e => hx b o hb e) htb hge ⟨oc, vs, t, hoc, hd, hv⟩) upd_same
  | some cv =>
    obtain ⟨c', e, hco⟩ := ha pos cv hc
    subst e
    refine PySem.W.kla_makeFunctionHit (mg := X.mg) (c := c) (P := P) (ps := ps) (closure_ok hfr) I.ok.glob (I.mod.glob.keeps I.bk) hcode (TB.code.keeps I.bk) hP' ht hc bP fun ctv h' tk hx hsz => ?_
    exact fin (.refl _ _) R (I.kept hx) hco
end
end M
/-! M19: a method is called that knows a cell of this frame; a def whose reading depends on its frame. -/
namespace M
open PySem PySem.Spec PyProof.Rows L2 LamX NdefX
mutual
theorem Own.cutc {w : World} {G H : Hp} {c : Addr} {o : Obj} (e : G c = some (cellO c o)) (e2 : H c = some (cellO c o)) : ∀ {v t F}, Own w G H v t F → Own w (M.cut [c] G) (M.cut [c] H) v t F
  | _, _, _, .fz h => .fz (DR.cut e h)
  | _, _, _, .l h r => .l (by rw [cut1_ne (fun q => by rw [q, e2] at h; cases h)]; exact h) (DRs.cut e r)
  | _, _, _, .m hn h hd hk rk rv => .m hn (by rw [cut1_ne (fun q => by rw [q, e2] at h; cases h)]; exact h) hd hk (DRs.cut e rk) (DRs.cut e rv)
  | _, _, _, .ll h r => .ll (by rw [cut1_ne (fun q => by rw [q, e2] at h; cases h)]; exact h) (Owns.cutc e e2 r)
  | _, _, _, .mm hn h hd hk rk rv => .mm hn (by rw [cut1_ne (fun q => by rw [q, e2] at h; cases h)]; exact h) hd hk (DRs.cut e rk) (Owns.cutc e e2 rv)
  | _, _, _, .ob h hk r => .ob (by rw [cut1_ne (fun q => by rw [q, e2] at h; cases h)]; exact h) hk (Owns.cutc e e2 r)
  | _, _, _, .tt h r => .tt (by rw [cut1_ne (fun q => by rw [q, e] at h; cases h)]; exact h) (Owns.cutc e e2 r)
theorem Owns.cutc {w : World} {G H : Hp} {c : Addr} {o : Obj} (e : G c = some (cellO c o)) (e2 : H c = some (cellO c o)) : ∀ {vs ts F}, Owns w G H vs ts F → Owns w (M.cut [c] G) (M.cut [c] H) vs ts F
  | _, _, _, .nil => .nil
  | _, _, _, .cons h r => .cons (Own.cutc e e2 h) (Owns.cutc e e2 r)
end
theorem cut_sub {F : List Addr} {U : Hp} : HLe (cut F U) U := fun b o e => by
  unfold cut at e
  split at e
  · cases e
  · exact e
section
variable {X : Cx} {Z : Amb} {ms : List Nat} {pos p apos : Pos} {k : Nat}
/-- what a closure that this frame made must be, for CloP: its cell is y's here -/
def CloHere (X : Cx) (y : Str) (L : LF) : Prop :=
  ∃ (c : Addr) (N ps : List Str), X.env.cells.lookup y = some c ∧ (∀ y' c', L.F.cl.lookup y' = some c' → y' = y ∧ c' = c) ∧ L.F.cl.lookup y = some c ∧ NScope N ps [y] L.F.scope ∧ ps.length = 1 ∧
    (∀ (pm ctv : Value) (us : List Value), us.length = ps.length → bindArgs (PySem.W.kla_fn L.F.name L.F.qual L.F.params L.be L.F.scope L.F.cl pm (.ref L.F.c) ctv) ⟨us, []⟩ = pure (ps.zip us)) ∧
    ∀ (f : Addr) (A : Around) (outer : List Env) (s : Shared) (H : Hp), A.units + 20 < cLine → PE (ncx CX0 X.prog X.w X.K X.mg X.base N L.F f A outer s H E0) L.be (tOp (rIx4 X.K X.w) (tVar 1) (tVar 0))
/-- a method whose promise leans on a closure over y -/
def KMC (P : Program) (w : World) (K : PySem.W.Frag) (mg : Str → Option Value) (base : Heap) (y : Str) (k : Nat) (C : Addr) (m : Str) (SM : List (D × D) → (LF → Prop) → SpD) : Prop :=
  ∃ f fd ps, (∀ (Z : Amb) kvs, Z.T = [] → FnOk P w K mg base CX0 k f fd ps (spOf w Z 1 (SM kvs (CloP P w K mg base y Z.Z kvs)))) ∧ Meth K C m f ∧ Binds K fd ps []
def tdMoreC (C : Addr) (m : Str) (SM : List (D × D) → (LF → Prop) → SpD) (Ψ : LF → Prop) (i j : Nat) : TEd := fun σ K => match σ[i]?, σ[j]? with
  | some (some (.ob C' fs)), some (some (.fz (.dic kvs))) => C' = C ∧ m ∉ fs.map (·.1) ∧ ∀ P' : LF → Prop, (∀ L, Ψ L → P' L) → SM kvs P' [.ob C' fs] fun t fin => match fin with
    | [x] => K (.t t) (σ.set i x)
    | _ => False
  | _, _ => False
theorem pd_moreC {C : Addr} {m y : Str} {SM : List (D × D) → (LF → Prop) → SpD} {i j k2 : Nat} {o : Expr} {pl : Sem Bool} (h : KMC X.prog X.w X.K X.mg X.base y k C m SM) (cl : Cls X.K C) (hr : Room k2 X.A) (hk : k ≤ k2) (ho : PE X o (tVar i)) (hfn : X.fn y = true) (hy : X.N[j]? = some y) (hyc : X.env.scope.names.lookup y = some .cell)
    (ht : eval (.Call (.Attribute o m apos) [] [] pos) X.env = (do
      let ov ← eval o X.env
      standAt apos.atName
      let (f, first) ← holding [ov] (getMethod ov m pl)
      callWith pos f first (backTo pos (starEach [] X.env)) (backToKw pos (keywordEach [] X.env))) := by rfl) : PEd X Z (.Call (.Attribute o m apos) [] [] pos) (tdMoreC C m SM (CloHere X y) i j) := by
  obtain ⟨f, fd, ps, F, hm, hb⟩ := h
  refine ⟨fun pins s σ H Q I ⟨U, G, σd, Kc, R, q, kk⟩ => ?_⟩
  unfold tdMoreC at q
  split at q
  · rename_i C' fs kvs z1 z2
    obtain ⟨rfl, hm2, q⟩ := q
    obtain ⟨v0, R1⟩ := R.lift z1
    obtain ⟨hv0, R1⟩ := R1
    obtain ⟨vj, Fj, hvj, oj⟩ := R.at z2
    obtain ⟨vi, Fi, hvi, oi⟩ := R.at z1
    rw [hv0] at hvi; cases hvi
    cases oj with
    | fz dj =>
      cases oi with
      | @ob a _ dx fvs _ Fo ha hkf rf =>
        refine PySem.W.methodCall_KW (pl := pl) (thn (ho.run pins s σ H (fun v H1 => v = .ref a ∧ H1 = H) I ⟨.ref a, hv0, rfl, rfl⟩) fun u s1 ⟨x, H1, I1, rx, ev, eH⟩ => ?_) ht
        subst ev
        rw [eH] at I1
        obtain rfl : u = Value.ref a := rx
        have l : fvs.lookup m = none := look_none (by rw [hkf]; exact hm2)
        refine getmeth_ok I1 ha cl hm l ?_
        refine PySem.W.callWith_K0 (first := [.ref a]) I1.kIn hm.kp ?_
        show wpAny _ _ (call (.ref f) [.ref a]) _ _ _
        -- the cell
        obtain ⟨mm, hn, hl⟩ := I1.loc
        obtain ⟨uc, rj, lk⟩ := hl j y vj hy hvj (.inr (.inl hyc))
        rcases lk with ⟨z, _⟩ | ⟨_, c, hc, ob, hob, hdc⟩
        · have z' : X.env.scope.names.lookup y = some .local := z
          rw [hyc] at z'; cases z'
        · have nc : H c = none := I1.freeC y c hc
          have cab : X.s_0.heap.objs.size ≤ c := I1.ok.cab y c hfn hc
          have nb : X.base.get? c = none := Heap.get?_none_of_le (Nat.le_trans I1.ok.bsz cab)
          have nfc : c ∉ frs X.stack := fun hb => by
            rcases List.mem_cons.mp (I1.stkSub c hb) with e | hb
            · exact I1.cne y c hc e
            · obtain ⟨_, o', ho', _⟩ := I1.ok.funs.mem hb
              exact absurd (Nat.lt_of_lt_of_le (Heap.lt_size ho') cab) (Nat.lt_irrefl _)
          have uc0 : U c = none := R.uh.none nc
          have gc0 : G c = none := R.gu.none uc0
          -- the walk's own tree apart from the rest
          obtain ⟨F1, s1', nd, nu⟩ := R1.ow
          cases s1' with
          | @so _ _ Fa _ _ F2 oa rest =>
            have nd' := List.nodup_append.mp nd
            have lh : HLe H (upd H c (cellO c ob)) := .upd nc
            have cF2 : ∀ b ∈ F2, b ≠ c := fun b hb e => by
              obtain ⟨o', ho'⟩ := rest.dom b hb
              rw [e, nc] at ho'; cases ho'
            have cFa : ∀ b ∈ Fa, b ≠ c := fun b hb e => by
              obtain ⟨o', ho'⟩ := oa.dom b hb
              rw [e, nc] at ho'; cases ho'
            have uFa : ∀ b o, U b = some o → b ∉ Fa := fun b o e hb => by
              rw [nu b (List.mem_append_left _ hb)] at e; cases e
            obtain ⟨H1, eH1⟩ : ∃ H1, H1 = upd H c (cellO c ob) := ⟨_, rfl⟩
            obtain ⟨G1, eG1⟩ : ∃ G1, G1 = upd G c (cellO c ob) := ⟨_, rfl⟩
            have h1c : H1 c = some (cellO c ob) := by rw [eH1, upd_same]
            have g1c : G1 c = some (cellO c ob) := by rw [eG1, upd_same]
            have h1n : ∀ b, b ≠ c → H1 b = H b := fun b hb => by rw [eH1, upd_ne hb]
            have g1n : ∀ b, b ≠ c → G1 b = G b := fun b hb => by rw [eG1, upd_ne hb]
            have lG1 : HLe G G1 := by rw [eG1]; exact .upd gc0
            have lH1 : HLe H H1 := by rw [eH1]; exact lh
            have RC : Rep X.w ⟨G1, []⟩ (cut Fa H1) G1 ([V.ref a].map some) H1 ([T.ob C' fs].map some) := ⟨⟨.refl _, fun p hp => (by cases hp)⟩, fun b o' e => by
              by_cases y : b = c
              · subst y
                rw [cut_out (fun q => cFa b q rfl), h1c, ← g1c]; exact e
              · rw [g1n b y] at e
                rw [cut_out (uFa b o' (R.gu _ _ e)), h1n b y]
                exact R.gh _ _ e, fun b o' e => cut_sub b o' e, Fa ++ [], .so (oa.frame lG1 fun b hb o' e => lH1 _ _ e) .nil, by simpa using nd'.1, fun b hb => cut_in (by simpa using hb)⟩
            have hcp : ∀ L, CloHere X y L → CloP X.prog X.w X.K X.mg X.base y G1 kvs L := fun L ⟨c2, N, ps, h1, h2, h3, h4, h5, h6, h7⟩ => by
              rw [hc] at h1; cases h1
              exact ⟨c, ob, uc, vj, N, ps, h2, h3, g1c, hdc, rj, dj.le lG1, h4, h5, h6, h7⟩
            have FF := F ⟨G1, []⟩ kvs rfl
            have hq := q _ hcp
            have hsp : spOf X.w ⟨G1, []⟩ 1 (SM kvs (CloP X.prog X.w X.K X.mg X.base y G1 kvs)) [.ref a] H1 (fun v H' => Q v (cut [c] H')) E0 := by
              refine ⟨cut Fa H1, G1, [.ob C' fs], _, rfl, RC, hq, fun t fin v H' U' G' hk e R' => ?_⟩
              obtain ⟨x, rfl⟩ : ∃ x, fin = [x] := by
                match fin, hk with
                | [x], _ => exact ⟨x, rfl⟩
              have hk : Kc (.t t) (σd.set i x) := hk
              have hin : ∀ b o, b ∉ Fa → H1 b = some o → U' b = some o := fun b o nF h => e.u _ _ (by rw [cut_out nF]; exact h)
              have hcG : G' c = some (cellO c ob) := e.g _ _ g1c
              have hcH : H' c = some (cellO c ob) := R'.gh _ _ hcG
              obtain ⟨F, s, ndF, nuF⟩ := R'.ow
              -- what is frozen now and was there is frozen of old
              have old : ∀ b o u, G' b = some o → b ≠ c → H b = some u → b ∉ Fa → ∃ v, G b = some v := fun b o u h y hb nF => by
                obtain ⟨v, hv⟩ := e.n b o u h (by rw [cut_out nF, h1n b y]; exact hb)
                exact ⟨v, by rw [← g1n b y]; exact hv⟩
              have lG : HLe G (cut [c] G') := fun b o h => by
                rw [cut1_ne (ne_of_none h gc0)]
                exact e.g _ _ (lG1 _ _ h)
              obtain ⟨U2, eU2⟩ : ∃ U2 : Hp, U2 = fun b => match cut [c] G' b with | some o => some o | none => U b := ⟨_, rfl⟩
              have g2 : HLe (cut [c] G') U2 := fun b o h => by rw [eU2]; simp only [h]
              have u2n : ∀ b, cut [c] G' b = none → U2 b = U b := fun b h => by rw [eU2]; simp only [h]
              have uH : ∀ b o, U b = some o → cut [c] H' b = some o := fun b o h => by
                have y := ne_of_none h uc0
                rw [cut1_ne y]
                exact R'.uh _ _ (hin b o (uFa b o h) (lH1 _ _ (R.uh _ _ h)))
              have gH : HLe (cut [c] G') (cut [c] H') := fun b o h => by
                by_cases y : b = c
                · rw [y, cut1_same] at h; cases h
                · rw [cut1_ne y] at h ⊢; exact R'.gh _ _ h
              have uu : HLe U U2 := fun b o h => by
                cases z : cut [c] G' b with
                | none => rw [u2n b z]; exact h
                | some o' =>
                  have h1 := gH _ _ z
                  rw [uH b o h] at h1
                  cases h1
                  exact g2 _ _ z
              have u2H : HLe U2 (cut [c] H') := fun b o h => by
                cases z : cut [c] G' b with
                | none => rw [u2n b z] at h; exact uH _ _ h
                | some o' =>
                  have := g2 _ _ z
                  rw [this] at h; cases h
                  exact gH _ _ z
              have ext : Ext U G U2 (cut [c] G') := ⟨uu, lG, fun b o u h k => by
                have y := ne_of_none k uc0
                rw [cut1_ne y] at h
                exact old b o u h y (R.uh _ _ k) (uFa _ _ k)⟩
              -- an address of H that was free in U is free still
              have fr : ∀ b u, H b = some u → U b = none → b ∉ Fa → U2 b = none := fun b u h k nF => by
                have y := ne_of_none h nc
                cases z : cut [c] G' b with
                | none => rw [u2n b z]; exact k
                | some o' =>
                  rw [cut1_ne y] at z
                  obtain ⟨v, hv⟩ := old b o' u z y h nF
                  rw [R.gu _ _ hv] at k; cases k
              have nF2 : ∀ b ∈ F2, b ∉ Fa := fun b hb q => nd'.2.2 b q b hb rfl
              have hF2 : ∀ b ∈ F2, ∀ o, H b = some o → cut [c] H' b = some o := fun b hb o ho => by
                rw [cut1_ne (cF2 b hb)]
                exact R'.uh _ _ (hin b o (nF2 b hb) (lH1 _ _ ho))
              have rest' : Slots X.w (cut [c] G') (cut [c] H') σ (σd.set i none) F2 := rest.frame lG hF2
              have disj : ∀ a ∈ F, a ∉ F2 := fun a' ha' hb => by
                obtain ⟨o', ho'⟩ := rest.dom a' hb
                have := hin a' o' (nF2 a' hb) (lH1 _ _ ho')
                rw [nuF a' ha'] at this; cases this
              have nu' : ∀ a' ∈ F, U2 a' = none := fun a' ha' => by
                cases z : cut [c] G' a' with
                | none =>
                  rw [u2n a' z]
                  cases y : U a' with
                  | none => rfl
                  | some o' =>
                    have := hin a' o' (uFa _ _ y) (lH1 _ _ (R.uh _ _ y))
                    rw [nuF a' ha'] at this; cases this
                | some o' =>
                  have := R'.gu _ _ (cut1_le _ _ z)
                  rw [nuF a' ha'] at this; cases this
              have zg' : Am Z U2 (cut [c] G') (cut [c] H') := R.zg.re lG (fun b ps hb hu => fr b _ hb hu (fun q => oa.ntbl b q ps hb)) fun b ps hb => by
                rw [cut1_ne (ne_of_none hb nc)]
                exact R'.uh _ _ (hin b _ (fun q => oa.ntbl b q ps hb) (lH1 _ _ hb))
              cases s with
              | @so _ _ Fv _ _ Fx hv sx =>
                have ndF' := List.nodup_append.mp ndF
                have hv' := hv.cutc hcG hcH
                have sx' : Slots X.w (cut [c] G') (cut [c] H') ([V.ref a].map some) [x] Fx := by
                  cases sx with
                  | no r => cases r; exact .no .nil
                  | so hx r => cases r; exact .so (hx.cutc hcG hcH) .nil
                have ndx : (Fx ++ F2).Nodup := by
                  rw [List.nodup_append]
                  exact ⟨ndF'.2.1, nd'.2.1, fun p hp q hq e => disj p (List.mem_append_right _ hp) (e ▸ hq)⟩
                obtain ⟨F3, s3, n3, c3⟩ := put_run (ms := [true]) (rs := [.pl i]) sx' rest' ndx fun jj ii vv h1 h2 => by
                  cases jj with
                  | zero => simp at h1 h2; subst h1; subst h2; exact hv0
                  | succ jj => simp at h1
                have es : putA [true] [.pl i] [x] (σd.set i none) = σd.set i x := by
                  show (σd.set i none).set i x = _
                  rw [List.set_set]
                rw [es] at s3
                refine kk _ _ _ _ U2 (cut [c] G') hk ext ⟨zg', g2, u2H, Fv ++ F3, .so hv' s3, ?_, fun p hp => ?_⟩
                · rw [List.nodup_append]
                  refine ⟨ndF'.1, n3, fun p hp q hq e => ?_⟩
                  rcases List.mem_append.mp (c3 q hq) with z | z
                  · exact ndF'.2.2 p hp q z e
                  · exact disj p (List.mem_append_left _ hp) (e ▸ z)
                · rcases List.mem_append.mp hp with z | z
                  · exact nu' p (List.mem_append_left _ z)
                  · rcases List.mem_append.mp (c3 p z) with z | z
                    · exact nu' p (List.mem_append_right _ z)
                    · obtain ⟨o', ho'⟩ := rest.dom p z
                      exact fr p o' ho' (nu p (List.mem_append_right _ z)) (nF2 p z)
            have e0 := env0_shown I1.env0 nc hob nb nfc
            rw [← eH1] at e0
            have hl : ([Value.ref a] : List Value).length = ps.length := (FF.len _ _ _ _ hsp)
            refine wpAny_call (codeAny_mono (FF.run X.A X.stack s1 H1 ⟨[.ref a], []⟩ [.ref a] [.ref a] _ E0 (hr.mono hk) e0 (by simpa using hb s1 [.ref a] I1.kIn (by simpa using hl)) (.cons rfl .nil) hsp) fun r s' hq => ?_)
            cases r with
            | error e => exact False.elim hq
            | ok fl =>
              cases fl with
              | ret u =>
                refine I1.after (ce_hide nc hob nfc ?_ fun v H' _ q => q)
                rw [← eH1]
                exact hq
              | next => exact False.elim hq
              | brk => exact False.elim hq
              | cont => exact False.elim hq
  · exact q.elim

end
/-- a def whose reading may depend on its frame -/
theorem fndI {P : Program} {w : World} {K : PySem.W.Frag} {mg : Str → Option Value} {base : Heap} {Z : Amb} {x qual : Str} {st : Stmt} {f : Addr} {N ps : List Str} {k : Nat} {S : SpD} {ι : Type} {td : ι → TSd}
    {oc : Value} {od an : Option Addr} {osl : Array (Option Value)} {kV doc pm cdv ct : Value} (lk : K.lookup f = some ⟨oc, od, .func (PySem.W.fnOf x qual (defArgs st) (defBody st) (defScope st) .none kV doc pm an cdv ct), osl⟩) (hcd : PySem.W.codeIn K cdv qual = true) (Sc : FnScope N ps (defScope st)) (bs : List Bool) (hbs : ps.length = bs.length)
    (body : ∀ (A : Around) (outer : List Env) (s : Shared) (H : Hp) (E : XK), Room k (A.deeper (envOfC qual (defScope st) s.heap.objs.size f cdv)) → ∃ i, PSsd (cxOf CX0 P w K mg base N qual (defScope st) f cdv A outer s H E).nox Z (trues 0 bs) (defBody st) (td i))
    (sem : ∀ i ts Kc, ts.length = bs.length → S ts Kc → td i { nx := fun σ => Kc (.fz .non) (finM bs σ), rt := fun t σ => Kc t (finM bs σ) } (ts.map some ++ List.replicate (N.length - bs.length) none)) :
    FnOk P w K mg base CX0 (k + 1) f (PySem.W.fnOf x qual (defArgs st) (defBody st) (defScope st) .none kV doc pm an cdv ct) ps (spOf w Z bs.length S) := by
  refine fn_of lk hcd Sc (fun vs H Q E h => (spOf_len vs H Q E h).trans hbs.symm) fun A outer s H vs Q E hr h => ?_
  obtain ⟨i, hbody⟩ := body A outer s H E hr
  refine ⟨_, PSs.nox hbody, ?_⟩
  have hlv := spOf_len vs H Q E h
  obtain ⟨U, G, ts, Kc, hl, R, q, kk⟩ := h
  have R1 := start_rep N R
  rw [hl] at R1
  refine ⟨U, G, _, _, mvOf 0 bs vs, R1, mvOf_fst 0 bs vs hlv, fun p hp => ?_, sem i ts Kc hl q, fun σ' H' σd' U' G' q1 e1 R2 p2 => ?_, fun _ _ _ _ _ z => z.elim, fun _ _ _ _ _ z => z.elim, fun v H' U' G' t σ' σd' q1 e1 R2 p2 => ?_⟩
  · obtain ⟨j, h1, h2, h3⟩ := mvOf_mem 0 bs vs p hp
    have hj : j < vs.length := getN h3
    show (vs.map some ++ _)[p.1]? = _
    rw [h1, Nat.zero_add, List.getElem?_append_left (by simpa using hj), List.getElem?_map, h3]
    rfl
  · exact kk _ _ _ _ _ _ q1 e1 (finM_rep hlv (R2.topD .non) p2)
  · exact kk _ _ _ _ _ _ q1 e1 (finM_rep hlv R2 p2)
end M
/-! M20: the data's operations at whole numbers, in short. -/
namespace M
open PySem PyProof.Rows L2
theorem addT_int (i j : Int) : addT (.int i) (.int j) = some (.fz (.int (i + j))) := rfl
theorem addT_tup {xs ys : List D} (h : xs.length + ys.length ≤ sizeLine) : addT (.tup xs) (.tup ys) = some (.fz (.tup (xs ++ ys))) := if_pos h
theorem addT_lst {xs ys : List D} (h : xs.length + ys.length ≤ sizeLine) : addT (.lst xs) (.lst ys) = some (.l (xs ++ ys)) := if_pos h
theorem subD_int (i j : Int) : subD (.int i) (.int j) = some (.int (i - j)) := rfl
theorem modD_int {i j : Int} (h : 0 < j) : modD (.int i) (.int j) = some (.int (i % j)) := by simp [modD, int2, h]
theorem fdivD_int {i j : Int} (h : 0 < j) (h2 : j < 1073741824) : fdivD (.int i) (.int j) = some (.int (i / j)) := by simp [fdivD, int2, h, h2]
theorem mulT_int {i j : Int} (h : (-(2 ^ 64) < i ∧ i < 2 ^ 64) ∨ (-(2 ^ 64) < j ∧ j < 2 ^ 64)) : mulT (.int i) (.int j) = some (.fz (.int (i * j))) := by
  unfold mulT
  exact if_pos h
theorem powD_int {i j : Int} (h : 0 ≤ j ∧ j ≤ 1000000 ∧ i.natAbs < 2 ^ 64) : powD (.int i) (.int j) = some (.int (i ^ j.toNat)) := by
  show (if _ then _ else _) = _
  exact if_pos h
theorem ltD_int (i j : Int) : ltD (.int i) (.int j) = some (.bl (decide (i < j))) := rfl
theorem leD_int (i j : Int) : leD (.int i) (.int j) = some (.bl (decide (i ≤ j))) := rfl
theorem gtD_int (i j : Int) : gtD (.int i) (.int j) = some (.bl (decide (j < i))) := rfl
theorem geD_int (i j : Int) : geD (.int i) (.int j) = some (.bl (decide (j ≤ i))) := rfl
theorem ixN_in {n : Nat} {z : Int} (h : 0 ≤ z) (h2 : z < n) : ixN n z = some z.toNat := by
  unfold ixN
  rw [if_pos h, if_pos h2]
theorem atI_in {α : Type} {xs : List α} {z : Int} (h : 0 ≤ z) (h2 : z < xs.length) : atI xs z = xs[z.toNat]? := by
  unfold atI
  rw [ixN_in h h2]
  rfl
theorem le_flatMap {α β : Type} {f : α → List β} {x : α} : ∀ {l : List α}, x ∈ l → (f x).length ≤ (l.flatMap f).length
  | [], h => by cases h
  | y :: l, h => by
    rw [List.flatMap_cons, List.length_append]
    rcases List.mem_cons.mp h with rfl | h
    · omega
    · have := le_flatMap (f := f) h
      omega
theorem u10 {k : Nat} {A : Around} (r : Room k A) : A.units + 10 < cLine := by have := r.un; omega
theorem u64 {k : Nat} {A : Around} (r : Room k A) : A.units + 64 < cLine := by have := r.un; omega
theorem u65 {k : Nat} {A : Around} (r : Room k A) : A.units + 65 < cLine := by have := r.un; omega
end M
/-! M21: loops by invariants. -/
namespace M
open PySem PyProof.Rows L2
theorem for_inv {t : Tg} {tb : TSd} {De : Eds} (Inv : List D → Sd → Prop) {xs : List D} {σ : Sd} (h0 : Inv [] σ)
    (step : ∀ done x rest σ, xs = done ++ x :: rest → Inv done σ → ∀ nx : Sd → Prop, (∀ σ', Inv (done ++ [x]) σ' → nx σ') → bindO (t.put x σ) fun σ1 => tb { De with nx := nx, ct := nx, bk := De.nx } σ1)
    (fin : ∀ σ', Inv xs σ' → De.nx σ') : tdLoop t tb xs De σ := by
  have go : ∀ (rest done : List D) (σ : Sd), xs = done ++ rest → Inv done σ → tdLoop t tb rest De σ := by
    intro rest
    induction rest with
    | nil => intro done σ e h; rw [List.append_nil] at e; subst e; exact fin σ h
    | cons x rest ih =>
      intro done σ e h
      exact step done x rest σ e h _ fun σ' h' => ih (done ++ [x]) σ' (by rw [e, List.append_assoc]; rfl) h'
  exact go xs [] σ rfl h0
theorem lc_inv {t : Tg} {tt : TTd} {te : TEd} {vs : List Nat} {K : List D → Sd → Prop} (Inv : List D → List D → Sd → Prop) {xs : List D} {σ : Sd} (h0 : Inv [] [] σ)
    (step : ∀ done x rest acc σ, xs = done ++ x :: rest → Inv done acc σ → ∀ K' : List D → Sd → Prop, (∀ acc' σ', Inv (done ++ [x]) acc' σ' → K' acc' σ') → bindO (t.put x (wipeD σ vs)) fun σ2 => tt σ2 fun b σ3 => if b = true then tdF te σ3 fun d σ4 => acc.length < sizeLine ∧ K' (acc ++ [d]) σ4 else K' acc σ3)
    (fin : ∀ acc σ', Inv xs acc σ' → K acc σ') : lcLoop t tt te vs xs [] σ K := by
  have go : ∀ (rest done acc : List D) (σ : Sd), xs = done ++ rest → Inv done acc σ → lcLoop t tt te vs rest acc σ K := by
    intro rest
    induction rest with
    | nil => intro done acc σ e h; rw [List.append_nil] at e; subst e; exact fin acc σ h
    | cons x rest ih =>
      intro done acc σ e h
      exact step done x rest acc σ e h (fun acc' σ' => lcLoop t tt te vs rest acc' σ' K) fun acc' σ' h' => ih (done ++ [x]) acc' σ' (by rw [e, List.append_assoc]; rfl) h'
  exact go xs [] [] σ rfl h0
theorem setS {α : Type} {l : List α} {i : Nat} {x : α} (h : l[i]? = some x) : l.set i x = l := by
  refine List.ext_getElem? fun j => ?_
  by_cases e : i = j
  · subst e
    obtain ⟨hl, _⟩ := List.getElem?_eq_some_iff.mp h
    rw [List.getElem?_set_self hl, h]
  · rw [List.getElem?_set_ne e]
theorem tdF_N {i : Nat} {σ : Sd} {t : T} {K : D → Sd → Prop} (h : σ[i]? = some (some t)) (k : K t.er (σ.set i (some (.fz t.er)))) : tdF (tdN i) σ K := by
  have fz : ∀ d, t = .fz d → tdF (tdN i) σ K := fun d e => by
    subst e
    have e : σ.set i (some (.fz d)) = σ := setS h
    have k : K d (σ.set i (some (.fz d))) := k
    rw [e] at k
    show (match σ[i]? with | some (some (.fz d)) => _ | some (some _) => _ | _ => False)
    rw [h]
    exact k
  have ow : (∀ d, t ≠ .fz d) → tdF (tdN i) σ K := fun n => by
    show (match σ[i]? with | some (some (.fz d)) => _ | some (some _) => _ | _ => False)
    rw [h]
    cases t with
    | fz d => exact (n d rfl).elim
    | _ =>
      show (match σ[i]? with | some (some t) => _ | _ => False)
      rw [h]
      exact k
  cases t with
  | fz d => exact fz d rfl
  | _ => exact ow fun d => by intro e; cases e
theorem tdSeq_ap (t u : TSd) (De : Eds) (σ : Sd) : tdSeq t u De σ = t { De with nx := u De } σ := rfl
theorem finM_ff : ∀ σ : Sd, finM [false, false] σ = [none, none]
  | [] => rfl
  | [_] => rfl
  | _ :: _ :: _ => rfl
theorem finM_f : ∀ σ : Sd, finM [false] σ = [none]
  | [] => rfl
  | _ :: _ => rfl
theorem atD_dic (kvs : List (D × D)) (k : D) : atD (.dic kvs) k = dicAt kvs k := by cases k <;> rfl
theorem mem_split {α : Type} {xs done rest : List α} {x : α} (e : xs = done ++ x :: rest) : x ∈ xs := by rw [e]; simp
theorem len_split {α : Type} {xs done rest : List α} {x : α} (e : xs = done ++ x :: rest) : done.length + 1 ≤ xs.length := by rw [e]; simp
theorem small {n : Nat} (h : n ≤ 1000000) : n < sizeLine := Nat.lt_of_le_of_lt h (by decide)
theorem cutD_sub {xs : List D} {lo hi : Option Int} : List.Sublist (cutD xs lo hi) xs := (List.take_sublist _ _).trans (List.drop_sublist _ _)
end M
/-! M22: the script's slice; a slot frozen behind a statement; a def's reading with its frame at hand. -/
namespace M
open PySem PySem.Spec PyProof.Rows L2
/-- a list of whole numbers that the frame's words know -/
def KScr (K : PySem.W.Frag) (ns : List Int) (v : V) : Prop := ∃ a, v = .ref a ∧ ∃ (o : Obj) (its : Array Value) (n : Nat), K.lookup a = some o ∧ o.cls = .type "list" ∧ o.dict = none ∧ o.data = .seq its n ∧ its.size ≤ sizeLine ∧ Vals (ns.map V.int) its.toList
section
variable {X : Cx} {Z : Amb} {ms : List Nat} {pos : Pos}
def tdScr (Kf : PySem.W.Frag) (i : Nat) (n : Int) : TEd := fun σ K => ∃ ns : List Int, (σ[i]? = some (some (.fz (.lst (ns.map .int)))) ∨ σ[i]? = some (some (.fz (.opq (KScr Kf ns))))) ∧ K (.t (.l (M.cutD (ns.map .int) none (some n)))) σ
theorem ints_DRs {w : World} {G : Hp} : ∀ ns : List Int, DRs w G (ns.map V.int) (ns.map D.int)
  | [] => .nil
  | i :: ns => .cons (.int i) (ints_DRs ns)
theorem pd_scr {Kf : PySem.W.Frag} {a : Expr} {i kk : Nat} {n : Int} {p2 p3 : Pos} (hK : Kf = X.K) (ha : PE X a (tVar i)) : PEd X Z (.Subscript a (.Slice none (some (.Constant (.int n) kk p3)) none p2) pos) (tdScr Kf i n) := by
  subst hK
  refine pe_imp (pe_slice sl_any ha po_none (po_some pe_int)) fun σ H Q ⟨U, G, σd, K, R, ⟨ns, hs, q⟩, k⟩ => ?_
  have fin : ∀ (b : Addr) (vs : List V), DRs X.w G vs (ns.map D.int) → ∀ p, H p = none → Q (.ref p) (upd H p (.lst (cutV vs none (some n)))) := fun b vs r p hp => by
    have g : Grow U G H U G (upd H p (.lst (cutV vs none (some n)))) := .own R.gu R.uh hp
    exact k _ _ _ _ _ _ q g.e (R.top g (.l upd_same (cut_DRs r none (some n))) (by simp) fun b hb => by simp at hb; subst hb; exact ⟨hp, R.uh.none hp⟩)
  rcases hs with hs | hs
  · obtain ⟨v, F, hv, o⟩ := R.at hs
    cases o with
    | fz o =>
      cases o with
      | @lst b vs _ h r => exact ⟨_, hv, n, rfl, .inl ⟨b, vs, rfl, .inl (Rd.le R.gh h), fin b vs r⟩⟩
  · obtain ⟨v, F, hv, o⟩ := R.at hs
    cases o with
    | fz o =>
      cases o with
      | @opq b _ h =>
        obtain ⟨a', e, h⟩ := h
        cases e
        exact ⟨_, hv, n, rfl, .inl ⟨b, _, rfl, .inr h, fin b _ (ints_DRs ns)⟩⟩
/-- behind a statement the slot j is frozen -/
def tdFzA (j : Nat) (t : TSd) : TSd := fun De σ => t { De with nx := fun σ' => match σ'[j]? with
  | some (some t) => De.nx (σ'.set j (some (.fz t.er)))
  | _ => False } σ
theorem psd_fzA {st : Stmt} {t : TSd} (j : Nat) (h : PSd X Z ms st t) : PSd X Z ms st (tdFzA j t) := ps_imp h fun D σ H ⟨U, G, σd, De, mv, R, m, p, q, o⟩ => by
  refine ⟨U, G, σd, _, mv, R, m, p, q, ?_, o.bk, o.ct, o.rt⟩
  intro σ' H' σd' U' G' q1 e1 R1 p1
  dsimp only at q1
  cases z : σd'[j]? with
  | none => rw [z] at q1; exact q1.elim
  | some x =>
    cases x with
    | none => rw [z] at q1; exact q1.elim
    | some t =>
      rw [z] at q1
      obtain ⟨U2, G2, v, e2, R2, _⟩ := R1.freezeAt z
      exact o.nx _ _ _ _ _ q1 (e1.trans e2) R2 p1
end
theorem fndX {P : Program} {w : World} {K : PySem.W.Frag} {mg : Str → Option Value} {base : Heap} {Z : Amb} {x qual : Str} {st : Stmt} {f : Addr} {N ps : List Str} {k : Nat} {S : SpD}
    {oc : Value} {od an : Option Addr} {osl : Array (Option Value)} {kV doc pm cdv ct : Value} (lk : K.lookup f = some ⟨oc, od, .func (PySem.W.fnOf x qual (defArgs st) (defBody st) (defScope st) .none kV doc pm an cdv ct), osl⟩) (hcd : PySem.W.codeIn K cdv qual = true) (Sc : FnScope N ps (defScope st)) (bs : List Bool) (hbs : ps.length = bs.length)
    (body : ∀ (A : Around) (outer : List Env) (s : Shared) (H : Hp) (E : XK), Room k (A.deeper (envOfC qual (defScope st) s.heap.objs.size f cdv)) → ∀ ts Kc, ts.length = bs.length → S ts Kc → ∃ td, PSsd (cxOf CX0 P w K mg base N qual (defScope st) f cdv A outer s H E).nox Z (trues 0 bs) (defBody st) td ∧
      td { nx := fun σ => Kc (.fz .non) (finM bs σ), rt := fun t σ => Kc t (finM bs σ) } (ts.map some ++ List.replicate (N.length - bs.length) none)) :
    FnOk P w K mg base CX0 (k + 1) f (PySem.W.fnOf x qual (defArgs st) (defBody st) (defScope st) .none kV doc pm an cdv ct) ps (spOf w Z bs.length S) := by
  refine fn_of lk hcd Sc (fun vs H Q E h => (spOf_len vs H Q E h).trans hbs.symm) fun A outer s H vs Q E hr h => ?_
  have hlv := spOf_len vs H Q E h
  obtain ⟨U, G, ts, Kc, hl, R, q, kk⟩ := h
  obtain ⟨td, hbody, sem⟩ := body A outer s H E hr ts Kc hl q
  refine ⟨_, PSs.nox hbody, ?_⟩
  have R1 := start_rep N R
  rw [hl] at R1
  refine ⟨U, G, _, _, mvOf 0 bs vs, R1, mvOf_fst 0 bs vs hlv, fun p hp => ?_, sem, fun σ' H' σd' U' G' q1 e1 R2 p2 => ?_, fun _ _ _ _ _ z => z.elim, fun _ _ _ _ _ z => z.elim, fun v H' U' G' t σ' σd' q1 e1 R2 p2 => ?_⟩
  · obtain ⟨j, h1, h2, h3⟩ := mvOf_mem 0 bs vs p hp
    have hj : j < vs.length := getN h3
    show (vs.map some ++ _)[p.1]? = _
    rw [h1, Nat.zero_add, List.getElem?_append_left (by simpa using hj), List.getElem?_map, h3]
    rfl
  · exact kk _ _ _ _ _ _ q1 e1 (finM_rep hlv (R2.topD .non) p2)
  · exact kk _ _ _ _ _ _ q1 e1 (finM_rep hlv R2 p2)
end M
namespace K55
open PySem PyProof.Rows L2 M
def top (i : Nat) : Stmt := PySem.Challenge.pw_markpieces_k55_walks_told.main.body.getD i (.Pass ⟨0, 0, 0, 0⟩)
abbrev s_deck : Stmt := top 3
abbrev s_draw : Stmt := top 4
/-- the built-ins that the law's text asks -/
structure Bt (mg : Str → Option Value) : Prop where
  z_abs : mg "abs" = none
  z_len : mg "len" = none
  z_range : mg "range" = none
  z_tuple : mg "tuple" = none
  z_list : mg "list" = none
  z_zip : mg "zip" = none
  z_max : mg "max" = none
  z_isinstance : mg "isinstance" = none
  z_bool : mg "bool" = none
abbrev deckT (cells : List Int) (n : Int) : T := .ll [.l (cells.map .int), .fz (.int n)]
def S_deck (Kf : PySem.W.Frag) : SpD := fun ts K => ∃ (ns : List Int) (sd : D), ts = [.fz sd] ∧ (sd = .lst (ns.map .int) ∨ sd = .opq (KScr Kf ns)) ∧ ns.length ≤ 63 ∧ ∀ cells, cells.length ≤ 63 → K (deckT cells 0) [none]
def S_draw : SpD := fun ts K => ∃ (cells : List Int) (n many : Int), ts = [deckT cells n, .fz (.int many)] ∧ 0 < many ∧ many < 2 ^ 30 ∧ 0 ≤ n ∧ n < 2 ^ 40 ∧ cells.length ≤ 63 ∧ ∀ r cells', 0 ≤ r → r < many → cells'.length = cells.length → K (.fz (.int r)) [some (deckT cells' (n + 1)), none]
section
variable {P : Program} {w : World} {K : PySem.W.Frag} {mg : Str → Option Value} {base : Heap} {Z : Amb}
theorem sc_draw : FnScope ["_law_deck_here", "_law_many", "_law_cell", "_law_place"] ["_law_deck_here", "_law_many"] (defScope s_draw) := ⟨rfl, rfl, rfl, by decide +kernel, rfl, by decide +kernel, by decide +kernel⟩
theorem ok_draw {f : Addr} {fd : FuncData} (F : Fun K "_law_draw" "_law_draw" s_draw f fd) (B : Bt mg) : FnOk P w K mg base CX0 1 f fd ["_law_deck_here", "_law_many"] (spOf w Z 2 S_draw) := by
  refine fnd F sc_draw [true, false] rfl (fun cdv A outer s H E hr => (
    psd_cons (psd_putC (p := []) (n := 1) (pp_nm (pv 0)) rfl (pd_add (pd_p (pp_ix (n := 1) (pp_nm (pv 0)) rfl)) pd_int))
    (psd_cons (psd_set (i := 2) sc_draw.nd rfl (Or.inl rfl) (by decide) pd_int)
    (psd_cons (psd_set (i := 3) sc_draw.nd rfl (Or.inl rfl) (by decide) (pd_neg pd_int))
    (psd_cons (psd_if (pt_gt (pd_lenP (by rfl) B.z_len (pp_ix (n := 0) (pp_nm (pv 0)) rfl)) pd_int)
       (psd_cons (psd_set (i := 3) sc_draw.nd rfl (Or.inl rfl) (by decide) (pd_mod (pd_p (pp_ix (n := 1) (pp_nm (pv 0)) rfl)) (pd_lenP (by rfl) B.z_len (pp_ix (n := 0) (pp_nm (pv 0)) rfl))))
       (psd_one (psd_set (i := 2) sc_draw.nd rfl (Or.inl rfl) (by decide) (pd_ixP (j := 3) (u10 hr) (pp_ix (n := 0) (pp_nm (pv 0)) rfl) (pv 3))))) psd_nil)
    (psd_cons (psd_if (pt_ge (pd_n (pv 2)) (pd_pow pd_int pd_int))
       (psd_cons (psd_putP (j := 3) (pp_ix (n := 0) (pp_nm (pv 0)) rfl) (pv 3) (pd_fdiv (pd_n (pv 2)) (pd_n (pv 1))))
       (psd_one (psd_ret (pd_mod (pd_n (pv 2)) (pd_n (pv 1)))))) psd_nil)
    (psd_one (psd_ret (pd_mod (pd_mod (pd_pow (pd_add (pd_add (pd_mod (pd_n (pv 2)) pd_int) (pd_mul pd_int (pd_p (pp_ix (n := 1) (pp_nm (pv 0)) rfl)))) pd_int) pd_int) pd_int) (pd_n (pv 1)))))))))
    )) ?_
  rintro ts Kc hl ⟨cells, n, many, rfl, h1, h2, h3, h4, h5, k⟩
  have e10 : powD (D.int 10) (D.int 18) = some (.int (10 ^ 18)) := rfl
  have lm : (cells.map D.int).length = cells.length := List.length_map ..
  have tail : ∀ c : Int, (∀ (cells' : List Int) (r : Int), cells'.length = cells.length → 0 ≤ r → r < many → Kc (T.fz (.int r)) [some (deckT cells' (n + 1)), none]) → ∃ a b e : Int, mulT (.int 7919) (.int (n + 1)) = some (.fz (.int a)) ∧ powD (.int (c % 2147483587 + a + 1)) (.int 5) = some (.int b) ∧ e = b % 2147483647 % many ∧ 0 ≤ e ∧ e < many := fun c _ => by
    refine ⟨7919 * (n + 1), (c % 2147483587 + 7919 * (n + 1) + 1) ^ 5, _, mulT_int (.inl ⟨by decide, by decide⟩), powD_int ⟨by decide, by decide, ?_⟩, rfl, Int.emod_nonneg _ (by omega), Int.emod_lt_of_pos _ h1⟩
    have := Int.emod_nonneg c (show (2147483587 : Int) ≠ 0 by decide)
    have := Int.emod_lt_of_pos c (show (0 : Int) < 2147483587 by decide)
    omega
  simp only [tdSeq, tdPutC, tdF, tdBin, tdP, bindO, atP, T.at, tdC, rdS, frzR, tdSet, tdUnE, tdIfS, tdTest, tdBinE, tdLenP, tdIxP, tdPutP, tdRet, tdN, tdNext, setP, T.setAt, T.er, T.ers, rdE, T.sh, List.map, List.replicate, List.length, List.append, List.cons_append, List.nil_append, List.getElem?_cons_zero, List.getElem?_cons_succ, List.set, addT_int, deckT, negD, lenD, gtD_int, geD_int, e10, lm]
  have go : ∀ (cells' : List Int) (r : Int), cells'.length = cells.length → 0 ≤ r → r < many → Kc (T.fz (.int r)) [some (deckT cells' (n + 1)), none] := fun cells' r a b c => k r cells' b c a
  by_cases hp : (0 : Int) < (cells.length : Int)
  · rw [if_pos (by simpa using hp), modD_int hp]
    have z1 := Int.emod_nonneg (n + 1) (show (cells.length : Int) ≠ 0 by omega)
    have z2 := Int.emod_lt_of_pos (n + 1) hp
    have hz : ((n + 1) % (cells.length : Int)).toNat < cells.length := by omega
    have e1 : atD (.lst (cells.map .int)) (.int ((n + 1) % (cells.length : Int))) = some (.int cells[((n + 1) % (cells.length : Int)).toNat]) := by
      show atI _ _ = _
      rw [atI_in z1 (by simpa using z2), List.getElem?_map, List.getElem?_eq_getElem hz]
      rfl
    have e2 : ixN cells.length ((n + 1) % (cells.length : Int)) = some ((n + 1) % (cells.length : Int)).toNat := ixN_in z1 z2
    obtain ⟨a, b, e, m1, m2, m3, m4, m5⟩ := tail cells[((n + 1) % (cells.length : Int)).toNat] go
    simp only [e1, e2, geD_int, fdivD_int h1 h2, modD_int h1, modD_int (show (0 : Int) < 2147483587 by decide), modD_int (show (0 : Int) < 2147483647 by decide), m1, T.er, addT_int, m2, lm]
    refine ite2 (fun _ => ?_) (fun _ => ?_)
    · have := go (cells.set ((n + 1) % (cells.length : Int)).toNat (cells[((n + 1) % (cells.length : Int)).toNat] / many)) (cells[((n + 1) % (cells.length : Int)).toNat] % many) (by simp) (Int.emod_nonneg _ (by omega)) (Int.emod_lt_of_pos _ h1)
      simp only [deckT, List.map_set] at this
      exact this
    · rw [← m3]
      exact go cells e rfl m4 m5
  · rw [if_neg (by simpa using hp), if_neg (by decide)]
    obtain ⟨a, b, e, m1, m2, m3, m4, m5⟩ := tail 0 go
    simp only [modD_int h1, modD_int (show (0 : Int) < 2147483587 by decide), modD_int (show (0 : Int) < 2147483647 by decide), m1, T.er, addT_int, m2]
    rw [← m3]
    exact go cells e rfl m4 m5
end
end K55
namespace K55
open PySem PyProof.Rows L2 M
section
variable {P : Program} {w : World} {K : PySem.W.Frag} {mg : Str → Option Value} {base : Heap} {Z : Amb}
theorem sc_deck : FnScope ["_law_script", "_law_cell"] ["_law_script"] (defScope s_deck) := ⟨rfl, rfl, rfl, by decide +kernel, rfl, by decide +kernel, by decide +kernel⟩
theorem ok_deck {f : Addr} {fd : FuncData} (F : Fun K "_law_deck" "_law_deck" s_deck f fd) (B : Bt mg) : FnOk P w K mg base CX0 1 f fd ["_law_script"] (spOf w Z 1 (S_deck K)) := by
  refine fnd F sc_deck [false] rfl (fun cdv A outer s H E hr => (
    (psd_one (psd_ret (pd_pair (v2 := .int 0) (d := .int 0) (pd_lc (own := [("_law_cell", 1)]) (by decide) rfl sc_deck.nd (pid_seq (pd_scr (Kf := K) rfl (pv 0))) (blkOk_by rfl) (fun _ _ _ _ _ => (pg_nm (i := 1) sc_deck.nd rfl (by first | exact Or.inl rfl | exact Or.inr rfl))) (fun _ _ _ _ _ => ptsd_nil) (fun _ _ _ _ _ => (pd_abs (by rfl) B.z_abs (pd_n (pv 1))))) pe_int (fun _ => .int _)))))) ?_
  rintro ts Kc hl ⟨ns, sd, rfl, hsd, h1, k⟩
  simp only [tdRet, tdPair, tdLc, tiSeq, tdF, tdScr, List.map, List.replicate, List.length, List.append, List.cons_append, List.nil_append, List.getElem?_cons_zero, frzR, T.er, D.items, bindO]
  refine ⟨ns, ?_, ?_⟩
  · rcases hsd with rfl | rfl
    · exact .inl rfl
    · exact .inr rfl
  refine lc_inv (fun done acc σ => ∃ (cs : List Int) (u : Option T), acc = cs.map .int ∧ cs.length = done.length ∧ σ = [some (.fz sd), u]) ⟨[], none, rfl, rfl, rfl⟩ ?_ ?_
  · rintro done x rest acc σ e ⟨cs, u, rfl, hl, rfl⟩ K' k'
    have hx := (M.cutD_sub (xs := ns.map .int) (lo := none) (hi := some 63)).subset (mem_split e)
    obtain ⟨z, _, rfl⟩ := List.mem_map.mp hx
    have h2 := len_split e
    have h3 := (M.cutD_sub (xs := ns.map .int) (lo := none) (hi := some 63)).length_le
    simp only [List.length_map] at h3
    simp only [Tg.put, wipeD, List.set, bindO, ttYes, tdF, tdCE, taCons, taNil, tdN, rdEs, rdE, frzR, T.er, absD, List.getElem?_cons_zero, List.getElem?_cons_succ, List.length_map, if_true]
    exact ⟨small (by omega), k' _ _ ⟨cs ++ [_], _, by rw [List.map_append]; rfl, by simp [hl], rfl⟩⟩
  · rintro acc σ' ⟨cs, u, rfl, hl, rfl⟩
    have h3 := (M.cutD_sub (xs := ns.map .int) (lo := none) (hi := some 63)).length_le
    simp only [List.length_map] at h3
    exact k cs (by omega)
end
end K55
namespace K55
open PySem PyProof.Rows L2 M
/-! ### trees of the law, plainly -/
abbrev Nd := Option Nat
abbrev Es := List (Nd × List (Int × Nat))
def nodeD : Nd → D
  | none => .non
  | some n => .int n
def natD (m : Nat) : D := .int (m : Int)
def nk : Nd → NestedKey
  | none => .none
  | some n => .num n
def edgeD (p : Int × Nat) : D := .tup [.int p.1, .int p.2]
def edD (ed : List (Int × Nat)) : D := .tup (ed.map edgeD)
def dicD (es : Es) : List (D × D) := es.map fun p => (nodeD p.1, edD p.2)
theorem nk_inj {x y : Nd} (h : nk x = nk y) : x = y := by
  cases x <;> cases y <;> simp [nk] at h ⊢
  omega
theorem key_node (x : Nd) : (nodeD x).key = some (nk x) := by cases x <;> rfl
theorem keys_es : ∀ es : Es, D.keys ((dicD es).map (·.1)) = some (es.map fun p => nk p.1)
  | [] => rfl
  | p :: es => by
    show (match D.key (nodeD p.1), D.keys ((dicD es).map (·.1)) with | some k, some ks => some (k :: ks) | _, _ => none) = _
    rw [key_node, keys_es es]
    rfl
theorem fam_es (x : Nd) (es : Es) : fam (nk x) (es.map fun p => nk p.1) = true := by
  unfold fam
  rw [List.all_map, List.all_eq_true]
  intro p _
  have : ∀ y : Nd, isTupK (nk y) = false := fun y => by cases y <;> rfl
  simp [this]
theorem ix_es (x : Nd) (es : Es) : dicIx (dicD es) (nodeD x) = some (nk x, es.map fun p => nk p.1) := by
  unfold dicIx
  rw [keys_es, key_node]
  have : (nk x).depth ≤ 8 := by cases x <;> exact Nat.zero_le _
  simp [fam_es, this]
theorem at_es : ∀ (es : Es) (x : Nd), ((idxK (es.map fun p => nk p.1) (nk x)).bind fun i => ((dicD es).map (·.2))[i]?) = (es.lookup x).map edD
  | [], x => rfl
  | (y, ed) :: es, x => by
    show ((if nk y = nk x then some 0 else (idxK (es.map fun p => nk p.1) (nk x)).map (· + 1)).bind fun i => (edD ed :: (dicD es).map (·.2))[i]?) = _
    rw [List.lookup_cons]
    by_cases e : y = x
    · subst e; simp
    · have : ¬ nk y = nk x := fun h => e (nk_inj h)
      have e2 : (x == y) = false := by simpa using fun h => e h.symm
      rw [if_neg this, e2]
      have ih := at_es es x
      rw [← ih]
      cases idxK (es.map fun p => nk p.1) (nk x) <;> simp
theorem dicAt_es (es : Es) (x : Nd) : dicAt (dicD es) (nodeD x) = (es.lookup x).map edD := by
  unfold dicAt
  rw [ix_es]
  exact at_es es x
theorem idx_none : ∀ (es : Es) (x : Nd), x ∉ es.map (·.1) → idxK (es.map fun p => nk p.1) (nk x) = none
  | [], x, _ => rfl
  | (y, ed) :: es, x, h => by
    show (if nk y = nk x then some 0 else (idxK (es.map fun p => nk p.1) (nk x)).map (· + 1)) = none
    simp only [List.map_cons, List.mem_cons, not_or] at h
    rw [if_neg (fun q => h.1 (nk_inj q).symm), idx_none es x h.2]
    rfl
theorem dicPut_es (es : Es) (x : Nd) (ed : List (Int × Nat)) (h : x ∉ es.map (·.1)) (hl : es.length < sizeLine) : dicPut (dicD es) (nodeD x) (edD ed) = some (dicD (es ++ [(x, ed)])) := by
  unfold dicPut
  rw [ix_es]
  dsimp only
  rw [idx_none es x h]
  dsimp only
  rw [if_pos (by simpa [dicD] using hl)]
  simp [dicD]
def E (es : Es) (x : Nd) : List (Int × Nat) := (es.lookup x).getD []
def kids (es : Es) (x : Nd) : List Nd := (E es x).map fun p => some p.2
def lev (es : Es) : Nat → List Nd
  | 0 => [none]
  | k + 1 => (lev es k).flatMap (kids es)
/-- a tree of d levels: all have edges, not too many -/
structure Tree (es : Es) (d : Nat) : Prop where
  has : ∀ j, j < d → ∀ x ∈ lev es j, ∃ ed, es.lookup x = some ed ∧ ed ≠ []
  few : ∀ j, j ≤ d → (lev es j).length ≤ 20
theorem look_ext {es : Es} {x y : Nd} {ed : List (Int × Nat)} {fd : List (Int × Nat)} (h : es.lookup x = some ed) : (es ++ [(y, fd)]).lookup x = some ed := by
  rw [List.lookup_append, h]
  rfl
theorem look_new {es : Es} {y : Nd} {fd : List (Int × Nat)} (h : y ∉ es.map (·.1)) : (es ++ [(y, fd)]).lookup y = some fd := by
  have : es.lookup y = none := by
    rw [List.lookup_eq_none_iff]
    intro p hp
    simpa using fun e => h (List.mem_map.mpr ⟨p, hp, e.symm⟩)
  rw [List.lookup_append, this]
  simp
/-- what is known keeps -/
def Mono (es es' : Es) : Prop := ∀ x ed, es.lookup x = some ed → es'.lookup x = some ed
theorem mem_look {β : Type} : ∀ {l : List (Nd × β)} {x : Nd} {v : β}, l.lookup x = some v → (x, v) ∈ l
  | [], _, _, h => by cases h
  | (y, u) :: l, x, v, h => by
    rw [List.lookup_cons] at h
    by_cases e : x = y
    · subst e
      simp at h
      subst h
      simp
    · have : (x == y) = false := by simpa using e
      rw [this] at h
      exact List.mem_cons_of_mem _ (mem_look h)
theorem fm_congr {α β : Type} {f g : α → List β} : ∀ {l : List α}, (∀ x ∈ l, f x = g x) → l.flatMap f = l.flatMap g
  | [], _ => rfl
  | x :: l, h => by
    rw [List.flatMap_cons, List.flatMap_cons, h x (by simp), fm_congr fun y hy => h y (by simp [hy])]
theorem lev_mono {es es' : Es} (m : Mono es es') : ∀ k, (∀ j, j < k → ∀ x ∈ lev es j, ∃ ed, es.lookup x = some ed) → ∀ j, j ≤ k → lev es' j = lev es j
  | k, h, 0, _ => rfl
  | k, h, j + 1, hj => by
    have ih := lev_mono m k h j (by omega)
    unfold lev
    rw [ih]
    refine fm_congr fun x hx => ?_
    obtain ⟨ed, e⟩ := h j (by omega) x hx
    unfold kids E
    rw [e, m x ed e]
theorem lev0 (j : Nat) (h : j ≤ ([] : List D).length) : (lev [] j).length ≤ 20 := by
  have : j = 0 := Nat.le_zero.mp h
  subst this
  exact (by decide : 1 ≤ 20)
abbrev s_tree : Stmt := top 5
theorem sc_tree : FnScope ["_law_deck_here", "_law_depth", "_law_most", "_law_tree_here", "_law_nodes", "_law_count", "_law_level", "_law_later", "_law_node", "_law_many", "_law_edges", "_law_k"] ["_law_deck_here", "_law_depth", "_law_most"] (defScope s_tree) := ⟨rfl, rfl, rfl, by decide +kernel, rfl, by decide +kernel, by decide +kernel⟩
def S_tree : SpD := fun ts K => ∃ (cells : List Int) (n depth most : Int), ts = [deckT cells n, .fz (.int depth), .fz (.int most)] ∧ cells.length ≤ 63 ∧ 0 ≤ n ∧ n ≤ 10 ∧ 0 ≤ depth ∧ depth ≤ 400 ∧ 0 ≤ most ∧ most ≤ 18 ∧
  ∀ es cells' n', Tree es depth.toNat → cells'.length = cells.length → 0 ≤ n' → n' ≤ 100000 → K (.m (dicD es)) [some (deckT cells' n'), none, none]
section
variable {P : Program} {w : World} {K : PySem.W.Frag} {mg : Str → Option Value} {base : Heap} {Z : Amb}
theorem ok_tree {f : Addr} {fd : FuncData} (F : Fun K "_law_tree" "_law_tree" s_tree f fd) (B : Bt mg) (f_draw : Kn P w K mg base Z 1 "_law_draw" 2 S_draw) : FnOk P w K mg base CX0 2 f fd ["_law_deck_here", "_law_depth", "_law_most"] (spOf w Z 3 S_tree) := by
  refine fnd F sc_tree [true, false, false] rfl (fun cdv A outer s H E hr => (
(psd_cons (psd_set (i := 3) sc_tree.nd rfl (by first | exact Or.inl rfl | exact Or.inr rfl) (by decide) pd_dnew)
    (psd_cons (psd_set (i := 4) sc_tree.nd rfl (by first | exact Or.inl rfl | exact Or.inr rfl) (by decide) (pd_lst (pad_cons pd_non pad_nil)))
    (psd_cons (psd_set (i := 5) sc_tree.nd rfl (by first | exact Or.inl rfl | exact Or.inr rfl) (by decide) pd_int)
    (psd_cons (psd_for PassesOwn.never rfl (pid_range1 (by rfl) B.z_range (pd_n (pv 1))) (pg_nm (i := 6) sc_tree.nd rfl (by first | exact Or.inl rfl | exact Or.inr rfl)) (by decide) (psd_cons (psd_set (i := 7) sc_tree.nd rfl (by first | exact Or.inl rfl | exact Or.inr rfl) (by decide) (pd_lst pad_nil))
    (psd_cons (psd_for PassesOwn.never rfl (pid_seq (pd_n (pv 4))) (pg_nm (i := 8) sc_tree.nd rfl (by first | exact Or.inl rfl | exact Or.inr rfl)) (by decide) (psd_cons (psd_set (i := 9) sc_tree.nd rfl (by first | exact Or.inl rfl | exact Or.inr rfl) (by decide) pd_int)
    (psd_cons (psd_if (pt_lt (pd_add (pd_len (by rfl) B.z_len (pd_n (pv 4))) (pd_len (by rfl) B.z_len (pd_n (pv 7)))) (pd_n (pv 2))) (psd_one (psd_set (i := 9) sc_tree.nd rfl (by first | exact Or.inl rfl | exact Or.inr rfl) (by decide) (pd_add pd_int (pd_kn (mds := [true, false]) f_draw hr (by decide) (by rfl) (pad_cons (pd_n (pv 0)) (pad_cons pd_int pad_nil)))))) psd_nil)
    (psd_cons (psd_set (i := 10) sc_tree.nd rfl (by first | exact Or.inl rfl | exact Or.inr rfl) (by decide) (pd_lst pad_nil))
    (psd_cons (psd_for PassesOwn.never rfl (pid_range1 (by rfl) B.z_range (pd_n (pv 9))) (pg_nm (i := 11) sc_tree.nd rfl (by first | exact Or.inl rfl | exact Or.inr rfl)) (by decide) (psd_cons (psd_expr (psd_append (pv 10) (pd_tup (pad_cons (pd_kn (mds := [true, false]) f_draw hr (by decide) (by rfl) (pad_cons (pd_n (pv 0)) (pad_cons pd_int pad_nil))) (pad_cons (pd_n (pv 5)) pad_nil)))))
    (psd_cons (psd_expr (psd_append (pv 7) (pd_n (pv 5))))
    (psd_one (psd_set (i := 5) sc_tree.nd rfl (by first | exact Or.inl rfl | exact Or.inr rfl) (by decide) (pd_add (pd_n (pv 5)) pd_int))))))
    (psd_one (psd_put (u10 hr) (pv 3) (pd_n (pv 8)) (pd_tuple (by rfl) B.z_tuple (pd_n (pv 10))))))))))
    (psd_one (psd_set (i := 4) sc_tree.nd rfl (by first | exact Or.inl rfl | exact Or.inr rfl) (by decide) (pd_n (pv 7)))))))
    (psd_one (psd_ret (pd_n (pv 3))))))))
    )) ?_
  rintro ts Kc hl ⟨cells, n, depth, most, rfl, h1, h2, h3, h4, h5, h6, h7, k⟩
  simp only [tdSeq, tdSet, tdLst, taCons, taNil, tdC, frzR, bindO, tdFor, tiRng1, tdF, tdN, T.er, List.map, List.replicate, List.length, List.append, List.cons_append, List.nil_append, List.getElem?_cons_zero, List.getElem?_cons_succ, List.set]
  refine ⟨by decide, by omega, by omega, ?_⟩
  refine for_inv (fun done σ => ∃ (es : Es) (cs : List Int) (n' : Int) (cnt : Nat) (t4 : T) (a6 a7 a8 a9 a10 a11 : Option T),
    σ = [some (deckT cs n'), some (T.fz (D.int depth)), some (T.fz (D.int most)), some (T.m (dicD es)), some t4, some (T.fz (D.int cnt)), a6, a7, a8, a9, a10, a11] ∧ t4.er = .lst ((lev es done.length).map nodeD) ∧
    (∀ j, j < done.length → ∀ x ∈ lev es j, ∃ ed, es.lookup x = some ed ∧ ed ≠ []) ∧ (∀ j, j ≤ done.length → (lev es j).length ≤ 20) ∧ (∀ x ∈ lev es done.length, x ∉ es.map (·.1)) ∧ (lev es done.length).Nodup ∧
    (∀ m, some m ∈ lev es done.length → m < cnt) ∧ (∀ m, some m ∈ es.map (·.1) → m < cnt) ∧ es.length ≤ 20 * done.length ∧ cs.length = cells.length ∧ 0 ≤ n' ∧ n' ≤ 10 + 80 * done.length)
    ⟨[], cells, n, 0, .l [.non], none, none, none, none, none, none, rfl, rfl, fun j hj => by simp at hj, lev0, by simp, by simp [lev], by simp [lev], by simp, by simp, rfl, h2, by simp; omega⟩ ?_ ?_
  · rintro done x rest σ e ⟨es, cs, n', cnt, t4, a6, a7, a8, a9, a10, a11, rfl, ht4, g1, g2, g3, g4, g5, g6, g7, g8, g9, g10⟩ nx knx
    have hdl := len_split e
    simp only [rangeD, List.length_map, List.length_range] at hdl
    simp only [Tg.put, bindO, List.set]
    rw [tdSeq_ap]
    simp only [tdSet, tdLst, taCons, taNil, frzR, List.set, List.length]
    refine ⟨by decide, ?_⟩
    rw [tdSeq_ap]
    simp only [tdFor, tiSeq]
    refine tdF_N rfl ?_
    rw [ht4]
    simp only [D.items, List.set]
    generalize hxs : lev es done.length = xs at g3 g4 g5
    have hN : xs.length ≤ 20 := by rw [← hxs]; exact g2 _ (Nat.le_refl _)
    refine for_inv (fun dn σ => ∃ (ext : Es) (cs' : List Int) (n2 : Int) (lat : List Nat) (cnt' : Nat) (a8 a9 a10 a11 : Option T),
      σ = [some (deckT cs' n2), some (T.fz (D.int depth)), some (T.fz (D.int most)), some (T.m (dicD (es ++ ext))), some (.fz (.lst (xs.map nodeD))), some (T.fz (D.int cnt')), some (T.fz x), some (.l (lat.map natD)), a8, a9, a10, a11] ∧
      ext.map (·.1) = xs.take dn.length ∧ (∀ p ∈ ext, p.2 ≠ []) ∧ lat.map some = (xs.take dn.length).flatMap (kids (es ++ ext)) ∧ lat.length + (xs.length - dn.length) ≤ 20 ∧ (∀ m ∈ lat, cnt ≤ m ∧ m < cnt') ∧ lat.Nodup ∧ cnt ≤ cnt' ∧ cs'.length = cells.length ∧ 0 ≤ n2 ∧ n2 ≤ n' + 4 * dn.length)
      ⟨[], cs, n', [], cnt, a8, a9, a10, a11, by simp, by simp, by simp, by simp, by simpa using hN, by simp, by simp, Nat.le_refl _, g8, g9, by simp⟩ ?_ ?_
    · rintro dn y rst σ ey ⟨ext, cs', n2, lat, cnt', b8, b9, b10, b11, rfl, i1, i2, i3, i4, i5, i6, i7, i8, i9, i10⟩ nx2 knx2
      have hyl := len_split ey
      rw [List.length_map] at hyl
      obtain ⟨z, hz, ez⟩ : ∃ z, xs[dn.length]? = some z ∧ y = nodeD z := by
        have : (xs.map nodeD)[dn.length]? = some y := by rw [ey]; simp
        rw [List.getElem?_map] at this
        cases h : xs[dn.length]? with
        | none => rw [h] at this; cases this
        | some z => rw [h] at this; exact ⟨z, rfl, (Option.some.inj this).symm⟩
      subst ez
      have many : ∀ (De : Eds) (mz : Int) (cs2 : List Int) (n3 : Int), 1 ≤ mz → mz ≤ 3 → cs2.length = cells.length → 0 ≤ n3 → n3 ≤ n2 + 1 → lat.length + mz.toNat + (xs.length - dn.length - 1) ≤ 20 → (∀ σ', (∃ (ext : Es) (cs' : List Int) (n2 : Int) (lat : List Nat) (cnt' : Nat) (a8 a9 a10 a11 : Option T),
      σ' = [some (deckT cs' n2), some (T.fz (D.int depth)), some (T.fz (D.int most)), some (T.m (dicD (es ++ ext))), some (.fz (.lst (xs.map nodeD))), some (T.fz (D.int cnt')), some (T.fz x), some (.l (lat.map natD)), a8, a9, a10, a11] ∧
      ext.map (·.1) = xs.take (dn ++ [nodeD z]).length ∧ (∀ p ∈ ext, p.2 ≠ []) ∧ lat.map some = (xs.take (dn ++ [nodeD z]).length).flatMap (kids (es ++ ext)) ∧ lat.length + (xs.length - (dn ++ [nodeD z]).length) ≤ 20 ∧ (∀ m ∈ lat, cnt ≤ m ∧ m < cnt') ∧ lat.Nodup ∧ cnt ≤ cnt' ∧ cs'.length = cells.length ∧ 0 ≤ n2 ∧ n2 ≤ n' + 4 * (dn ++ [nodeD z]).length) → De.nx σ') →
          tdSeq (tdSet 10 (tdLst taNil)) (tdSeq (tdFor (tiRng1 (tdN 9)) (Tg.nm 11) (tdSeq (tdDrop (tdMut appendT 10 (taCons (tdTup (taCons (tdCall [true, false] [] 2 S_draw (taCons (tdN 0) (taCons (tdC (D.int 3)) taNil))) (taCons (tdN 5) taNil))) taNil))) (tdSeq (tdDrop (tdMut appendT 7 (taCons (tdN 5) taNil))) (tdSet 5 (tdBin addT (tdN 5) (tdC (D.int 1))))))) (tdPut 3 (tdN 8) (tdCB tupleT (taCons (tdN 10) taNil)))) De
          [some (deckT cs2 n3), some (T.fz (D.int depth)), some (T.fz (D.int most)), some (T.m (dicD (es ++ ext))), some (.fz (.lst (xs.map nodeD))), some (T.fz (D.int cnt')), some (T.fz x), some (.l (lat.map natD)), some (.fz (nodeD z)), some (.fz (.int mz)), b10, b11] := by
        intro De mz cs2 n3 m1 m2 m3 m4 m5 m6 kde
        rw [tdSeq_ap]
        simp only [tdSet, tdLst, taCons, taNil, frzR, List.set, List.length]
        refine ⟨by decide, ?_⟩
        rw [tdSeq_ap]
        simp only [tdFor, tiRng1]
        refine tdF_N rfl ?_
        simp only [T.er, List.set]
        refine ⟨by omega, by omega, ?_⟩
        refine for_inv (fun dq σ => ∃ (ed : List (Int × Nat)) (cs' : List Int) (n4 : Int) (c11 : Option T),
          σ = [some (deckT cs' n4), some (T.fz (D.int depth)), some (T.fz (D.int most)), some (T.m (dicD (es ++ ext))), some (.fz (.lst (xs.map nodeD))), some (T.fz (D.int ((cnt' + ed.length : Nat) : Int))), some (T.fz x), some (.l ((lat ++ ed.map (·.2)).map natD)), some (.fz (nodeD z)), some (.fz (.int mz)), some (.l (ed.map edgeD)), c11] ∧
          ed.length = dq.length ∧ ed.map (·.2) = List.range' cnt' ed.length ∧ cs'.length = cells.length ∧ 0 ≤ n4 ∧ n4 ≤ n3 + dq.length)
          ⟨[], cs2, n3, b11, by simp, rfl, rfl, m3, m4, by simp⟩ ?_ ?_
        · rintro dq y rq σ ey ⟨ed, cs', n4, c11, rfl, j1, j2, j3, j4, j5⟩ nx3 knx3
          have hql := len_split ey
          simp only [rangeD, List.length_map, List.length_range] at hql
          simp only [Tg.put, bindO, List.set]
          rw [tdSeq_ap]
          simp only [tdDrop, tdMut, hasS, taCons, taNil, tdTup, tdCall, tdN, tdC, List.getElem?_cons_zero, List.getElem?_cons_succ, List.length, passA, List.set, List.append, List.cons_append, List.nil_append, List.map, true_and]
          refine ⟨cs', n4, 3, rfl, by decide, by decide, j4, by omega, by omega, fun r cs3 r1 r2 r3 => ?_⟩
          simp only [putA, List.set, List.getElem?_cons_zero, List.getElem?_cons_succ, frzR, T.er, appendT, bindO, List.length]
          refine ⟨by decide, ?_⟩
          rw [if_pos (by simpa using small (by omega))]
          dsimp only
          rw [tdSeq_ap]
          simp only [tdDrop, tdMut, hasS, taCons, taNil, tdN, List.getElem?_cons_zero, List.getElem?_cons_succ, true_and, frzR, T.er, appendT, bindO, List.length]
          rw [if_pos (by simpa using small (by omega))]
          dsimp only
          simp only [tdSet, tdBin, tdN, tdC, List.getElem?_cons_zero, List.getElem?_cons_succ, rdS, T.er, addT_int, bindO, List.set]
          refine knx3 _ ⟨ed ++ [(r, cnt' + ed.length)], cs3, n4 + 1, some (T.fz y), ?_, by simp [j1], ?_, r3.trans j3, by omega, by simp; omega⟩
          · simp [natD, edgeD, Int.add_assoc]
          · rw [List.map_append, j2, List.length_append]
            simp [List.range'_concat]
        · rintro σ ⟨ed, cs', n4, c11, rfl, j1, j2, j3, j4, j5⟩
          have hql : (rangeD 0 mz.toNat).length = mz.toNat := by simp [rangeD]
          rw [hql] at j1 j5
          have hne : ed ≠ [] := fun q => by rw [q] at j1; simp at j1; omega
          have zmem : z ∈ xs := List.mem_of_getElem? hz
          have zfresh : z ∉ (es ++ ext).map (·.1) := by
            rw [List.map_append, i1]
            intro q
            rcases List.mem_append.mp q with q | q
            · exact g3 z zmem q
            · obtain ⟨ii, hi, e2⟩ := List.getElem_of_mem q
              rw [List.getElem_take] at e2
              simp only [List.length_take] at hi
              have hz' : xs[dn.length]'(by omega) = z := (List.getElem?_eq_some_iff.mp hz).2
              have := (List.getElem_inj g4).mp (e2.trans hz'.symm)
              omega
          have hext : ext.length = min dn.length xs.length := by
            have := congrArg List.length i1
            simpa using this
          simp only [tdPut, tdCB, taCons, taNil, tdF, tdN, List.getElem?_cons_zero, List.getElem?_cons_succ, rdSs, rdS, T.sh, bindO, tupleT, frzR, T.er, hasS, true_and]
          rw [show D.tup (ed.map edgeD) = edD ed from rfl]
          simp only [putT]
          rw [if_pos (by simp only [dicD, List.length_map, List.length_append]; exact small (by omega)), dicPut_es _ _ _ zfresh (by simp only [List.length_append]; exact small (by omega))]
          simp only [Option.map, bindO, List.set]
          have tk : xs.take (dn ++ [nodeD z]).length = xs.take dn.length ++ [z] := by
            rw [List.length_append]
            show xs.take (dn.length + 1) = _
            rw [List.take_add_one, hz]
            rfl
          have knew : kids (es ++ (ext ++ [(z, ed)])) z = ed.map fun p => some p.2 := by
            unfold kids E
            rw [← List.append_assoc, look_new zfresh]
            rfl
          have kold : ∀ q ∈ xs.take dn.length, kids (es ++ (ext ++ [(z, ed)])) q = kids (es ++ ext) q := fun q hq => by
            have : ∃ v, (es ++ ext).lookup q = some v := by
              have hm : q ∈ (es ++ ext).map (·.1) := by rw [List.map_append, i1]; exact List.mem_append_right _ hq
              obtain ⟨p, hp, e2⟩ := List.mem_map.mp hm
              cases hv : (es ++ ext).lookup q with
              | some v => exact ⟨v, rfl⟩
              | none =>
                rw [List.lookup_eq_none_iff] at hv
                have := hv p hp
                simp [e2] at this
            obtain ⟨v, hv⟩ := this
            unfold kids E
            rw [← List.append_assoc, look_ext hv, hv]
          refine kde _ ⟨ext ++ [(z, ed)], cs', n4, lat ++ ed.map (·.2), cnt' + ed.length, some (.fz (nodeD z)), some (.fz (.int mz)), some (.l (ed.map edgeD)), c11, ?_, ?_, ?_, ?_, ?_, ?_, ?_, by omega, j3, j4, ?_⟩
          · rw [List.append_assoc]
          · rw [tk, List.map_append, i1]; rfl
          · intro p hp
            rcases List.mem_append.mp hp with hp | hp
            · exact i2 p hp
            · simp at hp; subst hp; exact hne
          · rw [tk, List.flatMap_append, fm_congr kold, ← i3, List.map_append]
            simp [knew]
          · simp only [List.length_append, List.length_map, List.length]
            omega
          · intro m hm
            rcases List.mem_append.mp hm with hm | hm
            · have := i5 m hm; omega
            · rw [j2] at hm
              have := List.mem_range'_1.mp hm
              omega
          · rw [List.nodup_append]
            refine ⟨i6, by rw [j2]; exact List.nodup_range', fun a ha b hb q => ?_⟩
            have h1 := i5 a ha
            rw [j2] at hb
            have h2 := List.mem_range'_1.mp hb
            omega
          · simp only [List.length_append, List.length]
            omega
      simp only [Tg.put, bindO, List.set]
      rw [tdSeq_ap]
      simp only [tdSet, tdC, List.set]
      rw [tdSeq_ap]
      simp only [tdIfS, tdTest, tdBinE, tdBin, tdCE, taCons, taNil, tdN, List.getElem?_cons_zero, List.getElem?_cons_succ, rdEs, rdE, rdS, T.er, lenD, List.length_map, addT_int, ltD_int, bindO]
      by_cases hb : (xs.length : Int) + lat.length < most
      · rw [decide_eq_true hb, if_pos rfl]
        simp only [tdSet, tdBin, tdC, tdCall, taCons, taNil, tdN, List.getElem?_cons_zero, List.getElem?_cons_succ, List.length, passA, List.set, List.append, List.cons_append, List.nil_append, List.map, true_and]
        refine ⟨cs', n2, 3, rfl, by decide, by decide, i9, by omega, by omega, fun r cs3 r1 r2 r3 => ?_⟩
        simp only [putA, List.set, rdS, T.er, addT_int, bindO]
        exact many _ (1 + r) cs3 (n2 + 1) (by omega) (by omega) (r3.trans i8) (by omega) (by omega) (by omega) knx2
      · rw [decide_eq_false hb, if_neg Bool.false_ne_true]
        simp only [tdNext]
        exact many _ 1 cs' n2 (by omega) (by omega) i8 i9 (by omega) (by omega) knx2
    · rintro σ ⟨ext, cs', n2, lat, cnt', b8, b9, b10, b11, rfl, i1, i2, i3, i4, i5, i6, i7, i8, i9, i10⟩
      rw [List.length_map] at i1 i3 i4 i10
      rw [List.take_length] at i1 i3
      simp only [tdSet, tdN, List.getElem?_cons_zero, List.getElem?_cons_succ, List.set, T.er]
      have mono : Mono es (es ++ ext) := fun q ed hq => by rw [List.lookup_append, hq]; rfl
      have lv : ∀ j, j ≤ done.length → lev (es ++ ext) j = lev es j := lev_mono mono done.length fun j hj q hq => by
        obtain ⟨ed, h, _⟩ := g1 j hj q hq
        exact ⟨ed, h⟩
      have lnew : lev (es ++ ext) (done.length + 1) = lat.map some := by
        rw [i3]
        show (lev (es ++ ext) done.length).flatMap _ = _
        rw [lv _ (Nat.le_refl _), hxs]
      have dl : (done ++ [x]).length = done.length + 1 := by simp
      have exlen : ext.length = xs.length := by
        have := congrArg List.length i1
        simpa using this
      refine knx _ ⟨es ++ ext, cs', n2, cnt', .fz (.lst (lat.map natD)), some (T.fz x), some (.fz (.lst (lat.map natD))), b8, b9, b10, b11, rfl, ?_, ?_, ?_, ?_, ?_, ?_, ?_, ?_, i8, i9, ?_⟩
      · rw [dl, lnew, List.map_map]; rfl
      · intro j hj q hq
        rw [dl] at hj
        rw [lv j (by omega)] at hq
        by_cases hj2 : j < done.length
        · obtain ⟨ed, h1, h2⟩ := g1 j hj2 q hq
          exact ⟨ed, mono _ _ h1, h2⟩
        · have : j = done.length := by omega
          subst this
          rw [hxs, ← i1] at hq
          obtain ⟨p, hp, rfl⟩ := List.mem_map.mp hq
          cases hv : (es ++ ext).lookup p.1 with
          | none =>
            rw [List.lookup_eq_none_iff] at hv
            have := hv p (List.mem_append_right _ hp)
            simp at this
          | some v =>
            refine ⟨v, rfl, ?_⟩
            rw [List.lookup_append] at hv
            cases h0 : es.lookup p.1 with
            | some v0 =>
              exfalso
              have hm : p.1 ∈ xs := by rw [← i1]; exact List.mem_map_of_mem hp
              refine g3 _ hm ?_
              exact List.mem_map.mpr ⟨(p.1, v0), mem_look h0, rfl⟩
            | none =>
              rw [h0] at hv
              have hv : ext.lookup p.1 = some v := hv
              exact i2 _ (mem_look hv)
      · intro j hj
        rw [dl] at hj
        by_cases hj2 : j ≤ done.length
        · rw [lv j hj2]; exact g2 j hj2
        · have : j = done.length + 1 := by omega
          subst this
          rw [lnew, List.length_map]
          omega
      · intro q hq
        rw [dl, lnew] at hq
        obtain ⟨m, hm, rfl⟩ := List.mem_map.mp hq
        have := i5 m hm
        rw [List.map_append, i1]
        intro hq
        rcases List.mem_append.mp hq with hq | hq
        · have := g6 m hq; omega
        · have := g5 m hq; omega
      · rw [dl, lnew]
        exact List.Pairwise.map _ (fun a b h q => h (Option.some.inj q)) i6
      · intro m hm
        rw [dl, lnew] at hm
        obtain ⟨m', hm', e2⟩ := List.mem_map.mp hm
        cases e2
        exact (i5 m hm').2
      · intro m hm
        rw [List.map_append, i1] at hm
        rcases List.mem_append.mp hm with hm | hm
        · have := g6 m hm; omega
        · have := g5 m hm; omega
      · rw [dl, List.length_append]; omega
      · rw [dl]; omega
  · rintro σ' ⟨es, cs, n', cnt, t4, a6, a7, a8, a9, a10, a11, rfl, ht4, g1, g2, g3, g4, g5, g6, g7, g8, g9, g10⟩
    have hdl : (rangeD 0 depth.toNat).length = depth.toNat := by simp [rangeD]
    rw [hdl] at g1 g2 g10
    simp only [tdRet, tdN, List.getElem?_cons_zero, List.getElem?_cons_succ, List.set]
    exact k es cs n' ⟨g1, g2⟩ g8 g9 (by omega)
end
end K55
namespace K55
open PySem PyProof.Rows L2 M
theorem atI_last {α : Type} {xs : List α} {x : α} : atI (xs ++ [x]) (-1) = some x := by
  have : ixN (xs ++ [x]).length (-1) = some xs.length := by
    unfold ixN
    rw [if_neg (by decide), if_pos (by simp only [List.length_append, List.length]; omega)]
    congr 1
    simp only [List.length_append, List.length]
    omega
  unfold atI
  rw [this]
  show (xs ++ [x])[xs.length]? = some x
  simp
/-- the ways of k levels: the labels, the nodes -/
def Pw (es : Es) : Nat → List (List Int × List Nd)
  | 0 => [([], [none])]
  | k + 1 => (Pw es k).flatMap fun p => (E es (p.2.getLastD none)).map fun e => (p.1 ++ [e.1], p.2 ++ [some e.2])
theorem pw_last (es : Es) : ∀ k, (Pw es k).map (fun p => p.2.getLastD none) = lev es k
  | 0 => rfl
  | k + 1 => by
    unfold Pw lev
    rw [List.map_flatMap, ← pw_last es k, List.flatMap_map]
    refine fm_congr fun p _ => ?_
    unfold kids
    rw [List.map_map]
    refine List.map_congr_left fun e _ => ?_
    simp
theorem pw_len (es : Es) : ∀ k, ∀ p ∈ Pw es k, p.1.length = k ∧ p.2.length = k + 1
  | 0, p, h => by simp [Pw] at h; subst h; exact ⟨rfl, rfl⟩
  | k + 1, p, h => by
    unfold Pw at h
    obtain ⟨q, hq, h⟩ := List.mem_flatMap.mp h
    obtain ⟨e, he, rfl⟩ := List.mem_map.mp h
    have := pw_len es k q hq
    simp [this.1, this.2]
def pD (p : List Int × List Nd) : D := .tup [.tup (p.1.map .int), .tup (p.2.map nodeD)]
def S_ways : SpD := fun ts K => ∃ (es : Es) (depth : Int), ts = [.fz (.dic (dicD es)), .fz (.int depth)] ∧ 0 ≤ depth ∧ depth ≤ 400 ∧ Tree es depth.toNat ∧ K (.l ((Pw es depth.toNat).map fun p => pD (p.1, p.2.take depth.toNat))) [none, none]
abbrev s_ways : Stmt := top 6
theorem sc_ways : FnScope ["_law_tree_here", "_law_depth", "_law_found", "_law_level", "_law_longer", "_law_labels", "_law_nodes", "_law_label", "_law_node"] ["_law_tree_here", "_law_depth"] (defScope s_ways) := ⟨rfl, rfl, rfl, by decide +kernel, rfl, by decide +kernel, by decide +kernel⟩
section
variable {P : Program} {w : World} {K : PySem.W.Frag} {mg : Str → Option Value} {base : Heap} {Z : Amb}
theorem ok_ways {f : Addr} {fd : FuncData} (F : Fun K "_law_ways" "_law_ways" s_ways f fd) (B : Bt mg) : FnOk P w K mg base CX0 1 f fd ["_law_tree_here", "_law_depth"] (spOf w Z 2 S_ways) := by
  refine fnd F sc_ways [false, false] rfl (fun cdv A outer s H E hr => (
(psd_cons (psd_set (i := 2) sc_ways.nd rfl (by first | exact Or.inl rfl | exact Or.inr rfl) (by decide) (pd_lst (pad_cons (pd_tup (pad_cons (pd_tup pad_nil) (pad_cons (pd_tup (pad_cons pd_non pad_nil)) pad_nil))) pad_nil)))
    (psd_cons (psd_for PassesOwn.never rfl (pid_range1 (by rfl) B.z_range (pd_n (pv 1))) (pg_nm (i := 3) sc_ways.nd rfl (by first | exact Or.inl rfl | exact Or.inr rfl)) (by decide) (psd_cons (psd_set (i := 4) sc_ways.nd rfl (by first | exact Or.inl rfl | exact Or.inr rfl) (by decide) (pd_lst pad_nil))
    (psd_cons (psd_for PassesOwn.never rfl (pid_seq (pd_n (pv 2))) (pg_tp rfl (pgs_co (pg_nm (i := 5) sc_ways.nd rfl (by first | exact Or.inl rfl | exact Or.inr rfl)) (pgs_co (pg_nm (i := 6) sc_ways.nd rfl (by first | exact Or.inl rfl | exact Or.inr rfl)) pgs_no))) (by decide) (psd_one (psd_set (i := 4) sc_ways.nd rfl (by first | exact Or.inl rfl | exact Or.inr rfl) (by decide) (pd_add (pd_n (pv 4)) (pd_lc (own := [("_law_label", 7), ("_law_node", 8)]) (by decide) rfl sc_ways.nd (pid_seq (pd_ix (u10 hr) (pd_n (pv 0)) (pd_ix (u10 hr) (pd_n (pv 6)) (pd_neg pd_int)))) (blkOk_by rfl) (fun _ _ _ _ _ => (pg_tp rfl (pgs_co (pg_nm (i := 7) sc_ways.nd rfl (by first | exact Or.inl rfl | exact Or.inr rfl)) (pgs_co (pg_nm (i := 8) sc_ways.nd rfl (by first | exact Or.inl rfl | exact Or.inr rfl)) pgs_no)))) (fun _ _ _ _ _ => ptsd_nil) (fun _ _ _ _ _ => (pd_tup (pad_cons (pd_add (pd_n (pv 5)) (pd_tup (pad_cons (pd_n (pv 7)) pad_nil))) (pad_cons (pd_add (pd_n (pv 6)) (pd_tup (pad_cons (pd_n (pv 8)) pad_nil))) pad_nil)))))))))
    (psd_one (psd_set (i := 2) sc_ways.nd rfl (by first | exact Or.inl rfl | exact Or.inr rfl) (by decide) (pd_n (pv 4)))))))
    (psd_one (psd_ret (pd_lc (own := [("_law_labels", 5), ("_law_nodes", 6)]) (by decide) rfl sc_ways.nd (pid_seq (pd_n (pv 2))) (blkOk_by rfl) (fun _ _ _ _ _ => (pg_tp rfl (pgs_co (pg_nm (i := 5) sc_ways.nd rfl (by first | exact Or.inl rfl | exact Or.inr rfl)) (pgs_co (pg_nm (i := 6) sc_ways.nd rfl (by first | exact Or.inl rfl | exact Or.inr rfl)) pgs_no)))) (fun _ _ _ _ _ => ptsd_nil) (fun _ _ _ _ _ => (pd_tup (pad_cons (pd_n (pv 5)) (pad_cons (pd_slice (pd_n (pv 6)) pod_none (pod_some (pd_n (pv 1)))) pad_nil)))))))))
    )) ?_
  rintro ts Kc hl ⟨es, depth, rfl, h1, h2, h3, k⟩
  have plen : ∀ kk, kk ≤ depth.toNat → (Pw es kk).length ≤ 20 := fun kk hk => by
    have := congrArg List.length (pw_last es kk)
    rw [List.length_map] at this
    rw [this]; exact h3.few kk hk
  simp only [List.map, List.replicate, List.length, List.append, List.cons_append, List.nil_append]
  rw [tdSeq_ap]
  simp only [tdSet, tdLst, tdTup, taCons, taNil, tdC, frzR, List.length, T.er, List.set]
  refine ⟨by decide, by decide, by decide, by decide, ?_⟩
  rw [tdSeq_ap]
  simp only [tdFor, tiRng1]
  refine tdF_N rfl ?_
  simp only [T.er, List.set]
  refine ⟨by omega, by omega, ?_⟩
  refine for_inv (fun done σ => ∃ (t2 : T) (a3 a4 a5 a6 a7 a8 : Option T), σ = [some (.fz (.dic (dicD es))), some (.fz (.int depth)), some t2, a3, a4, a5, a6, a7, a8] ∧ t2.er = .lst ((Pw es done.length).map pD)) ⟨_, _, _, _, _, _, _, rfl, rfl⟩ ?_ ?_
  · rintro done x rest σ e ⟨t2, a3, a4, a5, a6, a7, a8, rfl, ht2⟩ nx knx
    have hdl := len_split e
    simp only [rangeD, List.length_map, List.length_range] at hdl
    simp only [Tg.put, bindO, List.set]
    rw [tdSeq_ap]
    simp only [tdSet, tdLst, taCons, taNil, frzR, List.set, List.length]
    refine ⟨by decide, ?_⟩
    rw [tdSeq_ap]
    simp only [tdFor, tiSeq]
    refine tdF_N rfl ?_
    rw [ht2]
    simp only [D.items, List.set]
    refine for_inv (fun dn σ => ∃ (t4 : T) (a5 a6 a7 a8 : Option T), σ = [some (.fz (.dic (dicD es))), some (.fz (.int depth)), some (.fz (.lst ((Pw es done.length).map pD))), some (.fz x), some (.l ((((Pw es done.length).take dn.length).flatMap fun p => (E es (p.2.getLastD none)).map fun e => (p.1 ++ [e.1], p.2 ++ [some e.2])).map pD)), a5, a6, a7, a8]) ⟨.l [], _, _, _, _, rfl⟩ ?_ ?_
    · rintro dn y rst σ ey ⟨t4, b5, b6, b7, b8, rfl⟩ nx2 knx2
      have hyl := len_split ey
      rw [List.length_map] at hyl
      obtain ⟨z, hz, ez⟩ : ∃ z, (Pw es done.length)[dn.length]? = some z ∧ y = pD z := by
        have : ((Pw es done.length).map pD)[dn.length]? = some y := by rw [ey]; simp
        rw [List.getElem?_map] at this
        cases h : (Pw es done.length)[dn.length]? with
        | none => rw [h] at this; cases this
        | some z => rw [h] at this; exact ⟨z, rfl, (Option.some.inj this).symm⟩
      subst ez
      have zm := List.mem_of_getElem? hz
      obtain ⟨zl1, zl2⟩ := pw_len es _ z zm
      obtain ⟨zi, zx, ezx⟩ : ∃ zi zx, z.2 = zi ++ [zx] := by
        have : z.2 ≠ [] := fun q => by rw [q] at zl2; simp at zl2
        exact ⟨z.2.dropLast, z.2.getLast this, (List.dropLast_concat_getLast this).symm⟩
      have zlast : z.2.getLastD none = zx := by rw [ezx]; simp
      have zlev : zx ∈ lev es done.length := by
        rw [← pw_last es done.length, ← zlast]
        exact List.mem_map_of_mem zm
      obtain ⟨ed, hed, _⟩ := h3.has done.length (by omega) zx zlev
      have eE : E es zx = ed := by unfold E; rw [hed]; rfl
      have edl : ed.length ≤ 20 := by
        have h9 : ((lev es done.length).flatMap (kids es)).length ≤ 20 := h3.few (done.length + 1) (by omega)
        have : (kids es zx).length ≤ ((lev es done.length).flatMap (kids es)).length := le_flatMap zlev
        have : (kids es zx).length = ed.length := by unfold kids; rw [eE, List.length_map]
        omega
      have ea : atD (.tup (z.2.map nodeD)) (.int (-1)) = some (nodeD zx) := by
        show atI _ _ = _
        rw [ezx, List.map_append]
        exact atI_last
      have ex : (Pw es (done.length + 1)).length ≤ 20 := plen _ (by omega)
      have e10 : (((Pw es done.length).take dn.length).flatMap fun p => (E es (p.2.getLastD none)).map fun e => (p.1 ++ [e.1], p.2 ++ [some e.2])).length ≤ 20 := by
        refine Nat.le_trans ?_ ex
        show _ ≤ ((Pw es done.length).flatMap _).length
        conv => rhs; rw [← List.take_append_drop dn.length (Pw es done.length), List.flatMap_append, List.length_append]
        exact Nat.le_add_right _ _
      have tk : (Pw es done.length).take (dn ++ [pD z]).length = (Pw es done.length).take dn.length ++ [z] := by
        rw [List.length_append]
        show (Pw es done.length).take (dn.length + 1) = _
        rw [List.take_add_one, hz]
        rfl
      simp only [Tg.put, Tg.puts, pD, List.set, bindO, tdSet, tdBin, tdN, tdLc, tiSeq, tdF, tdIx, tdUnE, tdC, negD, List.getElem?_cons_zero, List.getElem?_cons_succ, rdS, rdE, T.er, ea, frzR, atD_dic, dicAt_es, hed, Option.map, edD, D.items]
      refine lc_inv (fun dq acc σ => acc = (ed.take dq.length).map (fun e => pD (z.1 ++ [e.1], z.2 ++ [some e.2])) ∧ ∃ c7 c8, σ = [some (.fz (.dic (dicD es))), some (.fz (.int depth)), some (.fz (.lst ((Pw es done.length).map pD))), some (.fz x), some (.l ((((Pw es done.length).take dn.length).flatMap fun p => (E es (p.2.getLastD none)).map fun e => (p.1 ++ [e.1], p.2 ++ [some e.2])).map pD)), some (.fz (.tup (z.1.map .int))), some (.fz (.tup (z.2.map nodeD))), c7, c8]) ⟨rfl, _, _, rfl⟩ ?_ ?_
      · rintro dq y rq acc σ eq ⟨rfl, c7, c8, rfl⟩ K' k'
        have hql := len_split eq
        rw [List.length_map] at hql
        obtain ⟨q, hq, eq2⟩ : ∃ q, ed[dq.length]? = some q ∧ y = edgeD q := by
          have : (ed.map edgeD)[dq.length]? = some y := by rw [eq]; simp
          rw [List.getElem?_map] at this
          cases h : ed[dq.length]? with
          | none => rw [h] at this; cases this
          | some z => rw [h] at this; exact ⟨z, rfl, (Option.some.inj this).symm⟩
        subst eq2
        simp only [edgeD, Tg.put, Tg.puts, wipeD, List.set, bindO, ttYes, tdF, tdTup, taCons, taNil, tdBin, tdN, List.getElem?_cons_zero, List.getElem?_cons_succ, frzR, rdS, T.er, List.length, if_true]
        have hs : sizeLine = 16777216 := by decide
        have a1 : addT (.tup (z.1.map .int)) (.tup [.int q.1]) = some (.fz (.tup (z.1.map D.int ++ [.int q.1]))) := by
          exact addT_tup (by simp only [List.length_map, List.length]; omega)
        have a2 : addT (.tup (z.2.map nodeD)) (.tup [.int (q.2 : Int)]) = some (.fz (.tup (z.2.map nodeD ++ [.int (q.2 : Int)]))) := by
          exact addT_tup (by simp only [List.length_map, List.length]; omega)
        simp only [a1, a2, T.er, bindO]
        refine ⟨by decide, by decide, by decide, by simp only [List.length_map, List.length_take]; omega, k' _ _ ⟨?_, _, _, rfl⟩⟩
        have tq : ed.take (dq ++ [edgeD q]).length = ed.take dq.length ++ [q] := by
          rw [List.length_append]
          show ed.take (dq.length + 1) = _
          rw [List.take_add_one, hq]
          rfl
        show _ = (ed.take (dq ++ [edgeD q]).length).map _
        rw [tq, List.map_append]
        simp [pD, nodeD]
      · rintro acc σ ⟨rfl, c7, c8, rfl⟩
        rw [List.length_map, List.take_length]
        have eb : ∃ x7 x8, backD [some (T.fz (D.dic (dicD es))), some (T.fz (D.int depth)), some (T.fz (D.lst ((Pw es done.length).map pD))), some (T.fz x), some (T.l ((((Pw es done.length).take dn.length).flatMap fun p => (E es (p.2.getLastD none)).map fun e => (p.1 ++ [e.1], p.2 ++ [some e.2])).map pD)), some (T.fz (D.tup (z.1.map D.int))), some (T.fz (D.tup (z.2.map nodeD))), b7, b8] [7, 8] (wipeD [some (T.fz (D.dic (dicD es))), some (T.fz (D.int depth)), some (T.fz (D.lst ((Pw es done.length).map pD))), some (T.fz x), some (T.l ((((Pw es done.length).take dn.length).flatMap fun p => (E es (p.2.getLastD none)).map fun e => (p.1 ++ [e.1], p.2 ++ [some e.2])).map pD)), some (T.fz (D.tup (z.1.map D.int))), some (T.fz (D.tup (z.2.map nodeD))), c7, c8] [7, 8]) = [some (T.fz (D.dic (dicD es))), some (T.fz (D.int depth)), some (T.fz (D.lst ((Pw es done.length).map pD))), some (T.fz x), some (T.l ((((Pw es done.length).take dn.length).flatMap fun p => (E es (p.2.getLastD none)).map fun e => (p.1 ++ [e.1], p.2 ++ [some e.2])).map pD)), some (T.fz (D.tup (z.1.map D.int))), some (T.fz (D.tup (z.2.map nodeD))), x7, x8] := by
          unfold backD backD backD
          simp only [wipeD, List.set, List.getElem?_cons_zero, List.getElem?_cons_succ]
          split <;> split <;> exact ⟨_, _, rfl⟩
        obtain ⟨x7, x8, eb⟩ := eb
        rw [eb]
        have hs : sizeLine = 16777216 := by decide
        simp only [List.getElem?_cons_zero, List.getElem?_cons_succ, T.sh, T.er]
        have a3 : ∀ us vs : List D, us.length ≤ 20 → vs.length ≤ 20 → addT (.lst us) (.lst vs) = some (.l (us ++ vs)) := fun us vs h1 h2 => by
          exact addT_lst (by omega)
        rw [a3 _ _ (by rw [List.length_map]; exact e10) (by rw [List.length_map]; exact edl)]
        simp only [List.set]
        refine knx2 _ ⟨t4, some (.fz (.tup (z.1.map .int))), some (.fz (.tup (z.2.map nodeD))), x7, x8, ?_⟩
        rw [tk, List.flatMap_append, List.map_append]
        simp only [List.flatMap_cons, List.flatMap_nil, List.append_nil, zlast, eE, List.map_map]
        rfl
    · rintro σ ⟨t4, b5, b6, b7, b8, rfl⟩
      rw [List.length_map, List.take_length]
      simp only [tdSet, tdN, List.getElem?_cons_zero, List.getElem?_cons_succ, List.set, T.er]
      refine knx _ ⟨_, _, _, _, _, _, _, rfl, ?_⟩
      have dl : (done ++ [x]).length = done.length + 1 := by simp
      rw [dl]
      rfl
  · rintro σ' ⟨t2, a3, a4, a5, a6, a7, a8, rfl, ht2⟩
    have hdl : (rangeD 0 depth.toNat).length = depth.toNat := by simp [rangeD]
    rw [hdl] at ht2
    simp only [tdRet, tdLc, tiSeq]
    refine tdF_N rfl ?_
    rw [ht2]
    simp only [D.items, List.set, bindO]
    refine lc_inv (fun dn acc σ => acc = ((Pw es depth.toNat).take dn.length).map (fun p => pD (p.1, p.2.take depth.toNat)) ∧ ∃ b5 b6, σ = [some (.fz (.dic (dicD es))), some (.fz (.int depth)), some (.fz (.lst ((Pw es depth.toNat).map pD))), a3, a4, b5, b6, a7, a8]) ⟨rfl, _, _, rfl⟩ ?_ ?_
    · rintro dn y rst acc σ ey ⟨rfl, b5, b6, rfl⟩ K' k'
      have hyl := len_split ey
      rw [List.length_map] at hyl
      obtain ⟨z, hz, ez⟩ : ∃ z, (Pw es depth.toNat)[dn.length]? = some z ∧ y = pD z := by
        have : ((Pw es depth.toNat).map pD)[dn.length]? = some y := by rw [ey]; simp
        rw [List.getElem?_map] at this
        cases h : (Pw es depth.toNat)[dn.length]? with
        | none => rw [h] at this; cases this
        | some z => rw [h] at this; exact ⟨z, rfl, (Option.some.inj this).symm⟩
      subst ez
      obtain ⟨zl1, zl2⟩ := pw_len es _ z (List.mem_of_getElem? hz)
      have ec : M.cutD (z.2.map nodeD) none (some depth) = (z.2.take depth.toNat).map nodeD := by
        unfold M.cutD
        have : HT.sIx (z.2.map nodeD).length (z.2.map nodeD).length (some depth) = depth.toNat := by
          show (if depth < 0 then _ else min depth.toNat _) = _
          rw [if_neg (by omega), List.length_map]
          omega
        rw [this, HT.sIx_none]
        simp [List.map_take]
      have pl := plen _ (Nat.le_refl depth.toNat)
      simp only [pD, Tg.put, Tg.puts, wipeD, List.set, bindO, ttYes, tdF, tdTup, taCons, taNil, tdSl, tdPart, sliceT, tdN, List.getElem?_cons_zero, List.getElem?_cons_succ, frzR, rdS, T.er, List.length, if_true, ec]
      refine ⟨by decide, by simp only [List.length_map, List.length_take]; exact small (by omega), k' _ _ ⟨?_, _, _, rfl⟩⟩
      have tk : (Pw es depth.toNat).take (dn ++ [pD z]).length = (Pw es depth.toNat).take dn.length ++ [z] := by
        rw [List.length_append]
        show (Pw es depth.toNat).take (dn.length + 1) = _
        rw [List.take_add_one, hz]
        rfl
      show _ = ((Pw es depth.toNat).take (dn ++ [pD z]).length).map _
      rw [tk, List.map_append]
      simp [pD]
    · rintro acc σ ⟨rfl, b5, b6, rfl⟩
      rw [List.length_map, List.take_length, finM_ff]
      exact k
end
end K55
namespace K55
open PySem PyProof.Rows L2 M
theorem neD_int (i : Int) : neD (.int i) (.int i) = some (.bl false) := by
  unfold neD eqB
  have h : SeqAt.shaped (.int i) = true := rfl
  simp [D.py, h, PyData.eqv]
theorem eqD_nil : eqD (.lst []) (.lst []) = some (.bl true) := by
  unfold eqD eqB
  have h : SeqAt.shaped (.list []) = true := rfl
  simp [D.py, D.pys, h, PyData.eqv, PyData.eqvAll]
def S_alike : SpD := fun ts K => ∃ ls : List Int, ts = [.fz (.tup (ls.map .int)), .fz (.tup (ls.map .int))] ∧ ls.length ≤ 400 ∧ K (.fz (.bl true)) [none, none]
abbrev s_alike : Stmt := top 7
theorem sc_alike : FnScope ["_law_found", "_law_due", "_law_one", "_law_other"] ["_law_found", "_law_due"] (defScope s_alike) := ⟨rfl, rfl, rfl, by decide +kernel, rfl, by decide +kernel, by decide +kernel⟩
section
variable {P : Program} {w : World} {K : PySem.W.Frag} {mg : Str → Option Value} {base : Heap} {Z : Amb}
theorem ok_alike {f : Addr} {fd : FuncData} (F : Fun K "_law_alike" "_law_alike" s_alike f fd) (B : Bt mg) : FnOk P w K mg base CX0 1 f fd ["_law_found", "_law_due"] (spOf w Z 2 S_alike) := by
  refine fnd F sc_alike [false, false] rfl (fun cdv A outer s H E hr => (
(psd_cons (psd_if (pwd_or (ptd_not (pt_b (pd_isi (by rfl) B.z_isinstance (by rfl) B.z_tuple rfl (pd_n (pv 0))))) (pwd_or1 (pt_ne (u64 hr) (pd_len (by rfl) B.z_len (pd_n (pv 0))) (pd_len (by rfl) B.z_len (pd_n (pv 1)))))).pt (psd_one (psd_ret pd_bl)) psd_nil)
    (psd_one (psd_ret (pd_eq (u64 hr) (pd_lc (own := [("_law_one", 2), ("_law_other", 3)]) (by decide) rfl sc_alike.nd (pid_zip (by rfl) B.z_zip (pd_n (pv 0)) (pd_n (pv 1))) (blkOk_by rfl) (fun _ _ _ _ _ => (pg_tp rfl (pgs_co (pg_nm (i := 2) sc_alike.nd rfl (by first | exact Or.inl rfl | exact Or.inr rfl)) (pgs_co (pg_nm (i := 3) sc_alike.nd rfl (by first | exact Or.inl rfl | exact Or.inr rfl)) pgs_no)))) (fun _ _ _ _ _ => (ptsd_one (pwd_or (pt_b (pd_isi (by rfl) B.z_isinstance (by rfl) B.z_bool rfl (pd_n (pv 2)))) (pwd_or1 (pt_ne (u64 hr) (pd_n (pv 2)) (pd_n (pv 3))))).pt)) (fun _ _ _ _ _ => pd_int)) (pd_lst pad_nil)))))
    )) ?_
  rintro ts Kc hl ⟨ls, rfl, h1, k⟩
  have i1 : isiB "tuple" (D.tup (ls.map .int)) = some true := rfl
  have i2 : ∀ i, isiB "bool" (D.int i) = some false := fun i => rfl
  simp only [List.map, List.replicate, List.length, List.append, List.cons_append, List.nil_append]
  rw [tdSeq_ap]
  simp only [tdIfS, tdOr, tdNot, tdTest, tdIsi, tdBinE, tdCE, taCons, taNil, tdN, List.getElem?_cons_zero, List.getElem?_cons_succ, rdE, rdEs, T.er, bindO, i1, lenD, neD_int, Bool.not_true]
  rw [if_neg Bool.false_ne_true, if_neg Bool.false_ne_true]
  simp only [tdNext, tdRet, tdBinE, tdLc, tiZip]
  refine tdF_N rfl (tdF_N rfl ?_)
  simp only [T.er, List.set]
  refine lc_inv (fun dn acc σ => acc = [] ∧ ∃ b5 b6, σ = [some (.fz (.tup (ls.map .int))), some (.fz (.tup (ls.map .int))), b5, b6]) ⟨rfl, _, _, rfl⟩ ?_ ?_
  · rintro dn y rst acc σ ey ⟨rfl, b5, b6, rfl⟩ K' k'
    have hm : y ∈ zipD (ls.map .int) (ls.map .int) := mem_split ey
    obtain ⟨i, rfl⟩ : ∃ i, y = .tup [.int i, .int i] := by
      unfold zipD at hm
      rw [List.zipWith_map, List.mem_iff_getElem] at hm
      obtain ⟨n, hn, e⟩ := hm
      rw [List.getElem_zipWith] at e
      exact ⟨_, e.symm⟩
    simp only [Tg.put, Tg.puts, wipeD, List.set, bindO, tdOr, tdTest, tdIsi, tdBinE, tdN, List.getElem?_cons_zero, List.getElem?_cons_succ, rdE, T.er, i2, neD_int]
    rw [if_neg Bool.false_ne_true, if_neg Bool.false_ne_true]
    exact k' _ _ ⟨rfl, _, _, rfl⟩
  · rintro acc σ ⟨rfl, b5, b6, rfl⟩
    simp only [tdLst, taNil, frzR, rdE, T.er, bindO, List.length]
    refine ⟨by decide, ?_⟩
    rw [eqD_nil, finM_ff]
    exact k
end
end K55
namespace M
open PySem PyProof.Rows L2
section
variable {X : Cx} {Z : Amb} {e : Expr} {pos p : Pos} {i : Nat} {q : List St1}
/-- list(way) -/
def tdListP (i : Nat) (p : List St1) : TEd := fun σ K => bindO (atP i p σ) fun t => bindO t.sh fun d => bindO (listT [d]) fun r => K (.t r) σ
theorem pd_listP (hg : Gl X "list") (hm : X.mg "list" = none) (h : PE X e (tP i q)) (he : starEach [e] X.env = [(false, eval e X.env)] := by rfl) (hpl : (backTo pos (starEach ([] : List Expr) X.env)).any (·.1) = false := by rfl) : PEd X Z (.Call (.Name "list" p) [e] [] pos) (tdListP i q) :=
  pe_imp (pe_callTy call_list_of hg hm PyProof.Rows.boot_list (pa_cons h pa_nil he) (by decide) (by decide) he hpl) fun σ H Q ⟨U, G, σd, K, R, q, k⟩ => by
    obtain ⟨t, z, q⟩ := bindO_ex q
    obtain ⟨d, z2, q⟩ := bindO_ex q
    obtain ⟨r, z3, q⟩ := bindO_ex q
    obtain ⟨v0, v', F', h1, h2, h3, _⟩ := atP_run R z
    exact ⟨v0, v', h1, h2, ok_list U G H [v'] [d] r Q R.gu R.uh (.cons (h3.sh z2) .nil) z3 fun v H' U' G' F g own nd nw => k _ _ _ _ _ _ q g.e (R.top g own nd nw)⟩
end
end M
namespace K55
open PySem PyProof.Rows L2 M
abbrev s_Walk_init : Stmt := inClass (top 1) 0
abbrev s_Walk_turned : Stmt := inClass (top 1) 1
abbrev s_Walk_more : Stmt := inClass (top 1) 2
/-- a walk's fields -/
def wf (e d tr b o : T) : List (Str × T) := [("edges", e), ("depth", d), ("trail", tr), ("begun", b), ("over", o)]
theorem n_ed : ¬ (("edges" : Str) = "depth") := by decide +kernel
theorem n_et : ¬ (("edges" : Str) = "trail") := by decide +kernel
theorem n_eb : ¬ (("edges" : Str) = "begun") := by decide +kernel
theorem n_eo : ¬ (("edges" : Str) = "over") := by decide +kernel
theorem n_dt : ¬ (("depth" : Str) = "trail") := by decide +kernel
theorem n_db : ¬ (("depth" : Str) = "begun") := by decide +kernel
theorem n_do : ¬ (("depth" : Str) = "over") := by decide +kernel
theorem n_tb : ¬ (("trail" : Str) = "begun") := by decide +kernel
theorem n_to : ¬ (("trail" : Str) = "over") := by decide +kernel
theorem n_bo : ¬ (("begun" : Str) = "over") := by decide +kernel
theorem wf_init (e d tr b o : T) : putFT "over" o (putFT "begun" b (putFT "trail" tr (putFT "depth" d (putFT "edges" e [])))) = wf e d tr b o := by
  simp only [putFT, if_neg n_ed, if_neg n_et, if_neg n_eb, if_neg n_eo, if_neg n_dt, if_neg n_db, if_neg n_do, if_neg n_tb, if_neg n_to, if_neg n_bo, wf]
theorem wf_t (e d tr b o x : T) : putFT "trail" x (wf e d tr b o) = wf e d x b o := by simp only [wf, putFT, if_neg n_et, if_neg n_dt, if_true]
theorem wf_b (e d tr b o x : T) : putFT "begun" x (wf e d tr b o) = wf e d tr x o := by simp only [wf, putFT, if_neg n_eb, if_neg n_db, if_neg n_tb, if_true]
theorem wf_o (e d tr b o x : T) : putFT "over" x (wf e d tr b o) = wf e d tr b x := by simp only [wf, putFT, if_neg n_eo, if_neg n_do, if_neg n_to, if_neg n_bo, if_true]
theorem lk_e (e d tr b o : T) : lkF "edges" (wf e d tr b o) = some e := by simp only [wf, lkF, if_true]
theorem lk_d (e d tr b o : T) : lkF "depth" (wf e d tr b o) = some d := by simp only [wf, lkF, if_neg n_ed, if_true]
theorem lk_t (e d tr b o : T) : lkF "trail" (wf e d tr b o) = some tr := by simp only [wf, lkF, if_neg n_et, if_neg n_dt, if_true]
theorem lk_b (e d tr b o : T) : lkF "begun" (wf e d tr b o) = some b := by simp only [wf, lkF, if_neg n_eb, if_neg n_db, if_neg n_tb, if_true]
theorem lk_o (e d tr b o : T) : lkF "over" (wf e d tr b o) = some o := by simp only [wf, lkF, if_neg n_eo, if_neg n_do, if_neg n_to, if_neg n_bo, if_true]
/-- what the walk asks of the class -/
structure Cw (K : PySem.W.Frag) (C : Addr) : Prop where
  cl_Walk : Cls K C
  na_Walk_edges : NoAttr K C "edges"
  na_Walk_depth : NoAttr K C "depth"
  na_Walk_trail : NoAttr K C "trail"
  na_Walk_begun : NoAttr K C "begun"
  na_Walk_over : NoAttr K C "over"
def S_init (C : Addr) : SpD := fun ts K => ∃ (e d : D), ts = [.ob C [], .fz e, .fz d] ∧ K (.fz .non) [some (.ob C (wf (.fz e) (.fz d) (.l []) (.fz (.bl false)) (.fz (.bl false)))), none, none]
section
variable {P : Program} {w : World} {K : PySem.W.Frag} {mg : Str → Option Value} {base : Heap} {Z : Amb} {C : Addr}
theorem sc_Walk_init : FnScope ["self", "edges", "depth"] ["self", "edges", "depth"] (defScope s_Walk_init) := ⟨rfl, rfl, rfl, by decide +kernel, rfl, by decide +kernel, by decide +kernel⟩
theorem ok_init {f : Addr} {fd : FuncData} (F : Fun K "__init__" "Walk.__init__" s_Walk_init f fd) (T : Cw K C) : FnOk P w K mg base CX0 1 f fd ["self", "edges", "depth"] (spOf w Z 3 (S_init C)) := by
  refine fnd F sc_Walk_init [true, false, false] rfl (fun cdv A outer s H E hr => (
(psd_cons (psd_fld (pv 0) (pd_n (pv 1)) T.cl_Walk T.na_Walk_edges)
    (psd_cons (psd_fld (pv 0) (pd_n (pv 2)) T.cl_Walk T.na_Walk_depth)
    (psd_cons (psd_fld (pv 0) (pd_lst pad_nil) T.cl_Walk T.na_Walk_trail)
    (psd_cons (psd_fld (pv 0) pd_bl T.cl_Walk T.na_Walk_begun)
    (psd_one (psd_fld (pv 0) pd_bl T.cl_Walk T.na_Walk_over))))))
    )) ?_
  rintro ts Kc hl ⟨e, d, rfl, k⟩
  simp only [tdSeq, tdFldSet, tdN, tdC, tdLst, taNil, frzR, List.map, List.replicate, List.length, List.append, List.cons_append, List.nil_append, List.getElem?_cons_zero, List.getElem?_cons_succ, List.set, true_and]
  rw [wf_init]
  simp only [putFT, if_neg n_ed, if_neg n_et, if_neg n_eb, if_neg n_eo, if_neg n_dt, if_neg n_db, if_neg n_do, if_neg n_tb, if_neg n_to, if_neg n_bo, List.length]
  exact ⟨by decide, by decide, by decide, by decide, by decide, by decide, k⟩
end
end K55
namespace K55
open PySem PyProof.Rows L2 M
abbrev Fr := List (Int × Nat) × Nat
def frD (p : Fr) : D := .tup [edD p.1, .int p.2]
/-- a trail, the deepest ahead -/
def lst (r : List Fr) : List D := r.reverse.map frD
theorem lst_cons (x : Fr) (r : List Fr) : lst (x :: r) = lst r ++ [frD x] := by unfold lst; rw [List.reverse_cons, List.map_append]; rfl
theorem lst_len (r : List Fr) : (lst r).length = r.length := by unfold lst; simp
def stripR : List Fr → List Fr
  | [] => []
  | (ed, p) :: r => if p + 1 = ed.length then stripR r else (ed, p) :: r
def S_turned (C : Addr) : SpD := fun ts K => ∃ (e d tr o : T) (b : Bool) (r : List Fr), ts = [.ob C (wf e d tr (.fz (.bl b)) o)] ∧ tr.sh = some (.lst (lst r)) ∧ r.length ≤ 400 ∧ (∀ p ∈ r, p.2 < p.1.length) ∧
  (b = false → K (.tt [.l (lst r), .fz .non]) [some (.ob C (wf e d tr (.fz (.bl b)) o))]) ∧
  (b = true → stripR r = [] → K (.fz .non) [some (.ob C (wf e d tr (.fz (.bl b)) o))]) ∧
  (b = true → ∀ ed p u q, stripR r = (ed, p) :: u → ed[p + 1]? = some q → K (.tt [.l (lst ((ed, p + 1) :: u)), .fz (nodeD (some q.2))]) [some (.ob C (wf e d tr (.fz (.bl b)) o))])
theorem strip_head : ∀ {r : List Fr} {ed p u}, stripR r = (ed, p) :: u → (∀ q ∈ r, q.2 < q.1.length) → p + 1 < ed.length
  | [], _, _, _, h, _ => by cases h
  | (e, q) :: r, ed, p, u, h, v => by
    unfold stripR at h
    split at h
    · exact strip_head h fun x hx => v x (by simp [hx])
    · rename_i hne
      obtain ⟨⟨rfl, rfl⟩, rfl⟩ : (e = ed ∧ q = p) ∧ r = u := by simpa using h
      have := v (e, q) (by simp)
      simp only at this
      omega
theorem strip_len : ∀ r : List Fr, (stripR r).length ≤ r.length
  | [] => Nat.le_refl _
  | (e, q) :: r => by
    unfold stripR
    split
    · have := strip_len r
      simp only [List.length]
      omega
    · exact Nat.le_refl _
theorem eqD_int (i j : Int) : eqD (.int i) (.int j) = some (.bl (decide (i = j))) := by
  unfold eqD eqB
  have h : ∀ i, SeqAt.shaped (.int i) = true := fun i => rfl
  simp [D.py, h, PyData.eqv]
  rfl
theorem at_last {α : Type} (xs : List α) (x : α) : atI (xs ++ [x]) (-1) = some x := atI_last
theorem at0 (x y : D) : atD (.tup [x, y]) (.int 0) = some x := rfl
theorem at1 (x y : D) : atD (.tup [x, y]) (.int 1) = some y := rfl
section
variable {P : Program} {w : World} {K : PySem.W.Frag} {mg : Str → Option Value} {base : Heap} {Z : Amb} {C : Addr}
theorem sc_Walk_turned : FnScope ["self", "trail", "options", "place"] ["self"] (defScope s_Walk_turned) := ⟨rfl, rfl, rfl, by decide +kernel, rfl, by decide +kernel, by decide +kernel⟩
theorem ok_turned {f : Addr} {fd : FuncData} (F : Fun K "turned" "Walk.turned" s_Walk_turned f fd) (W : Cw K C) (B : Bt mg) : FnOk P w K mg base CX0 1 f fd ["self"] (spOf w Z 1 (S_turned C)) := by
  refine fnd F sc_Walk_turned [true] rfl (fun cdv A outer s H E hr => (
(psd_cons (psd_set (i := 1) sc_Walk_turned.nd rfl (by first | exact Or.inl rfl | exact Or.inr rfl) (by decide) (pd_listP (by rfl) B.z_list (pp_fl (pp_nm (pv 0)) W.cl_Walk W.na_Walk_trail)))
    (psd_cons (psd_if (ptd_not (pt_b (pd_fld (pd_n (pv 0)) W.cl_Walk W.na_Walk_begun))) (psd_one (psd_retP (pv 1) pd_non)) psd_nil)
    (psd_cons (psd_while PassesOwn.never (pwd_and (pt_tru (pd_n (pv 1))) (pwd_and1 (pt_eq (u64 hr) (pd_add (pd_ix (u10 hr) (pd_ix (u10 hr) (pd_n (pv 1)) (pd_neg pd_int)) pd_int) pd_int) (pd_len (by rfl) B.z_len (pd_ix (u10 hr) (pd_ix (u10 hr) (pd_n (pv 1)) (pd_neg pd_int)) pd_int))))).pt (psd_one (psd_expr (pd_pop (pv 1)))))
    (psd_cons (psd_if (ptd_not (pt_tru (pd_n (pv 1)))) (psd_one (psd_ret pd_non)) psd_nil)
    (psd_cons (psd_asg (pd_pop (pv 1)) (pg_tp rfl (pgs_co (pg_nm (i := 2) sc_Walk_turned.nd rfl (by first | exact Or.inl rfl | exact Or.inr rfl)) (pgs_co (pg_nm (i := 3) sc_Walk_turned.nd rfl (by first | exact Or.inl rfl | exact Or.inr rfl)) pgs_no))) (by decide))
    (psd_cons (psd_expr (psd_append (pv 1) (pd_tup (pad_cons (pd_n (pv 2)) (pad_cons (pd_add (pd_n (pv 3)) pd_int) pad_nil)))))
    (psd_one (psd_retP (pv 1) (pd_ix (u10 hr) (pd_ix (u10 hr) (pd_n (pv 2)) (pd_add (pd_n (pv 3)) pd_int)) pd_int)))))))))
    )) ?_
  rintro ts Kc hl ⟨e, d, tr, o, b, r, rfl, h1, h2, h3, k1, k2, k3⟩
  simp only [List.map, List.replicate, List.length, List.append, List.cons_append, List.nil_append]
  rw [tdSeq_ap]
  simp only [tdSet, tdListP, atP, T.at, List.getElem?_cons_zero, List.getElem?_cons_succ, lk_t, bindO, if_true, h1, listT, List.set]
  rw [tdSeq_ap]
  simp only [tdIfS, tdNot, tdTest, tdFld, tdN, List.getElem?_cons_zero, List.getElem?_cons_succ, lk_b, bindO, rdE, T.er, true_and]
  cases b with
  | false =>
    simp only [Bool.not_false, if_true, tdRetP, hasS, tdF, tdC, frzR, T.er, List.getElem?_cons_zero, List.getElem?_cons_succ, List.set, true_and]
    exact k1 rfl
  | true =>
    simp only [Bool.not_true]
    rw [if_neg Bool.false_ne_true]
    simp only [tdNext]
    rw [tdSeq_ap]
    refine ⟨fun m σ => ∃ r', m = r'.length ∧ r'.length ≤ r.length ∧ σ = [some (.ob C (wf e d tr (.fz (.bl true)) o)), some (.l (lst r')), none, none] ∧ stripR r' = stripR r ∧ ∀ p ∈ r', p.2 < p.1.length, ⟨_, r, rfl, Nat.le_refl _, rfl, rfl, h3⟩, ?_⟩
    rintro m σ ⟨r', rfl, hl', rfl, hs, hv⟩
    cases r' with
    | nil =>
      simp only [tdAnd, tdTru, tdN, List.getElem?_cons_zero, List.getElem?_cons_succ, rdE, T.er, bindO, D.tru, lst, List.reverse_nil, List.map, List.isEmpty_nil, Bool.not_true]
      rw [if_neg Bool.false_ne_true, if_neg Bool.false_ne_true, tdSeq_ap]
      simp only [tdIfS, tdNot, tdTru, tdN, List.getElem?_cons_zero, List.getElem?_cons_succ, rdE, T.er, bindO, D.tru, List.isEmpty_nil, Bool.not_true, Bool.not_false, if_true, tdRet, tdC]
      exact k2 rfl hs.symm
    | cons x r' =>
      obtain ⟨ed, p⟩ := x
      have hp := hv (ed, p) (by simp)
      simp only at hp
      have e1 : atD (.lst (lst ((ed, p) :: r'))) (.int (-1)) = some (frD (ed, p)) := by
        show atI _ _ = _
        rw [lst_cons]
        exact atI_last
      have e2 : (lst ((ed, p) :: r')).isEmpty = false := by rw [lst_cons]; simp
      have e3 : popT (.l (lst ((ed, p) :: r'))) [] = some (.l (lst r'), frD (ed, p)) := by
        unfold popT
        rw [lst_cons]
        simp
      simp only [tdAnd, tdTru, tdN, tdTest, tdBinE, tdBin, tdIx, tdUnE, tdC, negD, tdCE, taCons, taNil, List.getElem?_cons_zero, List.getElem?_cons_succ, rdE, rdS, rdEs, T.er, T.sh, bindO, D.tru, e1, e2, Bool.not_false, if_true, frD, at0, at1, addT_int, edD, lenD, List.length_map, eqD_int]
      by_cases hq : p + 1 = ed.length
      · rw [decide_eq_true (by omega), if_pos rfl]
        simp only [tdDrop, tdMut, hasS, taNil, frzR, List.getElem?_cons_zero, List.getElem?_cons_succ, true_and, e3, bindO, List.set]
        refine ⟨r'.length, Nat.lt_succ_self _, r', rfl, by simp only [List.length] at hl'; omega, rfl, ?_, fun y hy => hv y (by simp [hy])⟩
        rw [← hs]
        simp [stripR, hq]
      · rw [decide_eq_false (by omega), if_neg Bool.false_ne_true, tdSeq_ap]
        have hst : stripR r = (ed, p) :: r' := by rw [← hs]; simp [stripR, hq]
        have hp1 : p + 1 < ed.length := strip_head hst h3
        simp only [tdIfS, tdNot, tdTru, tdN, List.getElem?_cons_zero, List.getElem?_cons_succ, rdE, T.er, bindO, D.tru, e2, Bool.not_false, Bool.not_true]
        rw [if_neg Bool.false_ne_true]
        simp only [tdNext]
        rw [tdSeq_ap]
        simp only [tdAsg, tdMut, hasS, taNil, frzR, List.getElem?_cons_zero, List.getElem?_cons_succ, true_and, e3, bindO, List.set, T.er, frD, Tg.put, Tg.puts]
        rw [tdSeq_ap]
        simp only [tdDrop, tdMut, hasS, taCons, taNil, tdTup, tdBin, tdN, tdC, frzR, List.getElem?_cons_zero, List.getElem?_cons_succ, true_and, bindO, List.set, T.er, rdS, addT_int, List.length, appendT]
        refine ⟨by decide, ?_⟩
        rw [if_pos (by rw [lst_len]; simp only [List.length] at hl'; exact small (by omega))]
        dsimp only
        simp only [tdRetP, hasS, tdF, tdIx, tdBin, tdN, tdC, frzR, List.getElem?_cons_zero, List.getElem?_cons_succ, true_and, bindO, List.set, T.er, rdS, rdE, addT_int]
        have e5 : atD (edD ed) (.int ((p : Int) + 1)) = some (edgeD ed[p + 1]) := by
          show atI _ _ = _
          rw [atI_in (by omega) (by rw [List.length_map]; omega), List.getElem?_map, show ((p : Int) + 1).toNat = p + 1 by omega, List.getElem?_eq_getElem hp1]
          rfl
        simp only [e5, bindO, edgeD, at1]
        have := k3 rfl ed p r' ed[p + 1] hst (List.getElem?_eq_getElem hp1)
        rw [lst_cons] at this
        exact this
end
end K55
namespace K55
open PySem PyProof.Rows L2 M
/-! ### the ways, one behind another -/
def W (es : Es) : Nat → Nd → List (List Int)
  | 0, _ => [[]]
  | k + 1, x => (E es x).flatMap fun e => (W es k (some e.2)).map (e.1 :: ·)
def labF (p : Fr) : Int := (p.1[p.2]?.map (·.1)).getD 0
def lab (r : List Fr) : List Int := r.reverse.map labF
theorem lab_cons (x : Fr) (r : List Fr) : lab (x :: r) = lab r ++ [labF x] := by unfold lab; rw [List.reverse_cons, List.map_append]; rfl
/-- what is behind a trail -/
def Rem (es : Es) (d : Nat) : List Fr → List (List Int)
  | [] => []
  | (ed, p) :: r => ((ed.drop (p + 1)).flatMap fun e => (W es (d - (r.length + 1)) (some e.2)).map fun s => lab r ++ e.1 :: s) ++ Rem es d r
def GoodN (es : Es) : Nat → Nd → Prop
  | 0, _ => True
  | k + 1, x => ∃ ed, es.lookup x = some ed ∧ ed ≠ [] ∧ ∀ e ∈ ed, GoodN es k (some e.2)
def TrailOk (es : Es) (d : Nat) : List Fr → Prop
  | [] => True
  | (ed, p) :: r => p < ed.length ∧ (∀ e ∈ ed, GoodN es (d - (r.length + 1)) (some e.2)) ∧ TrailOk es d r
theorem trail_lt {es : Es} {d : Nat} : ∀ {r : List Fr}, TrailOk es d r → ∀ p ∈ r, p.2 < p.1.length
  | [], _, p, h => by cases h
  | (ed, q) :: r, ok, p, h => by
    rcases List.mem_cons.mp h with rfl | h
    · exact ok.1
    · exact trail_lt ok.2.2 p h
theorem strip_ok {es : Es} {d : Nat} : ∀ {r : List Fr}, TrailOk es d r → TrailOk es d (stripR r) ∧ Rem es d (stripR r) = Rem es d r
  | [], _ => ⟨trivial, rfl⟩
  | (ed, p) :: r, ok => by
    unfold stripR
    split
    · rename_i h
      obtain ⟨a, b⟩ := strip_ok ok.2.2
      refine ⟨a, b.trans ?_⟩
      show _ = (List.flatMap _ (ed.drop (p + 1))) ++ _
      rw [h, List.drop_length]
      rfl
    · exact ⟨ok, rfl⟩
theorem tree_good {es : Es} {d : Nat} (t : Tree es d) : ∀ k j x, j + k = d → x ∈ lev es j → GoodN es k x
  | 0, _, _, _, _ => trivial
  | k + 1, j, x, hj, hx => by
    obtain ⟨ed, h1, h2⟩ := t.has j (by omega) x hx
    refine ⟨ed, h1, h2, fun e he => tree_good t k (j + 1) _ (by omega) ?_⟩
    show _ ∈ (lev es j).flatMap _
    refine List.mem_flatMap.mpr ⟨x, hx, ?_⟩
    unfold kids E
    rw [h1]
    exact List.mem_map.mpr ⟨e, he, rfl⟩
/-- a tree to walk, or a root without edges -/
def Start (es : Es) (d : Nat) : Prop := GoodN es d none ∨ (es.lookup none = some [] ∧ 0 < d)
/-- the walk's fields stand for the ways L that are to be told -/
def View (es : Es) (d : Nat) (r : List Fr) (b o : Bool) (L : List (List Int)) : Prop :=
  (o = true ∧ L = [] ∧ r.length ≤ d ∧ ∀ p ∈ r, p.2 < p.1.length) ∨ (o = false ∧ b = false ∧ r = [] ∧ L = W es d none ∧ Start es d) ∨ (o = false ∧ b = true ∧ r.length ≤ d ∧ TrailOk es d r ∧ L = Rem es d r)
def wkT (C : Addr) (Φ : LF → Prop) (d : Int) (tr : T) (b o : Bool) : T := .ob C (wf (.fz (.fn Φ)) (.fz (.int d)) tr (.fz (.bl b)) (.fz (.bl o)))
def SM (C : Addr) (kvs : List (D × D)) (Pp : LF → Prop) : SpD := fun ts K => ∃ (es : Es) (d : Int) (Φ : LF → Prop) (tr : T) (b o : Bool) (r : List Fr) (L : List (List Int)), kvs = dicD es ∧ (∀ l, Φ l → Pp l) ∧ ts = [wkT C Φ d tr b o] ∧ 0 ≤ d ∧ d ≤ 400 ∧ tr.sh = some (.lst (lst r)) ∧ View es d.toNat r b o L ∧
  (L = [] → ∀ tr' r' b' o', tr'.sh = some (.lst (lst r')) → View es d.toNat r' b' o' [] → K (.fz .non) [some (wkT C Φ d tr' b' o')]) ∧
  (∀ p L', L = p :: L' → ∀ tr' r' b' o', tr'.sh = some (.lst (lst r')) → View es d.toNat r' b' o' L' → K (.fz (.tup (p.map .int))) [some (wkT C Φ d tr' b' o')])
theorem turned_in (e d tr b o : T) : ("turned" : Str) ∉ (T.erf (wf e d tr b o)).map (·.1) := by
  rw [T.erf_fst]
  show ("turned" : Str) ∉ (["edges", "depth", "trail", "begun", "over"] : List Str)
  decide +kernel
theorem rem_cons (es : Es) (d : Nat) (ed : List (Int × Nat)) (p : Nat) (r : List Fr) : Rem es d ((ed, p) :: r) = ((ed.drop (p + 1)).flatMap fun e => (W es (d - (r.length + 1)) (some e.2)).map fun s => lab r ++ e.1 :: s) ++ Rem es d r := rfl
/-- what is left of the method's text behind self.turned() -/
def TAIL (C : Addr) (kvs : List (D × D)) (Pp : LF → Prop) : TSd :=
  tdSeq (tdIfS (tdTest (tdIsN (tdN 1))) (tdSeq (tdFldSet C "over" 0 (tdC (D.bl true))) (tdRet (tdC D.non))) tdNext)
    (tdSeq (tdUnP 1 2 3) (tdSeq (tdSet 4 (tdFld C "edges" (tdN 0)))
      (tdSeq (tdWhile (tdTest (tdBinE ltD (tdCE lenD (taCons (tdN 2) taNil)) (tdFld C "depth" (tdN 0))))
          (tdSeq (tdSet 5 (tdClo "_law_tree_here" kvs Pp 4 3))
            (tdSeq (tdIfS (tdNot (tdTru (tdN 5))) (tdSeq (tdFldSet C "over" 0 (tdC (D.bl true))) (tdRet (tdC D.non))) tdNext)
              (tdSeq (tdDrop (tdMut appendT 2 (taCons (tdTup (taCons (tdN 5) (taCons (tdC (D.int 0)) taNil))) taNil)))
                (tdSet 3 (tdIx (tdIx (tdN 5) (tdC (D.int 0))) (tdC (D.int 1))))))))
        (tdSeq (tdFldSet C "trail" 0 (tdN 2)) (tdSeq (tdFldSet C "begun" 0 (tdC (D.bl true)))
          (tdRet (tdCB tupleT (taCons (tdLc (tiSeq (tdN 2)) (Tg.tp [Tg.nm 5, Tg.nm 6]) ttYes (tdIx (tdIx (tdN 5) (tdN 6)) (tdC (D.int 0))) [5, 6]) taNil))))))))
theorem finM_t (x : Option T) (σ : Sd) : finM [true] (x :: σ) = [x] := rfl
theorem wf_len (e d tr b o : T) : (wf e d tr b o).length < 1000 := by show 5 < 1000; decide
theorem more_core {C : Addr} {es : Es} {d : Int} {Φ Pp : LF → Prop} {tr : T} {b : Bool} {r1 r0 : List Fr} {x : Nd} {L : List (List Int)} {Kc : T → List (Option T) → Prop} {De : Eds} (hDe : De.rt = fun t σ => Kc t (finM [true] σ)) (hΦ : ∀ l, Φ l → Pp l) (hd1 : 0 ≤ d) (hd2 : d ≤ 400)
    (htr : tr.sh = some (.lst (lst r0))) (hr0 : r0.length ≤ d.toNat) (hr0v : ∀ p ∈ r0, p.2 < p.1.length) (hr1 : r1.length ≤ d.toNat) (ok : TrailOk es d.toNat r1) (hL : L = ((W es (d.toNat - r1.length) x).map fun s => lab r1 ++ s) ++ Rem es d.toNat r1) (hg : GoodN es (d.toNat - r1.length) x ∨ (r1 = [] ∧ x = none ∧ es.lookup none = some [] ∧ 0 < d.toNat))
    (kn : L = [] → ∀ tr' r' b' o', tr'.sh = some (.lst (lst r')) → View es d.toNat r' b' o' [] → Kc (.fz .non) [some (wkT C Φ d tr' b' o')])
    (ks : ∀ p L', L = p :: L' → ∀ tr' r' b' o', tr'.sh = some (.lst (lst r')) → View es d.toNat r' b' o' L' → Kc (.fz (.tup (p.map .int))) [some (wkT C Φ d tr' b' o')]) :
    TAIL C (dicD es) Pp De [some (wkT C Φ d tr b false), some (.tt [.l (lst r1), .fz (nodeD x)]), none, none, none, none, none] := by
  unfold TAIL wkT
  rw [tdSeq_ap]
  simp only [tdIfS, tdTest, tdIsN, tdN, List.getElem?_cons_zero, List.getElem?_cons_succ, rdE, T.er, bindO, D.isN]
  rw [if_neg Bool.false_ne_true]
  simp only [tdNext]
  rw [tdSeq_ap]
  simp only [tdUnP, List.getElem?_cons_zero, List.getElem?_cons_succ, List.set]
  rw [tdSeq_ap]
  simp only [tdSet, tdFld, tdN, List.getElem?_cons_zero, List.getElem?_cons_succ, lk_e, bindO, true_and, List.set]
  rw [tdSeq_ap]
  refine ⟨fun m σ => ∃ (r : List Fr) (y : Nd) (a5 : Option T), m = d.toNat - r.length ∧ σ = [some (.ob C (wf (.fz (.fn Φ)) (.fz (.int d)) tr (.fz (.bl b)) (.fz (.bl false)))), none, some (.l (lst r)), some (.fz (nodeD y)), some (.fz (.fn Φ)), a5, none] ∧ r.length ≤ d.toNat ∧ TrailOk es d.toNat r ∧ L = ((W es (d.toNat - r.length) y).map fun s => lab r ++ s) ++ Rem es d.toNat r ∧
    (GoodN es (d.toNat - r.length) y ∨ (r = [] ∧ y = none ∧ es.lookup none = some [] ∧ 0 < d.toNat)), ⟨_, r1, x, none, rfl, rfl, hr1, ok, hL, hg⟩, ?_⟩
  rintro m σ ⟨r, y, a5, rfl, rfl, hr, ok, hL, hg⟩
  simp only [tdTest, tdBinE, tdCE, taCons, taNil, tdFld, tdN, List.getElem?_cons_zero, List.getElem?_cons_succ, rdEs, rdE, T.er, lenD, bindO, lk_d, true_and, ltD_int, lst_len]
  by_cases hlt : (r.length : Int) < d
  · rw [decide_eq_true hlt, if_pos rfl, tdSeq_ap]
    simp only [tdSet, tdClo, atP, List.getElem?_cons_zero, List.getElem?_cons_succ, T.at, bindO, dicAt_es]
    refine ⟨Φ, rfl, hΦ, ?_⟩
    rcases hg with hg | ⟨rfl, rfl, he, hd0⟩
    · obtain ⟨k, hk⟩ : ∃ k, d.toNat - r.length = k + 1 := ⟨d.toNat - r.length - 1, by omega⟩
      rw [hk] at hg
      obtain ⟨ed, h1, h2, h3⟩ := hg
      obtain ⟨e0, ed', rfl⟩ := List.exists_cons_of_ne_nil h2
      rw [h1]
      simp only [Option.map, List.set]
      rw [tdSeq_ap]
      simp only [tdIfS, tdNot, tdTru, tdN, List.getElem?_cons_zero, List.getElem?_cons_succ, rdE, T.er, bindO, edD, D.tru, List.map, List.isEmpty_cons, Bool.not_false, Bool.not_true]
      rw [if_neg Bool.false_ne_true]
      simp only [tdNext]
      rw [tdSeq_ap]
      simp only [tdDrop, tdMut, hasS, taCons, taNil, tdTup, tdN, tdC, frzR, List.getElem?_cons_zero, List.getElem?_cons_succ, true_and, T.er, appendT, bindO, List.set, List.length]
      refine ⟨by decide, ?_⟩
      rw [if_pos (by rw [lst_len]; exact small (by omega))]
      have e9 : atD (.tup (edgeD e0 :: List.map edgeD ed')) (.int 0) = some (edgeD e0) := by
        show atI _ _ = _
        rw [atI_in (by decide) (by simp only [List.length]; omega)]
        rfl
      simp only [tdSet, tdIx, tdN, tdC, List.getElem?_cons_zero, List.getElem?_cons_succ, rdS, rdE, T.er, bindO, e9]
      simp only [edgeD, at1, List.set]
      refine ⟨d.toNat - (r.length + 1), by omega, (e0 :: ed', 0) :: r, some e0.2, some (.fz (edD (e0 :: ed'))), rfl, ?_, by simp only [List.length]; omega, ⟨by simp, ?_, ok⟩, ?_, .inl ?_⟩
      · rw [lst_cons]; rfl
      · intro e he
        have := h3 e he
        rw [show d.toNat - (r.length + 1) = k by omega]
        exact this
      · rw [hL, hk, rem_cons, lab_cons]
        have ek : d.toNat - (r.length + 1) = k := by omega
        simp only [W, E, h1, Option.getD_some, List.flatMap_cons, List.map_append, List.map_map, List.drop_succ_cons, List.drop_zero, List.length, ek]
        rw [List.append_assoc]
        congr 1
        · refine List.map_congr_left fun s _ => ?_
          simp [labF]
        · congr 1
          rw [List.map_flatMap]
          refine fm_congr fun e _ => ?_
          rw [List.map_map]
          rfl
      · have := h3 e0 (by simp)
        simp only [List.length]
        rw [show d.toNat - (r.length + 1) = k by omega]
        exact this
    · rw [he]
      simp only [Option.map, List.set, edD, List.map]
      rw [tdSeq_ap]
      simp only [tdIfS, tdNot, tdTru, tdN, List.getElem?_cons_zero, List.getElem?_cons_succ, rdE, T.er, bindO, D.tru, List.isEmpty_nil, Bool.not_false, Bool.not_true, if_true]
      rw [tdSeq_ap]
      simp only [tdFldSet, tdC, List.getElem?_cons_zero, wf_o, List.set, tdRet, true_and]
      refine ⟨wf_len _ _ _ _ _, ?_⟩
      rw [hDe]
      have hW : W es (d.toNat - ([] : List Fr).length) none = [] := by
        obtain ⟨k, hk⟩ : ∃ k, d.toNat - ([] : List Fr).length = k + 1 := ⟨d.toNat - 1, by simp only [List.length]; omega⟩
        rw [hk]
        simp [W, E, he]
      exact kn (by rw [hL, hW]; rfl) tr r0 b true htr (.inl ⟨rfl, rfl, hr0, hr0v⟩)
  · rw [decide_eq_false hlt, if_neg Bool.false_ne_true, tdSeq_ap]
    have hrd : r.length = d.toNat := by omega
    have hL' : L = lab r :: Rem es d.toNat r := by
      rw [hL, hrd, Nat.sub_self]
      simp [W]
    simp only [tdFldSet, tdN, List.getElem?_cons_zero, List.getElem?_cons_succ, List.set, T.er, wf_t, true_and]
    refine ⟨wf_len _ _ _ _ _, ?_⟩
    rw [tdSeq_ap]
    simp only [tdFldSet, tdC, List.getElem?_cons_zero, wf_b, List.set, true_and]
    refine ⟨wf_len _ _ _ _ _, ?_⟩
    simp only [tdRet, tdCB, taCons, taNil, tdLc, tiSeq]
    refine tdF_N rfl ?_
    simp only [T.er, D.items, bindO, List.set]
    refine lc_inv (fun dn acc σ => acc = (r.reverse.take dn.length).map (fun p => D.int (labF p)) ∧ ∃ b5 b6, σ = [some (.ob C (wf (.fz (.fn Φ)) (.fz (.int d)) (.fz (.lst (lst r))) (.fz (.bl true)) (.fz (.bl false)))), none, some (.fz (.lst (lst r))), some (.fz (nodeD y)), some (.fz (.fn Φ)), b5, b6]) ⟨rfl, _, _, rfl⟩ ?_ ?_
    · rintro dn v rst acc σ ev ⟨rfl, b5, b6, rfl⟩ K' k'
      have hvl := len_split ev
      rw [lst_len] at hvl
      obtain ⟨z, hz, ez⟩ : ∃ z, r.reverse[dn.length]? = some z ∧ v = frD z := by
        have : (r.reverse.map frD)[dn.length]? = some v := by
          show (lst r)[dn.length]? = _
          rw [ev]; simp
        rw [List.getElem?_map] at this
        cases h : r.reverse[dn.length]? with
        | none => rw [h] at this; cases this
        | some z => rw [h] at this; exact ⟨z, rfl, (Option.some.inj this).symm⟩
      subst ez
      obtain ⟨ed, p⟩ := z
      have hp : p < ed.length := trail_lt ok (ed, p) (List.mem_reverse.mp (List.mem_of_getElem? hz))
      have e5 : atD (edD ed) (.int (p : Int)) = some (edgeD ed[p]) := by
        show atI _ _ = _
        rw [atI_in (by omega) (by rw [List.length_map]; omega), List.getElem?_map, Int.toNat_natCast, List.getElem?_eq_getElem hp]
        rfl
      simp only [frD, Tg.put, Tg.puts, wipeD, List.set, bindO, ttYes, tdF, tdIx, tdN, tdC, List.getElem?_cons_zero, List.getElem?_cons_succ, rdS, rdE, frzR, T.er, e5, edgeD, at0, if_true]
      refine ⟨by simp only [List.length_map, List.length_take]; exact small (by omega), k' _ _ ⟨?_, _, _, rfl⟩⟩
      have tk : r.reverse.take (dn ++ [frD (ed, p)]).length = r.reverse.take dn.length ++ [(ed, p)] := by
        rw [List.length_append]
        show r.reverse.take (dn.length + 1) = _
        rw [List.take_add_one, hz]
        rfl
      show _ = (r.reverse.take (dn ++ [frD (ed, p)]).length).map _
      rw [tk, List.map_append]
      simp [labF, List.getElem?_eq_getElem hp]
    · rintro acc σ ⟨rfl, b5, b6, rfl⟩
      have eb : ∃ x7 x8, backD [some (T.ob C (wf (.fz (.fn Φ)) (.fz (.int d)) (.fz (.lst (lst r))) (.fz (.bl true)) (.fz (.bl false)))), none, some (.fz (.lst (lst r))), some (.fz (nodeD y)), some (.fz (.fn Φ)), a5, none] [5, 6] (wipeD [some (T.ob C (wf (.fz (.fn Φ)) (.fz (.int d)) (.fz (.lst (lst r))) (.fz (.bl true)) (.fz (.bl false)))), none, some (.fz (.lst (lst r))), some (.fz (nodeD y)), some (.fz (.fn Φ)), b5, b6] [5, 6]) = [some (T.ob C (wf (.fz (.fn Φ)) (.fz (.int d)) (.fz (.lst (lst r))) (.fz (.bl true)) (.fz (.bl false)))), none, some (.fz (.lst (lst r))), some (.fz (nodeD y)), some (.fz (.fn Φ)), x7, x8] := by
        unfold backD backD backD
        simp only [wipeD, List.set, List.getElem?_cons_zero, List.getElem?_cons_succ]
        split <;> exact ⟨_, _, rfl⟩
      obtain ⟨x7, x8, eb⟩ := eb
      rw [eb]
      have hrl : (r.reverse.take (lst r).length) = r.reverse := by rw [lst_len, ← List.length_reverse, List.take_length]
      simp only [rdSs, rdS, T.er, bindO, tupleT, hrl]
      rw [hDe]
      simp only [finM_t]
      have := ks (lab r) _ hL' (.fz (.lst (lst r))) r true false rfl (.inr (.inr ⟨rfl, rfl, hr, ok, rfl⟩))
      unfold lab at this
      rw [List.map_map] at this
      exact this
section
variable {P : Program} {w : World} {K : PySem.W.Frag} {mg : Str → Option Value} {base : Heap} {C : Addr}
theorem sc_Walk_more : FnScope ["self", "found", "trail", "node", "edges", "options", "place"] ["self"] (defScope s_Walk_more) := ⟨rfl, rfl, rfl, by decide +kernel, rfl, by decide +kernel, by decide +kernel⟩
theorem ok_more {Z : Amb} {kvs : List (D × D)} {f : Addr} {fd : FuncData} (F : Fun K "more" "Walk.more" s_Walk_more f fd) (Wc : Cw K C) (B : Bt mg) (f_turned : KM P w K mg base Z 1 C "turned" 1 (S_turned C)) : FnOk P w K mg base CX0 2 f fd ["self"] (spOf w Z 1 (SM C kvs (CloP P w K mg base "_law_tree_here" Z.Z kvs))) := by
  refine fnd F sc_Walk_more [true] rfl (fun cdv A outer s H E hr => (
(psd_cons (psd_if (pt_b (pd_fld (pd_n (pv 0)) Wc.cl_Walk Wc.na_Walk_over)) (psd_one (psd_ret pd_non)) psd_nil)
    (psd_cons (psd_set (i := 1) sc_Walk_more.nd rfl (by first | exact Or.inl rfl | exact Or.inr rfl) (by decide) (pd_km0 (mds := [true]) f_turned Wc.cl_Walk hr (by decide) (pd_n (pv 0))))
    (psd_cons (psd_if (pt_isN (pd_n (pv 1))) (psd_cons (psd_fld (pv 0) pd_bl Wc.cl_Walk Wc.na_Walk_over)
    (psd_one (psd_ret pd_non))) psd_nil)
    (psd_cons (psd_unP (a := 2) (b := 3) rfl (pv 1) (pg_name sc_Walk_more.nd rfl (by first | exact Or.inl rfl | exact Or.inr rfl)) (pg_name sc_Walk_more.nd rfl (by first | exact Or.inl rfl | exact Or.inr rfl)) (by decide) (by decide))
    (psd_cons (psd_set (i := 4) sc_Walk_more.nd rfl (by first | exact Or.inl rfl | exact Or.inr rfl) (by decide) (pd_fld (pd_n (pv 0)) Wc.cl_Walk Wc.na_Walk_edges))
    (psd_cons (psd_while PassesOwn.never (pt_lt (pd_len (by rfl) B.z_len (pd_n (pv 2))) (pd_fld (pd_n (pv 0)) Wc.cl_Walk Wc.na_Walk_depth)) (psd_cons (psd_set (i := 5) sc_Walk_more.nd rfl (by first | exact Or.inl rfl | exact Or.inr rfl) (by decide) (pd_clo (y := "_law_tree_here") (kvs := kvs) (i := 4) (j := 3) (Pc := CloP P w K mg base "_law_tree_here" Z.Z kvs) rfl hr rfl (by first | exact Or.inl rfl | exact Or.inr (Or.inl rfl)) (pv 3)))
    (psd_cons (psd_if (ptd_not (pt_tru (pd_n (pv 5)))) (psd_cons (psd_fld (pv 0) pd_bl Wc.cl_Walk Wc.na_Walk_over)
    (psd_one (psd_ret pd_non))) psd_nil)
    (psd_cons (psd_expr (psd_append (pv 2) (pd_tup (pad_cons (pd_n (pv 5)) (pad_cons pd_int pad_nil)))))
    (psd_one (psd_set (i := 3) sc_Walk_more.nd rfl (by first | exact Or.inl rfl | exact Or.inr rfl) (by decide) (pd_ix (u10 hr) (pd_ix (u10 hr) (pd_n (pv 5)) pd_int) pd_int)))))))
    (psd_cons (psd_fld (pv 0) (pd_n (pv 2)) Wc.cl_Walk Wc.na_Walk_trail)
    (psd_cons (psd_fld (pv 0) pd_bl Wc.cl_Walk Wc.na_Walk_begun)
    (psd_one (psd_ret (pd_tuple (by rfl) B.z_tuple (pd_lc (own := [("options", 5), ("place", 6)]) (by decide) rfl sc_Walk_more.nd (pid_seq (pd_n (pv 2))) (blkOk_by rfl) (fun _ _ _ _ _ => (pg_tp rfl (pgs_co (pg_nm (i := 5) sc_Walk_more.nd rfl (by first | exact Or.inl rfl | exact Or.inr rfl)) (pgs_co (pg_nm (i := 6) sc_Walk_more.nd rfl (by first | exact Or.inl rfl | exact Or.inr rfl)) pgs_no)))) (fun _ _ _ _ _ => ptsd_nil) (fun _ _ _ _ _ => (pd_ix (u10 hr) (pd_ix (u10 hr) (pd_n (pv 5)) (pd_n (pv 6))) pd_int))))))))))))))
    )) ?_
  rintro ts Kc hl ⟨es, d, Φ, tr, b, o, r, L, rfl, hΦ, rfl, hd1, hd2, htr, hv, kn, ks⟩
  simp only [wkT, List.map, List.replicate, List.length, List.append, List.cons_append, List.nil_append]
  rw [tdSeq_ap]
  simp only [tdIfS, tdTest, tdFld, tdN, List.getElem?_cons_zero, List.getElem?_cons_succ, lk_o, bindO, rdE, T.er, true_and]
  cases o with
  | true =>
    rcases hv with ⟨_, rfl, h1, h2⟩ | ⟨h, _⟩ | ⟨h, _⟩
    · simp only [if_true, tdRet, tdC]
      exact kn rfl tr r b true htr (.inl ⟨rfl, rfl, h1, h2⟩)
    · cases h
    · cases h
  | false =>
    rw [if_neg Bool.false_ne_true]
    simp only [tdNext]
    rw [tdSeq_ap]
    have hrl : r.length ≤ d.toNat ∧ ∀ p ∈ r, p.2 < p.1.length := by
      rcases hv with ⟨h, _⟩ | ⟨_, _, rfl, _⟩ | ⟨_, _, h1, h2, _⟩
      · cases h
      · exact ⟨Nat.zero_le _, fun p hp => by cases hp⟩
      · exact ⟨h1, trail_lt h2⟩
    simp only [tdSet, tdMeth, taNil, tdN, List.getElem?_cons_zero, List.getElem?_cons_succ, bindO, rdE, T.er, isIns, List.length, passA, List.map, List.append_nil, putA, List.set, true_and]
    refine ⟨turned_in _ _ _ _ _, _, _, tr, _, b, r, rfl, htr, by omega, hrl.2, fun hb => ?_, fun hb hs => ?_, fun hb ed p u q hs hq => ?_⟩
    · subst hb
      rcases hv with ⟨h, _⟩ | ⟨_, _, rfl, hL, hst⟩ | ⟨_, h, _⟩
      · cases h
      · refine more_core (r1 := []) (x := none) rfl hΦ hd1 hd2 htr hrl.1 hrl.2 (Nat.zero_le _) trivial ?_ ?_ kn ks
        · rw [hL]; simp [Rem, lab]
        · rcases hst with h | ⟨h1, h2⟩
          · exact .inl h
          · exact .inr ⟨rfl, rfl, h1, h2⟩
      · cases h
    · subst hb
      rcases hv with ⟨h, _⟩ | ⟨_, h, _⟩ | ⟨_, _, h1, h2, hL⟩
      · cases h
      · cases h
      · have hnil : L = [] := by rw [hL, ← (strip_ok h2).2, hs]; rfl
        rw [tdSeq_ap]
        simp only [tdIfS, tdTest, tdIsN, tdN, List.getElem?_cons_zero, List.getElem?_cons_succ, rdE, T.er, bindO, D.isN, if_true]
        rw [tdSeq_ap]
        simp only [tdFldSet, tdC, List.getElem?_cons_zero, wf_o, List.set, tdRet, true_and]
        exact ⟨rfl, wf_len _ _ _ _ _, kn hnil tr r true true htr (.inl ⟨rfl, rfl, h1, hrl.2⟩)⟩
    · subst hb
      rcases hv with ⟨h, _⟩ | ⟨_, h, _⟩ | ⟨_, _, h1, h2, hL⟩
      · cases h
      · cases h
      · obtain ⟨so1, so2⟩ := strip_ok h2
        have sl := strip_len r
        rw [hs] at so1 so2 sl
        simp only [List.length] at sl
        obtain ⟨hq1, hq2⟩ := List.getElem?_eq_some_iff.mp hq
        refine more_core (r1 := (ed, p + 1) :: u) (x := some q.2) rfl hΦ hd1 hd2 htr hrl.1 hrl.2 (by simp only [List.length]; omega) ⟨hq1, so1.2.1, so1.2.2⟩ ?_ (.inl ?_) kn ks
        · rw [hL, ← so2, rem_cons, rem_cons, lab_cons, List.drop_eq_getElem_cons hq1, hq2, List.flatMap_cons, List.append_assoc]
          simp only [List.length]
          congr 1
          refine List.map_congr_left fun s _ => ?_
          simp [labF, hq]
        · simp only [List.length]
          exact so1.2.1 q (List.mem_of_getElem? hq)
end
end K55
namespace K55
open PySem PyProof.Rows L2 M
theorem more_in (e d tr b o : T) : ("more" : Str) ∉ (wf e d tr b o).map (·.1) := by
  show ("more" : Str) ∉ (["edges", "depth", "trail", "begun", "over"] : List Str)
  decide +kernel
/-- a walk that has L to tell -/
def Wk (C : Addr) (Ψ : LF → Prop) (es : Es) (d : Int) (L : List (List Int)) (t : T) : Prop := ∃ (tr : T) (b o : Bool) (r : List Fr), t = wkT C Ψ d tr b o ∧ tr.sh = some (.lst (lst r)) ∧ View es d.toNat r b o L
theorem more_cons {C : Addr} {Ψ : LF → Prop} {es : Es} {d : Int} {L : List (List Int)} {p : List Int} {t : T} {σ : Sd} {i j : Nat} {K : RV → Sd → Prop} (h1 : σ[i]? = some (some t)) (hw : Wk C Ψ es d (p :: L) t) (h2 : σ[j]? = some (some (.fz (.dic (dicD es))))) (hd1 : 0 ≤ d) (hd2 : d ≤ 400)
    (k : ∀ t', Wk C Ψ es d L t' → K (.t (.fz (.tup (p.map .int)))) (σ.set i (some t'))) : tdMoreC C "more" (SM C) Ψ i j σ K := by
  obtain ⟨tr, b, o, r, rfl, h3, hv⟩ := hw
  unfold tdMoreC
  rw [h1, h2]
  refine ⟨rfl, more_in _ _ _ _ _, fun P' hP => ⟨es, d, Ψ, tr, b, o, r, p :: L, rfl, hP, rfl, hd1, hd2, h3, hv, (fun q => by cases q), fun p' L' q tr' r' b' o' h4 h5 => ?_⟩⟩
  cases q
  exact k _ ⟨tr', b', o', r', rfl, h4, h5⟩
theorem more_nil {C : Addr} {Ψ : LF → Prop} {es : Es} {d : Int} {t : T} {σ : Sd} {i j : Nat} {K : RV → Sd → Prop} (h1 : σ[i]? = some (some t)) (hw : Wk C Ψ es d [] t) (h2 : σ[j]? = some (some (.fz (.dic (dicD es))))) (hd1 : 0 ≤ d) (hd2 : d ≤ 400)
    (k : ∀ t', Wk C Ψ es d [] t' → K (.t (.fz .non)) (σ.set i (some t'))) : tdMoreC C "more" (SM C) Ψ i j σ K := by
  obtain ⟨tr, b, o, r, rfl, h3, hv⟩ := hw
  unfold tdMoreC
  rw [h1, h2]
  refine ⟨rfl, more_in _ _ _ _ _, fun P' hP => ⟨es, d, Ψ, tr, b, o, r, [], rfl, hP, rfl, hd1, hd2, h3, hv, fun _ tr' r' b' o' h4 h5 => k _ ⟨tr', b', o', r', rfl, h4, h5⟩, (fun p' L' q => by cases q)⟩⟩
/-- what is left of the law's text behind the tree -/
def LT (C : Addr) (Ψ : LF → Prop) : TSd :=
  tdSeq (tdSet 9 (tdMake C [false, false] [] 3 (S_init C) (taCons (fun σ K => K (RV.t (T.fz (D.fn Ψ))) σ) (taCons (tdN 3) taNil))))
   (tdSeq (tdSet 10 (tdMake C [false, false] [] 3 (S_init C) (taCons (fun σ K => K (RV.t (T.fz (D.fn Ψ))) σ) (taCons (tdN 3) taNil))))
   (tdSeq (tdSet 11 (tdCall [true, false] [] 2 S_draw (taCons (tdN 1) (taCons (tdC (D.int 3)) taNil))))
   (tdSeq (tdFor (tiRng1 (tdCE lenD (taCons (tdN 6) taNil))) (Tg.nm 12)
      (tdSeq (tdIfS (tdNot (tdTest (tdCall [false, false] [] 2 S_alike (taCons (tdMoreC C "more" (SM C) Ψ 9 5) (taCons (tdIx (tdN 6) (tdN 12)) taNil))))) (tdRet (tdC (D.bl false))) tdNext)
        (tdIfS (tdAnd (tdTest (tdBinE geD (tdN 12) (tdN 11))) (tdNot (tdTest (tdCall [false, false] [] 2 S_alike (taCons (tdMoreC C "more" (SM C) Ψ 10 5) (taCons (tdIx (tdN 6) (tdBinE subD (tdN 12) (tdN 11))) taNil)))))) (tdRet (tdC (D.bl false))) tdNext)))
   (tdSeq (tdIfS (tdOr (tdTest (tdNtN (tdMoreC C "more" (SM C) Ψ 9 5))) (tdTest (tdNtN (tdMoreC C "more" (SM C) Ψ 9 5)))) (tdRet (tdC (D.bl false))) tdNext)
   (tdSeq (tdFor (tiRng2 (tdCE maxD (taCons (tdC (D.int 0)) (taCons (tdBinE subD (tdCE lenD (taCons (tdN 6) taNil)) (tdN 11)) taNil))) (tdCE lenD (taCons (tdN 6) taNil))) (Tg.nm 12)
      (tdIfS (tdNot (tdTest (tdCall [false, false] [] 2 S_alike (taCons (tdMoreC C "more" (SM C) Ψ 10 5) (taCons (tdIx (tdN 6) (tdN 12)) taNil))))) (tdRet (tdC (D.bl false))) tdNext))
    (tdRet (tdAndV (tdIsN (tdMoreC C "more" (SM C) Ψ 10 5)) (tdIsN (tdMoreC C "more" (SM C) Ψ 9 5)))))))))
def dueD (L : List (List Int)) : List D := L.map fun p => D.tup (p.map .int)
theorem due_at {L : List (List Int)} {k : Nat} (h : k < L.length) : atD (.lst (dueD L)) (.int (k : Int)) = some (.tup (L[k].map .int)) := by
  show atI _ _ = _
  unfold dueD
  rw [atI_in (by omega) (by rw [List.length_map]; omega), List.getElem?_map, Int.toNat_natCast, List.getElem?_eq_getElem h]
  rfl
theorem rng_at {lo : Int} {n : Nat} {dn rst : List D} {x : D} (e : rangeD lo n = dn ++ x :: rst) : x = .int (lo + (dn.length : Int)) ∧ dn.length < n := by
  have h : (rangeD lo n)[dn.length]? = some x := by rw [e]; simp
  unfold rangeD at h
  rw [List.getElem?_map] at h
  have h2 := len_split e
  simp only [rangeD, List.length_map, List.length_range] at h2
  rw [List.getElem?_range (by omega)] at h
  exact ⟨(Option.some.inj h).symm, by omega⟩
theorem law_tail {C : Addr} {Ψ : LF → Prop} {es : Es} {d : Int} {L : List (List Int)} {De : Eds} {sd : D} {cells : List Int} {n : Int} {most : Int} {a2 : Option T} {a7 a8 : Option T} {Kc : T → List (Option T) → Prop} (hDe : De.rt = fun t σ => Kc t (finM [false] σ)) (hk : ∀ fin, Kc (.fz (.bl true)) fin)
    (hd1 : 0 ≤ d) (hd2 : d ≤ 400) (hcl : cells.length ≤ 63) (hn1 : 0 ≤ n) (hn2 : n ≤ 100000) (hL : L.length ≤ 20) (hLl : ∀ p ∈ L, p.length ≤ 400) (hW : L = W es d.toNat none) (hS : Start es d.toNat) :
    LT C Ψ De [some (.fz sd), some (deckT cells n), a2, some (.fz (.int d)), some (.fz (.int most)), some (.fz (.dic (dicD es))), some (.l (dueD L)), a7, a8, none, none, none, none] := by
  unfold LT
  rw [tdSeq_ap]
  simp only [tdSet, tdMake, taCons, taNil, tdN, List.getElem?_cons_zero, List.getElem?_cons_succ, List.length, passA, T.er, putA, List.map, List.append_nil, true_and]
  refine ⟨_, _, rfl, ?_⟩
  simp only [List.set]
  rw [tdSeq_ap]
  simp only [tdSet, tdMake, taCons, taNil, tdN, List.getElem?_cons_zero, List.getElem?_cons_succ, List.length, passA, T.er, putA, List.map, List.append_nil, true_and]
  refine ⟨_, _, rfl, ?_⟩
  simp only [List.set]
  have w0 : Wk C Ψ es d L (.ob C (wf (.fz (.fn Ψ)) (.fz (.int d)) (.l []) (.fz (.bl false)) (.fz (.bl false)))) := ⟨.l [], false, false, [], rfl, rfl, .inr (.inl ⟨rfl, rfl, rfl, hW, hS⟩)⟩
  generalize hw9 : (T.ob C (wf (.fz (.fn Ψ)) (.fz (.int d)) (.l []) (.fz (.bl false)) (.fz (.bl false)))) = w9 at w0
  rw [tdSeq_ap]
  simp only [tdSet, tdCall, taCons, taNil, tdN, tdC, List.getElem?_cons_zero, List.getElem?_cons_succ, List.length, passA, T.er, putA, List.map, List.append_nil, true_and, List.set]
  refine ⟨cells, n, 3, rfl, by decide, by decide, hn1, by omega, hcl, fun bh cs' b1 b2 b3 => ?_⟩
  simp only [putA, List.set, List.getElem?_cons_zero, List.getElem?_cons_succ]
  rw [tdSeq_ap]
  simp only [tdFor, tiRng1, tdF, tdCE, taCons, taNil, tdN, List.getElem?_cons_zero, List.getElem?_cons_succ, rdEs, rdE, T.er, bindO, lenD, frzR]
  have dl : (dueD L).length = L.length := by unfold dueD; rw [List.length_map]
  rw [dl]
  refine ⟨by omega, by omega, ?_⟩
  rw [Int.toNat_natCast]
  refine for_inv (fun dn σ => ∃ (t9 t10 : T) (a12 : Option T), σ = [some (.fz sd), some (deckT cs' (n + 1)), a2, some (.fz (.int d)), some (.fz (.int most)), some (.fz (.dic (dicD es))), some (.l (dueD L)), a7, a8, some t9, some t10, some (.fz (.int bh)), a12] ∧ Wk C Ψ es d (L.drop dn.length) t9 ∧ Wk C Ψ es d (L.drop (dn.length - bh.toNat)) t10)
    ⟨w9, w9, none, rfl, by simpa using w0, by simpa using w0⟩ ?_ ?_
  · rintro dn x rst σ e ⟨t9, t10, a12, rfl, hw1, hw2⟩ nx knx
    obtain ⟨rfl, hdn⟩ := rng_at e
    have e0 : (0 : Int) + (dn.length : Int) = (dn.length : Int) := by omega
    have hp := hLl L[dn.length] (List.getElem_mem hdn)
    rw [List.drop_eq_getElem_cons hdn] at hw1
    simp only [Tg.put, bindO, List.set, e0]
    rw [tdSeq_ap]
    simp only [tdIfS, tdNot, tdTest, tdCall, taCons, taNil]
    refine more_cons rfl hw1 rfl hd1 hd2 fun t9' hw9' => ?_
    simp only [tdIx, tdN, List.getElem?_cons_zero, List.getElem?_cons_succ, List.set, rdS, rdE, T.er, T.sh, bindO, due_at hdn, List.length, passA, List.map, List.append_nil, true_and]
    refine ⟨_, rfl, hp, ?_⟩
    simp only [putA, rdE, T.er, bindO, Bool.not_true]
    rw [if_neg Bool.false_ne_true]
    simp only [tdNext, tdIfS, tdAnd, tdNot, tdTest, tdBinE, tdN, List.getElem?_cons_zero, List.getElem?_cons_succ, rdE, T.er, bindO, geD_int]
    have dl1 : (dn ++ [D.int (dn.length : Int)]).length = dn.length + 1 := by simp
    by_cases hb : bh ≤ (dn.length : Int)
    · rw [decide_eq_true hb, if_pos rfl]
      have hk2 : dn.length - bh.toNat < L.length := by omega
      have hp2 := hLl L[dn.length - bh.toNat] (List.getElem_mem hk2)
      rw [List.drop_eq_getElem_cons hk2] at hw2
      have es2 : (dn.length : Int) - bh = ((dn.length - bh.toNat : Nat) : Int) := by omega
      simp only [tdCall, taCons, taNil]
      refine more_cons rfl hw2 rfl hd1 hd2 fun t10' hw10' => ?_
      simp only [tdIx, tdN, tdBinE, List.getElem?_cons_zero, List.getElem?_cons_succ, List.set, rdS, rdE, T.er, T.sh, bindO, subD_int, es2, due_at hk2, List.length, passA, List.map, List.append_nil, true_and]
      refine ⟨_, rfl, hp2, ?_⟩
      simp only [putA, rdE, T.er, bindO, Bool.not_true]
      rw [if_neg Bool.false_ne_true]
      refine knx _ ⟨t9', t10', some (.fz (.int (dn.length : Int))), rfl, ?_, ?_⟩
      · rw [e0, dl1]; exact hw9'
      · rw [e0, dl1, show dn.length + 1 - bh.toNat = dn.length - bh.toNat + 1 by omega]; exact hw10'
    · rw [decide_eq_false hb, if_neg Bool.false_ne_true, if_neg Bool.false_ne_true]
      refine knx _ ⟨t9', t10, some (.fz (.int (dn.length : Int))), rfl, ?_, ?_⟩
      · rw [e0, dl1]; exact hw9'
      · rw [e0, dl1]
        have z1 : dn.length - bh.toNat = 0 := by omega
        have z2 : dn.length + 1 - bh.toNat = 0 := by omega
        rw [z1] at hw2
        rw [z2]; exact hw2
  · rintro σ ⟨t9, t10, a12, rfl, hw1, hw2⟩
    have rl : (rangeD 0 L.length).length = L.length := by simp [rangeD]
    rw [rl] at hw1 hw2
    rw [List.drop_length] at hw1
    dsimp only
    rw [tdSeq_ap]
    simp only [tdIfS, tdOr, tdTest, tdNtN]
    refine more_nil rfl hw1 rfl hd1 hd2 fun t9' hw9' => ?_
    simp only [rdE, T.er, bindO, D.isN, Bool.not_true]
    rw [if_neg Bool.false_ne_true]
    refine more_nil rfl hw9' rfl hd1 hd2 fun t9'' hw9'' => ?_
    simp only [rdE, T.er, bindO, D.isN, Bool.not_true, List.set]
    rw [if_neg Bool.false_ne_true]
    simp only [tdNext]
    rw [tdSeq_ap]
    have mx : (if (L.length : Int) - bh > 0 then (L.length : Int) - bh else 0) = ((L.length - bh.toNat : Nat) : Int) := by
      split <;> omega
    simp only [tdFor, tiRng2, tdF, tdCE, taCons, taNil, tdC, tdBinE, tdN, List.getElem?_cons_zero, List.getElem?_cons_succ, rdEs, rdE, T.er, bindO, lenD, frzR, dl, subD_int, maxD, mx]
    refine ⟨by omega, ?_⟩
    have nn : ((L.length : Int) - ((L.length - bh.toNat : Nat) : Int)).toNat = L.length - (L.length - bh.toNat) := by omega
    rw [nn]
    refine for_inv (fun dn σ => ∃ (t10 : T) (a12 : Option T), σ = [some (.fz sd), some (deckT cs' (n + 1)), a2, some (.fz (.int d)), some (.fz (.int most)), some (.fz (.dic (dicD es))), some (.l (dueD L)), a7, a8, some t9'', some t10, some (.fz (.int bh)), a12] ∧ Wk C Ψ es d (L.drop (L.length - bh.toNat + dn.length)) t10)
      ⟨t10, a12, rfl, hw2⟩ ?_ ?_
    · rintro dn x rst σ e ⟨t10, a12, rfl, hw2⟩ nx knx
      obtain ⟨rfl, hdn⟩ := rng_at e
      have hk2 : L.length - bh.toNat + dn.length < L.length := by omega
      have hp2 := hLl L[L.length - bh.toNat + dn.length] (List.getElem_mem hk2)
      rw [List.drop_eq_getElem_cons hk2] at hw2
      have es2 : ((L.length - bh.toNat : Nat) : Int) + (dn.length : Int) = ((L.length - bh.toNat + dn.length : Nat) : Int) := by omega
      simp only [Tg.put, bindO, List.set, es2]
      simp only [tdIfS, tdNot, tdTest, tdCall, taCons, taNil]
      refine more_cons rfl hw2 rfl hd1 hd2 fun t10' hw10' => ?_
      simp only [tdIx, tdN, List.getElem?_cons_zero, List.getElem?_cons_succ, List.set, rdS, rdE, T.er, T.sh, bindO, due_at hk2, List.length, passA, List.map, List.append_nil, true_and]
      refine ⟨_, rfl, hp2, ?_⟩
      simp only [putA, rdE, T.er, bindO, Bool.not_true]
      rw [if_neg Bool.false_ne_true]
      refine knx _ ⟨t10', some (.fz (.int ((L.length - bh.toNat + dn.length : Nat) : Int))), rfl, ?_⟩
      rw [List.length_append]
      exact hw10'
    · rintro σ ⟨t10, a12, rfl, hw2⟩
      have rl2 : (rangeD ((L.length - bh.toNat : Nat) : Int) (L.length - (L.length - bh.toNat))).length = L.length - (L.length - bh.toNat) := by simp [rangeD]
      rw [rl2, show L.length - bh.toNat + (L.length - (L.length - bh.toNat)) = L.length by omega, List.drop_length] at hw2
      simp only [tdRet, tdAndV, tdIsN]
      refine more_nil rfl hw2 rfl hd1 hd2 fun t10' hw10' => ?_
      simp only [rdE, T.er, bindO, D.isN]
      refine more_nil rfl hw9'' rfl hd1 hd2 fun t9''' hw9''' => ?_
      simp only [rdE, T.er, bindO, D.isN]
      rw [hDe]
      exact hk _
end K55
namespace K55
open PySem PyProof.Rows L2 M
theorem pw_W (es : Es) (d : Nat) : ∀ k, k ≤ d → (Pw es k).flatMap (fun p => (W es (d - k) (p.2.getLastD none)).map fun s => p.1 ++ s) = W es d none
  | 0, _ => by simp [Pw]
  | k + 1, h => by
    rw [← pw_W es d k (by omega)]
    rw [show Pw es (k + 1) = (Pw es k).flatMap fun p => (E es (p.2.getLastD none)).map fun e => (p.1 ++ [e.1], p.2 ++ [some e.2]) from rfl, List.flatMap_assoc]
    refine fm_congr fun p _ => ?_
    rw [List.flatMap_map, show d - k = (d - (k + 1)) + 1 by omega]
    show _ = ((E es (p.2.getLastD none)).flatMap _).map _
    rw [List.map_flatMap]
    refine fm_congr fun e _ => ?_
    rw [List.map_map]
    have e1 : (p.1 ++ [e.1], p.2 ++ [some e.2]).2.getLastD none = some e.2 := by simp
    rw [e1]
    refine List.map_congr_left fun s _ => ?_
    simp
theorem pw_labels (es : Es) (d : Nat) : (Pw es d).map (·.1) = W es d none := by
  rw [← pw_W es d d (Nat.le_refl _), Nat.sub_self]
  show _ = (Pw es d).flatMap fun p => [p.1 ++ []]
  induction Pw es d with
  | nil => rfl
  | cons p r ih => rw [List.map_cons, List.flatMap_cons, ih]; simp
/-- what is left of the law's text behind the draws -/
def LM (C : Addr) (Ψ : LF → Prop) : TSd :=
  tdSeq (tdSet 5 (tdCall [true, false, false] [] 3 S_tree (taCons (tdN 1) (taCons (tdN 3) (taCons (tdN 4) taNil)))))
  (tdSeq (tdSet 6 (tdLc (tiSeq (tdCall [false, false] [] 2 S_ways (taCons (tdN 5) (taCons (tdN 3) taNil)))) (Tg.tp [Tg.nm 7, Tg.nm 8]) ttYes (tdN 7) [7, 8]))
  (tdSeq (tdIfS (tdAnd (tdTest (tdBinE eqD (tdN 2) (tdC (D.int 1)))) (tdTest (tdBinE gtD (tdN 3) (tdC (D.int 0))))) (tdSeq (tdFzA 5 (tdSet 5 (tdDisp1 (tdC D.non) (tdTup taNil)))) (tdSet 6 (tdLst taNil))) tdNext)
    (LT C Ψ)))
theorem law_mid {C : Addr} {Ψ : LF → Prop} {De : Eds} {sd : D} {cells : List Int} {n way d most : Int} {Kc : T → List (Option T) → Prop} (hDe : De.rt = fun t σ => Kc t (finM [false] σ)) (hk : ∀ fin, Kc (.fz (.bl true)) fin)
    (hd1 : 0 ≤ d) (hd2 : d ≤ 400) (hm1 : 0 ≤ most) (hm2 : most ≤ 18) (hcl : cells.length ≤ 63) (hn1 : 0 ≤ n) (hn2 : n ≤ 10) :
    LM C Ψ De [some (.fz sd), some (deckT cells n), some (.fz (.int way)), some (.fz (.int d)), some (.fz (.int most)), none, none, none, none, none, none, none, none] := by
  unfold LM
  rw [tdSeq_ap]
  simp only [tdSet, tdCall, taCons, taNil, tdN, List.getElem?_cons_zero, List.getElem?_cons_succ, List.length, passA, T.er, List.map, List.append_nil, true_and, List.set]
  refine ⟨cells, n, d, most, rfl, hcl, hn1, hn2, hd1, hd2, hm1, hm2, fun es cs n' ht hcs h1 h2 => ?_⟩
  simp only [putA, List.set]
  rw [tdSeq_ap]
  simp only [tdSet, tdLc, tiSeq, tdF, tdCall, taCons, taNil, tdN, List.getElem?_cons_zero, List.getElem?_cons_succ, List.length, passA, T.er, List.map, List.append_nil, true_and, List.set]
  refine ⟨es, d, rfl, hd1, hd2, ht, ?_⟩
  simp only [putA, List.set, frzR, T.er, D.items, bindO]
  have plen : ∀ kk, kk ≤ d.toNat → (Pw es kk).length ≤ 20 := fun kk hk => by
    have := congrArg List.length (pw_last es kk)
    rw [List.length_map] at this
    rw [this]; exact ht.few kk hk
  have lrest : ∀ (es' : Es) (L : List (List Int)) (a7 a8 : Option T) (a2 : Option T), L.length ≤ 20 → (∀ p ∈ L, p.length ≤ 400) → L = W es' d.toNat none → Start es' d.toNat → LT C Ψ De [some (.fz sd), some (deckT cs n'), a2, some (.fz (.int d)), some (.fz (.int most)), some (.fz (.dic (dicD es'))), some (.l (dueD L)), a7, a8, none, none, none, none] := fun es' L a7 a8 a2 q1 q2 q3 q4 => law_tail hDe hk hd1 hd2 (by omega) h1 h2 q1 q2 q3 q4
  refine lc_inv (fun dn acc σ => acc = ((Pw es d.toNat).take dn.length).map (fun p => D.tup (p.1.map .int)) ∧ ∃ b7 b8, σ = [some (.fz sd), some (deckT cs n'), some (.fz (.int way)), some (.fz (.int d)), some (.fz (.int most)), some (.fz (.dic (dicD es))), none, b7, b8, none, none, none, none]) ⟨rfl, _, _, rfl⟩ ?_ ?_
  · rintro dn y rst acc σ ey ⟨rfl, b7, b8, rfl⟩ K' k'
    have hyl := len_split ey
    rw [List.length_map] at hyl
    obtain ⟨z, hz, ez⟩ : ∃ z, (Pw es d.toNat)[dn.length]? = some z ∧ y = pD (z.1, z.2.take d.toNat) := by
      have : ((Pw es d.toNat).map fun p => pD (p.1, p.2.take d.toNat))[dn.length]? = some y := by rw [ey]; simp
      rw [List.getElem?_map] at this
      cases h : (Pw es d.toNat)[dn.length]? with
      | none => rw [h] at this; cases this
      | some z => rw [h] at this; exact ⟨z, rfl, (Option.some.inj this).symm⟩
    subst ez
    have pl := plen _ (Nat.le_refl d.toNat)
    simp only [pD, Tg.put, Tg.puts, wipeD, List.set, bindO, ttYes, tdF, tdN, List.getElem?_cons_zero, List.getElem?_cons_succ, frzR, T.er, if_true]
    refine ⟨by simp only [List.length_map, List.length_take]; exact small (by omega), k' _ _ ⟨?_, _, _, rfl⟩⟩
    have tk : ∀ q : D, (Pw es d.toNat).take (dn ++ [q]).length = (Pw es d.toNat).take dn.length ++ [z] := fun q => by
      rw [List.length_append]
      show (Pw es d.toNat).take (dn.length + 1) = _
      rw [List.take_add_one, hz]
      rfl
    rw [tk, List.map_append]
    rfl
  · rintro acc σ ⟨rfl, b7, b8, rfl⟩
    rw [List.length_map, List.take_length]
    simp only [backD, wipeD, List.set, List.getElem?_cons_zero, List.getElem?_cons_succ]
    have edue : (Pw es d.toNat).map (fun p => D.tup (p.1.map .int)) = dueD (W es d.toNat none) := by
      rw [← pw_labels]
      unfold dueD
      rw [List.map_map]
      rfl
    rw [edue, tdSeq_ap]
    simp only [tdIfS, tdAnd, tdTest, tdBinE, tdN, tdC, List.getElem?_cons_zero, List.getElem?_cons_succ, rdE, T.er, bindO, eqD_int, gtD_int]
    have good : LT C Ψ De [some (.fz sd), some (deckT cs n'), some (.fz (.int way)), some (.fz (.int d)), some (.fz (.int most)), some (.fz (.dic (dicD es))), some (.l (dueD (W es d.toNat none))), none, none, none, none, none, none] := by
      refine lrest es _ _ _ _ ?_ ?_ rfl (.inl (tree_good ht d.toNat 0 none (by omega) (by simp [lev])))
      · rw [← pw_labels, List.length_map]; exact plen _ (Nat.le_refl _)
      · intro p hp
        rw [← pw_labels] at hp
        obtain ⟨q, hq, rfl⟩ := List.mem_map.mp hp
        have := (pw_len es _ q hq).1
        omega
    by_cases hw : way = 1
    · rw [decide_eq_true hw, if_pos rfl]
      by_cases hd : 0 < d
      · rw [decide_eq_true hd, if_pos rfl, tdSeq_ap]
        simp only [tdFzA, tdSet, tdDisp1, tdF, tdC, tdTup, taNil, frzR, T.er, List.length, List.set, List.getElem?_cons_zero, List.getElem?_cons_succ, D.key, isTupK, true_and, tdLst]
        refine ⟨by decide, by decide, ?_⟩
        have := lrest [(none, [])] [] none none (some (.fz (.int way))) (by decide) (fun p hp => by cases hp) ?_ (.inr ⟨rfl, by omega⟩)
        · exact this
        · obtain ⟨k, hk⟩ : ∃ k, d.toNat = k + 1 := ⟨d.toNat - 1, by omega⟩
          rw [hk]
          rfl
      · rw [decide_eq_false hd, if_neg Bool.false_ne_true]
        exact good
    · rw [decide_eq_false hw, if_neg Bool.false_ne_true, if_neg Bool.false_ne_true]
      exact good
end K55
namespace K55
open PySem PyProof.Rows L2 M
theorem u3 {A : Around} {env : Env} (h : A.units + 20 < cLine) : (A.deeper env).units + 10 < cLine := by
  show A.units + 3 + 10 < cLine
  omega
theorem clo_here {X : Cx} {y z : Str} {params : Arguments} {body : Expr} {scope : Scope} {c1 : Addr} {N ps : List Str} (ok : X.Ok) (hy : X.env.scope.names.lookup y = some .cell) (hn : ∀ cells : List (Str × Addr), cloFrom cells scope.names [] = [(y, (cells.lookup y).getD 0)]) (S : NdefX.NScope N ps [y] scope) (hp : ps.length = 1)
    (hb : ∀ (pm ctv : Value) (us : List Value), us.length = ps.length → bindArgs (PySem.W.kla_fn "<lambda>" (X.env.qual ++ "<lambda>") params body scope (cloFrom X.env.cells scope.names []) pm (.ref c1) ctv) ⟨us, []⟩ = pure (ps.zip us))
    (hbody : ∀ (f : Addr) (A : Around) (outer : List Env) (s : Shared) (H : Hp), A.units + 20 < cLine → PE (NdefX.ncx CX0 X.prog X.w X.K X.mg X.base N (lfOf X params body scope c1).F f A outer s H E0) body (tOp (rIx4 X.K X.w) (tVar 1) (tVar 0))) : CloHere X y (lfOf X params body scope c1) := by
  obtain ⟨c, hc⟩ := ok.has y (.inl hy)
  have e : (lfOf X params body scope c1).F.cl = [(y, c)] := by
    show cloFrom X.env.cells scope.names [] = _
    rw [hn, hc]
    rfl
  refine ⟨c, N, ps, hc, fun y' c' h => ?_, ?_, S, hp, hb, hbody⟩
  · rw [e] at h
    rw [List.lookup_cons] at h
    by_cases q : y' = y
    · subst q
      simp at h
      exact ⟨rfl, h.symm⟩
    · have : (y' == y) = false := by simpa using q
      rw [this] at h
      cases h
  · rw [e]
    simp
abbrev s_law : Stmt := top 8
theorem sc_law : FnScope ["_law_script", "_law_deck_here", "_law_way", "_law_depth", "_law_most", "_law_tree_here", "_law_due", "_law_labels", "_law_nodes", "_law_one", "_law_other", "_law_behind", "_law_k"] ["_law_script"] (defScope s_law) := ⟨rfl, rfl, rfl, by decide +kernel, rfl, by decide +kernel, by decide +kernel⟩
def S_law (Kf : PySem.W.Frag) : SpD := fun ts K => ∃ (ns : List Int) (sd : D), ts = [.fz sd] ∧ (sd = .lst (ns.map .int) ∨ sd = .opq (KScr Kf ns)) ∧ ns.length ≤ 63 ∧ ∀ fin, K (.fz (.bl true)) fin
section
variable {P : Program} {w : World} {K : PySem.W.Frag} {mg : Str → Option Value} {base : Heap} {Z : Amb} {C : Addr}
theorem ok_law {f cA PA : Addr} {oc : Value} {od an : Option Addr} {osl : Array (Option Value)} {kV doc pm ct : Value} (lk : K.lookup f = some ⟨oc, od, .func (PySem.W.fnOf "law" "law" (defArgs s_law) (defBody s_law) (defScope s_law) .none kV doc pm an (.ref cA) ct), osl⟩) (hcd : PySem.W.codeIn K (.ref cA) "law" = true) (Wc : Cw K C) (B : Bt mg) (TB : LamX.TabB base mg cA PA)
    (hZ : Z = ⟨fun _ => none, [(PA, (("law.<locals>." : Str) ++ "<lambda>"))]⟩)
    (f_deck : Kn P w K mg base Z 1 "_law_deck" 1 (S_deck K)) (f_draw : Kn P w K mg base Z 1 "_law_draw" 2 S_draw) (f_tree : Kn P w K mg base Z 2 "_law_tree" 3 S_tree) (f_ways : Kn P w K mg base Z 1 "_law_ways" 2 S_ways) (f_alike : Kn P w K mg base Z 1 "_law_alike" 2 S_alike)
    (c_walk : KC P w K mg base Z 1 "Walk" C 3 (S_init C)) (m_more : KMC P w K mg base "_law_tree_here" 2 C "more" (SM C)) :
    FnOk P w K mg base CX0 4 f (PySem.W.fnOf "law" "law" (defArgs s_law) (defBody s_law) (defScope s_law) .none kV doc pm an (.ref cA) ct) ["_law_script"] (spOf w Z 1 (S_law K)) := by
  subst hZ
  refine fndX lk hcd sc_law [false] rfl fun A outer s H E hr ts Kc hl hS => ⟨_,
(psd_cons (psd_set (i := 1) sc_law.nd rfl (by first | exact Or.inl rfl | exact Or.inr rfl) (by decide) (pd_kn (mds := [false]) f_deck hr (by decide) (by rfl) (pad_cons (pd_n (pv 0)) pad_nil)))
    (psd_cons (psd_set (i := 2) sc_law.nd rfl (by first | exact Or.inl rfl | exact Or.inr rfl) (by decide) (pd_kn (mds := [true, false]) f_draw hr (by decide) (by rfl) (pad_cons (pd_n (pv 1)) (pad_cons pd_int pad_nil))))
    (psd_cons (psd_set (i := 3) sc_law.nd rfl (by first | exact Or.inl rfl | exact Or.inr rfl) (by decide) (pd_kn (mds := [true, false]) f_draw hr (by decide) (by rfl) (pad_cons (pd_n (pv 1)) (pad_cons pd_int pad_nil))))
    (psd_cons (psd_set (i := 4) sc_law.nd rfl (by first | exact Or.inl rfl | exact Or.inr rfl) (by decide) (pd_add pd_int (pd_kn (mds := [true, false]) f_draw hr (by decide) (by rfl) (pad_cons (pd_n (pv 1)) (pad_cons pd_int pad_nil)))))
    (psd_cons (psd_if (pt_eq (u64 hr) (pd_n (pv 2)) pd_int) (psd_cons (psd_set (i := 3) sc_law.nd rfl (by first | exact Or.inl rfl | exact Or.inr rfl) (by decide) (pd_add pd_int (pd_kn (mds := [true, false]) f_draw hr (by decide) (by rfl) (pad_cons (pd_n (pv 1)) (pad_cons pd_int pad_nil)))))
    (psd_one (psd_set (i := 4) sc_law.nd rfl (by first | exact Or.inl rfl | exact Or.inr rfl) (by decide) (pd_add pd_int (pd_kn (mds := [true, false]) f_draw hr (by decide) (by rfl) (pad_cons (pd_n (pv 1)) (pad_cons pd_int pad_nil))))))) psd_nil)
    (psd_cons (psd_set (i := 5) sc_law.nd rfl (by first | exact Or.inl rfl | exact Or.inr rfl) (by decide) (pd_kn (mds := [true, false, false]) f_tree hr (by decide) (by rfl) (pad_cons (pd_n (pv 1)) (pad_cons (pd_n (pv 3)) (pad_cons (pd_n (pv 4)) pad_nil)))))
    (psd_cons (psd_setLc (i := 6) (own := [("_law_labels", 7), ("_law_nodes", 8)]) (by decide) (by decide) rfl sc_law.nd rfl rfl rfl (pid_seq (pd_kn (mds := [false, false]) f_ways hr (by decide) (by rfl) (pad_cons (pd_n (pv 5)) (pad_cons (pd_n (pv 3)) pad_nil)))) (blkOk_by rfl) (fun _ _ _ _ _ => (pg_tp rfl (pgs_co (pg_nm (i := 7) sc_law.nd rfl (by first | exact Or.inl rfl | exact Or.inr rfl)) (pgs_co (pg_nm (i := 8) sc_law.nd rfl (by first | exact Or.inl rfl | exact Or.inr rfl)) pgs_no)))) (fun _ _ _ _ _ => ptsd_nil) (fun _ _ _ _ _ => (pd_n (pv 7))))
    (psd_cons (psd_if (pwd_and (pt_eq (u64 hr) (pd_n (pv 2)) pd_int) (pwd_and1 (pt_gt (pd_n (pv 3)) pd_int))).pt (psd_cons (psd_fzA 5 (psd_set (i := 5) sc_law.nd rfl (by first | exact Or.inl rfl | exact Or.inr rfl) (by decide) (pd_disp1 pd_non (pd_tup pad_nil))))
    (psd_one (psd_set (i := 6) sc_law.nd rfl (by first | exact Or.inl rfl | exact Or.inr rfl) (by decide) (pd_lst pad_nil)))) psd_nil)
    (psd_cons (psd_set (i := 9) sc_law.nd rfl (by first | exact Or.inl rfl | exact Or.inr rfl) (by decide) (pd_kc (mds := [false, false]) c_walk hr (by decide) (by rfl) (pad_cons (pd_lam TB rfl List.mem_cons_self (fun p hp _ => by cases List.mem_singleton.mp hp; rfl) (NdefX.ndef_free (fr := ["_law_tree_here"]) rfl) (fun ok c1 => clo_here (y := "_law_tree_here") (z := "_law_node") ok rfl (fun _ => rfl) (NdefX.nscope_by (N := ["_law_node", "_law_tree_here"]) (ps := ["_law_node"]) rfl) rfl (fun _ _ us hl => match us, hl with | [_], _ => rfl) (fun f A outer s H hu => pe_ix (ix_any (u3 hu)) (pv 1) (pv 0) fun _ _ => rfl))) (pad_cons (pd_n (pv 3)) pad_nil))))
    (psd_cons (psd_set (i := 10) sc_law.nd rfl (by first | exact Or.inl rfl | exact Or.inr rfl) (by decide) (pd_kc (mds := [false, false]) c_walk hr (by decide) (by rfl) (pad_cons (pd_lam TB rfl List.mem_cons_self (fun p hp _ => by cases List.mem_singleton.mp hp; rfl) (NdefX.ndef_free (fr := ["_law_tree_here"]) rfl) (fun ok c1 => clo_here (y := "_law_tree_here") (z := "_law_place") ok rfl (fun _ => rfl) (NdefX.nscope_by (N := ["_law_place", "_law_tree_here"]) (ps := ["_law_place"]) rfl) rfl (fun _ _ us hl => match us, hl with | [_], _ => rfl) (fun f A outer s H hu => pe_ix (ix_any (u3 hu)) (pv 1) (pv 0) fun _ _ => rfl))) (pad_cons (pd_n (pv 3)) pad_nil))))
    (psd_cons (psd_set (i := 11) sc_law.nd rfl (by first | exact Or.inl rfl | exact Or.inr rfl) (by decide) (pd_kn (mds := [true, false]) f_draw hr (by decide) (by rfl) (pad_cons (pd_n (pv 1)) (pad_cons pd_int pad_nil))))
    (psd_cons (psd_for PassesOwn.never rfl (pid_range1 (by rfl) B.z_range (pd_len (by rfl) B.z_len (pd_n (pv 6)))) (pg_nm (i := 12) sc_law.nd rfl (by first | exact Or.inl rfl | exact Or.inr rfl)) (by decide) (psd_cons (psd_if (ptd_not (pt_b (pd_kn (mds := [false, false]) f_alike hr (by decide) (by rfl) (pad_cons (pd_moreC (y := "_law_tree_here") (i := 9) (j := 5) m_more Wc.cl_Walk hr (by decide) (pv 9) rfl rfl rfl) (pad_cons (pd_ix (u10 hr) (pd_n (pv 6)) (pd_n (pv 12))) pad_nil))))) (psd_one (psd_ret pd_bl)) psd_nil)
    (psd_one (psd_if (pwd_and (pt_ge (pd_n (pv 12)) (pd_n (pv 11))) (pwd_and1 (ptd_not (pt_b (pd_kn (mds := [false, false]) f_alike hr (by decide) (by rfl) (pad_cons (pd_moreC (y := "_law_tree_here") (i := 10) (j := 5) m_more Wc.cl_Walk hr (by decide) (pv 10) rfl rfl rfl) (pad_cons (pd_ix (u10 hr) (pd_n (pv 6)) (pd_sub (pd_n (pv 12)) (pd_n (pv 11)))) pad_nil))))))).pt (psd_one (psd_ret pd_bl)) psd_nil))))
    (psd_cons (psd_if (pwd_or (pt_ntN (pd_moreC (y := "_law_tree_here") (i := 9) (j := 5) m_more Wc.cl_Walk hr (by decide) (pv 9) rfl rfl rfl)) (pwd_or1 (pt_ntN (pd_moreC (y := "_law_tree_here") (i := 9) (j := 5) m_more Wc.cl_Walk hr (by decide) (pv 9) rfl rfl rfl)))).pt (psd_one (psd_ret pd_bl)) psd_nil)
    (psd_cons (psd_for PassesOwn.never rfl (pid_range2 (by rfl) B.z_range (pd_max2 rfl (by rfl) B.z_max pd_int (pd_sub (pd_len (by rfl) B.z_len (pd_n (pv 6))) (pd_n (pv 11)))) (pd_len (by rfl) B.z_len (pd_n (pv 6)))) (pg_nm (i := 12) sc_law.nd rfl (by first | exact Or.inl rfl | exact Or.inr rfl)) (by decide) (psd_one (psd_if (ptd_not (pt_b (pd_kn (mds := [false, false]) f_alike hr (by decide) (by rfl) (pad_cons (pd_moreC (y := "_law_tree_here") (i := 10) (j := 5) m_more Wc.cl_Walk hr (by decide) (pv 10) rfl rfl rfl) (pad_cons (pd_ix (u10 hr) (pd_n (pv 6)) (pd_n (pv 12))) pad_nil))))) (psd_one (psd_ret pd_bl)) psd_nil)))
    (psd_one (psd_ret (pd_and (pd_isN (pd_moreC (y := "_law_tree_here") (i := 10) (j := 5) m_more Wc.cl_Walk hr (by decide) (pv 10) rfl rfl rfl)) (pd_one (pd_isN (pd_moreC (y := "_law_tree_here") (i := 9) (j := 5) m_more Wc.cl_Walk hr (by decide) (pv 9) rfl rfl rfl))))))))))))))))))))
    , ?_⟩
  obtain ⟨ns, sd, rfl, hsd, hn, kK⟩ := hS
  generalize hΨ : CloHere (cxOf CX0 P w K mg base ["_law_script", "_law_deck_here", "_law_way", "_law_depth", "_law_most", "_law_tree_here", "_law_due", "_law_labels", "_law_nodes", "_law_one", "_law_other", "_law_behind", "_law_k"] "law" (defScope s_law) f (.ref cA) A outer s H E).nox "_law_tree_here" = Ψ
  simp only [List.map, List.replicate, List.length, List.append, List.cons_append, List.nil_append]
  rw [tdSeq_ap]
  simp only [tdSet, tdCall, taCons, taNil, tdN, List.getElem?_cons_zero, List.getElem?_cons_succ, List.length, passA, T.er, List.map, List.append_nil, true_and, List.set]
  refine ⟨ns, sd, rfl, hsd, hn, fun cells hc => ?_⟩
  simp only [putA, List.set]
  rw [tdSeq_ap]
  simp only [tdSet, tdCall, taCons, taNil, tdN, tdC, List.getElem?_cons_zero, List.getElem?_cons_succ, List.length, passA, T.er, List.map, List.append_nil, true_and, List.set]
  refine ⟨cells, 0, 8, rfl, by decide, by decide, by decide, by decide, hc, fun way c1 w1 w2 e1 => ?_⟩
  simp only [putA, List.set]
  rw [tdSeq_ap]
  simp only [tdSet, tdCall, taCons, taNil, tdN, tdC, List.getElem?_cons_zero, List.getElem?_cons_succ, List.length, passA, T.er, List.map, List.append_nil, true_and, List.set]
  refine ⟨c1, 0 + 1, 7, rfl, by decide, by decide, by decide, by decide, by omega, fun dp c2 d1 d2 e2 => ?_⟩
  simp only [putA, List.set]
  rw [tdSeq_ap]
  simp only [tdSet, tdBin, tdCall, taCons, taNil, tdN, tdC, List.getElem?_cons_zero, List.getElem?_cons_succ, List.length, passA, T.er, List.map, List.append_nil, true_and, List.set]
  refine ⟨c2, 0 + 1 + 1, 12, rfl, by decide, by decide, by decide, by decide, by omega, fun mo c3 m1 m2 e3 => ?_⟩
  simp only [putA, List.set, rdS, T.er, addT_int, bindO]
  rw [tdSeq_ap]
  simp only [tdIfS, tdTest, tdBinE, tdN, tdC, List.getElem?_cons_zero, List.getElem?_cons_succ, rdE, T.er, bindO, eqD_int]
  by_cases hw : way = 0
  · rw [decide_eq_true hw, if_pos rfl, tdSeq_ap]
    simp only [tdSet, tdBin, tdCall, taCons, taNil, tdN, tdC, List.getElem?_cons_zero, List.getElem?_cons_succ, List.length, passA, T.er, List.map, List.append_nil, true_and, List.set]
    refine ⟨c3, 0 + 1 + 1 + 1, 400, rfl, by decide, by decide, by decide, by decide, by omega, fun dq c4 q1 q2 e4 => ?_⟩
    simp only [putA, List.set, rdS, T.er, addT_int, bindO, tdSet, tdBin, tdCall, taCons, taNil, tdN, tdC, List.getElem?_cons_zero, List.getElem?_cons_succ, List.length, passA, List.map, List.append_nil, true_and]
    refine ⟨c4, 0 + 1 + 1 + 1 + 1, 4, rfl, by decide, by decide, by decide, by decide, by omega, fun mq c5 r1 r2 e5 => ?_⟩
    simp only [putA, List.set, rdS, T.er, addT_int, bindO]
    exact law_mid (De := { nx := fun σ => Kc (T.fz D.non) (finM [false] σ), rt := fun t σ => Kc t (finM [false] σ) }) rfl kK (by omega) (by omega) (by omega) (by omega) (by omega) (by decide) (by decide)
  · rw [decide_eq_false hw, if_neg Bool.false_ne_true]
    simp only [tdNext]
    exact law_mid (De := { nx := fun σ => Kc (T.fz D.non) (finM [false] σ), rt := fun t σ => Kc t (finM [false] σ) }) rfl kK (by omega) (by omega) (by omega) (by omega) (by omega) (by decide) (by decide)
end
end K55
namespace K55
open PySem PyProof.Rows L2 M
theorem law_start {P : Program} {w : World} {K : PySem.W.Frag} {H : Hp} {a PA : Addr} {q : Str} {ns : List Int} (hn : ns.length ≤ 63) (hT : H PA = some (.tbl #[])) (hS : SqL K H a (ns.map V.int)) : spOf w ⟨fun _ => none, [(PA, q)]⟩ 1 (S_law K) [.ref a] H (fun v _ => v = .bl true) (fun _ _ _ => False) := by
  have fin : ∀ {Z : Amb} (t : T) (fin : List (Option T)) (v : V) (H' U' G' : Hp), t = .fz (.bl true) → Rep w Z U' G' (some v :: [V.ref a].map some) H' (some t :: fin) → v = .bl true := fun t fin v H' U' G' e R => by
    subst e
    obtain ⟨F, s, _, _⟩ := R.ow
    cases s with
    | so h _ =>
      cases h with
      | fz h => cases h; rfl
  have tab : ∀ G : Hp, TabG (PA, q) G H := fun G => ⟨#[], hT, trivial, fun pos cv h => by simp [codeAmong] at h⟩
  rcases hS with h | h
  · have nPa : PA ≠ a := fun e => by
      rw [e] at hT
      rcases h with h | ⟨o, h⟩ <;> (rw [hT] at h; cases h)
    refine ⟨fun b => if b = a then H b else none, fun b => if b = a then H b else none, [.fz (.lst (ns.map .int))], fun t _ => t = .fz (.bl true), rfl, ⟨⟨fun b o e => (by cases e), fun p hp => ?_⟩, .refl _, fun b o e => ?_, [], .so (F := []) (.fz (.lst (vs := ns.map V.int) ?_ (ints_DRs ns))) .nil, .nil, fun b hb => (by cases hb)⟩, ⟨ns, _, rfl, .inl rfl, hn, fun _ => rfl⟩, fun t f v H' U' G' e _ R => fin t f v H' U' G' e R⟩
    · cases List.mem_singleton.mp hp
      exact ⟨tab _, if_neg nPa⟩
    · split at e
      · exact e
      · cases e
    · rcases h with h | ⟨o, h⟩
      · exact .inl (by dsimp only; rw [if_pos rfl]; exact h)
      · exact .inr ⟨o, by dsimp only; rw [if_pos rfl]; exact h⟩
  · refine ⟨fun _ => none, fun _ => none, [.fz (.opq (KScr K ns))], fun t _ => t = .fz (.bl true), rfl, ⟨⟨fun b o e => (by cases e), fun p hp => ?_⟩, .refl _, fun b o e => (by cases e), [], .so (F := []) (.fz (.opq ⟨a, rfl, h⟩)) .nil, .nil, fun b hb => (by cases hb)⟩, ⟨ns, _, rfl, .inr rfl, hn, fun _ => rfl⟩, fun t f v H' U' G' e _ R => fin t f v H' U' G' e R⟩
    cases List.mem_singleton.mp hp
    exact ⟨tab _, rfl⟩
theorem all_mk {l : PySem.W.OpenLaw} {w : World} {K : PySem.W.Frag} {h : Heap} {mg : Str → Option Value} {fa C cA PA f_init f_turned f_more f_deck f_draw f_tree f_ways f_alike f_law : Addr} (X : K.In h) (G : h.Ns mainGlobals mg) (hfa : mg "law" = some (.ref fa)) (OT : LamX.OwnTab K fa h)
    {od_init an_init od_turned an_turned od_more an_more od_deck an_deck od_draw an_draw od_tree an_tree od_ways an_ways od_alike an_alike od_law an_law : Option Addr} {sl_init sl_turned sl_more sl_deck sl_draw sl_tree sl_ways sl_alike sl_law : Array (Option Value)} {oc_init kV_init dc_init pm_init ct_init oc_turned kV_turned dc_turned pm_turned ct_turned oc_more kV_more dc_more pm_more ct_more oc_deck kV_deck dc_deck pm_deck ct_deck oc_draw kV_draw dc_draw pm_draw ct_draw oc_tree kV_tree dc_tree pm_tree ct_tree oc_ways kV_ways dc_ways pm_ways ct_ways oc_alike kV_alike dc_alike pm_alike ct_alike oc_law kV_law dc_law pm_law ct_law : Value} {cd_init cd_turned cd_more cd_deck cd_draw cd_tree cd_ways cd_alike : Value} {eA : Value} {dA : Option Addr} {vsA : Array Value} {slA : Array (Option Value)}
    (aC : PySem.W.nsIn K mainGlobals "Walk" = some (some (.ref C)))
    (a_init : PySem.W.findIn K (.ref C) "__init__" = some (some (.ref f_init))) (i_init : PySem.W.isFn K (.ref f_init) = true) (l_init : K.lookup f_init = some ⟨oc_init, od_init, .func (PySem.W.fnOf "__init__" "Walk.__init__" (defArgs s_Walk_init) (defBody s_Walk_init) (defScope s_Walk_init) .none kV_init dc_init pm_init an_init cd_init ct_init), sl_init⟩) (c_init : PySem.W.codeIn K cd_init "Walk.__init__" = true) (k_init : PySem.W.keepIn K (.ref f_init) = true)
    (a_turned : PySem.W.findIn K (.ref C) "turned" = some (some (.ref f_turned))) (i_turned : PySem.W.isFn K (.ref f_turned) = true) (l_turned : K.lookup f_turned = some ⟨oc_turned, od_turned, .func (PySem.W.fnOf "turned" "Walk.turned" (defArgs s_Walk_turned) (defBody s_Walk_turned) (defScope s_Walk_turned) .none kV_turned dc_turned pm_turned an_turned cd_turned ct_turned), sl_turned⟩) (c_turned : PySem.W.codeIn K cd_turned "Walk.turned" = true) (k_turned : PySem.W.keepIn K (.ref f_turned) = true)
    (a_more : PySem.W.findIn K (.ref C) "more" = some (some (.ref f_more))) (i_more : PySem.W.isFn K (.ref f_more) = true) (l_more : K.lookup f_more = some ⟨oc_more, od_more, .func (PySem.W.fnOf "more" "Walk.more" (defArgs s_Walk_more) (defBody s_Walk_more) (defScope s_Walk_more) .none kV_more dc_more pm_more an_more cd_more ct_more), sl_more⟩) (c_more : PySem.W.codeIn K cd_more "Walk.more" = true) (k_more : PySem.W.keepIn K (.ref f_more) = true)
    (a_deck : PySem.W.nsIn K mainGlobals "_law_deck" = some (some (.ref f_deck))) (l_deck : K.lookup f_deck = some ⟨oc_deck, od_deck, .func (PySem.W.fnOf "_law_deck" "_law_deck" (defArgs s_deck) (defBody s_deck) (defScope s_deck) .none kV_deck dc_deck pm_deck an_deck cd_deck ct_deck), sl_deck⟩) (c_deck : PySem.W.codeIn K cd_deck "_law_deck" = true) (k_deck : PySem.W.keepIn K (.ref f_deck) = true)
    (a_draw : PySem.W.nsIn K mainGlobals "_law_draw" = some (some (.ref f_draw))) (l_draw : K.lookup f_draw = some ⟨oc_draw, od_draw, .func (PySem.W.fnOf "_law_draw" "_law_draw" (defArgs s_draw) (defBody s_draw) (defScope s_draw) .none kV_draw dc_draw pm_draw an_draw cd_draw ct_draw), sl_draw⟩) (c_draw : PySem.W.codeIn K cd_draw "_law_draw" = true) (k_draw : PySem.W.keepIn K (.ref f_draw) = true)
    (a_tree : PySem.W.nsIn K mainGlobals "_law_tree" = some (some (.ref f_tree))) (l_tree : K.lookup f_tree = some ⟨oc_tree, od_tree, .func (PySem.W.fnOf "_law_tree" "_law_tree" (defArgs s_tree) (defBody s_tree) (defScope s_tree) .none kV_tree dc_tree pm_tree an_tree cd_tree ct_tree), sl_tree⟩) (c_tree : PySem.W.codeIn K cd_tree "_law_tree" = true) (k_tree : PySem.W.keepIn K (.ref f_tree) = true)
    (a_ways : PySem.W.nsIn K mainGlobals "_law_ways" = some (some (.ref f_ways))) (l_ways : K.lookup f_ways = some ⟨oc_ways, od_ways, .func (PySem.W.fnOf "_law_ways" "_law_ways" (defArgs s_ways) (defBody s_ways) (defScope s_ways) .none kV_ways dc_ways pm_ways an_ways cd_ways ct_ways), sl_ways⟩) (c_ways : PySem.W.codeIn K cd_ways "_law_ways" = true) (k_ways : PySem.W.keepIn K (.ref f_ways) = true)
    (a_alike : PySem.W.nsIn K mainGlobals "_law_alike" = some (some (.ref f_alike))) (l_alike : K.lookup f_alike = some ⟨oc_alike, od_alike, .func (PySem.W.fnOf "_law_alike" "_law_alike" (defArgs s_alike) (defBody s_alike) (defScope s_alike) .none kV_alike dc_alike pm_alike an_alike cd_alike ct_alike), sl_alike⟩) (c_alike : PySem.W.codeIn K cd_alike "_law_alike" = true) (k_alike : PySem.W.keepIn K (.ref f_alike) = true)
    (a_law : PySem.W.nsIn K mainGlobals "law" = some (some (.ref f_law))) (l_law : K.lookup f_law = some ⟨oc_law, od_law, .func (PySem.W.fnOf "law" "law" (defArgs s_law) (defBody s_law) (defScope s_law) .none kV_law dc_law pm_law an_law (.ref cA) ct_law), sl_law⟩) (c_law : PySem.W.codeIn K (.ref cA) "law" = true)
    (lA : K.lookup cA = some ⟨eA, dA, .fields vsA, slA⟩) (vA : vsA[11]? = some (.ref PA)) (hA : ∀ K1 : PySem.W.Frag, K1.lookup cA = some ⟨eA, dA, .fields vsA, slA⟩ → PySem.W.codeHdIn K1 cA PA = true) (nPA : K.lookup PA = none)
    (pg : PySem.W.plainGet K C Str.empty = true) (hd : PySem.W.hasDictIn K C = true) (po : PySem.W.plainOver K C = true) (sa : PySem.W.findIn K (.ref C) "__setattr__" = some (some (.builtin "object.__setattr__"))) (mk : PySem.W.makesIn K C = true) (kc : PySem.W.keepIn K (.ref C) = true)
    (n_edges : PySem.W.findIn K (.ref C) "edges" = some none) (n_depth : PySem.W.findIn K (.ref C) "depth" = some none) (n_trail : PySem.W.findIn K (.ref C) "trail" = some none) (n_begun : PySem.W.findIn K (.ref C) "begun" = some none) (n_over : PySem.W.findIn K (.ref C) "over" = some none)
    (z_abs : PySem.W.nsIn K mainGlobals "abs" = some none) (z_len : PySem.W.nsIn K mainGlobals "len" = some none) (z_range : PySem.W.nsIn K mainGlobals "range" = some none) (z_tuple : PySem.W.nsIn K mainGlobals "tuple" = some none) (z_list : PySem.W.nsIn K mainGlobals "list" = some none) (z_zip : PySem.W.nsIn K mainGlobals "zip" = some none) (z_max : PySem.W.nsIn K mainGlobals "max" = some none) (z_isinstance : PySem.W.nsIn K mainGlobals "isinstance" = some none) (z_bool : PySem.W.nsIn K mainGlobals "bool" = some none) : LamX.LawAtS l w K CX0 4 63 "_law_script" mg fa h := by
  have e := hfa.symm.trans (PySem.W.mg_of X G a_law)
  cases e
  have Wc : Cw K C := ⟨⟨pg, hd, po, sa⟩, n_edges, n_depth, n_trail, n_begun, n_over⟩
  have B : Bt mg := ⟨PySem.W.mg_none_of X G z_abs, PySem.W.mg_none_of X G z_len, PySem.W.mg_none_of X G z_range, PySem.W.mg_none_of X G z_tuple, PySem.W.mg_none_of X G z_list, PySem.W.mg_none_of X G z_zip, PySem.W.mg_none_of X G z_max, PySem.W.mg_none_of X G z_isinstance, PySem.W.mg_none_of X G z_bool⟩
  have F_init := fun_mk (st := s_Walk_init) l_init c_init k_init
  have b_init := F_init.binds (ps := ["self", "edges", "depth"]) fun _ _ _ _ _ _ us hl => match us, hl with | [_, _, _], _ => rfl
  have F_turned := fun_mk (st := s_Walk_turned) l_turned c_turned k_turned
  have b_turned := F_turned.binds (ps := ["self"]) fun _ _ _ _ _ _ us hl => match us, hl with | [_], _ => rfl
  have F_more := fun_mk (st := s_Walk_more) l_more c_more k_more
  have b_more := F_more.binds (ps := ["self"]) fun _ _ _ _ _ _ us hl => match us, hl with | [_], _ => rfl
  have F_deck := fun_mk (st := s_deck) l_deck c_deck k_deck
  have b_deck := F_deck.binds (ps := ["_law_script"]) fun _ _ _ _ _ _ us hl => match us, hl with | [_], _ => rfl
  have F_draw := fun_mk (st := s_draw) l_draw c_draw k_draw
  have b_draw := F_draw.binds (ps := ["_law_deck_here", "_law_many"]) fun _ _ _ _ _ _ us hl => match us, hl with | [_, _], _ => rfl
  have F_tree := fun_mk (st := s_tree) l_tree c_tree k_tree
  have b_tree := F_tree.binds (ps := ["_law_deck_here", "_law_depth", "_law_most"]) fun _ _ _ _ _ _ us hl => match us, hl with | [_, _, _], _ => rfl
  have F_ways := fun_mk (st := s_ways) l_ways c_ways k_ways
  have b_ways := F_ways.binds (ps := ["_law_tree_here", "_law_depth"]) fun _ _ _ _ _ _ us hl => match us, hl with | [_, _], _ => rfl
  have F_alike := fun_mk (st := s_alike) l_alike c_alike k_alike
  have b_alike := F_alike.binds (ps := ["_law_found", "_law_due"]) fun _ _ _ _ _ _ us hl => match us, hl with | [_, _], _ => rfl
  have tA := OT cA PA _ _ eA dA vsA slA l_law rfl rfl lA vA
  have hdA := PySem.W.codeHd_of_K X (hA K lA)
  refine ⟨PySem.W.fnOf "law" "law" (defArgs s_law) (defBody s_law) (defScope s_law) .none kV_law dc_law pm_law an_law (.ref cA) ct_law, [(cA, PA)], spOf w ⟨fun _ => none, [(PA, (("law.<locals>." : Str) ++ "<lambda>"))]⟩ 1 (S_law K), fun p hp => ?_, fun p hp => ?_, fun p hp => ?_, fun s u => .of_eq rfl, fun H a ns hn _ hT hS => law_start (P := l.prog) hn (hT _ List.mem_cons_self) hS, fun base KB hns hTB => ?_⟩
  · cases List.mem_singleton.mp hp; exact tA
  · cases List.mem_singleton.mp hp; exact nPA
  · cases List.mem_singleton.mp hp; exact hdA
  · exact ok_law l_law c_law Wc B (hTB _ List.mem_cons_self) rfl
      ⟨f_deck, _, _, ok_deck F_deck B, PySem.W.mg_of X G a_deck, k_deck, b_deck⟩ ⟨f_draw, _, _, ok_draw F_draw B, PySem.W.mg_of X G a_draw, k_draw, b_draw⟩
      ⟨f_tree, _, _, ok_tree F_tree B ⟨f_draw, _, _, ok_draw F_draw B, PySem.W.mg_of X G a_draw, k_draw, b_draw⟩, PySem.W.mg_of X G a_tree, k_tree, b_tree⟩
      ⟨f_ways, _, _, ok_ways F_ways B, PySem.W.mg_of X G a_ways, k_ways, b_ways⟩ ⟨f_alike, _, _, ok_alike F_alike B, PySem.W.mg_of X G a_alike, k_alike, b_alike⟩
      ⟨f_init, _, _, ok_init F_init Wc, ⟨mk, a_init, i_init, kc⟩, PySem.W.mg_of X G aC, b_init⟩
      ⟨f_more, _, _, fun Z kvs _ => ok_more F_more Wc B ⟨f_turned, _, _, ok_turned F_turned Wc B, ⟨a_turned, i_turned, k_turned⟩, b_turned⟩, ⟨a_more, i_more, k_more⟩, b_more⟩
theorem walk {l : PySem.W.OpenLaw} {q : Program} {loose : List Str} {XP : (Str → Option Value) → Heap → Prop} {YP : World → Heap → Prop} {d : DefRec} {K : Params → PySem.W.Frag} (hn : l.most = some 63) (hdf : d.params.defaults = []) (hrec : ((recsOf q).any fun e => e.name == d.name) = true)
    (hY : ∀ (w : World) (h : Heap), YP w h → (K w.params).In h)
    (F : ∀ (w : World) (mg : Str → Option Value) (fa : Addr) (h : Heap), (K w.params).In h → h.Ns mainGlobals mg → mg d.name = some (.ref fa) → LamX.OwnTab (K w.params) fa h → LamX.LawAtS l w (K w.params) CX0 4 63 "_law_script" mg fa h) :
    PySem.W.WalkO q loose XP YP l.row.toRowW d [] (fun f vs => PySem.call f vs) :=
  LamX.walk_ofOwn (n := 63) (k := 4) (x := "_law_script") (CX := fun _ => CX0) hn (by decide) hdf ⟨rfl, by decide, by decide⟩ hrec hY (fun w mg fa h _ KX G hmg OT => F w mg fa h KX G hmg OT) fun _ _ _ _ _ z => z
end K55
open PySem PySem.W PyProof.Rows
set_option maxRecDepth 100000 in
set_option maxHeartbeats 0 in
theorem PySem.Challenge.cw_markpieces_k55_walks_told_holds : PySem.Challenge.rw_markpieces_k55_walks_told.Holds := by
  w_on; o_law; k_head; (case hw => w_witness2)
  k_fill
  refine K55.walk (l := PySem.Challenge.rw_markpieces_k55_walks_told) rfl rfl rfl (fun w h Y => PySem.W.km_in_of Y) ?F
  case F =>
    intro w mg fa h KX G hmg OT
    refine' K55.all_mk KX G hmg OT ?aC ?a_init ?i_init ?l_init ?c_init ?k_init ?a_turned ?i_turned ?l_turned ?c_turned ?k_turned ?a_more ?i_more ?l_more ?c_more ?k_more ?a_deck ?l_deck ?c_deck ?k_deck ?a_draw ?l_draw ?c_draw ?k_draw ?a_tree ?l_tree ?c_tree ?k_tree ?a_ways ?l_ways ?c_ways ?k_ways ?a_alike ?l_alike ?c_alike ?k_alike ?a_law ?l_law ?c_law ?lA ?vA ?hA ?nPA ?pg ?hd ?po ?sa ?mk ?kc ?n_edges ?n_depth ?n_trail ?n_begun ?n_over ?z_abs ?z_len ?z_range ?z_tuple ?z_list ?z_zip ?z_max ?z_isinstance ?z_bool
    (case aC => k_is)
    (case a_init => k_is)
    (case i_init => k_is)
    (case l_init => k_is)
    (case c_init => k_is)
    (case k_init => k_is)
    (case a_turned => k_is)
    (case i_turned => k_is)
    (case l_turned => k_is)
    (case c_turned => k_is)
    (case k_turned => k_is)
    (case a_more => k_is)
    (case i_more => k_is)
    (case l_more => k_is)
    (case c_more => k_is)
    (case k_more => k_is)
    (case a_deck => k_is)
    (case l_deck => k_is)
    (case c_deck => k_is)
    (case k_deck => k_is)
    (case a_draw => k_is)
    (case l_draw => k_is)
    (case c_draw => k_is)
    (case k_draw => k_is)
    (case a_tree => k_is)
    (case l_tree => k_is)
    (case c_tree => k_is)
    (case k_tree => k_is)
    (case a_ways => k_is)
    (case l_ways => k_is)
    (case c_ways => k_is)
    (case k_ways => k_is)
    (case a_alike => k_is)
    (case l_alike => k_is)
    (case c_alike => k_is)
    (case k_alike => k_is)
    (case a_law => k_is)
    (case l_law => k_is)
    (case c_law => k_is)
    (case lA => k_is)
    (case vA => rfl)
    (case hA => intro K1 hK1; unfold PySem.W.codeHdIn; rw [hK1]; rfl)
    (case nPA => first | k_is | rfl)
    (case pg => k_is)
    (case hd => k_is)
    (case po => k_is)
    (case sa => k_is)
    (case mk => k_is)
    (case kc => k_is)
    (case n_edges => k_is)
    (case n_depth => k_is)
    (case n_trail => k_is)
    (case n_begun => k_is)
    (case n_over => k_is)
    (case z_abs => k_is)
    (case z_len => k_is)
    (case z_range => k_is)
    (case z_tuple => k_is)
    (case z_list => k_is)
    (case z_zip => k_is)
    (case z_max => k_is)
    (case z_isinstance => k_is)
    (case z_bool => k_is)
#print axioms PySem.Challenge.cw_markpieces_k55_walks_told_holds
