import PyProof.Rows.All
import Wide.All
import OpenK.AllK
import Wide.FinOn
import HandS.ForMost
import HandS.Star
import HandS.DictComp
import HandS.Deep
import HandS.TupAny
import HandS.Flow
import HandS.Style
import HandS.Lambda
import HandS.SetKeys
import KE.SortData
import HandS.IsInst
import HandS.Zip
import HandS.Text
import KE.KDictSum
import KE.KDictItemsList
import HandS.ListItems
import HandS.DictTup
import KE.KDictPairs
import KE.KMinKey
import HandS.SortKw
import HandS.Set
import HandS.SetFor
import HandS.Strs
import HandS.ExcInit
import HandS.ExcSuper
import HandS.ExcField
import HandS.ExcIs
import HandS.WordsExc
import KE.KExcSuper
import KE.KExcInit
import KE.KSuper
import HandS.Words
import PySem.Challenge.RW_masksmoved_k27_whole_right_shifts_settle
import HandS.Head2
import HandS.HeadHook4
import HandS.HeadNt
import HandS.HeadWalk
set_option Elab.async false
set_option linter.all false
set_option maxRecDepth 100000
section
/-! The data layer: readings over plain data (PyData) by slot. -/
namespace L2.DL
open L2 PySem PySem.Spec PyProof.Rows

/-- the drawn-number list's place -/
structure Tb where
  u : Option Addr
/-- the tables of code objects that may grow -/
class TabsOf where
  tt : List (Addr × Str)
variable [TabsOf]
/-- no table -/
def NT (o : HO) : Prop := ∀ ps, o ≠ .tbl ps
/-- nothing but maybe a table stands there -/
def New (H : Hp) (p : Addr) : Prop := ∀ o, NT o → H p ≠ some o
theorem new_none {H : Hp} {p : Addr} (h : H p = none) : New H p := fun o _ e => by rw [h] at e; cases e
theorem not_new {H : Hp} {p : Addr} {o : HO} (nt : NT o) (h : H p = some o) : ¬ New H p := fun n => n o nt h
theorem nt_lst {xs : List V} : NT (.lst xs) := fun _ h => by cases h
theorem nt_dK {xs : List (Key × V)} : NT (.dK xs) := fun _ h => by cases h
theorem nt_frz {o : Obj} {u : HO} : NT (.frz o u) := fun _ h => by cases h
/-- the drawn-number list, as data: nothing is known of it (no dict of ours has such a key) -/
def tubD : PyData := .dict [(.none, .none)]
/-- the script, as data of its own -/
def scrD (ns : List Int) : PyData := .dict [(.none, .list (ns.map .int))]
/-- a dict that a loop walks, as data of its own -/
def fzD (ds : List (PyData × PyData)) : PyData := .dict [(.none, .dict ds)]
def keyD : Key → PyData
  | .inl i => .int i
  | .inr x => .str x

def KList (K : PySem.W.Frag) (a : Addr) (xs : List V) : Prop := ∃ (o : Obj) (its : Array Value) (n : Nat), K.lookup a = some o ∧ o.cls = .type "list" ∧ o.dict = none ∧ o.data = .seq its n ∧ its.size ≤ sizeLine ∧ Vals xs its.toList
/-- a list at a that lies outside Z (or is the module's own) -/
def LsZ (K : PySem.W.Frag) (Z : Addr → Prop) (H : Hp) (a : Addr) (xs : List V) : Prop := (¬ Z a ∧ Rd H a (.lst xs)) ∨ KList K a xs
theorem LsZ.sq {K : PySem.W.Frag} {Z : Addr → Prop} {H : Hp} {a : Addr} {xs : List V} (h : LsZ K Z H a xs) : SqL K H a xs := by
  rcases h with h | h
  · exact .inl h.2
  · exact .inr h

mutual
inductive Rep (K : PySem.W.Frag) (Z : Addr → Prop) (T : Tb) (H : Hp) : V → PyData → Prop
  | non : Rep K Z T H .non .none
  | bl (b : Bool) : Rep K Z T H (.bl b) (.bool b)
  | int (i : Int) : Rep K Z T H (.int i) (.int i)
  | str (x : Str) : Rep K Z T H (.str x) (.str x)
  | lst {a : Addr} {xs : List V} {ds : List PyData} : ¬ Z a → H a = some (.lst xs) → RepAll K Z T H xs ds → Rep K Z T H (.ref a) (.list ds)
  | tup {a : Addr} {o : Obj} {xs : List V} {ds : List PyData} : ¬ Z a → H a = some (.frz o (.tup xs)) → o.dict = none → RepAll K Z T H xs ds → Rep K Z T H (.ref a) (.tuple ds)
  | dic {a : Addr} {kvs : List (Key × V)} {ds : List (PyData × PyData)} : ¬ Z a → Rd H a (.dK kvs) → RepKV K Z T H kvs ds → Rep K Z T H (.ref a) (.dict ds)
  | fzd {a : Addr} {o : Obj} {kvs : List (Key × V)} {ds : List (PyData × PyData)} : ¬ Z a → H a = some (.frz o (.dK kvs)) → RepKV K Z T H kvs ds → Rep K Z T H (.ref a) (fzD ds)
  | tub {a : Addr} : T.u = some a → Rep K Z T H (.ref a) tubD
  | scr {a : Addr} {ns : List Int} : LsZ K Z H a (ns.map V.int) → Rep K Z T H (.ref a) (scrD ns)
inductive RepAll (K : PySem.W.Frag) (Z : Addr → Prop) (T : Tb) (H : Hp) : List V → List PyData → Prop
  | nil : RepAll K Z T H [] []
  | cons {v : V} {vs : List V} {d : PyData} {ds : List PyData} : Rep K Z T H v d → RepAll K Z T H vs ds → RepAll K Z T H (v :: vs) (d :: ds)
inductive RepKV (K : PySem.W.Frag) (Z : Addr → Prop) (T : Tb) (H : Hp) : List (Key × V) → List (PyData × PyData) → Prop
  | nil : RepKV K Z T H [] []
  | cons {k : Key} {v : V} {r : List (Key × V)} {d : PyData} {ds : List (PyData × PyData)} : Rep K Z T H v d → RepKV K Z T H r ds → RepKV K Z T H ((k, v) :: r) ((keyD k, d) :: ds)
end

theorem rd_some {H : Hp} {a : Addr} {u : HO} (nu : NT u) (r : Rd H a u) : ¬ New H a := by
  rcases r with r | ⟨o, r⟩
  · exact not_new nu r
  · exact not_new nt_frz r
theorem rd_keep {H H' : Hp} {a : Addr} {u : HO} (nu : NT u) (k : ∀ o, NT o → H a = some o → H' a = some o) (r : Rd H a u) : Rd H' a u := by
  rcases r with r | ⟨o, r⟩
  · exact .inl (k _ nu r)
  · exact .inr ⟨o, k _ nt_frz r⟩

section
variable {K : PySem.W.Frag} {Z Z' : Addr → Prop} {T : Tb} {H H' : Hp}
theorem LsZ.keep {a : Addr} {xs : List V} (k : ∀ a o, ¬ Z a → NT o → H a = some o → H' a = some o) (zz : ∀ a, ¬ Z a → ¬ New H a → ¬ Z' a) (r : LsZ K Z H a xs) : LsZ K Z' H' a xs := by
  rcases r with ⟨n, r⟩ | r
  · exact .inl ⟨zz _ n (rd_some nt_lst r), rd_keep nt_lst (fun o => k _ o n) r⟩
  · exact .inr r
mutual
/-- objects outside Z are kept, and Z' (the new forbidden part) is avoided -/
theorem Rep.keep (k : ∀ a o, ¬ Z a → NT o → H a = some o → H' a = some o) (zz : ∀ a, ¬ Z a → ¬ New H a → ¬ Z' a) : ∀ {v d}, Rep K Z T H v d → Rep K Z' T H' v d
  | _, _, .non => .non
  | _, _, .bl b => .bl b
  | _, _, .int i => .int i
  | _, _, .str x => .str x
  | _, _, .lst n s r => .lst (zz _ n (not_new nt_lst s)) (k _ _ n nt_lst s) (RepAll.keep k zz r)
  | _, _, .tup n s d r => .tup (zz _ n (not_new nt_frz s)) (k _ _ n nt_frz s) d (RepAll.keep k zz r)
  | _, _, .dic n s r => .dic (zz _ n (rd_some nt_dK s)) (rd_keep nt_dK (fun o => k _ o n) s) (RepKV.keep k zz r)
  | _, _, .fzd n s r => .fzd (zz _ n (not_new nt_frz s)) (k _ _ n nt_frz s) (RepKV.keep k zz r)
  | _, _, .tub e => .tub e
  | _, _, .scr e => .scr (e.keep k zz)
theorem RepAll.keep (k : ∀ a o, ¬ Z a → NT o → H a = some o → H' a = some o) (zz : ∀ a, ¬ Z a → ¬ New H a → ¬ Z' a) : ∀ {vs ds}, RepAll K Z T H vs ds → RepAll K Z' T H' vs ds
  | _, _, .nil => .nil
  | _, _, .cons a b => .cons (Rep.keep k zz a) (RepAll.keep k zz b)
theorem RepKV.keep (k : ∀ a o, ¬ Z a → NT o → H a = some o → H' a = some o) (zz : ∀ a, ¬ Z a → ¬ New H a → ¬ Z' a) : ∀ {vs ds}, RepKV K Z T H vs ds → RepKV K Z' T H' vs ds
  | _, _, .nil => .nil
  | _, _, .cons a b => .cons (Rep.keep k zz a) (RepKV.keep k zz b)
end

/-- all objects but the drawn-number list are kept -/
structure Ext (T : Tb) (H H' : Hp) : Prop where
  kp : ∀ a o, T.u ≠ some a → NT o → H a = some o → H' a = some o
theorem Ext.refl : Ext T H H := ⟨fun _ _ _ _ e => e⟩
theorem Ext.trans {H1 H2 : Hp} (a : Ext T H H1) (b : Ext T H1 H2) : Ext T H H2 := ⟨fun c o n m e => b.kp c o n m (a.kp c o n m e)⟩
theorem Ext.sm (x : Ext T H H') {a : Addr} (n : T.u ≠ some a) (h : ¬ New H a) : ¬ New H' a := fun n' => h fun o nt e => n' o nt (x.kp a o n nt e)
/-- all objects are kept -/
def Grow (H H' : Hp) : Prop := ∀ a o, H a = some o → H' a = some o
theorem Grow.refl : Grow H H := fun _ _ e => e
theorem Grow.trans {H1 H2 : Hp} (a : Grow H H1) (b : Grow H1 H2) : Grow H H2 := fun c o e => b c o (a c o e)
theorem Grow.ext (g : Grow H H') : Ext T H H' := ⟨fun a o _ _ e => g a o e⟩
theorem Grow.new {p : Addr} {o : HO} (h : H p = none) : Grow H (upd H p o) := fun a u e => by
  rw [upd_ne (ne_of_none e h)]; exact e
theorem Rep.ext (tz : ∀ a, T.u = some a → Z a) (x : Ext T H H') {v : V} {d : PyData} (r : Rep K Z T H v d) : Rep K Z T H' v d :=
  r.keep (fun a o n => x.kp a o fun e => n (tz a e)) fun _ n _ => n
theorem RepAll.ext (tz : ∀ a, T.u = some a → Z a) (x : Ext T H H') {v : List V} {d : List PyData} (r : RepAll K Z T H v d) : RepAll K Z T H' v d :=
  r.keep (fun a o n => x.kp a o fun e => n (tz a e)) fun _ n _ => n
theorem RepKV.ext (tz : ∀ a, T.u = some a → Z a) (x : Ext T H H') {v : List (Key × V)} {d : List (PyData × PyData)} (r : RepKV K Z T H v d) : RepKV K Z T H' v d :=
  r.keep (fun a o n => x.kp a o fun e => n (tz a e)) fun _ n _ => n
theorem Rep.grow (x : Grow H H') {v : V} {d : PyData} (r : Rep K Z T H v d) : Rep K Z T H' v d := r.keep (fun a o _ _ => x a o) fun _ n _ => n
theorem RepAll.grow (x : Grow H H') {v : List V} {d : List PyData} (r : RepAll K Z T H v d) : RepAll K Z T H' v d := r.keep (fun a o _ _ => x a o) fun _ n _ => n
theorem RepKV.grow (x : Grow H H') {v : List (Key × V)} {d : List (PyData × PyData)} (r : RepKV K Z T H v d) : RepKV K Z T H' v d := r.keep (fun a o _ _ => x a o) fun _ n _ => n
/-- fewer forbidden -/
theorem Rep.less (l : ∀ a, Z' a → Z a) {v : V} {d : PyData} (r : Rep K Z T H v d) : Rep K Z' T H v d := r.keep (fun _ _ _ _ e => e) fun _ n _ z => n (l _ z)
theorem RepAll.less (l : ∀ a, Z' a → Z a) {v : List V} {d : List PyData} (r : RepAll K Z T H v d) : RepAll K Z' T H v d := r.keep (fun _ _ _ _ e => e) fun _ n _ z => n (l _ z)
theorem RepKV.less (l : ∀ a, Z' a → Z a) {v : List (Key × V)} {d : List (PyData × PyData)} (r : RepKV K Z T H v d) : RepKV K Z' T H v d := r.keep (fun _ _ _ _ e => e) fun _ n _ z => n (l _ z)

/-- and p is forbidden too -/
def Zp (Z : Addr → Prop) (p : Addr) : Addr → Prop := fun a => Z a ∨ a = p
theorem RepAll.avoid {p : Addr} {o : HO} (h : H p = none) {v : List V} {d : List PyData} (r : RepAll K Z T H v d) : RepAll K (Zp Z p) T (upd H p o) v d :=
  r.keep (fun a u _ _ e => Grow.new h a u e) fun a n e z => z.elim n fun q => e (q ▸ new_none h)
theorem RepKV.avoid {p : Addr} {o : HO} (h : H p = none) {v : List (Key × V)} {d : List (PyData × PyData)} (r : RepKV K Z T H v d) : RepKV K (Zp Z p) T (upd H p o) v d :=
  r.keep (fun a u _ _ e => Grow.new h a u e) fun a n e z => z.elim n fun q => e (q ▸ new_none h)
/-- a list or dict at a, whatever Z says of a itself -/
def TopAt (K : PySem.W.Frag) (Z : Addr → Prop) (T : Tb) (H : Hp) (a : Addr) (d : PyData) : Prop :=
  (∃ xs ds, d = .list ds ∧ H a = some (.lst xs) ∧ RepAll K Z T H xs ds) ∨ ∃ kvs ds, d = .dict ds ∧ H a = some (.dK kvs) ∧ RepKV K Z T H kvs ds
theorem TopAt.rep {a : Addr} {d : PyData} (t : TopAt K Z T H a d) (n : ¬ Z a) : Rep K Z T H (.ref a) d := by
  rcases t with ⟨xs, ds, rfl, e, r⟩ | ⟨kvs, ds, rfl, e, r⟩
  · exact .lst n e r
  · exact .dic n (.inl e) r
theorem TopAt.less (l : ∀ a, Z' a → Z a) {a : Addr} {d : PyData} (t : TopAt K Z T H a d) : TopAt K Z' T H a d := by
  rcases t with ⟨xs, ds, rfl, e, r⟩ | ⟨kvs, ds, rfl, e, r⟩
  · exact .inl ⟨xs, ds, rfl, e, r.less l⟩
  · exact .inr ⟨kvs, ds, rfl, e, r.less l⟩
theorem TopAt.sm {a : Addr} {d : PyData} (t : TopAt K Z T H a d) : ¬ New H a := by
  rcases t with ⟨xs, ds, rfl, e, r⟩ | ⟨kvs, ds, rfl, e, r⟩
  · exact not_new nt_lst e
  · exact not_new nt_dK e
theorem TopAt.ext (tz : ∀ a, T.u = Option.some a → Z a) (x : Ext T H H') {a : Addr} {d : PyData} (n : T.u ≠ Option.some a) (t : TopAt K Z T H a d) : TopAt K Z T H' a d := by
  rcases t with ⟨xs, ds, rfl, e, r⟩ | ⟨kvs, ds, rfl, e, r⟩
  · exact .inl ⟨xs, ds, rfl, x.kp _ _ n nt_lst e, r.ext tz x⟩
  · exact .inr ⟨kvs, ds, rfl, x.kp _ _ n nt_dK e, r.ext tz x⟩
theorem TopAt.keep (k : ∀ a o, ¬ Z a → NT o → H a = Option.some o → H' a = Option.some o) (zz : ∀ a, ¬ Z a → ¬ New H a → ¬ Z' a) {a : Addr} {d : PyData} (e : H' a = H a) (t : TopAt K Z T H a d) : TopAt K Z' T H' a d := by
  rcases t with ⟨xs, ds, rfl, q, r⟩ | ⟨kvs, ds, rfl, q, r⟩
  · exact .inl ⟨xs, ds, rfl, e.trans q, r.keep k zz⟩
  · exact .inr ⟨kvs, ds, rfl, e.trans q, r.keep k zz⟩

/-- data, its own outermost list or dict maybe forbidden: to be read at once -/
def RepT (K : PySem.W.Frag) (Z : Addr → Prop) (T : Tb) (H : Hp) (v : V) (d : PyData) : Prop :=
  Rep K Z T H v d ∨ ∃ a, v = .ref a ∧ T.u ≠ some a ∧ TopAt K Z T H a d
inductive RepTs (K : PySem.W.Frag) (Z : Addr → Prop) (T : Tb) (H : Hp) : List V → List PyData → Prop
  | nil : RepTs K Z T H [] []
  | cons {v : V} {vs : List V} {d : PyData} {ds : List PyData} : RepT K Z T H v d → RepTs K Z T H vs ds → RepTs K Z T H (v :: vs) (d :: ds)
theorem RepT.ext (tz : ∀ a, T.u = some a → Z a) (x : Ext T H H') {v : V} {d : PyData} (r : RepT K Z T H v d) : RepT K Z T H' v d := by
  rcases r with r | ⟨a, e, n, t⟩
  · exact .inl (r.ext tz x)
  · exact .inr ⟨a, e, n, t.ext tz x n⟩
theorem RepTs.ext (tz : ∀ a, T.u = some a → Z a) (x : Ext T H H') : ∀ {v : List V} {d : List PyData}, RepTs K Z T H v d → RepTs K Z T H' v d
  | _, _, .nil => .nil
  | _, _, .cons a b => .cons (a.ext tz x) (RepTs.ext tz x b)
theorem RepAll.ts : ∀ {v : List V} {d : List PyData}, RepAll K Z T H v d → RepTs K Z T H v d
  | _, _, .nil => .nil
  | _, _, .cons a b => .cons (.inl a) (RepAll.ts b)
theorem RepAll.length : ∀ {v : List V} {d : List PyData}, RepAll K Z T H v d → v.length = d.length
  | _, _, .nil => rfl
  | _, _, .cons a b => by rw [List.length_cons, List.length_cons, RepAll.length b]
theorem RepKV.length : ∀ {v : List (Key × V)} {d : List (PyData × PyData)}, RepKV K Z T H v d → v.length = d.length
  | _, _, .nil => rfl
  | _, _, .cons a b => by rw [List.length_cons, List.length_cons, RepKV.length b]
theorem RepAll.get : ∀ {v : List V} {d : List PyData} {i : Nat} {e : PyData}, RepAll K Z T H v d → d[i]? = some e → ∃ x, v[i]? = some x ∧ Rep K Z T H x e
  | _, _, 0, e, .cons a b, h => by
    simp at h; subst h; exact ⟨_, rfl, a⟩
  | _, _, i + 1, e, .cons a b, h => by
    obtain ⟨x, h1z, h2z⟩ := RepAll.get (i := i) (e := e) b (by simpa using h)
    exact ⟨x, by simpa using h1z, h2z⟩
  | _, _, i, e, .nil, h => by simp at h
theorem RepAll.get' : ∀ {v : List V} {d : List PyData} {i : Nat} {x : V}, RepAll K Z T H v d → v[i]? = some x → ∃ e, d[i]? = some e ∧ Rep K Z T H x e
  | _, _, 0, e, .cons a b, h => by
    simp at h; subst h; exact ⟨_, rfl, a⟩
  | _, _, i + 1, e, .cons a b, h => by
    obtain ⟨x, h1z, h2z⟩ := RepAll.get' (i := i) (x := e) b (by simpa using h)
    exact ⟨x, by simpa using h1z, h2z⟩
  | _, _, i, e, .nil, h => by simp at h
theorem RepAll.append : ∀ {v v' : List V} {d d' : List PyData}, RepAll K Z T H v d → RepAll K Z T H v' d' → RepAll K Z T H (v ++ v') (d ++ d')
  | _, _, _, _, .nil, s => s
  | _, _, _, _, .cons a b, s => .cons a (RepAll.append b s)
theorem RepAll.drop : ∀ {v : List V} {d : List PyData} (n : Nat), RepAll K Z T H v d → RepAll K Z T H (v.drop n) (d.drop n)
  | _, _, 0, r => by simpa using r
  | _, _, n + 1, .nil => by simpa using .nil
  | _, _, n + 1, .cons a b => by simpa using RepAll.drop n b
theorem RepAll.take : ∀ {v : List V} {d : List PyData} (n : Nat), RepAll K Z T H v d → RepAll K Z T H (v.take n) (d.take n)
  | _, _, 0, r => by simpa using .nil
  | _, _, n + 1, .nil => by simpa using .nil
  | _, _, n + 1, .cons a b => by simpa using .cons a (RepAll.take n b)
theorem RepAll.set : ∀ {v : List V} {d : List PyData} (n : Nat) {x : V} {e : PyData}, RepAll K Z T H v d → Rep K Z T H x e → RepAll K Z T H (v.set n x) (d.set n e)
  | _, _, _, _, _, .nil, _ => by simpa using .nil
  | _, _, 0, _, _, .cons a b, r => by simpa using .cons r b
  | _, _, n + 1, _, _, .cons a b, r => by simpa using .cons a (RepAll.set n b r)
theorem RepAll.erase : ∀ {v : List V} {d : List PyData} (n : Nat), RepAll K Z T H v d → RepAll K Z T H (v.eraseIdx n) (d.eraseIdx n)
  | _, _, _, .nil => by simpa using .nil
  | _, _, 0, .cons a b => by simpa using b
  | _, _, n + 1, .cons a b => by simpa using .cons a (RepAll.erase n b)

/-! what a reader gets -/
theorem RepT.int {v : V} {i : Int} (r : RepT K Z T H v (.int i)) : v = .int i := by
  rcases r with r | ⟨a, e, n, t⟩
  · cases r; rfl
  · rcases t with ⟨xs, ds, q, _⟩ | ⟨kvs, ds, q, _⟩ <;> cases q
theorem RepT.str {v : V} {i : Str} (r : RepT K Z T H v (.str i)) : v = .str i := by
  rcases r with r | ⟨a, e, n, t⟩
  · cases r; rfl
  · rcases t with ⟨xs, ds, q, _⟩ | ⟨kvs, ds, q, _⟩ <;> cases q
theorem RepT.bl {v : V} {i : Bool} (r : RepT K Z T H v (.bool i)) : v = .bl i := by
  rcases r with r | ⟨a, e, n, t⟩
  · cases r; rfl
  · rcases t with ⟨xs, ds, q, _⟩ | ⟨kvs, ds, q, _⟩ <;> cases q
theorem RepT.non {v : V} (r : RepT K Z T H v .none) : v = .non := by
  rcases r with r | ⟨a, e, n, t⟩
  · cases r; rfl
  · rcases t with ⟨xs, ds, q, _⟩ | ⟨kvs, ds, q, _⟩ <;> cases q
theorem RepT.list {v : V} {ds : List PyData} (r : RepT K Z T H v (.list ds)) : ∃ a xs, v = .ref a ∧ H a = some (.lst xs) ∧ RepAll K Z T H xs ds := by
  rcases r with r | ⟨a, e, n, t⟩
  · cases r with
    | lst n s r => exact ⟨_, _, rfl, s, r⟩
  · rcases t with ⟨xs, ds, q, e1, r⟩ | ⟨kvs, ds, q, _⟩
    · cases q; exact ⟨a, xs, e, e1, r⟩
    · cases q
theorem RepT.tuple {v : V} {ds : List PyData} (r : RepT K Z T H v (.tuple ds)) : ∃ a xs, v = .ref a ∧ Rd H a (.tup xs) ∧ RepAll K Z T H xs ds := by
  rcases r with r | ⟨a, e, n, t⟩
  · cases r with
    | tup n s d r => exact ⟨_, _, rfl, .inr ⟨_, s⟩, r⟩
  · rcases t with ⟨xs, ds, q, e1, r⟩ | ⟨kvs, ds, q, _⟩ <;> cases q
/-- the tuple's object has no dict of its own -/
theorem RepT.tupleF {v : V} {ds : List PyData} (r : RepT K Z T H v (.tuple ds)) : ∃ a o xs, v = .ref a ∧ H a = some (.frz o (.tup xs)) ∧ o.dict = none ∧ RepAll K Z T H xs ds := by
  rcases r with r | ⟨a, e, n, t⟩
  · cases r with
    | tup n s d r => exact ⟨_, _, _, rfl, s, d, r⟩
  · rcases t with ⟨xs, ds, q, e1, r⟩ | ⟨kvs, ds, q, _⟩ <;> cases q
theorem RepT.dict {v : V} {ds : List (PyData × PyData)} (r : RepT K Z T H v (.dict ds)) (nt : ∀ x, ds ≠ [(.none, x)]) : ∃ a kvs, v = .ref a ∧ Rd H a (.dK kvs) ∧ RepKV K Z T H kvs ds := by
  generalize hd : PyData.dict ds = dd at r
  rcases r with r | ⟨a, e, n, t⟩
  · cases r with
    | dic n s r => cases hd; exact ⟨_, _, rfl, s, r⟩
    | tub e => cases hd; exact absurd rfl (nt _)
    | scr e => cases hd; exact absurd rfl (nt _)
    | fzd n s r => cases hd; exact absurd rfl (nt _)
    | _ => cases hd
  · rcases t with ⟨xs, ds, q, e1, r⟩ | ⟨kvs, ds, q, e1, r⟩
    · rw [q] at hd; cases hd
    · rw [q] at hd; cases hd; exact ⟨a, kvs, e, .inl e1, r⟩
end

/-! ### the frame's data -/
inductive Sl where
  | no
  | dat (d : PyData)
  /-- a list or dict that nobody else holds: it may be changed -/
  | own (d : PyData)

/-- the drawn-number list after at most n small draws -/
structure TubOk (T : Tb) (n : Nat) (H : Hp) : Prop where
  go : ∀ a, T.u = some a → ∃ x y z : Int, H a = some (.lst [.int x, .int y, .int z]) ∧ 0 ≤ x ∧ 0 ≤ y ∧ y < 2 ^ 62 ∧ 0 ≤ z ∧ z ≤ n
  tb : LamX.Tabs TabsOf.tt H
/-- the tables stay where something else is changed -/
theorem tabs_upd {T : List (Addr × Str)} {H : Hp} {a : Addr} {o : HO} (t : LamX.Tabs T H) (h : ∀ u, H a = some u → NT u ∧ ∀ φ, u ≠ .ext φ) : LamX.Tabs T (upd H a o) := fun p hp => by
  obtain ⟨ps, h1, h2, h3⟩ := t p hp
  refine ⟨ps, ?_, h2, fun pos cv hc => ?_⟩
  · rw [upd_ne fun e => (h _ (by rw [← e]; exact h1)).1 ps rfl]; exact h1
  · obtain ⟨c, e1, e2⟩ := h3 pos cv hc
    exact ⟨c, e1, by rw [upd_ne fun e => (h _ (by rw [← e]; exact e2)).2 _ rfl]; exact e2⟩

/-- what is fixed while a def runs: the written part, the addresses that no data may touch, the drawn-number list, the heap at the entry, values held by loops -/
structure Ct where
  Z : Addr → Prop
  T : Tb
  H0 : Hp
  ex : List (V × PyData)
  lim : Nat
abbrev Own := Nat → Option Addr
def Ct.av (c : Ct) (O : Own) : Addr → Prop := fun a => c.Z a ∨ ∃ i, O i = some a

structure EnvOk (K : PySem.W.Frag) (c : Ct) (O : Own) (n : Nat) (H : Hp) (σ : St) (env : List Sl) : Prop where
  len : σ.length = env.length
  le : env.length ≤ c.lim
  fin : ∀ t, c.lim ≤ t → O t = none
  tz : ∀ a, c.T.u = some a → c.Z a
  z0 : ∀ a, c.Z a → ¬ New c.H0 a
  ext : Ext c.T c.H0 H
  tub : TubOk c.T n H
  o0 : ∀ i a, O i = some a → New c.H0 a ∧ ¬ New H a
  inj : ∀ i j a, O i = some a → O j = some a → i = j
  cons : ∀ (i : Nat) (a : Addr), i < env.length → O i = some a → ∃ d, env[i]? = some (Sl.own d)
  dat : ∀ (i : Nat) (d : PyData), env[i]? = some (Sl.dat d) → ∃ v : V, σ[i]? = some (some v) ∧ Rep K (c.av O) c.T H v d
  own : ∀ (i : Nat) (d : PyData), env[i]? = some (Sl.own d) → ∃ a : Addr, O i = some a ∧ σ[i]? = some (some (.ref a)) ∧ TopAt K (c.av O) c.T H a d
  ex : ∀ p ∈ c.ex, Rep K (c.av O) c.T H p.1 p.2

section
variable {K : PySem.W.Frag} {c : Ct} {O : Own} {n n' : Nat} {H H' : Hp} {σ : St} {env : List Sl}
theorem EnvOk.atz (E : EnvOk K c O n H σ env) : ∀ a, c.T.u = some a → c.av O a := fun a e => .inl (E.tz a e)
theorem EnvOk.notT (E : EnvOk K c O n H σ env) {i : Nat} {a : Addr} (h : O i = some a) : c.T.u ≠ some a := fun e =>
  E.z0 a (E.tz a e) (E.o0 i a h).1
theorem EnvOk.notZ (E : EnvOk K c O n H σ env) {i : Nat} {a : Addr} (h : O i = some a) : ¬ c.Z a := fun e => E.z0 a e (E.o0 i a h).1
theorem EnvOk.al (E : EnvOk K c O n H σ env) : ∀ a, c.av O a → ¬ New H a := fun a h => by
  rcases h with h | ⟨i, h⟩
  · by_cases e : c.T.u = some a
    · obtain ⟨x, y, z, q, _⟩ := E.tub.go a e
      exact not_new nt_lst q
    · have := E.z0 a h
      exact E.ext.sm e this
  · exact (E.o0 i a h).2
theorem EnvOk.extend (E : EnvOk K c O n H σ env) (x : Ext c.T H H') (t : TubOk c.T n' H') : EnvOk K c O n' H' σ env where
  len := E.len
  le := E.le
  fin := E.fin
  tz := E.tz
  z0 := E.z0
  ext := E.ext.trans x
  tub := t
  o0 := fun i a h => ⟨(E.o0 i a h).1, x.sm (E.notT h) (E.o0 i a h).2⟩
  inj := E.inj
  cons := E.cons
  dat := fun i d h => let ⟨v, e, r⟩ := E.dat i d h; ⟨v, e, r.ext E.atz x⟩
  own := fun i d h => let ⟨a, e, q, r⟩ := E.own i d h; ⟨a, e, q, r.ext E.atz x (E.notT e)⟩
  ex := fun p h => (E.ex p h).ext E.atz x
theorem TubOk.grow {T : Tb} (t : TubOk T n H) (g : Grow H H') : TubOk T n H' := ⟨fun a e => by
  obtain ⟨x, y, z, q, r⟩ := t.go a e
  exact ⟨x, y, z, g _ _ q, r⟩, t.tb.ext g⟩
theorem EnvOk.grow (E : EnvOk K c O n H σ env) (g : Grow H H') : EnvOk K c O n H' σ env := E.extend g.ext (E.tub.grow g)
end
end L2.DL
end

section
/-! The data layer t: new tuples, known to have no dict of their own. -/
namespace L2.DL
open PySem PySem.Spec PySem.Calls PyProof.Rows L2
variable [TabsOf]

/-- a tuple, its whole object known -/
def ftO (its : List Value) (xs : List V) : HO := .frz { cls := .type "tuple", data := .seq its.toArray } (.tup xs)
theorem ftO_ok {P : Program} {w : World} {H : Hp} {h : Heap} {a : Addr} {its : List Value} {xs : List V} (z : xs.length ≤ sizeLine) (r : Vals xs its) (e : h.get? a = some { cls := .type "tuple", data := .seq its.toArray }) : ObjOk P w H h a (ftO its xs) :=
  ⟨e, z, its, r, ⟨_, e, rfl, _, rfl⟩⟩
section
variable {X : Cx} {es : List Expr} {t : TA} {pos : Pos}
theorem ep_new {pins : List (Addr × Obj)} {σ : St} {H : Hp} {s : Shared} {Q : VK} {its : List Value} {xs : List V} (I : Inv X pins σ H s) (z : xs.length ≤ sizeLine) (r : Vals xs its) (q : ∀ p, H p = none → Q (.ref p) (upd H p (ftO its xs))) :
    EP X pins σ Q (.ref s.heap.objs.size) { s with heap := s.heap.push { cls := .type "tuple", data := .seq its.toArray } } :=
  ⟨.ref s.heap.objs.size, _, I.laid (t' := s.toks) (fun _ _ e => Heap.get?_push_of_some _ e) (Nat.le_refl _) (ftO_ok z r (Heap.get?_push_size _ rfl)), rfl, q _ (I.hok.fresh (Nat.le_refl _))⟩
/-- (a, b, ..) -/
def tTupZ (t : TA) : TE := fun σ H Q => t σ H fun xs H1 => xs.length ≤ sizeLine ∧ ∀ p its, H1 p = none → Q (.ref p) (upd H1 p (ftO its xs))
theorem pe_tupZ {x1} (h : PA X es t) : PE X (.Tuple es x1 pos) (tTupZ t) :=
  ⟨fun pins s σ H Q I hq => wpAny_Tuple_spliced (thn (h.run pos pins s σ H _ I hq) fun us s1 ⟨xs, H1, I1, r, z, q⟩ => ⟨by rw [← r.length]; exact z, ep_new I1 z r fun p hp => q p us hp⟩)⟩
/-- t + u -/
def rCatZ (K : PySem.W.Frag) : R2 := fun x y H Q => ∃ a b xs ys, x = .ref a ∧ y = .ref b ∧ SqT K H a xs ∧ SqT K H b ys ∧ xs.length + ys.length ≤ sizeLine ∧
  (xs = [] → Q (.ref b) H) ∧ (ys = [] → Q (.ref a) H) ∧ (xs ≠ [] → ys ≠ [] → ∀ p its, H p = none → Q (.ref p) (upd H p (ftO its (xs ++ ys))))
theorem op_catZ : OpR X (binaryOp .Add) (rCatZ X.K) := by
  rintro pins s σ H x y v u Q Iz rx ry ⟨a, bz, xs, ys, rfl, rfl, ha, hb, hz, q0z, q1, q2⟩
  cases rx
  cases ry
  obtain ⟨us, r1, p1z, _⟩ := Iz.tuple ha
  obtain ⟨vs, r2, p2z, _⟩ := Iz.tuple hb
  by_cases hx : xs = []
  · subst hx
    cases r1
    exact cat_tup0 p1z p2z ⟨.ref bz, H, Iz, rfl, q0z rfl⟩
  · refine HT.cat_tup p1z p2z (fun z => hx (r1.nil_iff.mp z)) (fun z => ⟨.ref a, H, Iz, rfl, q1 (r2.nil_iff.mp z)⟩) (fun z => ?_) (by rw [← r1.length, ← r2.length]; exact hz)
    exact ep_new Iz (by rw [List.length_append]; exact hz) (r1.append r2) fun p hp => q2 hx (fun e => z (r2.nil_iff.mpr e)) p _ hp
/-- t[lo:hi] -/
def rSlZ (K : PySem.W.Frag) : V → Option Int → Option Int → Hp → VK → Prop := fun x lo hi H Q => ∃ a xs, x = .ref a ∧ SqT K H a xs ∧
  (HT.sIx xs.length 0 lo = 0 ∧ HT.sIx xs.length xs.length hi = xs.length → Q (.ref a) H) ∧ (¬ (HT.sIx xs.length 0 lo = 0 ∧ HT.sIx xs.length xs.length hi = xs.length) → ∀ p its, H p = none → Q (.ref p) (upd H p (ftO its (cutV xs lo hi))))
theorem sl_tupZ : SlR X (rSlZ X.K) := by
  rintro pins s σ H x v vl vu loz hiz sl Q I rx hs pl pu ⟨a, xsz, rfl, hx, q1, q2⟩
  cases rx
  obtain ⟨us, r, ht, hz⟩ := I.tuple hx
  have ln : us.toArray.size = xsz.length := by rw [List.size_toArray, ← r.length]
  refine ⟨"tuple", _, slot_tuple_getitem.lookup, ht.typeIs, ?_⟩
  by_cases hw : HT.sIx xsz.length 0 loz = 0 ∧ HT.sIx xsz.length xsz.length hiz = xsz.length
  · exact getItem_tuple_whole ht hs pl pu (by rw [ln]; exact hw) ⟨.ref a, H, I, rfl, q1 hw⟩
  · refine HT.getItem_tuple_cut ht hs pl pu (by rw [ln]; exact hw) ?_ (by rw [ln]; exact hz)
    rw [ln]
    exact ep_new I (Nat.le_trans (cutV_length xsz loz hiz) hz) ((r.drop (HT.sIx xsz.length 0 loz)).take (HT.sIx xsz.length xsz.length hiz - HT.sIx xsz.length 0 loz)) fun p hp => q2 hw p _ hp
/-- tuple(xs) -/
theorem call_tupleZ : CallR X (.type "tuple") (fun xs H Q => ∃ p ys, xs = [.ref p] ∧ ((SqL X.K H p ys ∧ ∀ l its, H l = none → Q (.ref l) (upd H l (ftO its ys))) ∨ (SqT X.K H p ys ∧ Q (.ref p) H))) := by
  rintro pins s σ H xs us Q Iz r ⟨p, ys, rfl, hy⟩
  rw [Vals.ref1 r]
  rcases hy with ⟨hqz, qz⟩ | ⟨hqz, qz⟩
  · obtain ⟨its, rz', plz, hzz⟩ := Iz.list hqz
    have ln := rz'.length
    refine call_tuple_list plz.isList (fun h' kp => ?_) (by rw [List.size_toArray]; omega)
    exact ep_new (Iz.kept (t' := s.toks) kp : Inv X pins σ H { s with heap := h' }) hzz rz' fun l hl => qz l its hl
  · obtain ⟨its, rz', plz, hzz⟩ := Iz.tuple hqz
    exact call_tuple_same plz ⟨.ref p, H, Iz, rfl, qz⟩
end
end L2.DL
end

section
/-! The data layer 2: judgements on expressions. -/
namespace L2.DL
open L2 PySem PySem.Spec PyProof.Rows
variable [TabsOf]

abbrev GK := PyData → Nat → Prop
abbrev GE := List Sl → Nat → GK → Prop
abbrev GT := List Sl → Nat → (Bool → Nat → Prop) → Prop
abbrev GA := List Sl → Nat → (List PyData → Nat → Prop) → Prop

/-- a value that may be kept (strict), one to be read at once (borrowed), a new list or dict -/
def tDE (K : PySem.W.Frag) (g : GE) : TE := fun σ H Q => ∃ (c : Ct) (O : Own) (n : Nat) (env : List Sl) (Qd : GK), EnvOk K c O n H σ env ∧ g env n Qd ∧
  ∀ v d H' n', Ext c.T H H' → TubOk c.T n' H' → Rep K (c.av O) c.T H' v d → Qd d n' → Q v H'
def tDB (K : PySem.W.Frag) (g : GE) : TE := fun σ H Q => ∃ (c : Ct) (O : Own) (n : Nat) (env : List Sl) (Qd : GK), EnvOk K c O n H σ env ∧ g env n Qd ∧
  ∀ v d H' n', Ext c.T H H' → TubOk c.T n' H' → RepT K (c.av O) c.T H' v d → Qd d n' → Q v H'
def tDF (K : PySem.W.Frag) (g : GE) : TE := fun σ H Q => ∃ (c : Ct) (O : Own) (n : Nat) (env : List Sl) (Qd : GK), EnvOk K c O n H σ env ∧ g env n Qd ∧
  ∀ p d H' n', Ext c.T H H' → TubOk c.T n' H' → New H p → TopAt K (Zp (c.av O) p) c.T H' p d → Qd d n' → Q (.ref p) H'
def tDT (K : PySem.W.Frag) (g : GT) : TT := fun σ H Q => ∃ (c : Ct) (O : Own) (n : Nat) (env : List Sl) (Qd : Bool → Nat → Prop), EnvOk K c O n H σ env ∧ g env n Qd ∧
  ∀ b H' n', Ext c.T H H' → TubOk c.T n' H' → Qd b n' → Q b H'
def tDA (K : PySem.W.Frag) (g : GA) : TA := fun σ H Q => ∃ (c : Ct) (O : Own) (n : Nat) (env : List Sl) (Qd : List PyData → Nat → Prop), EnvOk K c O n H σ env ∧ g env n Qd ∧
  ∀ vs ds H' n', Ext c.T H H' → TubOk c.T n' H' → RepAll K (c.av O) c.T H' vs ds → Qd ds n' → Q vs H'
def tDAB (K : PySem.W.Frag) (g : GA) : TA := fun σ H Q => ∃ (c : Ct) (O : Own) (n : Nat) (env : List Sl) (Qd : List PyData → Nat → Prop), EnvOk K c O n H σ env ∧ g env n Qd ∧
  ∀ vs ds H' n', Ext c.T H H' → TubOk c.T n' H' → RepTs K (c.av O) c.T H' vs ds → Qd ds n' → Q vs H'

structure DE (X : Cx) (e : Expr) (g : GE) : Prop where pe : PE X e (tDE X.K g)
structure DB (X : Cx) (e : Expr) (g : GE) : Prop where pe : PE X e (tDB X.K g)
structure DF (X : Cx) (e : Expr) (g : GE) : Prop where pe : PE X e (tDF X.K g)
structure DT (X : Cx) (e : Expr) (g : GT) : Prop where pe : PT X e (tDT X.K g)
structure DW (X : Cx) (e : Expr) (g : GT) : Prop where pe : PW X e (tDT X.K g)
structure DA (X : Cx) (es : List Expr) (g : GA) : Prop where pe : PA X es (tDA X.K g)
structure DAB (X : Cx) (es : List Expr) (g : GA) : Prop where pe : PA X es (tDAB X.K g)

section
variable {X : Cx} {e a b : Expr} {es : List Expr} {pos : Pos}
theorem pe_weak {t t' : TE} (h : PE X e t) (w : ∀ σ H Q, t' σ H Q → t σ H Q) : PE X e t' := ⟨fun pins s σ H Q I q => h.run pins s σ H Q I (w σ H Q q)⟩
theorem pt_weak {t t' : TT} (h : PT X e t) (w : ∀ σ H Q, t' σ H Q → t σ H Q) : PT X e t' := ⟨fun pins s σ H Q I q => h.run pins s σ H Q I (w σ H Q q)⟩
theorem pw_weak {t t' : TT} (h : PW X e t) (w : ∀ σ H Q, t' σ H Q → t σ H Q) : PW X e t' := ⟨fun wh pins s σ H Q I q => h.run wh pins s σ H Q I (w σ H Q q)⟩
theorem pa_weak {t t' : TA} (h : PA X es t) (w : ∀ σ H Q, t' σ H Q → t σ H Q) : PA X es t' := ⟨fun p pins s σ H Q I q => h.run p pins s σ H Q I (w σ H Q q)⟩
theorem ps_weak {st : Stmt} {t t' : TS} (h : PS X st t) (w : ∀ D σ H, t' D σ H → t D σ H) : PS X st t' := ⟨fun pins s σ H D I q => h.run pins s σ H D I (w D σ H q)⟩
theorem pss_weak {st : List Stmt} {t t' : TS} (h : PSs X st t) (w : ∀ D σ H, t' D σ H → t D σ H) : PSs X st t' := ⟨fun pins s σ H D I q => h.run pins s σ H D I (w D σ H q)⟩

theorem DF.de {g : GE} (h : DF X e g) : DE X e g := ⟨pe_weak h.pe fun σ H Q ⟨c, O, n, env, Qd, E, hg, k⟩ => ⟨c, O, n, env, Qd, E, hg, fun p d H' n' x t f r q =>
  k _ d H' n' x t ((r.less fun _ z => .inl z).rep fun z => E.al p z f) q⟩⟩
theorem DE.db {g : GE} (h : DE X e g) : DB X e g := ⟨pe_weak h.pe fun σ H Q ⟨c, O, n, env, Qd, E, hg, k⟩ => ⟨c, O, n, env, Qd, E, hg, fun v d H' n' x t r q => k v d H' n' x t (.inl r) q⟩⟩
theorem DF.db {g : GE} (h : DF X e g) : DB X e g := h.de.db
theorem DW.dt {g : GT} (h : DW X e g) : DT X e g := ⟨h.pe.pt⟩

/-! ### names, constants -/
def gVar (i : Nat) : GE := fun env n Q => match env[i]? with
  | some (.dat d) => Q d n
  | _ => False
def gVarB (i : Nat) : GE := fun env n Q => match env[i]? with
  | some (.dat d) => Q d n
  | some (.own d) => Q d n
  | _ => False
def gC (d : PyData) : GE := fun _ n Q => Q d n
theorem de_var' {i : Nat} (h : PE X e (tVar i)) : DE X e (gVar i) := ⟨pe_weak h fun σ H Q ⟨c, O, n, env, Qd, E, hg, k⟩ => by
  unfold gVar at hg
  split at hg
  · next d hd =>
    obtain ⟨v, e1, r⟩ := E.dat i d hd
    exact ⟨v, e1, k v d H n .refl E.tub r hg⟩
  · exact hg.elim⟩
theorem db_var' {i : Nat} (h : PE X e (tVar i)) : DB X e (gVarB i) := ⟨pe_weak h fun σ H Q ⟨c, O, n, env, Qd, E, hg, k⟩ => by
  unfold gVarB at hg
  split at hg
  · next d hd =>
    obtain ⟨v, e1, r⟩ := E.dat i d hd
    exact ⟨v, e1, k v d H n .refl E.tub (.inl r) hg⟩
  · next d hd =>
    obtain ⟨a, e1, e2, r⟩ := E.own i d hd
    exact ⟨_, e2, k _ d H n .refl E.tub (.inr ⟨a, rfl, E.notT e1, r⟩) hg⟩
  · exact hg.elim⟩
theorem dv (i : Nat) {x : Str} {pos : Pos} (hN : X.N[i]? = some x := by rfl) (hv : Vis X.env.scope x := by first | exact Or.inl rfl | exact Or.inr (Or.inl rfl) | exact Or.inr (Or.inr rfl)) (hd : (x == ("__debug__" : Str)) = false := by decide)
    (hcd : (x == ("__classdict__" : Str)) = false := by decide) : DE X (.Name x pos) (gVar i) := de_var' (pe_var hN hv hd hcd)
theorem bv (i : Nat) {x : Str} {pos : Pos} (hN : X.N[i]? = some x := by rfl) (hv : Vis X.env.scope x := by first | exact Or.inl rfl | exact Or.inr (Or.inl rfl) | exact Or.inr (Or.inr rfl)) (hd : (x == ("__debug__" : Str)) = false := by decide)
    (hcd : (x == ("__classdict__" : Str)) = false := by decide) : DB X (.Name x pos) (gVarB i) := db_var' (pe_var hN hv hd hcd)
theorem de_c' {v : V} {d : PyData} (h : PE X e (tC v)) (r : ∀ K Z T H, Rep K Z T H v d) : DE X e (gC d) := ⟨pe_weak h fun σ H Q ⟨c, O, n, env, Qd, E, hg, k⟩ => k v d H n .refl E.tub (r _ _ _ _) hg⟩
theorem d_int {i j pos} : DE X (.Constant (.int i) j pos) (gC (.int i)) := de_c' pe_int fun _ _ _ _ => .int i
theorem d_bl {i j pos} : DE X (.Constant (.bool i) j pos) (gC (.bool i)) := de_c' pe_bl fun _ _ _ _ => .bl i
theorem d_non {j pos} : DE X (.Constant .none j pos) (gC .none) := de_c' pe_non fun _ _ _ _ => .non
theorem d_str {x j pos} : DE X (.Constant (.str x) j pos) (gC (.str x)) := de_c' pe_str fun _ _ _ _ => .str x
theorem d_globS {x y : Str} {t : Tok} (hg : Gl X x) (hm : X.mg x = some (.str y t)) (hd : (x == ("__debug__" : Str)) = false := by decide) : DE X (.Name x pos) (gC (.str y)) := de_c' (pe_glob hg hm (v := .str y) ⟨_, rfl⟩ hd) fun _ _ _ _ => .str y
theorem d_globI {x : Str} {y : Int} {t : Tok} (hg : Gl X x) (hm : X.mg x = some (.int y t)) (hd : (x == ("__debug__" : Str)) = false := by decide) : DE X (.Name x pos) (gC (.int y)) := de_c' (pe_glob hg hm (v := .int y) ⟨_, rfl⟩ hd) fun _ _ _ _ => .int y

/-! ### argument lists -/
def gNil : GA := fun _ n Q => Q [] n
def gCons (g : GE) (r : GA) : GA := fun env n Q => g env n fun d n1 => r env n1 fun ds n2 => Q (d :: ds) n2
theorem da_nil : DA X [] gNil := ⟨pa_weak pa_nil fun σ H Q ⟨c, O, n, env, Qd, E, hg, k⟩ => k [] [] H n .refl E.tub .nil hg⟩
theorem dab_nil : DAB X [] gNil := ⟨pa_weak pa_nil fun σ H Q ⟨c, O, n, env, Qd, E, hg, k⟩ => k [] [] H n .refl E.tub .nil hg⟩
theorem da_cons {g : GE} {r : GA} (he : DE X e g) (hr : DA X es r) (hs : starEach (e :: es) X.env = (false, eval e X.env) :: starEach es X.env := by rfl) : DA X (e :: es) (gCons g r) :=
  ⟨pa_weak (pa_cons he.pe hr.pe hs) fun σ H Q ⟨c, O, n, env, Qd, E, hg, k⟩ => by
    exact ⟨c, O, n, env, _, E, hg, fun v d H1 n1 x1 t1 r1 q1 => ⟨c, O, n1, env, _, E.extend x1 t1, q1, fun vs ds H2 n2 x2 t2 r2 q2 =>
      k (v :: vs) (d :: ds) H2 n2 (x1.trans x2) t2 (.cons (r1.ext E.atz x2) r2) q2⟩⟩⟩
theorem dab_cons {g : GE} {r : GA} (he : DB X e g) (hr : DAB X es r) (hs : starEach (e :: es) X.env = (false, eval e X.env) :: starEach es X.env := by rfl) : DAB X (e :: es) (gCons g r) :=
  ⟨pa_weak (pa_cons he.pe hr.pe hs) fun σ H Q ⟨c, O, n, env, Qd, E, hg, k⟩ => by
    exact ⟨c, O, n, env, _, E, hg, fun v d H1 n1 x1 t1 r1 q1 => ⟨c, O, n1, env, _, E.extend x1 t1, q1, fun vs ds H2 n2 x2 t2 r2 q2 =>
      k (v :: vs) (d :: ds) H2 n2 (x1.trans x2) t2 (.cons (r1.ext E.atz x2) r2) q2⟩⟩⟩
/-- *e in a display -/
def gStar (g : GE) (r : GA) : GA := fun env n Q => g env n fun d n1 => match d with
  | .list xs => r env n1 fun ds n2 => Q (xs ++ ds) n2
  | .tuple xs => r env n1 fun ds n2 => Q (xs ++ ds) n2
  | _ => False
theorem da_star {g : GE} {r : GA} {p : Pos} (he : DB X e g) (hr : DA X es r) (hs : starEach (.Starred e p :: es) X.env = (true, eval e X.env) :: starEach es X.env := by rfl) : DA X (.Starred e p :: es) (gStar g r) :=
  ⟨pa_weak (StX.pa_star he.pe hr.pe hs) fun σ H Q ⟨c, O, n, env, Qd, E, hg, k⟩ => by
    refine ⟨c, O, n, env, _, E, hg, fun v d H1 n1 x1 t1 r1 q1 => ?_⟩
    cases d with
    | list xs =>
      obtain ⟨a, ys, rfl, sq, ra⟩ := r1.list
      exact ⟨a, ys, rfl, .inr (.of sq), c, O, n1, env, _, E.extend x1 t1, q1, fun vs ds H2 n2 x2 t2 r2 q2 => k _ _ H2 n2 (x1.trans x2) t2 ((ra.ext E.atz x2).append r2) q2⟩
    | tuple xs =>
      obtain ⟨a, ys, rfl, sq, ra⟩ := r1.tuple
      exact ⟨a, ys, rfl, .inl (.inl sq), c, O, n1, env, _, E.extend x1 t1, q1, fun vs ds H2 n2 x2 t2 r2 q2 => k _ _ H2 n2 (x1.trans x2) t2 ((ra.ext E.atz x2).append r2) q2⟩
    | _ => exact q1.elim⟩

/-! ### displays -/
def gLst (r : GA) : GE := fun env n Q => r env n fun ds n1 => ds.length ≤ sizeLine ∧ Q (.list ds) n1
def gTup (r : GA) : GE := fun env n Q => r env n fun ds n1 => ds.length ≤ sizeLine ∧ Q (.tuple ds) n1
theorem EnvOk.new {K : PySem.W.Frag} {c : Ct} {O : Own} {n : Nat} {H : Hp} {σ : St} {env : List Sl} (E : EnvOk K c O n H σ env) {p : Addr} (h : H p = none) : ¬ c.av O p := fun z => E.al p z (new_none h)
theorem f_lst {r : GA} (h : DA X es r) : DF X (.List es pos) (gLst r) := ⟨pe_weak (pe_lst h.pe) fun σ H Q ⟨c, O, n, env, Qd, E, hg, k⟩ => by
  refine ⟨c, O, n, env, _, E, hg, fun vs ds H1 n1 x1 t1 r1 ⟨hl, q1⟩ => ⟨by rw [r1.length]; exact hl, fun p hp => ?_⟩⟩
  have E1 := E.extend x1 t1
  have hp0 : New H p := fun o nt q => by
    by_cases e : c.T.u = some p
    · exact E1.al p (.inl (E.tz p e)) (new_none hp)
    · exact x1.sm e (not_new nt q) (new_none hp)
  exact k p _ _ n1 (x1.trans (Grow.new hp).ext) (t1.grow (.new hp)) hp0 (.inl ⟨vs, ds, rfl, upd_same, r1.avoid hp⟩) q1⟩
theorem d_tup {r : GA} {x1} (h : DA X es r) : DE X (.Tuple es x1 pos) (gTup r) := ⟨pe_weak (pe_tupZ h.pe) fun σ H Q ⟨c, O, n, env, Qd, E, hg, k⟩ => by
  refine ⟨c, O, n, env, _, E, hg, fun vs ds H1 n1 x1 t1 r1 ⟨hl, q1⟩ => ⟨by rw [r1.length]; exact hl, fun p its hp => ?_⟩⟩
  have E1 := E.extend x1 t1
  exact k _ _ _ n1 (x1.trans (Grow.new hp).ext) (t1.grow (.new hp)) (.tup (E1.new hp) upd_same rfl (r1.grow (.new hp))) q1⟩

/-! ### operations by values -/
/-- the heap may grow; a value comes back -/
def tOD (K : PySem.W.Frag) (o : PyData → PyData → (PyData → Prop) → Prop) : R2 := fun x y H Q => ∃ (Z : Addr → Prop) (T : Tb) (d1 d2 : PyData) (Qd : PyData → Prop),
  (∀ a, Z a → ¬ New H a) ∧ RepT K Z T H x d1 ∧ RepT K Z T H y d2 ∧ o d1 d2 Qd ∧ ∀ v d H', Grow H H' → Rep K Z T H' v d → Qd d → Q v H'
def OpD (X : Cx) (f : Value → Value → Sem Value) (o : PyData → PyData → (PyData → Prop) → Prop) : Prop := OpR X f (tOD X.K o)
theorem opD_of {f : Value → Value → Sem Value} {r : R2} {o : PyData → PyData → (PyData → Prop) → Prop} (h : OpR X f r) (w : ∀ x y H Q, tOD X.K o x y H Q → r x y H Q) : OpD X f o := by
  intro pinsz sz σz H x y vz uz Q Iz rxz ryz qz
  exact h pinsz sz σz H x y vz uz Q Iz rxz ryz (w x y H Q qz)
def gBin (o : PyData → PyData → (PyData → Prop) → Prop) (ga gb : GE) : GE := fun env n Q => ga env n fun d1 n1 => gb env n1 fun d2 n2 => o d1 d2 fun d => Q d n2
theorem bin_of {o : PyData → PyData → (PyData → Prop) → Prop} {ga gb : GE} {σ : St} {H : Hp} {Q : VK} (h : tDE X.K (gBin o ga gb) σ H Q) : tOp (tOD X.K o) (tDB X.K ga) (tDB X.K gb) σ H Q := by
  obtain ⟨c, O, n, env, Qd, E, hg, k⟩ := h
  refine ⟨c, O, n, env, _, E, hg, fun v1 d1 H1 n1 x1 t1 r1 q1 => ⟨c, O, n1, env, _, E.extend x1 t1, q1, fun v2 d2 H2 n2 x2 t2 r2 q2 => ?_⟩⟩
  refine ⟨c.av O, c.T, d1, d2, _, (E.extend (x1.trans x2) t2).al, r1.ext E.atz x2, r2, q2, fun v d H3 g r q => k v d H3 n2 ((x1.trans x2).trans g.ext) (t2.grow g) r q⟩
theorem d_bin {op : Operator} {o : PyData → PyData → (PyData → Prop) → Prop} {ga gb : GE} (ho : OpD X (binaryOp op) o) (ha : DB X a ga) (hb : DB X b gb) : DE X (.BinOp a op b pos) (gBin o ga gb) :=
  ⟨pe_weak (pe_op ho ha.pe hb.pe) fun _ _ _ h => bin_of h⟩
theorem d_cmp {op : CmpOp} {o : PyData → PyData → (PyData → Prop) → Prop} {ga gb : GE} (ho : OpD X (compareOp op) o) (ha : DB X a ga) (hb : DB X b gb) (hm : behindInMarks op b = false) : DE X (.Compare a [op] [b] pos) (gBin o ga gb) :=
  ⟨pe_weak (pe_cmpR ho ha.pe hb.pe hm) fun _ _ _ h => bin_of h⟩
/-- a test whose value is a bool -/
def gTst (g : GE) : GT := fun env n Q => g env n fun d n1 => match d with
  | .bool b => Q b n1
  | _ => False
theorem tst_of {t : TE} {g : GE} (w : ∀ σ H Q, tDE X.K g σ H Q → t σ H Q) {σ : St} {H : Hp} {Q : Bool → Hp → Prop} (h : tDT X.K (gTst g) σ H Q) : tTest t σ H Q := by
  obtain ⟨c, O, n, env, Qd, E, hg, k⟩ := h
  refine w _ _ _ ⟨c, O, n, env, _, E, hg, fun v d H1 n1 x1 t1 r1 q1 => ?_⟩
  cases d with
  | bool b => exact ⟨b, (show RepT X.K _ _ _ v (.bool b) from .inl r1).bl, k b H1 n1 x1 t1 q1⟩
  | _ => exact q1.elim
theorem t_cmp {op : CmpOp} {o : PyData → PyData → (PyData → Prop) → Prop} {ga gb : GE} (ho : OpD X (compareOp op) o) (ha : DB X a ga) (hb : DB X b gb) (hm : behindInMarks op b = false) : DT X (.Compare a [op] [b] pos) (gTst (gBin o ga gb)) :=
  ⟨pt_weak (pt_cmpR ho ha.pe hb.pe hm) fun _ _ _ h => tst_of (fun _ _ _ => bin_of) h⟩
theorem t_val {g : GE} (h : DE X e g) (he : ∀ whole, isTrue e X.env whole = (do let v ← whole; standAt e.pos; holding [v] (truthy v)) := by intro _; rfl) : DT X e (gTst g) :=
  ⟨pt_weak (pt_val h.pe he) fun _ _ _ q => tst_of (t := tDE X.K g) (fun _ _ _ => id) q⟩
/-! ### and, or, not of tests -/
def gAnd (t u : GT) : GT := fun env n Q => t env n fun b n1 => if b = true then u env n1 Q else Q false n1
def gOr (t u : GT) : GT := fun env n Q => t env n fun b n1 => if b = true then Q true n1 else u env n1 Q
def gNot (t : GT) : GT := fun env n Q => t env n fun b n1 => Q (!b) n1
theorem w_and1 {t : GT} (h : DT X a t) : DW X (.BoolOp .And [a] pos) t := ⟨pw_and1 h.pe⟩
theorem w_or1 {t : GT} (h : DT X a t) : DW X (.BoolOp .Or [a] pos) t := ⟨pw_or1 h.pe⟩
theorem w_and {t u : GT} {rest : List Expr} (h : DT X a t) (h' : DW X (.BoolOp .And (b :: rest) pos) u) : DW X (.BoolOp .And (a :: b :: rest) pos) (gAnd t u) :=
  ⟨pw_weak (pw_and h.pe h'.pe) fun σ H Q ⟨c, O, n, env, Qd, E, hg, k⟩ => ⟨c, O, n, env, _, E, hg, fun d H1 n1 x1 t1 q1 => by
    cases d with
    | true =>
      rw [if_pos rfl] at q1 ⊢
      exact ⟨c, O, n1, env, _, E.extend x1 t1, q1, fun d H2 n2 x2 t2 q2 => k d H2 n2 (x1.trans x2) t2 q2⟩
    | false =>
      rw [if_neg Bool.false_ne_true] at q1 ⊢
      exact k false H1 n1 x1 t1 q1⟩⟩
theorem w_or {t u : GT} {rest : List Expr} (h : DT X a t) (h' : DW X (.BoolOp .Or (b :: rest) pos) u) : DW X (.BoolOp .Or (a :: b :: rest) pos) (gOr t u) :=
  ⟨pw_weak (pw_or h.pe h'.pe) fun σ H Q ⟨c, O, n, env, Qd, E, hg, k⟩ => ⟨c, O, n, env, _, E, hg, fun d H1 n1 x1 t1 q1 => by
    cases d with
    | false =>
      rw [if_neg Bool.false_ne_true] at q1 ⊢
      exact ⟨c, O, n1, env, _, E.extend x1 t1, q1, fun d H2 n2 x2 t2 q2 => k d H2 n2 (x1.trans x2) t2 q2⟩
    | true =>
      rw [if_pos rfl] at q1 ⊢
      exact k true H1 n1 x1 t1 q1⟩⟩
theorem t_not {t : GT} (h : DT X a t) : DT X (.UnaryOp .Not a pos) (gNot t) :=
  ⟨pt_weak (pt_not h.pe) fun σ H Q ⟨c, O, n, env, Qd, E, hg, k⟩ => ⟨c, O, n, env, _, E, hg, fun d H1 n1 x1 t1 q1 => k _ H1 n1 x1 t1 q1⟩⟩
/-- a test as a value -/
def gIf (t : GT) (ga gb : GE) : GE := fun env n Q => t env n fun b n1 => if b = true then ga env n1 Q else gb env n1 Q
theorem d_if {t : GT} {x : Expr} {ga gb : GE} (h : DT X x t) (ha : DE X a ga) (hb : DE X b gb) : DE X (.IfExp x a b pos) (gIf t ga gb) :=
  ⟨pe_weak (pe_ifExp h.pe ha.pe hb.pe) fun σ H Q ⟨c, O, n, env, Qd, E, hg, k⟩ => ⟨c, O, n, env, _, E, hg, fun d H1 n1 x1 t1 q1 => by
    cases d with
    | true =>
      rw [if_pos rfl] at q1 ⊢
      exact ⟨c, O, n1, env, _, E.extend x1 t1, q1, fun v d H2 n2 x2 t2 r q2 => k v d H2 n2 (x1.trans x2) t2 r q2⟩
    | false =>
      rw [if_neg Bool.false_ne_true] at q1 ⊢
      exact ⟨c, O, n1, env, _, E.extend x1 t1, q1, fun v d H2 n2 x2 t2 r q2 => k v d H2 n2 (x1.trans x2) t2 r q2⟩⟩⟩
end
end L2.DL
end

section
/-! The data layer 3: operations, calls of built-ins. -/
namespace L2.DL
open L2 PySem PySem.Spec PyProof.Rows
variable [TabsOf]

section
variable {K : PySem.W.Frag} {Z : Addr → Prop} {T : Tb} {H : Hp}
mutual
theorem Rep.dp : ∀ {v : V} {d : PyData}, Rep K Z T H v d → d.canLay0 = true → Dp K H v d
  | _, _, .non, _ => .non
  | _, _, .bl b, _ => .bl b
  | _, _, .int i, _ => .int i
  | _, _, .str x, _ => .str x
  | _, _, .lst n s r, h => .lst (.of s) (RepAll.dp r (by simpa [PyData.canLay0] using h))
  | _, _, .tup n s d r, h => .tup (.inl (.inr ⟨_, s⟩)) (RepAll.dp r (by simpa [PyData.canLay0] using h))
  | _, _, .dic n s r, h => absurd h (by simp [PyData.canLay0])
  | _, _, .tub e, h => absurd h (by simp [PyData.canLay0, tubD])
  | _, _, .scr e, h => absurd h (by simp [PyData.canLay0, scrD])
  | _, _, .fzd _ _ _, h => absurd h (by simp [PyData.canLay0, fzD])
theorem RepAll.dp : ∀ {v : List V} {d : List PyData}, RepAll K Z T H v d → PyData.canLayAll0 d = true → DpAll K H v d
  | _, _, .nil, _ => .nil
  | _, _, .cons (d := d) (ds := ds) a b, h => by
    have h' : PyData.canLay0 d = true ∧ PyData.canLayAll0 ds = true := by simpa [PyData.canLayAll0] using h
    exact .cons (Rep.dp a h'.1) (RepAll.dp b h'.2)
end
theorem RepT.dp {v : V} {d : PyData} (r : RepT K Z T H v d) (h : d.canLay0 = true) : Dp K H v d := by
  rcases r with r | ⟨a, rfl, n, t⟩
  · exact r.dp h
  · rcases t with ⟨xs, ds, rfl, e, r⟩ | ⟨kvs, ds, rfl, e, r⟩
    · exact .lst (.of e) (r.dp (by simpa [PyData.canLay0] using h))
    · simp [PyData.canLay0] at h
end

/-! ### operators -/
abbrev OD := PyData → PyData → (PyData → Prop) → Prop
def oAdd : OD
  | .int i, .int j, Q => Q (.int (i + j))
  | .list a, .list b, Q => a.length + b.length ≤ sizeLine ∧ Q (.list (a ++ b))
  | .tuple a, .tuple b, Q => a.length + b.length ≤ sizeLine ∧ Q (.tuple (a ++ b))
  | _, _, _ => False
def oI (C : Int → Int → Prop) (f : Int → Int → PyData) : OD
  | .int i, .int j, Q => C i j ∧ Q (f i j)
  | _, _, _ => False
def oSub : OD := oI (fun _ _ => True) fun i j => .int (i - j)
def oMul : OD
  | .int i, .int j, Q => CMul i j ∧ Q (.int (i * j))
  | .list a, .int k, Q => (0 ≤ k ∧ k < 2 ^ 62) ∧ a.length * k.toNat ≤ sizeLine ∧ Q (.list (List.replicate k.toNat a).flatten)
  | _, _, _ => False
def oDiv : OD := oI CDiv fun i j => .int (i / j)
def oMod : OD := oI (fun _ j => 0 < j) fun i j => .int (i % j)
def oPow : OD := oI CPow fun i j => .int (i ^ j.toNat)
def oLt : OD := oI (fun _ _ => True) fun i j => .bool (decide (i < j))
def oLe : OD := oI (fun _ _ => True) fun i j => .bool (decide (i ≤ j))
def oGt : OD := oI (fun _ _ => True) fun i j => .bool (decide (j < i))
def oGe : OD := oI (fun _ _ => True) fun i j => .bool (decide (j ≤ i))
def shp (d : PyData) : Prop := SeqAt.shaped d = true
def oEq : OD := fun a b Q => shp a ∧ shp b ∧ Q (.bool (PyData.eqv a b))
def oNe : OD := fun a b Q => shp a ∧ shp b ∧ Q (.bool (!PyData.eqv a b))
def oIn : OD := fun a b Q => match b with
  | .list ds => shp a ∧ shp b ∧ Q (.bool (ds.any fun z => PyData.eqv z a))
  | .tuple ds => shp a ∧ shp b ∧ Q (.bool (ds.any fun z => PyData.eqv z a))
  | _ => False
def oNotIn : OD := fun a b Q => match b with
  | .list ds => shp a ∧ shp b ∧ Q (.bool (!ds.any fun z => PyData.eqv z a))
  | .tuple ds => shp a ∧ shp b ∧ Q (.bool (!ds.any fun z => PyData.eqv z a))
  | _ => False
/-- one sign within a text -/
def oInS : OD
  | .str x, .str y, Q => ∃ c, x = ⟨#[c]⟩ ∧ Q (.bool (decide (c ∈ y.cps.toList)))
  | _, _, _ => False
def isNone : PyData → Bool
  | .none => true
  | _ => false
def oIs : OD := fun a b Q => match b with
  | .none => Q (.bool (isNone a))
  | _ => False
def oIsNot : OD := fun a b Q => match b with
  | .none => Q (.bool (!isNone a))
  | _ => False

section
variable {X : Cx}
theorem RepAll.flat {K : PySem.W.Frag} {Z : Addr → Prop} {T : Tb} {H : Hp} {xs : List V} {ds : List PyData} (k : Nat) (r : RepAll K Z T H xs ds) : RepAll K Z T H (List.replicate k xs).flatten (List.replicate k ds).flatten := by
  induction k with
  | zero => simpa using .nil
  | succ k ih => simpa [List.replicate_succ] using r.append ih
theorem p_add : OpD X (binaryOp .Add) oAdd := opD_of (op_add.or (op_cat.or op_catZ)) fun x y H Q ⟨Z, T, d1, d2, Qd, al, r1, r2, o, k⟩ => by
  unfold oAdd at o
  split at o
  · exact .inl ⟨_, _, r1.int, r2.int, k _ _ _ .refl (.int _) o⟩
  · obtain ⟨a, xs, rfl, s, ra⟩ := r1.list
    obtain ⟨b, ys, rfl, s', rb⟩ := r2.list
    refine .inr (.inl ⟨a, b, xs, ys, rfl, rfl, s, s', by rw [ra.length, rb.length]; exact o.1, fun p hp => k _ _ _ (.new hp) (.lst (fun z => al p z (new_none hp)) upd_same ((ra.append rb).grow (.new hp))) o.2⟩)
  · next as bs Q' =>
    obtain ⟨a, xs, rfl, s, ra⟩ := r1.tuple
    obtain ⟨b, ys, rfl, s', rb⟩ := r2.tuple
    refine .inr (.inr ⟨a, b, xs, ys, rfl, rfl, .inl s, .inl s', by rw [ra.length, rb.length]; exact o.1, fun e => ?_, fun e' => ?_, fun e e' p its hp => k _ _ _ (.new hp) (.tup (fun z => al p z (new_none hp)) upd_same rfl ((ra.append rb).grow (.new hp))) o.2⟩)
    · subst e
      cases ra
      rcases r2 with r2 | ⟨q, _, _, t⟩
      · exact k _ _ _ .refl r2 (by simpa using o.2)
      · rcases t with ⟨_, _, z, _⟩ | ⟨_, _, z, _⟩ <;> cases z
    · subst e'
      cases rb
      rcases r1 with r1 | ⟨q, _, _, t⟩
      · exact k _ _ _ .refl r1 (by simpa using o.2)
      · rcases t with ⟨_, _, z, _⟩ | ⟨_, _, z, _⟩ <;> cases z
  · exact o.elim
theorem p_mul : OpD X (binaryOp .Mult) oMul := opD_of (op_mul.or op_rep) fun x y H Q ⟨Z, T, d1, d2, Qd, al, r1, r2, o, k⟩ => by
  unfold oMul at o
  split at o
  · exact .inl ⟨_, _, r1.int, r2.int, o.1, k _ _ _ .refl (.int _) o.2⟩
  · obtain ⟨a, xs, rfl, s, ra⟩ := r1.list
    refine .inr ⟨a, _, xs, rfl, r2.int, s, by omega, by omega, by rw [ra.length]; exact o.2.1, fun p hp => k _ _ _ (.new hp) (.lst (fun z => al p z (new_none hp)) upd_same ((ra.flat _).grow (.new hp))) o.2.2⟩
  · exact o.elim
theorem pI {f : Value → Value → Sem Value} {C : Int → Int → Prop} {g : Int → Int → V} {gd : Int → Int → PyData} (h : OpR X f (rI C g)) (r : ∀ K Z T H i j, Rep K Z T H (g i j) (gd i j)) : OpD X f (oI C gd) :=
  opD_of h fun x y H Q ⟨Z, T, d1, d2, Qd, al, r1, r2, o, k⟩ => by
    unfold oI at o
    split at o
    · exact ⟨_, _, r1.int, r2.int, o.1, k _ _ _ .refl (r _ _ _ _ _ _) o.2⟩
    · exact o.elim
theorem rI_of0 {f : Value → Value → Sem Value} {g : Int → Int → V} (h : OpR X f (rI0 g)) : OpR X f (rI (fun _ _ => True) g) := by
  intro pins s σ H x y v u Q I rx ry ⟨i, j, e1, e2, _, q⟩
  exact h pins s σ H x y v u Q I rx ry ⟨i, j, e1, e2, q⟩
theorem p_sub : OpD X (binaryOp .Sub) oSub := pI (rI_of0 op_sub) fun _ _ _ _ _ _ => .int _
theorem p_div : OpD X (binaryOp .FloorDiv) oDiv := pI op_fdiv fun _ _ _ _ _ _ => .int _
theorem p_mod : OpD X (binaryOp .Mod) oMod := pI op_mod fun _ _ _ _ _ _ => .int _
theorem p_pow : OpD X (binaryOp .Pow) oPow := pI op_pow fun _ _ _ _ _ _ => .int _
theorem p_lt : OpD X (compareOp .Lt) oLt := pI (rI_of0 op_lt) fun _ _ _ _ _ _ => .bl _
theorem p_le : OpD X (compareOp .LtE) oLe := pI (rI_of0 op_le) fun _ _ _ _ _ _ => .bl _
theorem p_gt : OpD X (compareOp .Gt) oGt := pI (rI_of0 op_gt) fun _ _ _ _ _ _ => .bl _
theorem p_ge : OpD X (compareOp .GtE) oGe := pI (rI_of0 op_ge) fun _ _ _ _ _ _ => .bl _
theorem p_eq (hu : X.A.units + 64 < cLine) : OpD X (compareOp .Eq) oEq := opD_of (op_eqD hu) fun x y H Q ⟨Z, T, d1, d2, Qd, al, r1, r2, ⟨s1, s2, o⟩, k⟩ =>
  ⟨d1, d2, r1.dp (SeqAt.canLay_of_shaped s1), r2.dp (SeqAt.canLay_of_shaped s2), s1, s2, k _ _ _ .refl (.bl _) o⟩
theorem p_ne (hu : X.A.units + 64 < cLine) : OpD X (compareOp .NotEq) oNe := opD_of (op_neD hu) fun x y H Q ⟨Z, T, d1, d2, Qd, al, r1, r2, ⟨s1, s2, o⟩, k⟩ =>
  ⟨d1, d2, r1.dp (SeqAt.canLay_of_shaped s1), r2.dp (SeqAt.canLay_of_shaped s2), s1, s2, k _ _ _ .refl (.bl _) o⟩
/-- in a tuple of data -/
def rInT (K : PySem.W.Frag) : R2 := fun x y H Q => ∃ d ds, Dp K H x d ∧ Dp K H y (.tuple ds) ∧ SeqAt.shaped d = true ∧ SeqAt.shaped (.tuple ds) = true ∧ Q (.bl (ds.any fun z => PyData.eqv z d)) H
def rNotInT (K : PySem.W.Frag) : R2 := fun x y H Q => ∃ d ds, Dp K H x d ∧ Dp K H y (.tuple ds) ∧ SeqAt.shaped d = true ∧ SeqAt.shaped (.tuple ds) = true ∧ Q (.bl (!ds.any fun z => PyData.eqv z d)) H
theorem op_inT (hu : X.A.units + 65 < cLine) : OpR X (compareOp .In) (rInT X.K) := by
  intro pinsz sz σz H xz yz vz uz Qz Iz rxz ryz hz
  obtain ⟨dz, dsz, hdz, hez, sdz, sez, qz⟩ := hz
  obtain ⟨asz, r1z⟩ := Dp.reads Iz dz xz vz hdz rxz
  obtain ⟨bs, r2⟩ := Dp.reads Iz (.tuple dsz) yz uz hez ryz
  exact SeqAt.in_tuple_reads r2 r1z (SeqAt.canLay_of_shaped sez) (SeqAt.canLay_of_shaped sdz) (room_in_shaped sdz hu) ⟨.bl _, H, Iz, rfl, qz⟩
theorem op_notInT (hu : X.A.units + 65 < cLine) : OpR X (compareOp .NotIn) (rNotInT X.K) := by
  intro pinsz sz σz H xz yz vz uz Qz Iz rxz ryz hz
  obtain ⟨dz, dsz, hdz, hez, sdz, sez, qz⟩ := hz
  obtain ⟨asz, r1z⟩ := Dp.reads Iz dz xz vz hdz rxz
  obtain ⟨bs, r2⟩ := Dp.reads Iz (.tuple dsz) yz uz hez ryz
  exact SeqAt.notIn_tuple_reads r2 r1z (SeqAt.canLay_of_shaped sez) (SeqAt.canLay_of_shaped sdz) (room_in_shaped sdz hu) ⟨.bl _, H, Iz, rfl, qz⟩
theorem p_in (hu : X.A.units + 65 < cLine) : OpD X (compareOp .In) oIn := opD_of ((op_inD hu).or (op_inT hu)) fun x y H Q ⟨Z, T, d1, d2, Qd, al, r1, r2, o, k⟩ => by
  unfold oIn at o
  split at o
  · obtain ⟨s1, s2, o⟩ := o
    exact .inl ⟨d1, _, r1.dp (SeqAt.canLay_of_shaped s1), r2.dp (SeqAt.canLay_of_shaped s2), s1, s2, k _ _ _ .refl (.bl _) o⟩
  · obtain ⟨s1, s2, o⟩ := o
    exact .inr ⟨d1, _, r1.dp (SeqAt.canLay_of_shaped s1), r2.dp (SeqAt.canLay_of_shaped s2), s1, s2, k _ _ _ .refl (.bl _) o⟩
  · exact o.elim
theorem p_notin (hu : X.A.units + 65 < cLine) : OpD X (compareOp .NotIn) oNotIn := opD_of ((op_notInD hu).or (op_notInT hu)) fun x y H Q ⟨Z, T, d1, d2, Qd, al, r1, r2, o, k⟩ => by
  unfold oNotIn at o
  split at o
  · obtain ⟨s1, s2, o⟩ := o
    exact .inl ⟨d1, _, r1.dp (SeqAt.canLay_of_shaped s1), r2.dp (SeqAt.canLay_of_shaped s2), s1, s2, k _ _ _ .refl (.bl _) o⟩
  · obtain ⟨s1, s2, o⟩ := o
    exact .inr ⟨d1, _, r1.dp (SeqAt.canLay_of_shaped s1), r2.dp (SeqAt.canLay_of_shaped s2), s1, s2, k _ _ _ .refl (.bl _) o⟩
  · exact o.elim
theorem RepT.isN {K : PySem.W.Frag} {Z : Addr → Prop} {T : Tb} {H : Hp} {v : V} {d : PyData} (r : RepT K Z T H v d) : decide (v = .non) = isNone d := by
  rcases r with r | ⟨a, rfl, n, t⟩
  · cases r <;> rfl
  · rcases t with ⟨xs, ds, rfl, e, r⟩ | ⟨kvs, ds, rfl, e, r⟩ <;> rfl
theorem p_is : OpD X (compareOp .Is) oIs := opD_of op_isN fun x y H Q ⟨Z, T, d1, d2, Qd, al, r1, r2, o, k⟩ => by
  unfold oIs at o
  split at o
  · exact ⟨r2.non, k _ _ _ .refl (.bl _) (by rw [r1.isN]; exact o)⟩
  · exact o.elim
theorem p_isnot : OpD X (compareOp .IsNot) oIsNot := opD_of op_notN fun x y H Q ⟨Z, T, d1, d2, Qd, al, r1, r2, o, k⟩ => by
  unfold oIsNot at o
  split at o
  · exact ⟨r2.non, k _ _ _ .refl (.bl _) (by rw [r1.isN]; exact o)⟩
  · exact o.elim
end

/-! ### in a dict, an item of a dict -/
/-- what a dict holds at a key -/
def lookD : List (PyData × PyData) → PyData → Option PyData
  | [], _ => none
  | (k, d) :: r, x => if PyData.eqv k x then some d else lookD r x
def isKey : PyData → Bool
  | .int _ => true
  | .str _ => true
  | _ => false
theorem key_of {K : PySem.W.Frag} {Z : Addr → Prop} {T : Tb} {H : Hp} {v : V} {d : PyData} (r : RepT K Z T H v d) (h : isKey d = true) : ∃ k, v = kV k ∧ d = keyD k := by
  cases d with
  | int i => exact ⟨.inl i, r.int, rfl⟩
  | str i => exact ⟨.inr i, r.str, rfl⟩
  | _ => cases h
theorem keyD_eqv (a b : Key) : PyData.eqv (keyD a) (keyD b) = decide (a = b) := by
  cases a <;> cases b <;> simp [keyD, PyData.eqv]
  · rw [Bool.eq_iff_iff]; simp
  · rw [Bool.eq_iff_iff]; simp
theorem look_of {K : PySem.W.Frag} {Z : Addr → Prop} {T : Tb} {H : Hp} (k : Key) : ∀ {kvs : List (Key × V)} {ds : List (PyData × PyData)}, RepKV K Z T H kvs ds →
    match valV kvs k, lookD ds (keyD k) with
    | some v, some d => Rep K Z T H v d
    | none, none => True
    | _, _ => False
  | _, _, .nil => by simp [lookD, valV_nil]
  | _, _, .cons (k := j) (v := v) (d := d) a b => by
    by_cases e : j = k
    · rw [valV_pos (p := (j, v)) e]
      unfold lookD
      rw [keyD_eqv, decide_eq_true e, if_pos rfl]
      exact a
    · rw [valV_neg (p := (j, v)) e]
      unfold lookD
      rw [keyD_eqv, decide_eq_false e, if_neg Bool.false_ne_true]
      exact look_of k b
/-- data dicts: no key is None -/
def dOk (ds : List (PyData × PyData)) : Prop := ∀ x, ds ≠ [(.none, x)]
section
variable {X : Cx} {o i : Expr} {pos : Pos}
def gDGet (go gi : GE) : GE := fun env n Q => go env n fun d n1 => gi env n1 fun x n2 => match d with
  | .dict ds => dOk ds ∧ isKey x = true ∧ ∃ v, lookD ds x = some v ∧ Q v n2
  | _ => False
theorem d_dget {go gi : GE} (hu : X.A.units + 1 < cLine) (ho : DB X o go) (hi : DB X i gi) (hs : NoSl i := by first | exact fun _ _ => rfl | assumption) : DE X (.Subscript o i pos) (gDGet go gi) :=
  ⟨pe_weak (pe_dget hu ho.pe hi.pe hs) fun σ H Q ⟨c, O, n, env, Qd, E, hg, k⟩ => ⟨c, O, n, env, _, E, hg, fun v1 d1 H1 n1 x1 t1 r1 q1 => ⟨c, O, n1, env, _, E.extend x1 t1, q1, fun v2 d2 H2 n2 x2 t2 r2 q2 => by
    cases d1 with
    | dict ds =>
      obtain ⟨ok, ik, w, hw, q⟩ := q2
      obtain ⟨a, kvs, rfl, rd, rk⟩ := (r1.ext E.atz x2).dict ok
      obtain ⟨key, rfl, rfl⟩ := key_of r2 ik
      have l := look_of key rk
      rw [hw] at l
      cases hv : valV kvs key with
      | none => rw [hv] at l; exact l.elim
      | some v =>
        rw [hv] at l
        exact ⟨a, v, rfl, .inl ⟨kvs, key, rd, rfl, hv.symm⟩, k v w H2 n2 (x1.trans x2) t2 l q⟩
    | _ => exact q2.elim⟩⟩⟩
def gDIn (neg : Bool) (gi go : GE) : GE := fun env n Q => gi env n fun x n1 => go env n1 fun d n2 => match d with
  | .dict ds => dOk ds ∧ isKey x = true ∧ Q (.bool (if neg then !(lookD ds x).isSome else (lookD ds x).isSome)) n2
  | _ => False
theorem din_of {gi go : GE} {σ : St} {H : Hp} {Q : VK} (neg : Bool) (h : tDE X.K (gDIn neg gi go) σ H Q) : tDB X.K gi σ H fun y H1 => tDB X.K go σ H1 fun x H2 => ∃ a o, x = .ref a ∧ DGet H2 a y o ∧ Q (.bl (if neg then !o.isSome else o.isSome)) H2 := by
  obtain ⟨c, O, n, env, Qd, E, hg, k⟩ := h
  refine ⟨c, O, n, env, _, E, hg, fun v1 d1 H1 n1 x1 t1 r1 q1 => ⟨c, O, n1, env, _, E.extend x1 t1, q1, fun v2 d2 H2 n2 x2 t2 r2 q2 => ?_⟩⟩
  cases d2 with
  | dict ds =>
    obtain ⟨ok, ik, q⟩ := q2
    obtain ⟨a, kvs, rfl, rd, rk⟩ := r2.dict ok
    obtain ⟨key, rfl, rfl⟩ := key_of (r1.ext E.atz x2) ik
    have l := look_of key rk
    have e : (valV kvs key).isSome = (lookD ds (keyD key)).isSome := by
      cases hv : valV kvs key <;> cases hw : lookD ds (keyD key) <;> rw [hv, hw] at l
      · rfl
      · exact l.elim
      · exact l.elim
      · rfl
    refine ⟨a, _, rfl, .inl ⟨kvs, key, rd, rfl, rfl⟩, ?_⟩
    rw [e]
    exact k _ _ H2 n2 (x1.trans x2) t2 (.bl _) q
  | _ => exact q2.elim
theorem d_din {gi go : GE} (hu : X.A.units + 1 < cLine) (hi : DB X i gi) (ho : DB X o go) (hm : behindInMarks .In o = false) : DE X (.Compare i [.In] [o] pos) (gDIn false gi go) :=
  ⟨pe_weak (pe_cmp (pc_din hu hi.pe ho.pe) hm) fun _ _ _ h => din_of false h⟩
theorem d_dnotin {gi go : GE} (hu : X.A.units + 1 < cLine) (hi : DB X i gi) (ho : DB X o go) (hm : behindInMarks .NotIn o = false) : DE X (.Compare i [.NotIn] [o] pos) (gDIn true gi go) :=
  ⟨pe_weak (pe_cmp (pc_dnotin hu hi.pe ho.pe) hm) fun _ _ _ h => din_of true h⟩
theorem t_din {gi go : GE} (hu : X.A.units + 1 < cLine) (hi : DB X i gi) (ho : DB X o go) (hm : behindInMarks .In o = false) : DT X (.Compare i [.In] [o] pos) (gTst (gDIn false gi go)) :=
  ⟨pt_weak (pt_cmp (pc_din hu hi.pe ho.pe) hm) fun _ _ _ h => tst_of (t := tDIn (tDB X.K gi) (tDB X.K go)) (fun _ _ _ h => din_of false h) h⟩
theorem t_dnotin {gi go : GE} (hu : X.A.units + 1 < cLine) (hi : DB X i gi) (ho : DB X o go) (hm : behindInMarks .NotIn o = false) : DT X (.Compare i [.NotIn] [o] pos) (gTst (gDIn true gi go)) :=
  ⟨pt_weak (pt_cmp (pc_dnotin hu hi.pe ho.pe) hm) fun _ _ _ h => tst_of (t := tDNotIn (tDB X.K gi) (tDB X.K go)) (fun _ _ _ h => din_of true h) h⟩
end
end L2.DL
end

section
/-! t[lo::2] of a tuple. -/
namespace L2.DL
open L2 PySem PySem.Spec PyProof.Rows
variable [TabsOf]

/-- every other item from place lo on -/
def stepX {α : Type} (lo : Nat) (xs : List α) : List α := (List.range ((xs.length - lo + 1) / 2)).filterMap fun k => xs[lo + k * 2]?

section
variable {prog : Program}
variable {w : World}
variable {A : Around}
variable {E : Value → Shared → Prop}
variable {s : Shared}
theorem adjust_two (lo : Option Int) (l : Nat) (n : Nat) (hl : lo = none ∧ l = 0 ∨ lo = some (l : Int) ∧ l ≤ 1) : Builtin.Slice.sliceAdjust lo none 2 (n : Int) = (((min l n : Nat) : Int), (n : Int)) := by
  have h1 : ¬ ((2 : Int) < 0) := by omega
  unfold Builtin.Slice.sliceAdjust at ⊢
  simp only [h1, if_false]
  refine Prod.ext ?_ rfl
  rcases hl with ⟨rfl, rfl⟩ | ⟨rfl, h⟩
  · show (0 : Int) = _
    simp
  · show (if (l : Int) < 0 then max ((l : Int) + (n : Int)) 0 else min (l : Int) (n : Int)) = _
    rw [if_neg (by omega)]
    omega
theorem places_two (i n : Nat) (h : i ≤ n) : Builtin.Slice.slicePlaces (i : Int) (n : Int) 2 = (n - i + 1) / 2 := by
  unfold Builtin.Slice.slicePlaces at ⊢
  have h1 : (2 : Int) > 0 := by omega
  simp only [h1, if_true]
  split <;> omega
theorem sliceApplied_two {sl : Addr} {vl : Value} {t : Tok} {lo : Option Int} {l n : Nat} {Q : Int × Int × Nat → Shared → Prop} (hs : s.heap.IsSliceOf sl vl .none (.int 2 t)) (pl : IsPart vl lo)
    (hl : lo = none ∧ l = 0 ∨ lo = some (l : Int) ∧ l ≤ 1)
    (h : Q (((min l n : Nat) : Int), 2, (n - min l n + 1) / 2) s) : wpAny (model prog w) A (Builtin.Slice.sliceApplied (.ref sl) (pure (n : Int))) Q E s := by
  obtain ⟨osz, hosz, hcsz, hdsz⟩ := id hs
  unfold Builtin.Slice.sliceApplied Builtin.Slice.sliceFields at ⊢
  refine wpAny_bind (wpAny_bind (wpAny_field hosz hdsz (x := vl) rfl (wpAny_bind (wpAny_field hosz hdsz (x := .none) rfl (wpAny_bind (wpAny_field hosz hdsz (x := .int 2 t) rfl (wpAny_pure ?_)))))))
  refine wpAny_bind (HT.slicePart_ (.int 2 t) ?_)
  show wpAny _ _ (if ((2 : Int) == 0) = true then _ else _) _ _ s
  rw [if_neg (by decide)]
  refine wpAny_bind (HT.slicePart_ pl (wpAny_bind (HT.slicePart_ .none (wpAny_bind (wpAny_pure ?_)))))
  show wpAny _ _ (match Builtin.Slice.sliceAdjust lo none 2 (n : Int) with | (lo, hi) => pure (lo, (2 : Int), Builtin.Slice.slicePlaces lo hi 2)) _ _ s
  rw [adjust_two lo l n hl]
  show wpAny _ _ (pure (((min l n : Nat) : Int), (2 : Int), Builtin.Slice.slicePlaces ((min l n : Nat) : Int) (n : Int) 2)) _ _ s
  rw [places_two _ _ (Nat.min_le_right _ _)]
  exact wpAny_pure h
theorem getItem_tuple_two {t sl : Addr} {items : Array Value} {vl : Value} {tk : Tok} {lo : Option Int} {l : Nat} {Q : Value → Shared → Prop} (ht : IsTup s.heap t items) (hs : s.heap.IsSliceOf sl vl .none (.int 2 tk)) (pl : IsPart vl lo)
    (hl : lo = none ∧ l = 0 ∨ lo = some (l : Int) ∧ l ≤ 1)
    (h : Q (.ref s.heap.objs.size) { s with heap := s.heap.push { cls := .type "tuple", data := .seq (stepX l items.toList).toArray } }) (hsz : items.size ≤ sizeLine) : wpAny (model prog w) A (getItem (.ref t) (.ref sl)) Q E s := by
  have htakez : sizeOk (.seq (stepX l items.toList).toArray) := by
    show (stepX l items.toList).toArray.size ≤ sizeLine
    rw [List.size_toArray]
    unfold stepX
    refine Nat.le_trans (List.length_filterMap_le _ _) ?_
    rw [List.length_range, Array.length_toList]
    have : sizeLine = 16777216 := sizeLine_eq
    omega
  obtain ⟨osz, hosz, hcsz, hdsz⟩ := id hs
  have hTsz : s.TypeIs (.ref sl) "slice" := ⟨osz, hosz, hcsz⟩
  unfold getItem
  try with_reducible (refine wpAny_holding ?_)
  first | (refine wpAny_bind (wpAny_pure ?_)) | skip
  refine (wpAny_bind (wpAny_sequenceKey ht.typeIs (by decide) ?_))
  refine (wpAny_bind (wpAny_callSpecial?_slot (name := Str.ofString "__getitem__") ht.typeIs PyProof.Rows.slot_tuple_getitem (wpAny_call_entry PyProof.Rows.slot_tuple_getitem ht.typeIs entry_tuple_getitem ?_ (args_tuple_getitem _ _))))
  show (wpAny _ _ (Builtin.Tuple.tupleItemsOf (.ref t) >>= _) _ _ s)
  refine (wpAny_bind (tupleItemsOf_ ht ?_))
  refine wpAny_bind (wpAny_typeOf hTsz ?_)
  rw [if_pos (by decide)]
  refine wpAny_bind (sliceApplied_two hs pl hl ?_)
  have hno : ¬ ((((min l items.size : Nat) : Int) == 0 && (2 : Int) == 1 && ((items.size - min l items.size + 1) / 2) == items.size) = true) := by
    intro qz
    rw [Bool.and_eq_true, Bool.and_eq_true] at qz
    exact absurd qz.1.2 (by decide)
  show wpAny _ _ (if (((min l items.size : Nat) : Int) == 0 && (2 : Int) == 1 && ((items.size - min l items.size + 1) / 2) == items.size) = true then _ else _) _ _ s
  rw [if_neg hno]
  have e : ((List.range ((items.size - min l items.size + 1) / 2)).filterMap fun (k : Nat) => items[(((min l items.size : Nat) : Int) + (k : Int) * 2).toNat]?).toArray = (stepX l items.toList).toArray := by
    unfold stepX
    rw [Array.length_toList]
    by_cases hle : l ≤ items.size
    · rw [Nat.min_eq_left hle]
      congr 1
      refine congrArg (fun f => List.filterMap f _) ?_
      funext k
      have : ((l : Int) + (k : Int) * 2).toNat = l + k * 2 := by omega
      rw [this]
      simp
    · have h0 : items.size - l = 0 := by omega
      have h1 : min l items.size = items.size := by omega
      rw [h1, h0, Nat.sub_self]
      rfl
  rw [e]
  first
    | exact wpAny_bind (m := Builtin.Tuple.tupleExact _) (wpAny_newObj_type (wpAny_pure ⟨_, rfl, wpAny_pure h⟩) htakez)
    | exact wpAny_bind (m := Builtin.Tuple.tupleExact _) (wpAny_newObj_type (wpAny_bind (wpAny_pure (wpAny_pure ⟨_, rfl, wpAny_pure h⟩))) htakez)
    | exact wpAny_bind (wpAny_bind (m := Builtin.Tuple.tupleExact _) (wpAny_newObj_type (wpAny_pure (wpAny_pure ⟨_, rfl, wpAny_pure h⟩)) htakez))
    | exact wpAny_bind (wpAny_bind (m := Builtin.Tuple.tupleExact _) (wpAny_newObj_type (wpAny_pure ⟨_, rfl, wpAny_pure h⟩) htakez))
end
section
variable {X : Cx}
theorem Vals.stepX {xs : List V} {us : List Value} (l : Nat) (r : Vals xs us) : Vals (stepX l xs) (stepX l us) := by
  unfold DL.stepX
  rw [← r.length]
  generalize (List.range ((xs.length - l + 1) / 2)) = ks
  induction ks with
  | nil => exact .nil
  | cons k ks ih =>
    rw [List.filterMap_cons, List.filterMap_cons]
    cases h : xs[l + k * 2]? with
    | none =>
      rw [r.none_of h]
      exact ih
    | some x =>
      obtain ⟨u, e, ru⟩ := r.get h
      rw [e]
      exact .cons ru ih
theorem stepX_length {α : Type} (l : Nat) (xs : List α) : (stepX l xs).length ≤ (xs.length - l + 1) / 2 := by
  unfold stepX
  refine Nat.le_trans (List.length_filterMap_le _ _) ?_
  rw [List.length_range]
  exact Nat.le_refl _
def tStep (K : PySem.W.Frag) (l : Nat) (te : TE) : TE := fun σ H Q => te σ H fun x H1 => ∃ a xs, x = .ref a ∧ SqT K H1 a xs ∧ ∀ p its, H1 p = none → Q (.ref p) (upd H1 p (ftO its (stepX l xs)))
theorem step_go {pins : List (Addr × Obj)} {s : Shared} {σ : St} {H : Hp} {Q : VK} {a sl : Addr} {xs : List V} {vl : Value} {tk : Tok} {lo : Option Int} {l : Nat} {value slice : Expr} (I : Inv X pins σ H s) (hx : SqT X.K H a xs)
    (hs : s.heap.IsSliceOf sl vl .none (.int 2 tk)) (pl : IsPart vl lo) (hl : lo = none ∧ l = 0 ∨ lo = some (l : Int) ∧ l ≤ 1) (q : ∀ p its, H p = none → Q (.ref p) (upd H p (ftO its (stepX l xs)))) :
    ∃ T id, typeLookup (.type T) "__getitem__" = pure (some (.builtin id)) ∧ s.TypeIs (.ref a) T ∧ wpAny (model X.prog X.w) X.A (getItem (.ref a) (.ref sl)) (EP X pins σ Q) X.xe s := by
  obtain ⟨its, rz, htz, hzz⟩ := I.tuple hx
  have hlenz : its.toArray.size = xs.length := by rw [List.size_toArray]; exact rz.length.symm
  refine ⟨"tuple", _, PyProof.Rows.slot_tuple_getitem.lookup, htz.typeIs, ?_⟩
  refine getItem_tuple_two htz hs pl hl ?_ (by rw [hlenz]; exact hzz)
  have e : its.toArray.toList = its := rfl
  refine ep_new I ?_ (Vals.stepX l rz) fun p hp => q p _ hp
  have := stepX_length l xs
  have : sizeLine = 16777216 := sizeLine_eq
  omega
theorem pe_step0 {e : Expr} {te : TE} {k : Nat} {p1 p3 pos : Pos} (he : PE X e te) : PE X (.Subscript e (.Slice none none (some (.Constant (.int 2) k p1)) p3) pos) (tStep X.K 0 te) := by
  refine ⟨fun pinsz s σz H Qz Iz hy => ?_⟩
  refine Subscript_ (thn (he.run pinsz s σz H _ Iz hy) fun vz s1z ⟨xz, H1, I1, r1z, q1z⟩ => ?_)
  obtain ⟨a, xs, rfl, hx, q⟩ := q1z
  cases r1z
  refine wpAny_Slice ?_
  rw [evalPart_none]
  refine (wpAny_pure (wpAny_pure ?_))
  rw [evalPart_some]
  refine wpAny_Constant_int ?_
  have I4 : Inv X pinsz σz H1 { s1z with heap := s1z.heap.push { cls := .type "slice", data := .fields #[.none, .none, .int 2 s1z.toks] }, toks := s1z.toks + 1 } := I1.kept (t' := s1z.toks + 1) fun b ob q => Heap.get?_push_of_some _ q
  obtain ⟨T, id, hT, ht, hg⟩ := step_go (s := { s1z with heap := s1z.heap.push { cls := .type "slice", data := .fields #[.none, .none, .int 2 s1z.toks] }, toks := s1z.toks + 1 }) (value := e) (slice := e) I4 hx (Heap.IsSliceOf.new ..) .none (.inl ⟨rfl, rfl⟩) q
  exact tail_any (ops := [.ref a, .ref s1z.heap.objs.size]) ht hT hg (by with_unfolding_all rfl)
theorem pe_step1 {e : Expr} {te : TE} {k k0 : Nat} {p0 p1 p3 pos : Pos} (he : PE X e te) : PE X (.Subscript e (.Slice (some (.Constant (.int 1) k0 p0)) none (some (.Constant (.int 2) k p1)) p3) pos) (tStep X.K 1 te) := by
  refine ⟨fun pinsz s σz H Qz Iz hy => ?_⟩
  refine Subscript_ (thn (he.run pinsz s σz H _ Iz hy) fun vz s1z ⟨xz, H1, I1, r1z, q1z⟩ => ?_)
  obtain ⟨a, xs, rfl, hx, q⟩ := q1z
  cases r1z
  refine wpAny_Slice ?_
  rw [evalPart_some]
  refine wpAny_Constant_int ?_
  rw [evalPart_none]
  refine wpAny_pure ?_
  rw [evalPart_some]
  refine wpAny_Constant_int ?_
  have I4 : Inv X pinsz σz H1 { s1z with heap := s1z.heap.push { cls := .type "slice", data := .fields #[.int 1 s1z.toks, .none, .int 2 (s1z.toks + 1)] }, toks := s1z.toks + 1 + 1 } := I1.kept (t' := s1z.toks + 1 + 1) fun b ob q => Heap.get?_push_of_some _ q
  obtain ⟨T, id, hT, ht, hg⟩ := step_go (s := { s1z with heap := s1z.heap.push { cls := .type "slice", data := .fields #[.int 1 s1z.toks, .none, .int 2 (s1z.toks + 1)] }, toks := s1z.toks + 1 + 1 }) (value := e) (slice := e) I4 hx (Heap.IsSliceOf.new ..) (.int 1 _) (.inr ⟨rfl, Nat.le_refl _⟩) q
  exact tail_any (ops := [.ref a, .ref s1z.heap.objs.size]) ht hT hg (by with_unfolding_all rfl)
end
end L2.DL
end

section
/-! The data layer 4: places, slices, calls of built-ins. -/
namespace L2.DL
open L2 PySem PySem.Spec PyProof.Rows
variable [TabsOf]

section
variable {X : Cx} {e a b : Expr} {es : List Expr} {pos : Pos}
/-! ### a place of a list or tuple -/
def oIx : OD
  | .list ds, .int i, Q => ∃ v, atI ds i = some v ∧ Q v
  | .tuple ds, .int i, Q => ∃ v, atI ds i = some v ∧ Q v
  | _, _, _ => False
theorem atI_rep {K : PySem.W.Frag} {Z : Addr → Prop} {T : Tb} {H : Hp} {xs : List V} {ds : List PyData} {i : Int} {d : PyData} (r : RepAll K Z T H xs ds) (h : atI ds i = some d) : ∃ v, atI xs i = some v ∧ Rep K Z T H v d := by
  unfold atI at *
  rw [r.length]
  cases q : ixN ds.length i with
  | none => rw [q] at h; cases h
  | some j =>
    rw [q] at h
    obtain ⟨x, h1, h2⟩ := r.get (i := j) (e := d) h
    exact ⟨x, h1, h2⟩
theorem ix_d : IxR X (tOD X.K oIx) := by
  intro value slice pins s σ H x y v u Q I rx ry ⟨Z, T, d1, d2, Qd, al, r1, r2, o, k⟩ hs
  refine (ix_list.or ix_tup) value slice pins s σ H x y v u Q I rx ry ?_ hs
  unfold oIx at o
  split at o
  · obtain ⟨w, hw, q⟩ := o
    obtain ⟨p, xs, rfl, s, ra⟩ := r1.list
    obtain ⟨z, hz, rz⟩ := atI_rep ra hw
    exact .inl ⟨p, xs, _, z, rfl, r2.int, .of s, hz, k _ _ _ .refl rz q⟩
  · obtain ⟨w, hw, q⟩ := o
    obtain ⟨p, xs, rfl, s, ra⟩ := r1.tuple
    obtain ⟨z, hz, rz⟩ := atI_rep ra hw
    exact .inr ⟨p, xs, _, z, rfl, r2.int, .inl s, hz, k _ _ _ .refl rz q⟩
  · exact o.elim
theorem d_ix {ga gb : GE} (ha : DB X a ga) (hb : DB X b gb) (hs : PlainIx b := by exact fun _ _ => rfl) : DE X (.Subscript a b pos) (gBin oIx ga gb) :=
  ⟨pe_weak (pe_ix ix_d ha.pe hb.pe hs) fun _ _ _ h => bin_of h⟩
/-- -i -/
def gNeg (ga : GE) : GE := fun env n Q => ga env n fun d n1 => match d with
  | .int i => Q (.int (-i)) n1
  | _ => False
theorem d_neg {ga : GE} (ha : DB X a ga) : DE X (.UnaryOp .USub a pos) (gNeg ga) := ⟨pe_weak (pe_un un_neg ha.pe) fun σ H Q ⟨c, O, n, env, Qd, E, hg, k⟩ =>
  ⟨c, O, n, env, _, E, hg, fun v d H1 n1 x1 t1 r1 q1 => by
    cases d with
    | int i => exact ⟨i, r1.int, k _ _ H1 n1 x1 t1 (.int _) q1⟩
    | _ => exact q1.elim⟩⟩

/-! ### slices without a step -/
abbrev GO := List Sl → Nat → (Option Int → Nat → Prop) → Prop
def tDO (K : PySem.W.Frag) (g : GO) : TO := fun σ H Q => ∃ (c : Ct) (O : Own) (n : Nat) (env : List Sl) (Qd : Option Int → Nat → Prop), EnvOk K c O n H σ env ∧ g env n Qd ∧
  ∀ v H' n', Ext c.T H H' → TubOk c.T n' H' → Qd v n' → Q v H'
structure DO (X : Cx) (e : Option Expr) (g : GO) : Prop where pe : PO X e (tDO X.K g)
def gNoP : GO := fun _ n Q => Q none n
def gPart (g : GE) : GO := fun env n Q => g env n fun d n1 => match d with
  | .int i => Q (some i) n1
  | _ => False
theorem po_weak {e : Option Expr} {t t' : TO} (h : PO X e t) (w : ∀ σ H Q, t' σ H Q → t σ H Q) : PO X e t' := ⟨fun pins s σ H Q I q => h.run pins s σ H Q I (w σ H Q q)⟩
theorem o_none : DO X none gNoP := ⟨po_weak po_none fun σ H Q ⟨c, O, n, env, Qd, E, hg, k⟩ => k none H n .refl E.tub hg⟩
theorem o_some {g : GE} (h : DB X e g) : DO X (some e) (gPart g) := ⟨po_weak (po_some h.pe) fun σ H Q ⟨c, O, n, env, Qd, E, hg, k⟩ => ⟨c, O, n, env, _, E, hg, fun v d H1 n1 x1 t1 r1 q1 => by
  cases d with
  | int i => exact ⟨i, r1.int, k _ H1 n1 x1 t1 q1⟩
  | _ => exact q1.elim⟩⟩
def cutX {α : Type} (xs : List α) (lo hi : Option Int) : List α := (xs.drop (HT.sIx xs.length 0 lo)).take (HT.sIx xs.length xs.length hi - HT.sIx xs.length 0 lo)
theorem RepAll.cut {K : PySem.W.Frag} {Z : Addr → Prop} {T : Tb} {H : Hp} {xs : List V} {ds : List PyData} (r : RepAll K Z T H xs ds) (lo hi : Option Int) : RepAll K Z T H (cutV xs lo hi) (cutX ds lo hi) := by
  unfold cutV cutX
  rw [r.length]
  exact (r.drop _).take _
theorem scr_all {K : PySem.W.Frag} {Z : Addr → Prop} {T : Tb} {H : Hp} : ∀ ns : List Int, RepAll K Z T H (ns.map V.int) (ns.map .int)
  | [] => .nil
  | n :: ns => .cons (.int n) (scr_all ns)
def oSlL : PyData → Option Int → Option Int → (PyData → Prop) → Prop
  | .list ds, l, h, Q => Q (.list (cutX ds l h))
  | .dict [(.none, .list ds)], l, h, Q => Q (.list (cutX ds l h))
  | _, _, _, _ => False
def oSlT : PyData → Option Int → Option Int → (PyData → Prop) → Prop
  | .tuple ds, l, h, Q => Q (.tuple (cutX ds l h))
  | _, _, _, _ => False
def gSl (o : PyData → Option Int → Option Int → (PyData → Prop) → Prop) (g : GE) (lo hi : GO) : GE := fun env n Q => g env n fun d n1 => lo env n1 fun l n2 => hi env n2 fun h n3 => o d l h fun x => Q x n3
theorem keyD_none {k : Key} (h : PyData.none = keyD k) : False := by cases k <;> cases h
theorem scr_inv {K : PySem.W.Frag} {Z : Addr → Prop} {T : Tb} {H : Hp} {v : V} {ds : List PyData} (r : RepT K Z T H v (.dict [(.none, .list ds)])) : ∃ (a : Addr) (ns : List Int), v = .ref a ∧ ds = ns.map PyData.int ∧ SqL K H a (ns.map V.int) := by
  rcases r with r | ⟨a, rfl, nT, tp⟩
  · generalize hd : PyData.dict [(PyData.none, PyData.list ds)] = dd at r
    cases r with
    | scr ls =>
      unfold scrD at hd
      injection hd with hd
      injection hd with hd
      injection hd with _ hd
      injection hd with hd
      exact ⟨_, _, rfl, hd, ls.sq⟩
    | dic n s r =>
      injection hd with hd
      subst hd
      generalize hq : [(PyData.none, PyData.list ds)] = qq at r
      cases r with
      | cons ra rb =>
        injection hq with hq
        injection hq with hq
        exact (keyD_none hq).elim
      | nil => cases hq
    | tub e => unfold tubD at hd; cases hd
    | _ => cases hd
  · rcases tp with ⟨_, _, z, _⟩ | ⟨kvs, ds', z, e1, r⟩
    · cases z
    · injection z with z
      subst z
      generalize hq : [(PyData.none, PyData.list ds)] = qq at r
      cases r with
      | cons ra rb =>
        injection hq with hq
        injection hq with hq
        exact (keyD_none hq).elim
      | nil => cases hq
theorem none_before {K : PySem.W.Frag} {c : Ct} {O : Own} {n : Nat} {H H1 : Hp} {σ : St} {env : List Sl} (E : EnvOk K c O n H σ env) (x : Ext c.T H H1) {p : Addr} (hp : New H1 p) (t : ∀ a, c.T.u = some a → ¬ New H1 a) : New H p := fun o nt q => by
  by_cases e : c.T.u = some p
  · exact t p e hp
  · exact x.sm e (not_new nt q) hp
theorem tub_some {T : Tb} {n : Nat} {H : Hp} (t : TubOk T n H) : ∀ a, T.u = some a → ¬ New H a := fun a e => by
  obtain ⟨x, y, z, q, _⟩ := t.go a e
  exact not_new nt_lst q
theorem f_slice {g : GE} {lo hi : Option Expr} {gl gh : GO} {p2 : Pos} (he : DB X e g) (hl : DO X lo gl) (hh : DO X hi gh) : DF X (.Subscript e (.Slice lo hi none p2) pos) (gSl oSlL g gl gh) :=
  ⟨pe_weak (pe_slice sl_list he.pe hl.pe hh.pe) fun σ H Q ⟨c, O, n, env, Qd, E, hg, k⟩ =>
    ⟨c, O, n, env, _, E, hg, fun v d H1 n1 x1 t1 r1 q1 => ⟨c, O, n1, env, _, E.extend x1 t1, q1, fun l H2 n2 x2 t2 q2 => ⟨c, O, n2, env, _, (E.extend x1 t1).extend x2 t2, q2, fun h H3 n3 x3 t3 q3 => by
      have E3 := ((E.extend x1 t1).extend x2 t2).extend x3 t3
      have r3 := (r1.ext E.atz x2).ext E.atz x3
      have x13 := (x1.trans x2).trans x3
      have nb : ∀ p, H3 p = none → New H p := fun p hp => none_before E x13 (new_none hp) (tub_some t3)
      unfold oSlL at q3
      split at q3
      · obtain ⟨a, xs, rfl, s, ra⟩ := r3.list
        exact ⟨a, xs, rfl, .of s, fun p hp => k p _ _ n3 (x13.trans (Grow.new hp).ext) (t3.grow (.new hp)) (nb p hp) (.inl ⟨_, _, rfl, upd_same, (ra.cut _ _).avoid hp⟩) q3⟩
      · obtain ⟨a, ns, rfl, rfl, s⟩ := scr_inv r3
        exact ⟨a, _, rfl, s, fun p hp => k p _ _ n3 (x13.trans (Grow.new hp).ext) (t3.grow (.new hp)) (nb p hp) (.inl ⟨_, _, rfl, upd_same, ((scr_all ns).cut _ _).avoid hp⟩) q3⟩
      · exact q3.elim⟩⟩⟩⟩
theorem d_sliceT {g : GE} {lo hi : Option Expr} {gl gh : GO} {p2 : Pos} (he : DE X e g) (hl : DO X lo gl) (hh : DO X hi gh) : DE X (.Subscript e (.Slice lo hi none p2) pos) (gSl oSlT g gl gh) :=
  ⟨pe_weak (pe_slice sl_tupZ he.pe hl.pe hh.pe) fun σ H Q ⟨c, O, n, env, Qd, E, hg, k⟩ =>
    ⟨c, O, n, env, _, E, hg, fun v d H1 n1 x1 t1 r1 q1 => ⟨c, O, n1, env, _, E.extend x1 t1, q1, fun l H2 n2 x2 t2 q2 => ⟨c, O, n2, env, _, (E.extend x1 t1).extend x2 t2, q2, fun h H3 n3 x3 t3 q3 => by
      have E3 := ((E.extend x1 t1).extend x2 t2).extend x3 t3
      have r3 := (r1.ext E.atz x2).ext E.atz x3
      have x13 := (x1.trans x2).trans x3
      unfold oSlT at q3
      split at q3
      · next ds l h =>
        obtain ⟨a, xs, rfl, s, ra⟩ := (show RepT X.K (c.av O) c.T H3 v (.tuple _) from .inl r3).tuple
        refine ⟨a, xs, rfl, .inl s, fun ⟨w1, w2⟩ => ?_, fun w p its hp => k _ _ _ n3 (x13.trans (Grow.new hp).ext) (t3.grow (.new hp)) (.tup (E3.new hp) upd_same rfl ((ra.cut _ _).grow (.new hp))) q3⟩
        refine k _ _ _ n3 x13 t3 r3 ?_
        rw [ra.length] at w1 w2
        unfold cutX at q3
        rw [w1, w2] at q3
        simpa using q3
      · exact q3.elim⟩⟩⟩⟩
/-- t[l::2] -/
def gStep (l : Nat) (g : GE) : GE := fun env n Q => g env n fun d n1 => match d with
  | .tuple ds => Q (.tuple (stepX l ds)) n1
  | _ => False
theorem RepAll.step {K : PySem.W.Frag} {Z : Addr → Prop} {T : Tb} {H : Hp} {xs : List V} {ds : List PyData} (l : Nat) (r : RepAll K Z T H xs ds) : RepAll K Z T H (stepX l xs) (stepX l ds) := by
  unfold stepX
  rw [← r.length]
  generalize (List.range ((xs.length - l + 1) / 2)) = ks
  induction ks with
  | nil => exact .nil
  | cons k ks ih =>
    rw [List.filterMap_cons, List.filterMap_cons]
    cases h : xs[l + k * 2]? with
    | none =>
      have : ds[l + k * 2]? = none := by
        rw [List.getElem?_eq_none_iff, ← r.length]
        exact List.getElem?_eq_none_iff.mp h
      rw [this]
      exact ih
    | some x =>
      obtain ⟨u, e, ru⟩ := r.get' h
      rw [e]
      exact .cons ru ih
theorem step_of {g : GE} {l : Nat} {σ : St} {H : Hp} {Q : VK} (h : tDE X.K (gStep l g) σ H Q) : tStep X.K l (tDB X.K g) σ H Q := by
  obtain ⟨c, O, n, env, Qd, E, hg, k⟩ := h
  refine ⟨c, O, n, env, _, E, hg, fun v d H1 n1 x1 t1 r1 q1 => ?_⟩
  cases d with
  | tuple ds =>
    obtain ⟨a, xs, rfl, s, ra⟩ := r1.tuple
    exact ⟨a, xs, rfl, .inl s, fun p its hp => k _ _ _ n1 (x1.trans (Grow.new hp).ext) (t1.grow (.new hp)) (.tup ((E.extend x1 t1).new hp) upd_same rfl ((ra.step l).grow (.new hp))) q1⟩
  | _ => exact q1.elim
theorem d_step0 {g : GE} {k : Nat} {p1 p3 : Pos} (he : DB X e g) : DE X (.Subscript e (.Slice none none (some (.Constant (.int 2) k p1)) p3) pos) (gStep 0 g) := ⟨pe_weak (pe_step0 he.pe) fun _ _ _ h => step_of h⟩
theorem d_step1 {g : GE} {k k0 : Nat} {p0 p1 p3 : Pos} (he : DB X e g) : DE X (.Subscript e (.Slice (some (.Constant (.int 1) k0 p0)) none (some (.Constant (.int 2) k p1)) p3) pos) (gStep 1 g) := ⟨pe_weak (pe_step1 he.pe) fun _ _ _ h => step_of h⟩

/-! ### calls of built-ins by values -/
abbrev OC := List PyData → (PyData → Prop) → Prop
def tCD (K : PySem.W.Frag) (o : OC) : List V → Hp → VK → Prop := fun xs H Q => ∃ (Z : Addr → Prop) (T : Tb) (ds : List PyData) (Qd : PyData → Prop),
  (∀ a, Z a → ¬ New H a) ∧ RepTs K Z T H xs ds ∧ o ds Qd ∧ ∀ v d H', Grow H H' → Rep K Z T H' v d → Qd d → Q v H'
def tCF (K : PySem.W.Frag) (o : OC) : List V → Hp → VK → Prop := fun xs H Q => ∃ (Z : Addr → Prop) (T : Tb) (ds : List PyData) (Qd : PyData → Prop),
  (∀ a, Z a → ¬ New H a) ∧ RepTs K Z T H xs ds ∧ o ds Qd ∧ ∀ p d H', Grow H H' → H p = none → TopAt K (Zp Z p) T H' p d → Qd d → Q (.ref p) H'
def CallD (X : Cx) (f : Value) (o : OC) : Prop := CallR X f (tCD X.K o)
def CallF (X : Cx) (f : Value) (o : OC) : Prop := CallR X f (tCF X.K o)
theorem callD_of {f : Value} {r : List V → Hp → VK → Prop} {o : OC} (h : CallR X f r) (w : ∀ x H Q, tCD X.K o x H Q → r x H Q) : CallD X f o := by
  intro pins s σ H x v Q I rx q
  exact h pins s σ H x v Q I rx (w x H Q q)
theorem callF_of {f : Value} {r : List V → Hp → VK → Prop} {o : OC} (h : CallR X f r) (w : ∀ x H Q, tCF X.K o x H Q → r x H Q) : CallF X f o := by
  intro pins s σ H x v Q I rx q
  exact h pins s σ H x v Q I rx (w x H Q q)
def gCall (o : OC) (ga : GA) : GE := fun env n Q => ga env n fun ds n1 => o ds fun d => Q d n1
theorem callD_go {o : OC} {ga : GA} {σ : St} {H : Hp} {Q : VK} (h : tDE X.K (gCall o ga) σ H Q) : tCB (tCD X.K o) (tDAB X.K ga) σ H Q := by
  obtain ⟨c, O, n, env, Qd, E, hg, k⟩ := h
  exact ⟨c, O, n, env, _, E, hg, fun vs ds H1 n1 x1 t1 r1 q1 => ⟨c.av O, c.T, ds, _, (E.extend x1 t1).al, r1, q1, fun v d H' g r q => k v d H' n1 (x1.trans g.ext) (t1.grow g) r q⟩⟩
theorem callF_go {o : OC} {ga : GA} {σ : St} {H : Hp} {Q : VK} (h : tDF X.K (gCall o ga) σ H Q) : tCB (tCF X.K o) (tDAB X.K ga) σ H Q := by
  obtain ⟨c, O, n, env, Qd, E, hg, k⟩ := h
  exact ⟨c, O, n, env, _, E, hg, fun vs ds H1 n1 x1 t1 r1 q1 => ⟨c.av O, c.T, ds, _, (E.extend x1 t1).al, r1, q1, fun v d H' g f r q => k v d H' n1 (x1.trans g.ext) (t1.grow g) (none_before E x1 (new_none f) (tub_some t1)) r q⟩⟩
variable {x : Str} {p : Pos} {id : String}
theorem d_callB {o : OC} {ga : GA} (hc : CallD X (.builtin id) o) (hg : Gl X x) (hm : X.mg x = none) (hv : bootBuiltins x = some (.builtin id)) (ha : DAB X (e :: es) ga) (hn : x ≠ "__name__" := by decide) (hdb : (x == ("__debug__" : Str)) = false := by decide)
    (hs : starEach (e :: es) X.env = (false, eval e X.env) :: starEach es X.env := by rfl) (hplain : (backTo pos (starEach es X.env)).any (·.1) = false := by rfl) : DE X (.Call (.Name x p) (e :: es) [] pos) (gCall o ga) :=
  ⟨pe_weak (pe_callB hc hg hm hv ha.pe hn hdb hs hplain) fun _ _ _ h => callD_go h⟩
theorem f_callB {o : OC} {ga : GA} (hc : CallF X (.builtin id) o) (hg : Gl X x) (hm : X.mg x = none) (hv : bootBuiltins x = some (.builtin id)) (ha : DAB X (e :: es) ga) (hn : x ≠ "__name__" := by decide) (hdb : (x == ("__debug__" : Str)) = false := by decide)
    (hs : starEach (e :: es) X.env = (false, eval e X.env) :: starEach es X.env := by rfl) (hplain : (backTo pos (starEach es X.env)).any (·.1) = false := by rfl) : DF X (.Call (.Name x p) (e :: es) [] pos) (gCall o ga) :=
  ⟨pe_weak (pe_callB hc hg hm hv ha.pe hn hdb hs hplain) fun _ _ _ h => callF_go h⟩
theorem d_callTy {o : OC} {ga : GA} (hc : CallD X (.type id) o) (hg : Gl X x) (hm : X.mg x = none) (hv : bootBuiltins x = some (.type id)) (ha : DAB X (e :: es) ga) (hn : x ≠ "__name__" := by decide) (hdb : (x == ("__debug__" : Str)) = false := by decide)
    (hs : starEach (e :: es) X.env = (false, eval e X.env) :: starEach es X.env := by rfl) (hplain : (backTo pos (starEach es X.env)).any (·.1) = false := by rfl) : DE X (.Call (.Name x p) (e :: es) [] pos) (gCall o ga) :=
  ⟨pe_weak (pe_callTy hc hg hm hv ha.pe hn hdb hs hplain) fun _ _ _ h => callD_go h⟩
theorem f_callTy {o : OC} {ga : GA} (hc : CallF X (.type id) o) (hg : Gl X x) (hm : X.mg x = none) (hv : bootBuiltins x = some (.type id)) (ha : DAB X (e :: es) ga) (hn : x ≠ "__name__" := by decide) (hdb : (x == ("__debug__" : Str)) = false := by decide)
    (hs : starEach (e :: es) X.env = (false, eval e X.env) :: starEach es X.env := by rfl) (hplain : (backTo pos (starEach es X.env)).any (·.1) = false := by rfl) : DF X (.Call (.Name x p) (e :: es) [] pos) (gCall o ga) :=
  ⟨pe_weak (pe_callTy hc hg hm hv ha.pe hn hdb hs hplain) fun _ _ _ h => callF_go h⟩
end
end L2.DL
end

section
/-! The data layer 5: built-ins, methods that change nothing, isinstance. -/
namespace L2.DL
open L2 PySem PySem.Spec PyProof.Rows
variable [TabsOf]

section
variable {X : Cx} {e a b : Expr} {es : List Expr} {pos : Pos}
theorem ts1 {K : PySem.W.Frag} {Z : Addr → Prop} {T : Tb} {H : Hp} {xs : List V} {d : PyData} (r : RepTs K Z T H xs [d]) : ∃ x, xs = [x] ∧ RepT K Z T H x d := by
  cases r with
  | cons a b => cases b; exact ⟨_, rfl, a⟩
theorem ts2 {K : PySem.W.Frag} {Z : Addr → Prop} {T : Tb} {H : Hp} {xs : List V} {d e : PyData} (r : RepTs K Z T H xs [d, e]) : ∃ x y, xs = [x, y] ∧ RepT K Z T H x d ∧ RepT K Z T H y e := by
  cases r with
  | cons a b =>
    cases b with
    | cons c b => cases b; exact ⟨_, _, rfl, a, c⟩
theorem RepT.strict {K : PySem.W.Frag} {Z : Addr → Prop} {T : Tb} {H : Hp} {v : V} {ds : List PyData} (r : RepT K Z T H v (.tuple ds)) : Rep K Z T H v (.tuple ds) := by
  rcases r with r | ⟨q, _, _, t⟩
  · exact r
  · rcases t with ⟨_, _, z, _⟩ | ⟨_, _, z, _⟩ <;> cases z

def oLen : OC
  | [.list ds], Q => Q (.int ds.length)
  | [.tuple ds], Q => Q (.int ds.length)
  | [.str x], Q => x.length ≤ sizeLine ∧ Q (.int x.length)
  | _, _ => False
theorem c_len : CallD X (.builtin "len") oLen := callD_of (call_len_seq.or call_len_str) fun xs H Q ⟨Z, T, ds, Qd, al, r, o, k⟩ => by
  unfold oLen at o
  split at o
  · obtain ⟨x, rfl, rr⟩ := ts1 r
    obtain ⟨a, ys, rfl, s, ra⟩ := rr.list
    exact .inl ⟨a, ys, rfl, .inl (.of s), by rw [ra.length]; exact k _ _ _ .refl (.int _) o⟩
  · obtain ⟨x, rfl, rr⟩ := ts1 r
    obtain ⟨a, ys, rfl, s, ra⟩ := rr.tuple
    exact .inl ⟨a, ys, rfl, .inr (.inl s), by rw [ra.length]; exact k _ _ _ .refl (.int _) o⟩
  · obtain ⟨x, rfl, rr⟩ := ts1 r
    cases rr.str
    exact .inr ⟨_, rfl, o.1, k _ _ _ .refl (.int _) o.2⟩
  · exact o.elim
def oList : OC
  | [.list ds], Q => Q (.list ds)
  | [.tuple ds], Q => Q (.list ds)
  | _, _ => False
theorem c_list : CallF X (.type "list") oList := callF_of call_list_of fun xs H Q ⟨Z, T, ds, Qd, al, r, o, k⟩ => by
  unfold oList at o
  split at o
  · obtain ⟨x, rfl, rr⟩ := ts1 r
    obtain ⟨a, ys, rfl, s, ra⟩ := rr.list
    exact ⟨a, ys, rfl, .inl (.of s), fun p hp => k p _ _ (.new hp) hp (.inl ⟨_, _, rfl, upd_same, ra.avoid hp⟩) o⟩
  · obtain ⟨x, rfl, rr⟩ := ts1 r
    obtain ⟨a, ys, rfl, s, ra⟩ := rr.tuple
    exact ⟨a, ys, rfl, .inr (.inl s), fun p hp => k p _ _ (.new hp) hp (.inl ⟨_, _, rfl, upd_same, ra.avoid hp⟩) o⟩
  · exact o.elim
def oTuple : OC
  | [.list ds], Q => Q (.tuple ds)
  | [.tuple ds], Q => Q (.tuple ds)
  | _, _ => False
theorem c_tuple : CallD X (.type "tuple") oTuple := callD_of call_tupleZ fun xs H Q ⟨Z, T, ds, Qd, al, r, o, k⟩ => by
  unfold oTuple at o
  split at o
  · obtain ⟨x, rfl, rr⟩ := ts1 r
    obtain ⟨a, ys, rfl, s, ra⟩ := rr.list
    exact ⟨a, ys, rfl, .inl ⟨.of s, fun p its hp => k _ _ _ (.new hp) (.tup (fun z => al p z (new_none hp)) upd_same rfl (ra.grow (.new hp))) o⟩⟩
  · obtain ⟨x, rfl, rr⟩ := ts1 r
    obtain ⟨a, ys, rfl, s, ra⟩ := rr.tuple
    exact ⟨a, ys, rfl, .inr ⟨.inl s, k _ _ _ .refl rr.strict o⟩⟩
  · exact o.elim
def oDictD : OC
  | [.dict ds], Q => dOk ds ∧ Q (.dict ds)
  | _, _ => False
theorem c_dictD : CallF X (.type "dict") oDictD := callF_of call_dictD fun xs H Q ⟨Z, T, ds, Qd, al, r, o, k⟩ => by
  unfold oDictD at o
  split at o
  · obtain ⟨x, rfl, rr⟩ := ts1 r
    obtain ⟨a, kvs, rfl, s, ra⟩ := rr.dict o.1
    exact ⟨a, kvs, rfl, s, fun p hp => k p _ _ (.new hp) hp (.inr ⟨_, _, rfl, upd_same, ra.avoid hp⟩) o.2⟩
  · exact o.elim
theorem rep_bools {K : PySem.W.Frag} {Z : Addr → Prop} {T : Tb} {H : Hp} : ∀ {bs : List Bool} {xs : List V}, RepAll K Z T H xs (bs.map .bool) → xs = bs.map V.bl
  | [], _, r => by cases r; rfl
  | b :: bs, _, r => by
    rw [List.map_cons] at r
    cases r with
    | cons a t =>
      cases a
      rw [rep_bools t]; rfl
theorem rep_ints {K : PySem.W.Frag} {Z : Addr → Prop} {T : Tb} {H : Hp} : ∀ {bs : List Int} {xs : List V}, RepAll K Z T H xs (bs.map .int) → xs = bs.map V.int
  | [], _, r => by cases r; rfl
  | b :: bs, _, r => by
    rw [List.map_cons] at r
    cases r with
    | cons a t =>
      cases a
      rw [rep_ints t]; rfl
theorem rep_strs {K : PySem.W.Frag} {Z : Addr → Prop} {T : Tb} {H : Hp} : ∀ {bs : List Str} {xs : List V}, RepAll K Z T H xs (bs.map .str) → xs = bs.map V.str
  | [], _, r => by cases r; rfl
  | b :: bs, _, r => by
    rw [List.map_cons] at r
    cases r with
    | cons a t =>
      cases a
      rw [rep_strs t]; rfl
def oAll : OC
  | [.list ds], Q => ∃ bs : List Bool, ds = bs.map .bool ∧ Q (.bool (bs.all id))
  | _, _ => False
theorem c_all (hc : X.calm = true) : CallD X (.builtin "all") oAll := callD_of (cr_all hc) fun xs H Q ⟨Z, T, ds, Qd, al, r, o, k⟩ => by
  unfold oAll at o
  split at o
  · obtain ⟨bs, rfl, o⟩ := o
    obtain ⟨x, rfl, rr⟩ := ts1 r
    obtain ⟨a, ys, rfl, s, ra⟩ := rr.list
    cases rep_bools ra
    exact ⟨a, bs, rfl, .of s, k _ _ _ .refl (.bl _) o⟩
  · exact o.elim
def oMax : OC
  | [.list ds], Q => ∃ ns : List Int, ds = ns.map .int ∧ 0 < ns.length ∧ ∀ m, m ∈ ns → (∀ y, y ∈ ns → y ≤ m) → Q (.int m)
  | _, _ => False
theorem c_max (hc : X.calm = true) : CallD X (.builtin "max") oMax := callD_of (cr_max hc) fun xs H Q ⟨Z, T, ds, Qd, al, r, o, k⟩ => by
  unfold oMax at o
  split at o
  · obtain ⟨bs, rfl, h0, o⟩ := o
    obtain ⟨x, rfl, rr⟩ := ts1 r
    obtain ⟨a, ys, rfl, s, ra⟩ := rr.list
    cases rep_ints ra
    exact ⟨a, bs, rfl, .of s, h0, fun m h1 h2 => k _ _ _ .refl (.int _) (o m h1 h2)⟩
  · exact o.elim
def oMin : OC
  | [.list ds], Q => ∃ ns : List Int, ds = ns.map .int ∧ 0 < ns.length ∧ ∀ m, m ∈ ns → (∀ y, y ∈ ns → m ≤ y) → Q (.int m)
  | [.int i, .int j], Q => Q (.int (if j < i then j else i))
  | _, _ => False
theorem c_min (hc : X.calm = true) : CallD X (.builtin "min") oMin := callD_of ((cr_min hc).or (call_min2 hc)) fun xs H Q ⟨Z, T, ds, Qd, al, r, o, k⟩ => by
  unfold oMin at o
  split at o
  · obtain ⟨bs, rfl, h0, o⟩ := o
    obtain ⟨x, rfl, rr⟩ := ts1 r
    obtain ⟨a, ys, rfl, s, ra⟩ := rr.list
    cases rep_ints ra
    exact .inl ⟨a, bs, rfl, .of s, h0, fun m h1 h2 => k _ _ _ .refl (.int _) (o m h1 h2)⟩
  · obtain ⟨x, y, rfl, r1, r2⟩ := ts2 r
    cases r1.int
    cases r2.int
    exact .inr ⟨_, _, rfl, k _ _ _ .refl (.int _) o⟩
  · exact o.elim
def oAbs : OC
  | [.int i], Q => Q (.int (if i < 0 then -i else i))
  | _, _ => False
theorem c_abs : CallD X (.builtin "abs") oAbs := callD_of call_abs fun xs H Q ⟨Z, T, ds, Qd, al, r, o, k⟩ => by
  unfold oAbs at o
  split at o
  · obtain ⟨x, rfl, rr⟩ := ts1 r
    cases rr.int
    exact ⟨_, rfl, k _ _ _ .refl (.int _) o⟩
  · exact o.elim
def oInt : OC
  | [.int i], Q => Q (.int i)
  | [.bool b], Q => Q (.int (if b then 1 else 0))
  | _, _ => False
theorem c_int : CallD X (.type "int") oInt := callD_of call_int1 fun xs H Q ⟨Z, T, ds, Qd, al, r, o, k⟩ => by
  unfold oInt at o
  split at o
  · obtain ⟨x, rfl, rr⟩ := ts1 r
    cases rr.int
    exact .inl ⟨_, rfl, k _ _ _ .refl (.int _) o⟩
  · obtain ⟨x, rfl, rr⟩ := ts1 r
    cases rr.bl
    exact .inr ⟨_, rfl, k _ _ _ .refl (.int _) o⟩
  · exact o.elim

/-! ### isinstance -/
def tyD : PyData → String
  | .none => "NoneType"
  | .bool _ => "bool"
  | .int _ => "int"
  | .str _ => "str"
  | .list _ => "list"
  | .tuple _ => "tuple"
  | .dict _ => "dict"
def isD : PyData → Bool
  | .dict _ => true
  | _ => false
theorem tyx_of {K : PySem.W.Frag} {Z : Addr → Prop} {T : Tb} {H : Hp} {v : V} {d : PyData} (r : RepT K Z T H v d) (h : isD d = false) : TyX K H v (.type (tyD d)) := by
  cases d with
  | none => cases r.non; exact .base .non
  | bool b => cases r.bl; exact .base (.bl _)
  | int b => cases r.int; exact .base (.int _)
  | str b => cases r.str; exact .base (.str _)
  | list ds =>
    obtain ⟨a, ys, rfl, s, _⟩ := r.list
    exact .base (.lst s)
  | tuple ds =>
    obtain ⟨a, ys, rfl, s, _⟩ := r.tuple
    rcases s with s | ⟨o, s⟩
    · exact .base (.tup s)
    · exact .fTuple s
  | dict ds => cases h
def isN (T nm : String) : Bool := nm == T || (nm == "bool" && T == "int")
def isT (T : String) (d : PyData) : Bool := isN T (tyD d)
theorem kit_all {T : String} (hT : T = "list" ∨ T = "tuple" ∨ T = "str" ∨ T = "int" ∨ T = "bool") (d : PyData) (h : isD d = false) : L2.kitB (tyD d) T = some (isT T d) := by
  rcases hT with rfl | rfl | rfl | rfl | rfl
  all_goals (cases d with
    | dict _ => cases h
    | none => (show L2.kitB "NoneType" _ = some (isN _ "NoneType")); decide +kernel
    | bool _ => (show L2.kitB "bool" _ = some (isN _ "bool")); decide +kernel
    | int _ => (show L2.kitB "int" _ = some (isN _ "int")); decide +kernel
    | str _ => (show L2.kitB "str" _ = some (isN _ "str")); decide +kernel
    | list _ => (show L2.kitB "list" _ = some (isN _ "list")); decide +kernel
    | tuple _ => (show L2.kitB "tuple" _ = some (isN _ "tuple")); decide +kernel)
def gIsi (T : String) (g : GE) : GE := fun env n Q => g env n fun d n1 => isD d = false ∧ Q (.bool (isT T d)) n1
theorem d_isi {x y : Str} {T : String} {p q : Pos} {g : GE} (hT : T = "list" ∨ T = "tuple" ∨ T = "str" ∨ T = "int" ∨ T = "bool") (hg : Gl X x) (hm : X.mg x = none) (hv : bootBuiltins x = some (.builtin "isinstance"))
    (hg2 : Gl X y) (hm2 : X.mg y = none) (hv2 : bootBuiltins y = some (.type T)) (he : DB X e g) (hn : x ≠ "__name__" := by decide) (hdb : (x == ("__debug__" : Str)) = false := by decide) (hn2 : y ≠ "__name__" := by decide) (hdb2 : (y == ("__debug__" : Str)) = false := by decide)
    (hs : starEach [e, .Name y q] X.env = (false, eval e X.env) :: starEach [.Name y q] X.env := by rfl) (hplain : (backTo pos (starEach [.Name y q] X.env)).any (·.1) = false := by rfl)
    (hs2 : starEach [.Name y q] X.env = (false, eval (.Name y q) X.env) :: starEach [] X.env := by rfl) :
    DE X (.Call (.Name x p) [e, .Name y q] [] pos) (gIsi T g) :=
  ⟨pe_weak (pe_callB call_isi hg hm hv (pa_cons he.pe (pa_cons (pe_bltn (v := .ty T) hg2 hm2 hv2 rfl hn2 hdb2) pa_nil hs2) hs) hn hdb hs hplain) fun σ H Q ⟨c, O, n, env, Qd, E, hg, k⟩ =>
    ⟨c, O, n, env, _, E, hg, fun v d H1 n1 x1 t1 r1 ⟨nd, q1⟩ => ⟨v, .ty T, .type (tyD d), .type T, _, rfl, .ty T, tyx_of r1 nd, kit_ty (kit_all hT d nd), k _ _ H1 n1 x1 t1 (.bl _) q1⟩⟩⟩
/-- isinstance(e, (T, U)) -/
def gIsi2 (T U : String) (g : GE) : GE := fun env n Q => g env n fun d n1 => isD d = false ∧ Q (.bool (isT T d || isT U d)) n1
theorem kit_two {K : PySem.W.Frag} {t : Value} {T U : String} {b b' : Bool} (h : PySem.W.kitOne K t (.type T) = some b) (h' : PySem.W.kitOne K t (.type U) = some b') : PySem.W.kitAny K t [.type T, .type U] = some (b || b') := by
  cases b <;> cases b' <;> simp [PySem.W.kitAny, h, h']
theorem d_isi2 {x y z : Str} {T U : String} {p q q' tp : Pos} {kk : Nat} {g : GE} (hT : T = "list" ∨ T = "tuple" ∨ T = "str" ∨ T = "int" ∨ T = "bool") (hU : U = "list" ∨ U = "tuple" ∨ U = "str" ∨ U = "int" ∨ U = "bool") (hg : Gl X x) (hm : X.mg x = none) (hv : bootBuiltins x = some (.builtin "isinstance"))
    (hg2 : Gl X y) (hm2 : X.mg y = none) (hv2 : bootBuiltins y = some (.type T)) (hg3 : Gl X z) (hm3 : X.mg z = none) (hv3 : bootBuiltins z = some (.type U)) (he : DB X e g) (hn : x ≠ "__name__" := by decide) (hdb : (x == ("__debug__" : Str)) = false := by decide) (hn2 : y ≠ "__name__" := by decide) (hdb2 : (y == ("__debug__" : Str)) = false := by decide)
    (hn3 : z ≠ "__name__" := by decide) (hdb3 : (z == ("__debug__" : Str)) = false := by decide)
    (hs : starEach [e, .Tuple [.Name y q, .Name z q'] kk tp] X.env = (false, eval e X.env) :: starEach [.Tuple [.Name y q, .Name z q'] kk tp] X.env := by rfl) (hplain : (backTo pos (starEach [.Tuple [.Name y q, .Name z q'] kk tp] X.env)).any (·.1) = false := by rfl)
    (hs2 : starEach [.Tuple [.Name y q, .Name z q'] kk tp] X.env = (false, eval (.Tuple [.Name y q, .Name z q'] kk tp) X.env) :: starEach [] X.env := by rfl)
    (hs3 : starEach [.Name y q, .Name z q'] X.env = (false, eval (.Name y q) X.env) :: starEach [.Name z q'] X.env := by rfl) (hs4 : starEach [.Name z q'] X.env = (false, eval (.Name z q') X.env) :: starEach [] X.env := by rfl) :
    DE X (.Call (.Name x p) [e, .Tuple [.Name y q, .Name z q'] kk tp] [] pos) (gIsi2 T U g) :=
  ⟨pe_weak (pe_callB call_isiT hg hm hv (pa_cons he.pe (pa_cons (pe_tup (pa_cons (pe_bltn (v := .ty T) hg2 hm2 hv2 rfl hn2 hdb2) (pa_cons (pe_bltn (v := .ty U) hg3 hm3 hv3 rfl hn3 hdb3) pa_nil hs4) hs3)) pa_nil hs2) hs) hn hdb hs hplain) fun σ H Q ⟨c, O, n, env, Qd, E, hg, k⟩ =>
    ⟨c, O, n, env, _, E, hg, fun v d H1 n1 x1 t1 r1 ⟨nd, q1⟩ => ⟨by show 2 ≤ sizeLine; decide, fun p hp => ⟨v, p, [.ty T, .ty U], .type (tyD d), [.type T, .type U], _, rfl, upd_same, .cons (.ty T) (.cons (.ty U) .nil), tyx_of (r1.ext E.atz (Grow.new hp).ext) nd,
      kit_two (kit_ty (kit_all hT d nd)) (kit_ty (kit_all hU d nd)), k _ _ _ n1 (x1.trans (Grow.new hp).ext) (t1.grow (.new hp)) (.bl _) q1⟩⟩⟩⟩

/-! ### methods that change nothing -/
/-- the first place of an equal item -/
def idxD (ds : List PyData) (x : PyData) : Option Nat := ds.findIdx? fun z => PyData.eqv z x
def gIndex (go gx : GE) : GE := fun env n Q => go env n fun d n1 => match d with
  | .list ds => gx env n1 fun x n2 => shp (.list ds) ∧ shp x ∧ ∃ j, idxD ds x = some j ∧ Q (.int (j : Nat)) n2
  | _ => False
theorem idx_facts {ds : List PyData} {x : PyData} {j : Nat} (h : idxD ds x = some j) : ∃ z, ds[j]? = some z ∧ PyData.eqv z x = true ∧ ∀ (m : Nat) (z' : PyData), m < j → ds[m]? = some z' → PyData.eqv z' x = false := by
  unfold idxD at h
  obtain ⟨hj, h1, h2⟩ := List.findIdx?_eq_some_iff_getElem.mp h
  refine ⟨ds[j], List.getElem?_eq_getElem hj, h1, fun m z' hm hz => ?_⟩
  obtain ⟨hm', e⟩ := List.getElem?_eq_some_iff.mp hz
  have := h2 m hm
  rw [e] at this
  simpa using this
theorem d_index {o x : Expr} {go gx : GE} {apos cpos : Pos} (hu : X.A.units + 65 < cLine) (ho : DB X o go) (hx : DB X x gx)
    (hbase : attributeBase o "index" X.env (eval o X.env) = eval o X.env := by rfl)
    (hfew : ((backTo cpos (starEach [x] X.env)).all (fun x => !x.1) && (backToKw cpos (keywordEach [] X.env)).all (fun x => x.1.isSome)
      && decide ([x].length + ([] : List Keyword).length + (if ([] : List Keyword).isEmpty then 0 else 1) < 30)) = true := by rfl)
    (hline : (apos.endLine == cpos.line) = true := by rfl) (hs : starEach [x] X.env = (false, eval x X.env) :: starEach [] X.env := by rfl) (hplain : (backTo cpos (starEach [] X.env)).any (·.1) = false := by rfl) :
    DE X (.Call (.Attribute o "index" apos) [x] [] cpos) (gIndex go gx) :=
  ⟨pe_weak (pe_bm PySem.F.plainAttrs_list PySem.F.slot_list_index PySem.F.type_list_index (mt_indexD hu) ho.pe (pa_cons hx.pe pa_nil hs) hbase hfew hline hs hplain) fun σ H Q ⟨c, O, n, env, Qd, E, hg, k⟩ =>
    ⟨c, O, n, env, _, E, hg, fun v d H1 n1 x1 t1 r1 q1 => by
      cases d with
      | list ds =>
        obtain ⟨a, xs, rfl, s, ra⟩ := r1.list
        refine ⟨.inl ⟨rfl, xs, .of s⟩, c, O, n1, env, _, E.extend x1 t1, q1, fun w dx H2 n2 x2 t2 r2 ⟨s1, s2, j, hj, q⟩ => ?_⟩
        obtain ⟨z, f1, f2, f3⟩ := idx_facts hj
        exact ⟨a, w, dx, ds, j, z, rfl, rfl, (r1.ext E.atz x2).dp (SeqAt.canLay_of_shaped s1), r2.dp (SeqAt.canLay_of_shaped s2), s1, s2, f1, f2, f3, k _ _ H2 n2 (x1.trans x2) t2 (.int _) q⟩
      | _ => exact q1.elim⟩⟩
/-- d.get(x, y) -/
def gGet2 (go gx gy : GE) : GE := fun env n Q => go env n fun d n1 => match d with
  | .dict ds => dOk ds ∧ gx env n1 fun x n2 => gy env n2 fun y n3 => isKey x = true ∧ Q ((lookD ds x).getD y) n3
  | _ => False
theorem look_opt {K : PySem.W.Frag} {Z : Addr → Prop} {T : Tb} {H : Hp} {kvs : List (Key × V)} {ds : List (PyData × PyData)} (r : RepKV K Z T H kvs ds) (k : Key) {v : V} {d : PyData} (h : Rep K Z T H v d) :
    Rep K Z T H ((valV kvs k).getD v) ((lookD ds (keyD k)).getD d) := by
  have l := look_of k r
  cases hv : valV kvs k <;> cases hw : lookD ds (keyD k) <;> rw [hv, hw] at l
  · exact h
  · exact l.elim
  · exact l.elim
  · exact l
theorem d_get2 {o x y : Expr} {go gx gy : GE} {apos cpos : Pos} (hu : X.A.units + 1 < cLine) (m : M2 X o "get" apos x y cpos) (ho : DB X o go) (hx : DB X x gx) (hy : DE X y gy) : DE X (.Call (.Attribute o "get" apos) [x, y] [] cpos) (gGet2 go gx gy) :=
  ⟨pe_weak (pe_dget2 hu ho.pe hx.pe hy.pe m) fun σ H Q ⟨c, O, n, env, Qd, E, hg, k⟩ => ⟨c, O, n, env, _, E, hg, fun v d H1 n1 x1 t1 r1 q1 => by
    cases d with
    | dict ds =>
      obtain ⟨ok, q1⟩ := q1
      obtain ⟨a, kvs, rfl, rd, rk⟩ := r1.dict ok
      refine ⟨a, rfl, .inl ⟨kvs, rd⟩, c, O, n1, env, _, E.extend x1 t1, q1, fun w dx H2 n2 x2 t2 r2 q2 => ⟨c, O, n2, env, _, (E.extend x1 t1).extend x2 t2, q2, fun w' dy H3 n3 x3 t3 r3 ⟨ik, q3⟩ => ?_⟩⟩
      obtain ⟨a', kvs', e', rd', rk'⟩ := ((r1.ext E.atz x2).ext E.atz x3).dict ok
      cases e'
      obtain ⟨key, rfl, rfl⟩ := key_of r2 ik
      exact ⟨_, .inl ⟨kvs', key, rd', rfl, rfl⟩, k _ _ H3 n3 ((x1.trans x2).trans x3) t3 (look_opt rk' key r3) q3⟩
    | _ => exact q1.elim⟩⟩
def gGet1 (go gx : GE) : GE := fun env n Q => go env n fun d n1 => match d with
  | .dict ds => dOk ds ∧ gx env n1 fun x n2 => isKey x = true ∧ Q ((lookD ds x).getD .none) n2
  | _ => False
theorem d_get1 {o x : Expr} {go gx : GE} {apos cpos : Pos} (hu : X.A.units + 1 < cLine) (m : M1 X o "get" apos x cpos) (ho : DB X o go) (hx : DB X x gx) : DE X (.Call (.Attribute o "get" apos) [x] [] cpos) (gGet1 go gx) :=
  ⟨pe_weak (pe_dget1 hu ho.pe hx.pe m) fun σ H Q ⟨c, O, n, env, Qd, E, hg, k⟩ => ⟨c, O, n, env, _, E, hg, fun v d H1 n1 x1 t1 r1 q1 => by
    cases d with
    | dict ds =>
      obtain ⟨ok, q1⟩ := q1
      obtain ⟨a, kvs, rfl, rd, rk⟩ := r1.dict ok
      refine ⟨a, rfl, .inl ⟨kvs, rd⟩, c, O, n1, env, _, E.extend x1 t1, q1, fun w dx H2 n2 x2 t2 r2 ⟨ik, q2⟩ => ?_⟩
      obtain ⟨a', kvs', e', rd', rk'⟩ := (r1.ext E.atz x2).dict ok
      cases e'
      obtain ⟨key, rfl, rfl⟩ := key_of r2 ik
      exact ⟨_, .inl ⟨kvs', key, rd', rfl, rfl⟩, k _ _ H2 n2 (x1.trans x2) t2 (look_opt rk' key .non) q2⟩
    | _ => exact q1.elim⟩⟩
end
end L2.DL
end

section
/-! The data layer 6: stores. -/
namespace L2.DL
open L2 PySem PySem.Spec PyProof.Rows
variable [TabsOf]

def Own.clr (O : Own) (i : Nat) : Own := fun j => if j = i then none else O j
def Own.put (O : Own) (i : Nat) (p : Addr) : Own := fun j => if j = i then some p else O j
theorem clr_eq {O : Own} {i j : Nat} {a : Addr} (h : O.clr i j = some a) : j ≠ i ∧ O j = some a := by
  unfold Own.clr at h
  split at h
  · cases h
  · exact ⟨‹_›, h⟩
theorem put_eq {O : Own} {i j : Nat} {p a : Addr} (h : O.put i p j = some a) : (j = i ∧ a = p) ∨ (j ≠ i ∧ O j = some a) := by
  unfold Own.put at h
  split at h
  · cases h; exact .inl ⟨‹_›, rfl⟩
  · exact .inr ⟨‹_›, h⟩
theorem put_self {O : Own} {i : Nat} {p : Addr} : O.put i p i = some p := by unfold Own.put; rw [if_pos rfl]
theorem put_ne {O : Own} {i j : Nat} {p : Addr} (h : j ≠ i) : O.put i p j = O j := by unfold Own.put; rw [if_neg h]
theorem clr_ne {O : Own} {i j : Nat} (h : j ≠ i) : O.clr i j = O j := by unfold Own.clr; rw [if_neg h]

section
variable {K : PySem.W.Frag} {c : Ct} {O : Own} {n n0 : Nat} {H Hb : Hp} {σ : St} {env : List Sl} {i : Nat} {v : V} {d : PyData} {p : Addr}
theorem av_clr (c : Ct) (O : Own) (i : Nat) : ∀ a, c.av (O.clr i) a → c.av O a := fun a h => by
  rcases h with h | ⟨j, h⟩
  · exact .inl h
  · exact .inr ⟨j, (clr_eq h).2⟩
theorem av_put (c : Ct) (O : Own) (i : Nat) (p : Addr) : ∀ a, c.av (O.put i p) a → Zp (c.av O) p a := fun a h => by
  rcases h with h | ⟨j, h⟩
  · exact .inl (.inl h)
  · rcases put_eq h with ⟨_, e⟩ | ⟨_, e⟩
    · exact .inr e
    · exact .inl (.inr ⟨j, e⟩)
/-- a slot gets data -/
theorem EnvOk.setD (E : EnvOk K c O n H σ env) (hi : i < env.length) (r : Rep K (c.av O) c.T H v d) : EnvOk K c (O.clr i) n H (σ.set i (some v)) (env.set i (.dat d)) where
  len := by rw [List.length_set, List.length_set]; exact E.len
  le := by rw [List.length_set]; exact E.le
  fin := fun t h => by unfold Own.clr; split; rfl; exact E.fin t h
  tz := E.tz
  z0 := E.z0
  ext := E.ext
  tub := E.tub
  o0 := fun j a h => E.o0 j a (clr_eq h).2
  inj := fun j k a h h' => E.inj j k a (clr_eq h).2 (clr_eq h').2
  cons := fun j a hj h => by
    rw [List.length_set] at hj
    rw [List.getElem?_set_ne (Ne.symm (clr_eq h).1)]
    exact E.cons j a hj (clr_eq h).2
  dat := fun j d' h => by
    by_cases e : j = i
    · subst e
      rw [List.getElem?_set_self hi] at h
      injection h with h
      injection h with h
      subst h
      exact ⟨v, by rw [List.getElem?_set_self (by rw [E.len]; exact hi)], r.less (av_clr c O j)⟩
    · rw [List.getElem?_set_ne (Ne.symm e)] at h
      obtain ⟨v', e1, r'⟩ := E.dat j d' h
      exact ⟨v', by rw [List.getElem?_set_ne (Ne.symm e)]; exact e1, r'.less (av_clr c O i)⟩
  own := fun j d' h => by
    by_cases e : j = i
    · subst e
      rw [List.getElem?_set_self hi] at h
      injection h with h
      cases h
    · rw [List.getElem?_set_ne (Ne.symm e)] at h
      obtain ⟨a, e1, e2, r'⟩ := E.own j d' h
      exact ⟨a, by rw [clr_ne e]; exact e1, by rw [List.getElem?_set_ne (Ne.symm e)]; exact e2, r'.less (av_clr c O i)⟩
  ex := fun q h => (E.ex q h).less (av_clr c O i)
theorem EnvOk.newp (Eb : EnvOk K c O n0 Hb σ env) (f : New Hb p) : New c.H0 p := fun o nt q => by
  by_cases e : c.T.u = some p
  · exact Eb.al p (.inl (Eb.tz p e)) f
  · exact Eb.ext.sm e (not_new nt q) f
/-- an object made since Hb is nobody's -/
theorem EnvOk.tmp (Eb : EnvOk K c O n0 Hb σ env) (x : Ext c.T Hb H) (t : TubOk c.T n H) (f : New Hb p) (hp : ¬ New H p) : EnvOk K { c with lim := c.lim + 1 } (O.put c.lim p) n H σ env := by
  have E := Eb.extend x t
  have up : ∀ {v d}, Rep K (c.av O) c.T Hb v d → Rep K (c.av (O.put c.lim p)) c.T H v d := fun r => r.keep (fun a o na => x.kp a o fun e => na (.inl (E.tz a e))) fun a na ha z => by
    rcases av_put c O c.lim p a z with z | z
    · exact na z
    · exact ha (z ▸ f)
  have upT : ∀ {a d}, c.T.u ≠ some a → TopAt K (c.av O) c.T Hb a d → TopAt K (c.av (O.put c.lim p)) c.T H a d := fun {a d} na r => by
    have k : ∀ a o, ¬ c.av O a → NT o → Hb a = some o → H a = some o := fun a o na => x.kp a o fun e => na (.inl (E.tz a e))
    have zz : ∀ a, ¬ c.av O a → ¬ New Hb a → ¬ c.av (O.put c.lim p) a := fun a na ha z => by
      rcases av_put c O c.lim p a z with z | z
      · exact na z
      · exact ha (z ▸ f)
    rcases r with ⟨xs, ds, rfl, q, r⟩ | ⟨kvs, ds, rfl, q, r⟩
    · exact .inl ⟨xs, ds, rfl, x.kp _ _ na nt_lst q, r.keep k zz⟩
    · exact .inr ⟨kvs, ds, rfl, x.kp _ _ na nt_dK q, r.keep k zz⟩
  have fr := Eb.newp f
  exact {
    len := E.len
    le := Nat.le_succ_of_le E.le
    fin := fun t h => by
      have h' : c.lim + 1 ≤ t := h
      rw [put_ne (by omega)]
      exact E.fin t (by omega)
    tz := E.tz
    z0 := E.z0
    ext := E.ext
    tub := E.tub
    o0 := fun j a h => by
      rcases put_eq h with ⟨_, e⟩ | ⟨_, e⟩
      · subst e; exact ⟨fr, hp⟩
      · exact E.o0 j a e
    inj := fun j k a h h' => by
      rcases put_eq h with ⟨e1, e⟩ | ⟨e1, e⟩
      · rcases put_eq h' with ⟨e2, e'⟩ | ⟨e2, e'⟩
        · exact e1.trans e2.symm
        · exact absurd f (e ▸ (Eb.o0 k a e').2)
      · rcases put_eq h' with ⟨e2, e'⟩ | ⟨e2, e'⟩
        · exact absurd f (e' ▸ (Eb.o0 j a e).2)
        · exact E.inj j k a e e'
    cons := fun j a hj h => by
      have := E.le
      rw [put_ne (by omega)] at h
      exact E.cons j a hj h
    dat := fun j d' h => let ⟨v', e1, r'⟩ := Eb.dat j d' h; ⟨v', e1, up r'⟩
    own := fun j d' h => by
      obtain ⟨a, e1, e2, r'⟩ := Eb.own j d' h
      have hj : j ≠ c.lim := by
        have := (List.getElem?_eq_some_iff.mp h).1
        have := E.le
        omega
      exact ⟨a, by rw [put_ne hj]; exact e1, e2, upT (Eb.notT e1) r'⟩
    ex := fun q h => up (Eb.ex q h) }
/-- a temporary one gets a slot -/
theorem EnvOk.mvF {t : Nat} (E : EnvOk K c O n H σ env) (hi : i < env.length) (ht : env.length ≤ t) (ot : O t = some p) (r : TopAt K (c.av O) c.T H p d) : EnvOk K c ((O.clr t).put i p) n H (σ.set i (some (.ref p))) (env.set i (.own d)) := by
  have sub : ∀ a, c.av ((O.clr t).put i p) a → c.av O a := fun a h => by
    rcases av_put c _ i p a h with z | z
    · exact av_clr c O t a z
    · exact .inr ⟨t, by rw [z]; exact ot⟩
  exact {
    len := by rw [List.length_set, List.length_set]; exact E.len
    le := by rw [List.length_set]; exact E.le
    fin := fun s h => by
      have := E.le
      rw [put_ne (by omega)]
      unfold Own.clr
      split
      · rfl
      · exact E.fin s h
    tz := E.tz
    z0 := E.z0
    ext := E.ext
    tub := E.tub
    o0 := fun j a h => by
      rcases put_eq h with ⟨_, e⟩ | ⟨_, e⟩
      · subst e; exact E.o0 t _ ot
      · exact E.o0 j a (clr_eq e).2
    inj := fun j k a h h' => by
      rcases put_eq h with ⟨e1, e⟩ | ⟨e1, e⟩
      · rcases put_eq h' with ⟨e2, e'⟩ | ⟨e2, e'⟩
        · exact e1.trans e2.symm
        · subst e
          exact absurd (E.inj _ _ _ (clr_eq e').2 ot) (clr_eq e').1
      · rcases put_eq h' with ⟨e2, e'⟩ | ⟨e2, e'⟩
        · subst e'
          exact absurd (E.inj _ _ _ (clr_eq e).2 ot) (clr_eq e).1
        · exact E.inj j k a (clr_eq e).2 (clr_eq e').2
    cons := fun j a hj h => by
      rw [List.length_set] at hj
      by_cases e : j = i
      · subst e
        exact ⟨d, List.getElem?_set_self hj⟩
      · rw [put_ne e] at h
        rw [List.getElem?_set_ne (Ne.symm e)]
        exact E.cons j a hj (clr_eq h).2
    dat := fun j d' h => by
      by_cases e : j = i
      · subst e
        rw [List.getElem?_set_self hi] at h
        injection h with h
        cases h
      · rw [List.getElem?_set_ne (Ne.symm e)] at h
        obtain ⟨v', e1, r'⟩ := E.dat j d' h
        exact ⟨v', by rw [List.getElem?_set_ne (Ne.symm e)]; exact e1, r'.less sub⟩
    own := fun j d' h => by
      by_cases e : j = i
      · subst e
        rw [List.getElem?_set_self hi] at h
        injection h with h
        injection h with h
        subst h
        exact ⟨p, put_self, by rw [List.getElem?_set_self (by rw [E.len]; exact hi)], r.less sub⟩
      · rw [List.getElem?_set_ne (Ne.symm e)] at h
        obtain ⟨a, e1, e2, r'⟩ := E.own j d' h
        have hj : j ≠ t := by
          have := (List.getElem?_eq_some_iff.mp h).1
          omega
        exact ⟨a, by rw [put_ne e, clr_ne hj]; exact e1, by rw [List.getElem?_set_ne (Ne.symm e)]; exact e2, r'.less sub⟩
    ex := fun q h => (E.ex q h).less sub }
def Own.trim (O : Own) (m : Nat) : Own := fun j => if j < m then O j else none
theorem trim_eq {O : Own} {m j : Nat} {a : Addr} (h : O.trim m j = some a) : j < m ∧ O j = some a := by
  unfold Own.trim at h
  split at h
  · exact ⟨‹_›, h⟩
  · cases h
theorem av_trim (c : Ct) (O : Own) (m : Nat) : ∀ a, c.av (O.trim m) a → c.av O a := fun a h => by
  rcases h with h | ⟨j, h⟩
  · exact .inl h
  · exact .inr ⟨j, (trim_eq h).2⟩
/-- the temporary ones are forgotten, values held by loops too -/
theorem EnvOk.back {l : Nat} {ex : List (V × PyData)} (E : EnvOk K { c with lim := l, ex := ex } O n H σ env) (h : env.length ≤ c.lim) (hx : ∀ q ∈ c.ex, q ∈ ex) : EnvOk K c (O.trim c.lim) n H σ env where
  len := E.len
  le := h
  fin := fun t ht => by unfold Own.trim; rw [if_neg (by omega)]
  tz := E.tz
  z0 := E.z0
  ext := E.ext
  tub := E.tub
  o0 := fun j a q => E.o0 j a (trim_eq q).2
  inj := fun j k a q q' => E.inj j k a (trim_eq q).2 (trim_eq q').2
  cons := fun j a hj q => E.cons j a hj (trim_eq q).2
  dat := fun j d' q => let ⟨v', e1, r'⟩ := E.dat j d' q; ⟨v', e1, r'.less (av_trim c O c.lim)⟩
  own := fun j d' q => by
    obtain ⟨a, e1, e2, r'⟩ := E.own j d' q
    have hj := (List.getElem?_eq_some_iff.mp q).1
    exact ⟨a, by unfold Own.trim; rw [if_pos (by omega)]; exact e1, e2, r'.less (av_trim c O c.lim)⟩
  ex := fun q hq => (E.ex q (hx q hq)).less (av_trim c O c.lim)
/-- values held by a loop -/
theorem EnvOk.hold (E : EnvOk K c O n H σ env) {ps : List (V × PyData)} (h : ∀ q ∈ ps, Rep K (c.av O) c.T H q.1 q.2) : EnvOk K { c with ex := ps ++ c.ex } O n H σ env :=
  { len := E.len, le := E.le, fin := E.fin, tz := E.tz, z0 := E.z0, ext := E.ext, tub := E.tub, o0 := E.o0, inj := E.inj, cons := E.cons, dat := E.dat, own := E.own,
    ex := fun q hq => (List.mem_append.mp hq).elim (h q) (E.ex q) }
/-- a new list or dict gets a slot -/
theorem EnvOk.setF (Eb : EnvOk K c O n0 Hb σ env) (hi : i < env.length) (x : Ext c.T Hb H) (t : TubOk c.T n H) (f : New Hb p) (r : TopAt K (Zp (c.av O) p) c.T H p d) : ∃ O', EnvOk K c O' n H (σ.set i (some (.ref p))) (env.set i (.own d)) := by
  have E1 := Eb.tmp x t f r.sm
  have E2 := E1.mvF hi Eb.le put_self (r.less (av_put c O c.lim p))
  exact ⟨_, EnvOk.back (ex := c.ex) E2 (by rw [List.length_set]; exact Eb.le) fun _ h => h⟩
/-- something new is changed -/
theorem ext_upd {T : Tb} {H0 H : Hp} {a : Addr} {o : HO} (x : Ext T H0 H) (h : New H0 a) : Ext T H0 (upd H a o) where
  kp := fun b u hb nt e => by
    rw [upd_ne fun z => h u nt (by rw [← z]; exact e)]
    exact x.kp b u hb nt e
theorem nt_of_lst {H : Hp} {a : Addr} {xs : List V} (h : H a = some (.lst xs)) : ∀ u, H a = some u → NT u ∧ ∀ φ, u ≠ .ext φ := fun u hu => by
  rw [h] at hu; cases hu; exact ⟨nt_lst, fun _ h => by cases h⟩
theorem nt_of_dK {H : Hp} {a : Addr} {xs : List (Key × V)} (h : H a = some (.dK xs)) : ∀ u, H a = some u → NT u ∧ ∀ φ, u ≠ .ext φ := fun u hu => by
  rw [h] at hu; cases hu; exact ⟨nt_dK, fun _ h => by cases h⟩
theorem top_nt {K : PySem.W.Frag} {Z : Addr → Prop} {T : Tb} {H : Hp} {a : Addr} {d : PyData} (t : TopAt K Z T H a d) : ∀ u, H a = some u → NT u ∧ ∀ φ, u ≠ .ext φ := fun u hu => by
  rcases t with ⟨_, _, _, e, _⟩ | ⟨_, _, _, e, _⟩
  · rw [e] at hu; cases hu; exact ⟨nt_lst, fun _ h => by cases h⟩
  · rw [e] at hu; cases hu; exact ⟨nt_dK, fun _ h => by cases h⟩
/-- the list or dict of a slot is changed -/
theorem EnvOk.chg {a : Addr} {d' : PyData} {o : HO} (ht : ∀ u, H a = some u → NT u ∧ ∀ φ, u ≠ .ext φ) (E : EnvOk K c O n H σ env) (hi : i < env.length) (oi : O i = some a) (hs : σ[i]? = some (some (.ref a))) (r : TopAt K (c.av O) c.T (upd H a o) a d') : EnvOk K c O n (upd H a o) σ (env.set i (.own d')) := by
  have k : ∀ b u, ¬ c.av O b → NT u → H b = some u → upd H a o b = some u := fun b u nb _ e => by
    rw [upd_ne fun z => nb (.inr ⟨i, by rw [z]; exact oi⟩)]; exact e
  have zz : ∀ b, ¬ c.av O b → ¬ New H b → ¬ c.av O b := fun _ n _ => n
  exact {
    len := by rw [List.length_set]; exact E.len
    le := by rw [List.length_set]; exact E.le
    fin := E.fin
    tz := E.tz
    z0 := E.z0
    ext := ext_upd E.ext (E.o0 i a oi).1
    tub := ⟨fun b hb => by
      obtain ⟨x, y, z, q, rest⟩ := E.tub.go b hb
      exact ⟨x, y, z, by rw [upd_ne fun (w : b = a) => E.notT oi (w ▸ hb)]; exact q, rest⟩, tabs_upd E.tub.tb ht⟩
    o0 := fun j b h => ⟨(E.o0 j b h).1, by
      by_cases e : b = a
      · subst e; exact r.sm
      · exact fun w => (E.o0 j b h).2 fun u nt q => w u nt (by rw [upd_ne e]; exact q)⟩
    inj := E.inj
    cons := fun j b hj h => by
      rw [List.length_set] at hj
      by_cases e : j = i
      · subst e
        exact ⟨d', List.getElem?_set_self hj⟩
      · rw [List.getElem?_set_ne (Ne.symm e)]
        exact E.cons j b hj h
    dat := fun j d2 h => by
      by_cases e : j = i
      · subst e
        rw [List.getElem?_set_self hi] at h
        injection h with h
        cases h
      · rw [List.getElem?_set_ne (Ne.symm e)] at h
        obtain ⟨v', e1, r'⟩ := E.dat j d2 h
        exact ⟨v', e1, r'.keep k zz⟩
    own := fun j d2 h => by
      by_cases e : j = i
      · subst e
        rw [List.getElem?_set_self hi] at h
        injection h with h
        injection h with h
        subst h
        exact ⟨a, oi, hs, r⟩
      · rw [List.getElem?_set_ne (Ne.symm e)] at h
        obtain ⟨b, e1, e2, r'⟩ := E.own j d2 h
        refine ⟨b, e1, e2, r'.keep k zz ?_⟩
        rw [upd_ne]
        intro z
        exact e (E.inj j i a (z ▸ e1) oi)
    ex := fun q h => (E.ex q h).keep k zz }
end
end L2.DL
end

section
/-! The data layer 7: targets, statements. -/
namespace L2.DL
open L2 PySem PySem.Spec PyProof.Rows
variable [TabsOf]

section
variable {prog : Program}
variable {w : World}
variable {A : Around}
variable {E : Value → Shared → Prop}
variable {s : Shared}
/-! ### a list unpacked -/
theorem draw_list {it t : Addr} {items : Array Value} (hne : t ≠ it) : ∀ (n i : Nat) (s : Shared) (Q : List Value → Shared → Prop), s.heap.IsListIter it t i → s.heap.IsList t items → i + n ≤ items.size →
    (∀ h', h'.IsListIter it t (i + n) → Heap.SameBut it s.heap h' → Q ((items.toList.drop i).take n) { s with heap := h' }) → wpAny (model prog w) A (draw (.ref it) n) Q E s
  | 0, i, s, Q, hitz, _, _, hQz => by
    show (wpAny _ _ (pure []) Q E s)
    exact wpAny_pure (by simpa using hQz s.heap hitz (Heap.SameBut.refl ..))
  | n + 1, i, s, Q, hitz, htz, hlez, hQz => by
    have hltz : i < items.size := by omega
    show (wpAny _ _ (pyNext (.ref it) >>= _) Q E s)
    refine wpAny_bind (wpAny_pyNext_list_item hitz htz (x := items[i]) (by simp [hltz]) fun h₁ hit₁ hs₁z => ?_)
    refine wpAny_bind (wpAny_holding (draw_list hne n (i + 1) _ _ hit₁ (by obtain ⟨o, e, r⟩ := htz; exact ⟨o, (hs₁z.2 t hne).trans e, r⟩) (by omega) fun h₂z hit₂z hs₂z => wpAny_pure ?_))
    have hdz : items.toList.drop i = items[i] :: items.toList.drop (i + 1) := by simp [List.drop_eq_getElem_cons, hltz]
    have := hQz h₂z (by rw [show i + (n + 1) = i + 1 + n by omega]; exact hit₂z) (hs₁z.trans hs₂z)
    rw [hdz, List.take_succ_cons] at this
    exact this
theorem unpackItems_list {t : Addr} {items : Array Value} {Q : List Value → Shared → Prop} (hh : A.handled = none) (ht : s.heap.IsList t items) (hQ : ∀ h', Heap.ExtBut s.heap.objs.size s.heap h' → Q items.toList { s with heap := h' }) : wpAny (model prog w) A (unpackItems (.ref t) items.size none) Q E s := by
  have hltz : t ≠ s.heap.objs.size := by obtain ⟨oz, hoz, _⟩ := ht; exact Nat.ne_of_lt (Heap.lt_size hoz)
  unfold unpackItems
  refine wpAny_bind ?_
  · unfold notIterableAtAll
    refine wpAny_bind (wpAny_specialOf ht.typeIs PySem.slot_list_iter.lookup ?_)
    refine wpAny_pure ?_
    simp only [if_false, Bool.false_eq_true]
    refine wpAny_bind (wpAny_holding (wpAny_pyIter_list ht ?_))
    have htp : (s.heap.push { cls := .type "list_iterator", data := .fields #[.ref t, .int 0 0] }).IsList t items := by
      obtain ⟨oz, hoz, r⟩ := ht
      exact ⟨oz, Heap.get?_push_of_some _ hoz, r⟩
    refine wpAny_bind (wpAny_holding (draw_list hltz items.size 0 _ _ ⟨_, Heap.get?_push_size _ rfl, rfl, rfl⟩ htp (by omega) fun h₁ hit₁ hs₁z => ?_))
    have hallz : List.take items.size (List.drop 0 items.toList) = items.toList := by
      rw [(List.drop_zero)]; exact List.take_of_length_le (by simp)
    rw [hallz]
    rw [if_neg (by simp)]
    have ht₁ : h₁.IsList t items := by
      obtain ⟨oz, e, r⟩ := htp
      exact ⟨oz, (hs₁z.2 t hltz).trans e, r⟩
    refine wpAny_bind (wpAny_holding (wpAny_pyNext_list_end hh hit₁ ht₁ (by simp) fun h₂z he₂z => ?_))
    simp only [Bool.false_eq_true, if_false, Option.isSome_none]
    refine wpAny_pure (hQ h₂z fun bz oz hbz e => he₂z bz oz hbz (hs₁z.extBut bz oz hbz (Heap.get?_push_of_some _ e)))
theorem assign_Tuple_list {env : Env} {elts : List Expr} {x1} {pos : Pos} {t : Addr} {items : Array Value} {Q : Unit → Shared → Prop} (hh : A.handled = none) (ht : s.heap.IsList t items) (hn : (assignEach elts env).length = items.size) (hstar : (assignEach elts env).findIdx? (·.1) = none) (h : ∀ h', Heap.ExtBut s.heap.objs.size s.heap h' → wpAny (model prog w) A (assignInOrder ((assignEach elts env).map (·.2)) items.toList) Q E { s with heap := h' }) : wpAny (model prog w) A (assign (.Tuple elts x1 pos) env (.ref t)) Q E s := by
  rw [assign_Tuple]
  refine (wpAny_bind (wpAny_standAt ?_))
  unfold unpack
  rw [hn, hstar]
  exact wpAny_bind (wpAny_holding (unpackItems_list hh ht h))
end
section
variable {X : Cx} {pos : Pos}
/-- (a, b, ..) = a tuple or a list of that length -/
def tTupS (K : PySem.W.Frag) (n : Nat) (t : TGs) : TG := fun v σ H Q => ∃ a xs, v = .ref a ∧ (SqT K H a xs ∨ SqL K H a xs) ∧ xs.length = n ∧ t xs σ H Q
theorem pg_seq {es : List Expr} {k : Nat} {t : TGs} {n : Nat} (hc : X.calm = true) (h : PGs X es t)
    (hn : (assignEach es X.env).length = n := by rfl) (hst : (assignEach es X.env).findIdx? (·.1) = none := by rfl) : PG X (.Tuple es k pos) (tTupS X.K n t) := by
  refine ⟨fun pinsz s σz H vz uz Qz Iz rz hwz => ?_⟩
  obtain ⟨az, xsz, e1z, hqz, hlz, hwz⟩ := hwz
  subst e1z
  cases rz
  rcases hqz with hqz | hqz
  · obtain ⟨its, rvz, htz, hz⟩ := Iz.tuple hqz
    refine assign_Tuple_tuple (Iz.ok.hd hc) htz (by simp [hn, ← hlz, rvz.length]) hst fun hz' hxz => ?_
    have I1 : Inv X pinsz σz H { s with heap := hz' } := Iz.kept (t' := s.toks) fun bz oz e => hxz bz oz (Nat.ne_of_lt (Heap.lt_size e)) e
    exact h.run pinsz _ σz H xsz _ Qz I1 (by simpa using rvz) hwz
  · obtain ⟨its, rvz, htz, hz⟩ := Iz.list hqz
    refine assign_Tuple_list (Iz.ok.hd hc) htz.isList (by simp [hn, ← hlz, rvz.length]) hst fun hz' hxz => ?_
    have I1 : Inv X pinsz σz H { s with heap := hz' } := Iz.kept (t' := s.toks) fun bz oz e => hxz bz oz (Nat.ne_of_lt (Heap.lt_size e)) e
    exact h.run pinsz _ σz H xsz _ Qz I1 (by simpa using rvz) hwz
end

/-! ### targets over data -/
abbrev GG := PyData → List Sl → (List Sl → Prop) → Prop
abbrev GGs := List PyData → List Sl → (List Sl → Prop) → Prop
/-- data, or (j) a pair of data that is unpacked at once -/
def RepJ (K : PySem.W.Frag) (j : Bool) (Z : Addr → Prop) (T : Tb) (H : Hp) (v : V) (d : PyData) : Prop :=
  Rep K Z T H v d ∨ (j = true ∧ ∃ a x y e f, v = .ref a ∧ d = .tuple [e, f] ∧ Rd H a (.tup [x, y]) ∧ Rep K Z T H x e ∧ Rep K Z T H y f)
theorem RepJ.seq {K : PySem.W.Frag} {j : Bool} {Z : Addr → Prop} {T : Tb} {H : Hp} {v : V} {ds : List PyData} (r : RepJ K j Z T H v (.tuple ds)) : ∃ a xs, v = .ref a ∧ Rd H a (.tup xs) ∧ RepAll K Z T H xs ds := by
  rcases r with r | ⟨_, a, x, y, e, f, h1, h2, h3, h4, h5⟩
  · exact (show RepT K Z T H v (.tuple ds) from .inl r).tuple
  · injection h2 with h2
    subst h2
    exact ⟨a, _, h1, h3, .cons h4 (.cons h5 .nil)⟩
theorem RepJ.lst {K : PySem.W.Frag} {j : Bool} {Z : Addr → Prop} {T : Tb} {H : Hp} {v : V} {ds : List PyData} (r : RepJ K j Z T H v (.list ds)) : Rep K Z T H v (.list ds) := by
  rcases r with r | ⟨_, a, x, y, e, f, h1, h2, h3, h4, h5⟩
  · exact r
  · cases h2
def tDG (K : PySem.W.Frag) (j : Bool) (is : List Nat) (g : GG) : TG := fun v σ H Q => ∃ (c : Ct) (O : Own) (n : Nat) (env : List Sl) (d : PyData) (Qd : List Sl → Prop), EnvOk K c O n H σ env ∧ RepJ K j (c.av O) c.T H v d ∧ g d env Qd ∧
  ∀ O' σ' H' env', Ext c.T H H' → (∀ t, env.length ≤ t ∨ t ∉ is → O' t = O t) → wipe σ' is = wipe σ is → EnvOk K c O' n H' σ' env' → env'.length = env.length → Qd env' → Q σ' H'
structure DG (X : Cx) (j : Bool) (is : List Nat) (e : Expr) (g : GG) : Prop where pe : PG X e (tDG X.K j is g)
section
variable {X : Cx} {e : Expr} {es : List Expr} {pos : Pos}
theorem pg_weak {t t' : TG} (h : PG X e t) (w : ∀ v σ H Q, t' v σ H Q → t v σ H Q) : PG X e t' := ⟨fun pins s σ H v u Q I r q => h.run pins s σ H v u Q I r (w v σ H Q q)⟩
def ggName (i : Nat) : GG := fun d env Q => i < env.length ∧ Q (env.set i (.dat d))
theorem g_name {i : Nat} {x : Str} (hN : X.N.Nodup) (hi : X.N[i]? = some x) (hx : Loc X.env.scope x) (hf : X.fn x = true ∨ X.env.scope.names.lookup x = some .local := by first | exact .inl rfl | exact .inr rfl | assumption) : DG X false [i] (.Name x pos) (ggName i) :=
  ⟨pg_weak (pg_name hN hi hx hf) fun v σ H Q ⟨c, O, n, env, d, Qd, E, rj, ⟨hl, hg⟩, k⟩ => by
    have r : Rep X.K (c.av O) c.T H v d := rj.elim id fun h => nomatch h.1
    exact k _ _ H _ .refl (fun t ht => clr_ne (by rcases ht with ht | ht; omega; simpa using ht)) (by show (σ.set i (some v)).set i none = σ.set i none; rw [List.set_set]) (E.setD hl r) (by rw [List.length_set]) hg⟩
def ggPair (i j : Nat) : GG := fun d env Q => i < env.length ∧ j < env.length ∧ match d with
  | .tuple [a, b] => Q ((env.set i (.dat a)).set j (.dat b))
  | .list [a, b] => Q ((env.set i (.dat a)).set j (.dat b))
  | _ => False
theorem rep2 {K : PySem.W.Frag} {Z : Addr → Prop} {T : Tb} {H : Hp} {xs : List V} {a b : PyData} (r : RepAll K Z T H xs [a, b]) : ∃ x y, xs = [x, y] ∧ Rep K Z T H x a ∧ Rep K Z T H y b := by
  cases r with
  | cons p q =>
    cases q with
    | cons p' q' => cases q'; exact ⟨_, _, rfl, p, p'⟩
theorem g_pair {jj : Bool} {i j : Nat} {x y : Str} {px py : Pos} {k : Nat} (hc : X.calm = true) (hN : X.N.Nodup) (hi : X.N[i]? = some x) (hx : Loc X.env.scope x) (hj : X.N[j]? = some y) (hy : Loc X.env.scope y)
    (hf : X.fn x = true ∨ X.env.scope.names.lookup x = some .local := by first | exact .inl rfl | exact .inr rfl | assumption) (hf' : X.fn y = true ∨ X.env.scope.names.lookup y = some .local := by first | exact .inl rfl | exact .inr rfl | assumption) :
    DG X jj [i, j] (.Tuple [.Name x px, .Name y py] k pos) (ggPair i j) := by
  have h := pg_seq (X := X) (pos := pos) (k := k) (n := 2) hc (pgs_cons (pg_name (pos := px) hN hi hx hf) (pgs_cons (pg_name (pos := py) hN hj hy hf') pgs_nil))
  refine ⟨pg_weak h fun v σ H Q ⟨c, O, n, env, d, Qd, E, r, ⟨hl, hl', hg⟩, k⟩ => ?_⟩
  have go : ∀ {a b : PyData} {xs : List V}, RepAll X.K (c.av O) c.T H xs [a, b] → Qd ((env.set i (.dat a)).set j (.dat b)) → xs.length = 2 ∧ L2.gCons (gName i) (L2.gCons (gName j) L2.gNil) xs σ H Q := by
    intro a b xs ra hq
    obtain ⟨x, y, rfl, r1, r2⟩ := rep2 ra
    refine ⟨rfl, x, [y], rfl, y, [], rfl, rfl, ?_⟩
    have E1 := E.setD hl r1
    have E2 := E1.setD (i := j) (v := y) (d := b) (by rw [List.length_set]; exact hl') (r2.less (av_clr c O i))
    refine k _ _ H _ .refl (fun t ht => by rw [clr_ne (by rcases ht with ht | ht; omega; simp at ht; exact ht.2), clr_ne (by rcases ht with ht | ht; omega; simp at ht; exact ht.1)]) ?_ E2 (by rw [List.length_set, List.length_set]) hq
    show (((σ.set i (some x)).set j (some y)).set j none).set i none = (σ.set j none).set i none
    rw [List.set_set]
    by_cases e : i = j
    · subst e
      rw [List.set_set, List.set_set, List.set_set]
    · rw [List.set_comm _ _ e, List.set_set]
  split at hg
  · obtain ⟨a', xs, rfl, s, ra⟩ := r.seq
    exact ⟨a', xs, rfl, .inl (.inl s), go ra hg⟩
  · obtain ⟨a', xs, rfl, s, ra⟩ := (show RepT X.K (c.av O) c.T H v (.list _) from .inl r.lst).list
    exact ⟨a', xs, rfl, .inr (.of s), go ra hg⟩
  · exact hg.elim
end

/-! ### statements -/
structure DEnds where
  nx : List Sl → Nat → Prop
  rt : PyData → Nat → Prop
  bk : List Sl → Nat → Prop := fun _ _ => False
  ct : List Sl → Nat → Prop := fun _ _ => False
  rf : PyData → Nat → Prop := fun _ _ => False
abbrev GS := DEnds → List Sl → Nat → Prop
/-- what is wanted over the heap follows from what is wanted of the data -/
structure Link (K : PySem.W.Frag) (c : Ct) (D : Ends) (Dd : DEnds) : Prop where
  nx : ∀ O n H σ env, EnvOk K c O n H σ env → Dd.nx env n → D.nx σ H
  bk : ∀ O n H σ env, EnvOk K c O n H σ env → Dd.bk env n → D.bk σ H
  ct : ∀ O n H σ env, EnvOk K c O n H σ env → Dd.ct env n → D.ct σ H
  rt : ∀ n H v d, Ext c.T c.H0 H → TubOk c.T n H → Rep K c.Z c.T H v d → Dd.rt d n → D.rt v H
  rf : ∀ n H p d, Ext c.T c.H0 H → TubOk c.T n H → New c.H0 p → TopAt K (Zp c.Z p) c.T H p d → Dd.rf d n → D.rt (.ref p) H
def tDS (K : PySem.W.Frag) (g : GS) : TS := fun D σ H => ∃ (c : Ct) (O : Own) (n : Nat) (env : List Sl) (Dd : DEnds), EnvOk K c O n H σ env ∧ g Dd env n ∧ Link K c D Dd
structure DS (X : Cx) (st : Stmt) (g : GS) : Prop where ps : PS X st (tDS X.K g)
structure DSs (X : Cx) (st : List Stmt) (g : GS) : Prop where ps : PSs X st (tDS X.K g)

section
variable {X : Cx} {st : Stmt} {rest : List Stmt} {e : Expr} {pos : Pos}
theorem Rep.out {K : PySem.W.Frag} {c : Ct} {O : Own} {H : Hp} {v : V} {d : PyData} (r : Rep K (c.av O) c.T H v d) : Rep K c.Z c.T H v d := r.less fun _ h => .inl h
def gNext : GS := fun D env n => D.nx env n
def gSeq (g g' : GS) : GS := fun D env n => g { D with nx := g' D } env n
theorem ss_nil : DSs X [] gNext := ⟨pss_weak pss_nil fun D σ H ⟨c, O, n, env, Dd, E, hg, L⟩ => L.nx O n H σ env E hg⟩
theorem ss_cons {g g' : GS} (h : DS X st g) (h' : DSs X rest g') : DSs X (st :: rest) (gSeq g g') := ⟨pss_weak (pss_cons h.ps h'.ps) fun D σ H ⟨c, O, n, env, Dd, E, hg, L⟩ =>
  ⟨c, O, n, env, _, E, hg, ⟨fun O n H σ env E q => ⟨c, O, n, env, Dd, E, q, L⟩, L.bk, L.ct, L.rt, L.rf⟩⟩⟩
theorem ss_one {g : GS} (h : DS X st g) : DSs X [st] g := ⟨pss_one h.ps⟩
def gRet (ge : GE) : GS := fun D env n => ge env n D.rt
theorem s_ret {ge : GE} (h : DE X e ge) : DS X (.Return (some e) pos) (gRet ge) := ⟨ps_weak (ps_ret h.pe) fun D σ H ⟨c, O, n, env, Dd, E, hg, L⟩ =>
  ⟨c, O, n, env, _, E, hg, fun v d H' n' x t r q => L.rt n' H' v d (E.ext.trans x) t r.out q⟩⟩
/-- something new handed back -/
def gRetF (ge : GE) : GS := fun D env n => ge env n D.rf
theorem s_retF {ge : GE} (h : DF X e ge) : DS X (.Return (some e) pos) (gRetF ge) := ⟨ps_weak (ps_ret h.pe) fun D σ H ⟨c, O, n, env, Dd, E, hg, L⟩ =>
  ⟨c, O, n, env, _, E, hg, fun p d H' n' x t f r q => L.rf n' H' p d (E.ext.trans x) t (E.newp f) (r.less fun _ z => z.elim (fun z => .inl (.inl z)) .inr) q⟩⟩
/-- a name handed back, maybe one that may be changed -/
theorem s_retv {i : Nat} (h : PE X e (tVar i)) : DS X (.Return (some e) pos) (gRet (gVarB i)) := ⟨ps_weak (ps_ret h) fun D σ H ⟨c, O, n, env, Dd, E, hg, L⟩ => by
  unfold gRet gVarB at hg
  split at hg
  · next d hd =>
    obtain ⟨v, e1, r⟩ := E.dat i d hd
    exact ⟨v, e1, L.rt n H v d E.ext E.tub r.out hg⟩
  · next d hd =>
    obtain ⟨a, e1, e2, r⟩ := E.own i d hd
    exact ⟨_, e2, L.rt n H _ d E.ext E.tub ((r.less fun _ z => .inl z).rep (E.notZ e1)) hg⟩
  · exact hg.elim⟩
def gIfS (t : GT) (g g' : GS) : GS := fun D env n => t env n fun b n1 => if b = true then g D env n1 else g' D env n1
theorem s_if {t : GT} {g g' : GS} {c : Expr} {a b : List Stmt} (h : DT X c t) (ha : DSs X a g) (hb : DSs X b g') : DS X (.If c a b pos) (gIfS t g g') := ⟨ps_weak (ps_if h.pe ha.ps hb.ps) fun D σ H ⟨c, O, n, env, Dd, E, hg, L⟩ =>
  ⟨c, O, n, env, _, E, hg, fun b H' n' x t q => by
    cases b with
    | true =>
      rw [if_pos rfl] at q ⊢
      exact ⟨c, O, n', env, Dd, E.extend x t, q, L⟩
    | false =>
      rw [if_neg Bool.false_ne_true] at q ⊢
      exact ⟨c, O, n', env, Dd, E.extend x t, q, L⟩⟩⟩
def gDrop (ge : GE) : GS := fun D env n => ge env n fun _ n' => D.nx env n'
theorem s_expr {ge : GE} (h : DE X e ge) (hs : swapsWith e none pos.line X.env = pure false := by rfl) : DS X (.Expr e pos) (gDrop ge) := ⟨ps_weak (ps_expr h.pe hs) fun D σ H ⟨c, O, n, env, Dd, E, hg, L⟩ =>
  ⟨c, O, n, env, _, E, hg, fun v d H' n' x t r q => L.nx O n' H' σ env (E.extend x t) q⟩⟩
/-- name = value -/
def gSet (i : Nat) (ge : GE) : GS := fun D env n => i < env.length ∧ ge env n fun d n' => D.nx (env.set i (.dat d)) n'
def gSetO (i : Nat) (ge : GE) : GS := fun D env n => i < env.length ∧ ge env n fun d n' => D.nx (env.set i (.own d)) n'
theorem s_set {ge : GE} {i : Nat} {x : Str} {pos' : Pos} (hN : X.N.Nodup) (hi : X.N[i]? = some x) (hx : Loc X.env.scope x) (h : DE X e ge) (hs : swapsWith e (some (.Name x pos')) pos.line X.env = pure false := by rfl) (hf : X.fn x = true ∨ X.env.scope.names.lookup x = some .local := by first | exact .inl rfl | exact .inr rfl | assumption) :
    DS X (.Assign [.Name x pos'] e pos) (gSet i ge) := ⟨ps_weak (ps_set hN hi hx h.pe hs hf) fun D σ H ⟨c, O, n, env, Dd, E, ⟨hl, hg⟩, L⟩ =>
  ⟨c, O, n, env, _, E, hg, fun v d H' n' x t r q => L.nx _ n' H' _ _ ((E.extend x t).setD hl r) q⟩⟩
theorem s_setO {ge : GE} {i : Nat} {x : Str} {pos' : Pos} (hN : X.N.Nodup) (hi : X.N[i]? = some x) (hx : Loc X.env.scope x) (h : DF X e ge) (hs : swapsWith e (some (.Name x pos')) pos.line X.env = pure false := by rfl) (hf : X.fn x = true ∨ X.env.scope.names.lookup x = some .local := by first | exact .inl rfl | exact .inr rfl | assumption) :
    DS X (.Assign [.Name x pos'] e pos) (gSetO i ge) := ⟨ps_weak (ps_set hN hi hx h.pe hs hf) fun D σ H ⟨c, O, n, env, Dd, E, ⟨hl, hg⟩, L⟩ =>
  ⟨c, O, n, env, _, E, hg, fun p d H' n' x t f r q => by
    obtain ⟨O', E'⟩ := E.setF hl x t f r
    exact L.nx O' n' H' _ _ E' q⟩⟩
/-- a, b = value -/
def gAsg (ge : GE) (gg : GG) : GS := fun D env n => ge env n fun d n' => gg d env fun env' => D.nx env' n'
theorem s_asg {tg : Expr} {is : List Nat} {ge : GE} {gg : GG} (h : DE X e ge) (hg : DG X false is tg gg) (hs : swapsWithSole [tg] e pos.line X.env = pure false := by rfl) (hw : swappedStores [tg] e X.env = pure none := by rfl)
    (h1 : (assignEach [tg] X.env).map (·.2) = [assign tg X.env] := by rfl) : DS X (.Assign [tg] e pos) (gAsg ge gg) := ⟨ps_weak (ps_asg h.pe hg.pe hs hw h1) fun D σ H ⟨c, O, n, env, Dd, E, hg, L⟩ =>
  ⟨c, O, n, env, _, E, hg, fun v d H' n' x t r q => ⟨c, O, n', env, d, _, E.extend x t, .inl r, q, fun O' σ' H'' env' x' _ _ E' _ q' => L.nx O' n' H'' σ' env' E' q'⟩⟩⟩

/-! ### changes of a list or dict of a slot -/
/-- x.append(e) -/
def gApp (i : Nat) (ge : GE) : GS := fun D env n => match env[i]? with
  | some (.own (.list ds)) => ge env n fun d n' => ds.length < sizeLine ∧ D.nx (env.set i (.own (.list (ds ++ [d])))) n'
  | _ => False
theorem top_list {K : PySem.W.Frag} {Z : Addr → Prop} {T : Tb} {H : Hp} {a : Addr} {ds : List PyData} (t : TopAt K Z T H a (.list ds)) : ∃ xs, H a = some (.lst xs) ∧ RepAll K Z T H xs ds := by
  rcases t with ⟨xs, ds', e, q, r⟩ | ⟨_, _, e, _⟩
  · injection e with e
    subst e
    exact ⟨xs, q, r⟩
  · cases e
theorem top_dict {K : PySem.W.Frag} {Z : Addr → Prop} {T : Tb} {H : Hp} {a : Addr} {ds : List (PyData × PyData)} (t : TopAt K Z T H a (.dict ds)) : ∃ xs, H a = some (.dK xs) ∧ RepKV K Z T H xs ds := by
  rcases t with ⟨_, _, e, _⟩ | ⟨xs, ds', e, q, r⟩
  · cases e
  · injection e with e
    subst e
    exact ⟨xs, q, r⟩
/-- the items stay where the list itself is changed -/
theorem RepAll.chg {K : PySem.W.Frag} {c : Ct} {O : Own} {H : Hp} {i : Nat} {a : Addr} {o : HO} {xs : List V} {ds : List PyData} (oi : O i = some a) (r : RepAll K (c.av O) c.T H xs ds) : RepAll K (c.av O) c.T (upd H a o) xs ds :=
  r.keep (fun b u nb _ e => by rw [upd_ne fun z => nb (.inr ⟨i, by rw [z]; exact oi⟩)]; exact e) fun _ n _ => n
theorem Rep.chg {K : PySem.W.Frag} {c : Ct} {O : Own} {H : Hp} {i : Nat} {a : Addr} {o : HO} {xs : V} {ds : PyData} (oi : O i = some a) (r : Rep K (c.av O) c.T H xs ds) : Rep K (c.av O) c.T (upd H a o) xs ds :=
  r.keep (fun b u nb _ e => by rw [upd_ne fun z => nb (.inr ⟨i, by rw [z]; exact oi⟩)]; exact e) fun _ n _ => n
theorem RepKV.chg {K : PySem.W.Frag} {c : Ct} {O : Own} {H : Hp} {i : Nat} {a : Addr} {o : HO} {xs : List (Key × V)} {ds : List (PyData × PyData)} (oi : O i = some a) (r : RepKV K (c.av O) c.T H xs ds) : RepKV K (c.av O) c.T (upd H a o) xs ds :=
  r.keep (fun b u nb _ e => by rw [upd_ne fun z => nb (.inr ⟨i, by rw [z]; exact oi⟩)]; exact e) fun _ n _ => n
theorem s_app {o x : Expr} {ge : GE} {i : Nat} {apos cpos : Pos} (ho : PE X o (tVar i)) (hx : DE X x ge)
    (hbase : attributeBase o "append" X.env (eval o X.env) = eval o X.env := by rfl)
    (hfew : ((backTo cpos (starEach [x] X.env)).all (fun x => !x.1) && (backToKw cpos (keywordEach [] X.env)).all (fun x => x.1.isSome)
      && decide ([x].length + ([] : List Keyword).length + (if ([] : List Keyword).isEmpty then 0 else 1) < 30)) = true := by rfl)
    (hline : (apos.endLine == cpos.line) = true := by rfl) (hs : starEach [x] X.env = (false, eval x X.env) :: starEach [] X.env := by rfl) (hplain : (backTo cpos (starEach [] X.env)).any (·.1) = false := by rfl)
    (hsw : swapsWith (.Call (.Attribute o "append" apos) [x] [] cpos) none pos.line X.env = pure false := by rfl) :
    DS X (.Expr (.Call (.Attribute o "append" apos) [x] [] cpos) pos) (gApp i ge) :=
  ⟨ps_weak (ps_expr (pe_bm PySem.F.plainAttrs_list PySem.F.slot_list_append PySem.F.type_list_append mt_append ho (pa_cons hx.pe pa_nil hs) hbase hfew hline hs hplain) hsw) fun D σ H ⟨c, O, n, env, Dd, E, hg, L⟩ => by
    unfold gApp at hg
    split at hg
    · next ds hi =>
      have hl := (List.getElem?_eq_some_iff.mp hi).1
      obtain ⟨a, oi, sa, tp⟩ := E.own i _ hi
      obtain ⟨xs, ha, ra⟩ := top_list tp
      refine ⟨_, sa, .inl ⟨rfl, xs, .of ha⟩, c, O, n, env, _, E, hg, fun v d H1 n1 x1 t1 r1 ⟨hz, q1⟩ => ?_⟩
      have E1 := E.extend x1 t1
      have ha1 := x1.kp a _ (E.notT oi) nt_lst ha
      have ra1 := ra.ext E.atz x1
      refine ⟨a, xs, v, rfl, rfl, ha1, by rw [ra.length]; exact hz, ?_⟩
      exact L.nx O n1 _ _ _ (E1.chg (nt_of_lst ha1) hl oi sa (.inl ⟨_, _, rfl, upd_same, (ra1.chg oi).append (.cons (r1.chg oi) .nil)⟩)) q1
    · exact hg.elim⟩
/-- x[k] = e, a list of a slot -/
def gPutL (i : Nat) (gk ge : GE) : GS := fun D env n => ge env n fun d n1 => match env[i]? with
  | some (.own (.list ds)) => gk env n1 fun k n2 => match k with
    | .int j => ∃ m, ixN ds.length j = some m ∧ D.nx (env.set i (.own (.list (ds.set m d)))) n2
    | _ => False
  | _ => False
theorem s_putL {o k e : Expr} {gk ge : GE} {i : Nat} {tpos : Pos} (ho : PE X o (tVar i)) (hk : DB X k gk) (h : DE X e ge)
    (ha : ∀ v, assign (.Subscript o k tpos) X.env v = (do
      let ov ← (holding [v] (eval o X.env))
      let iv ← holding [v, ov] (eval k X.env)
      standAt tpos
      (holding [v, ov, iv] (setItem ov iv v))
      release [v, ov, iv] []) := by intro _; rfl)
    (hs : swapsWithSole [.Subscript o k tpos] e pos.line X.env = pure false := by rfl) (hw : swappedStores [.Subscript o k tpos] e X.env = pure none := by rfl)
    (h1 : (assignEach [.Subscript o k tpos] X.env).map (·.2) = [assign (.Subscript o k tpos) X.env] := by rfl) :
    DS X (.Assign [.Subscript o k tpos] e pos) (gPutL i gk ge) :=
  ⟨ps_weak (ps_asg h.pe (pg_sub ho hk.pe set_list ha) hs hw h1) fun D σ H ⟨c, O, n, env, Dd, E, hg, L⟩ =>
    ⟨c, O, n, env, _, E, hg, fun v d H1 n1 x1 t1 r1 q1 => by
      split at q1
      · next ds hi =>
        have hl := (List.getElem?_eq_some_iff.mp hi).1
        have E1 := E.extend x1 t1
        obtain ⟨a, oi, sa, tp⟩ := E1.own i _ hi
        obtain ⟨xs, ha1, ra⟩ := top_list tp
        refine ⟨_, sa, c, O, n1, env, _, E1, q1, fun w dk H2 n2 x2 t2 r2 q2 => ?_⟩
        cases dk with
        | int j =>
          obtain ⟨m, hm, q⟩ := q2
          have E2 := E1.extend x2 t2
          have ra2 := ra.ext E.atz x2
          have ha2 := x2.kp a _ (E.notT oi) nt_lst ha1
          refine ⟨a, xs, j, m, rfl, r2.int, ha2, by rw [ra.length]; exact hm, ?_⟩
          exact L.nx O n2 _ _ _ (E2.chg (nt_of_lst ha2) hl oi sa (.inl ⟨_, _, rfl, upd_same, (ra2.chg oi).set m ((r1.ext E.atz x2).chg oi)⟩)) q
        | _ => exact q2.elim
      · exact q1.elim⟩⟩
/-- x[k] = e, a dict of a slot -/
def putD (ds : List (PyData × PyData)) (k d : PyData) : List (PyData × PyData) :=
  if (ds.any fun p => PyData.eqv p.1 k) = true then ds.map (fun p => if PyData.eqv p.1 k = true then (p.1, d) else p) else ds ++ [(k, d)]
theorem RepKV.append {K : PySem.W.Frag} {Z : Addr → Prop} {T : Tb} {H : Hp} : ∀ {v v' : List (Key × V)} {d d' : List (PyData × PyData)}, RepKV K Z T H v d → RepKV K Z T H v' d' → RepKV K Z T H (v ++ v') (d ++ d')
  | _, _, _, _, .nil, s => s
  | _, _, _, _, .cons a b, s => .cons a (RepKV.append b s)
theorem any_of {K : PySem.W.Frag} {Z : Addr → Prop} {T : Tb} {H : Hp} (k : Key) : ∀ {v : List (Key × V)} {d : List (PyData × PyData)}, RepKV K Z T H v d → (d.any fun p => PyData.eqv p.1 (keyD k)) = v.any fun kv => decide (kv.1 = k)
  | _, _, .nil => rfl
  | _, _, .cons a b => by
    rw [List.any_cons, List.any_cons, any_of k b, keyD_eqv]
theorem map_of {K : PySem.W.Frag} {Z : Addr → Prop} {T : Tb} {H : Hp} (k : Key) {x : V} {e : PyData} (r : Rep K Z T H x e) : ∀ {v : List (Key × V)} {d : List (PyData × PyData)}, RepKV K Z T H v d →
    RepKV K Z T H (v.map fun kv => if kv.1 = k then (kv.1, x) else kv) (d.map fun p => if PyData.eqv p.1 (keyD k) = true then (p.1, e) else p)
  | _, _, .nil => .nil
  | _, _, .cons (k := j) a b => by
    rw [(List.map_cons), List.map_cons]
    by_cases h : j = k
    · rw [if_pos h, if_pos (by rw [keyD_eqv, decide_eq_true h])]
      exact .cons r (map_of k r b)
    · rw [if_neg h, if_neg (by rw [keyD_eqv, decide_eq_false h]; exact Bool.false_ne_true)]
      exact .cons a (map_of k r b)
theorem put_of {K : PySem.W.Frag} {Z : Addr → Prop} {T : Tb} {H : Hp} (k : Key) {x : V} {e : PyData} (r : Rep K Z T H x e) {v : List (Key × V)} {d : List (PyData × PyData)} (h : RepKV K Z T H v d) : RepKV K Z T H (putK v k x) (putD d (keyD k) e) := by
  unfold putK putD
  rw [any_of k h]
  split
  · exact map_of k r h
  · exact h.append (.cons r .nil)
def gPutD (i : Nat) (gk ge : GE) : GS := fun D env n => ge env n fun d n1 => match env[i]? with
  | some (.own (.dict ds)) => gk env n1 fun k n2 => isKey k = true ∧ ds.length < sizeLine ∧ D.nx (env.set i (.own (.dict (putD ds k d)))) n2
  | _ => False
theorem s_putD {o k e : Expr} {gk ge : GE} {i : Nat} {tpos : Pos} (hu : X.A.units + 1 < cLine) (ho : PE X o (tVar i)) (hk : DB X k gk) (h : DE X e ge) (hs : swapsWith e (some (.Subscript o k tpos)) pos.line X.env = pure false := by rfl) :
    DS X (.Assign [.Subscript o k tpos] e pos) (gPutD i gk ge) :=
  ⟨ps_weak (ps_dput hu ho hk.pe h.pe hs) fun D σ H ⟨c, O, n, env, Dd, E, hg, L⟩ =>
    ⟨c, O, n, env, _, E, hg, fun v d H1 n1 x1 t1 r1 q1 => by
      split at q1
      · next ds hi =>
        have hl := (List.getElem?_eq_some_iff.mp hi).1
        have E1 := E.extend x1 t1
        obtain ⟨a, oi, sa, tp⟩ := E1.own i _ hi
        obtain ⟨xs, ha1, ra⟩ := top_dict tp
        refine ⟨_, sa, c, O, n1, env, _, E1, q1, fun w dk H2 n2 x2 t2 r2 ⟨ik, hz, q⟩ => ?_⟩
        obtain ⟨key, rfl, rfl⟩ := key_of r2 ik
        have E2 := E1.extend x2 t2
        have ra2 := ra.ext E.atz x2
        have ha2 := x2.kp a _ (E.notT oi) nt_dK ha1
        refine ⟨a, _, rfl, .inl ⟨xs, key, ha2, rfl, by rw [ra.length]; exact hz, rfl⟩, ?_⟩
        exact L.nx O n2 _ _ _ (E2.chg (nt_of_dK ha2) hl oi sa (.inr ⟨_, _, rfl, upd_same, put_of key ((r1.ext E.atz x2).chg oi) (ra2.chg oi)⟩)) q
      · exact q1.elim⟩⟩
end
end L2.DL
end

section
/-! The data layer 8: iteration, loops, comprehensions. -/
namespace L2.DL
open L2 PySem PySem.Spec PyProof.Rows
variable [TabsOf]

/-! ### what is walked -/
structure IterOk (K : PySem.W.Frag) (jj : Bool) (T : Tb) (J : It) (ps : List (V × PyData)) (items : List PyData) : Prop where
  go : ∀ (Z : Addr → Prop) (H : Hp), (∀ a, Z a → ¬ New H a) → (∀ q ∈ ps, Rep K Z T H q.1 q.2) → ∀ i d, items[i]? = some d → J.go i H ∧ ∀ x H', J.yld i H x H' → Grow H H' ∧ RepJ K jj Z T H' x d
  stop : ∀ (Z : Addr → Prop) (H : Hp), (∀ a, Z a → ¬ New H a) → (∀ q ∈ ps, Rep K Z T H q.1 q.2) → ∀ i, items.length ≤ i → J.stop i H
abbrev GI := List Sl → Nat → (List PyData → Nat → Prop) → Prop
def tDI (K : PySem.W.Frag) (jj : Bool) (g : GI) : TI := fun σ H R => ∃ (c : Ct) (O : Own) (n : Nat) (env : List Sl) (Qd : List PyData → Nat → Prop), EnvOk K c O n H σ env ∧ g env n Qd ∧
  ∀ J ps items H' n', Ext c.T H H' → TubOk c.T n' H' → (∀ q ∈ ps, Rep K (c.av O) c.T H' q.1 q.2) → IterOk K jj c.T J ps items → Qd items n' → R J H'
structure DI (X : Cx) (jj : Bool) (tg iter : Expr) (g : GI) : Prop where pi : PI X tg iter (tDI X.K jj g)
section
variable {X : Cx} {tg e : Expr} {pos : Pos}
theorem pi_weak {t t' : TI} (h : PI X tg e t) (w : ∀ σ H Q, t' σ H Q → t σ H Q) : PI X tg e t' := ⟨fun pins s σ H Q I q => h.run pins s σ H Q I (w σ H Q q)⟩
/-- a list or a tuple, by what comes -/
def iSeq (K : PySem.W.Frag) (tl : TE) : TI := fun σ H R => tl σ H fun x H1 => ∃ a, x = .ref a ∧ (((∃ xs, SqL K H1 a xs) ∧ R (Itl K a) H1) ∨ ((∃ xs, SqT K H1 a xs) ∧ R (Itt K a) H1))
theorem pi_seq {l : Expr} {tl : TE} (hl : PE X l tl) : PI X tg l (iSeq X.K tl) := by
  refine ⟨fun pinsz sz σz H Rz Iz hzz => ?_⟩
  refine thn (hl.run pinsz sz σz H _ Iz hzz) fun vz s1z ⟨xz, H1, I1, r1z, q1z⟩ => ?_
  obtain ⟨az, e, qz⟩ := q1z
  subst e
  cases r1z
  rcases qz with ⟨⟨xs, hq⟩, qz⟩ | ⟨⟨xs, hq⟩, qz⟩
  · obtain ⟨itsz, rv, pz, hz⟩ := I1.list hq
    refine wpAny_pyIter_list pz.isList ?_
    refine ⟨s1z.heap.objs.size, [s1z.heap.objs.size], _, _, H1, rfl, I1.kept (t' := s1z.toks) fun bz oz e => Heap.get?_push_of_some _ e, turn_list az _, ⟨_, Heap.get?_push_size _ rfl, rfl, rfl⟩, fun bz hbz => ?_, qz⟩
    have e : bz = s1z.heap.objs.size := by simpa using hbz
    subst e
    exact (I1.fpOk (Nat.le_refl _) (I1.hok.fresh (Nat.le_refl _)))
  · obtain ⟨itsz, rv, pz, hz⟩ := I1.tuple hq
    refine wpAny_pyIter_tuple (show s1z.heap.IsTuple az itsz.toArray from pz) ?_
    refine ⟨s1z.heap.objs.size, [s1z.heap.objs.size], _, _, H1, rfl, I1.kept (t' := s1z.toks) fun bz oz e => Heap.get?_push_of_some _ e, turn_tuple az _, ⟨_, Heap.get?_push_size _ rfl, rfl, rfl⟩, fun bz hbz => ?_, qz⟩
    have e : bz = s1z.heap.objs.size := by simpa using hbz
    subst e
    exact (I1.fpOk (Nat.le_refl _) (I1.hok.fresh (Nat.le_refl _)))
def gSeqI (ge : GE) : GI := fun env n Q => ge env n fun d n1 => match d with
  | .list ds => Q ds n1
  | .tuple ds => Q ds n1
  | _ => False
theorem iter_list {K : PySem.W.Frag} {T : Tb} {a : Addr} {ds : List PyData} : IterOk K false T (Itl K a) [(.ref a, .list ds)] ds where
  go := fun Z H al hp i d hd => by
    obtain ⟨a', xs, e, s, r⟩ := (show RepT K Z T H (.ref a) (.list ds) from .inl (hp _ (List.mem_singleton.mpr rfl))).list
    cases e
    obtain ⟨x, hx, rx⟩ := r.get hd
    refine ⟨⟨xs, x, .of s, hx⟩, fun y H' ⟨e, hy⟩ => ?_⟩
    subst e
    refine ⟨.refl, ?_⟩
    have := hy xs (.of s)
    rw [hx] at this
    cases this
    exact .inl rx
  stop := fun Z H al hp i hi => by
    obtain ⟨a', xs, e, s, r⟩ := (show RepT K Z T H (.ref a) (.list ds) from .inl (hp _ (List.mem_singleton.mpr rfl))).list
    cases e
    exact ⟨xs, .of s, by rw [r.length]; exact hi⟩
theorem iter_tup {K : PySem.W.Frag} {T : Tb} {a : Addr} {ds : List PyData} : IterOk K false T (Itt K a) [(.ref a, .tuple ds)] ds where
  go := fun Z H al hp i d hd => by
    obtain ⟨a', xs, e, s, r⟩ := (show RepT K Z T H (.ref a) (.tuple ds) from .inl (hp _ (List.mem_singleton.mpr rfl))).tuple
    cases e
    obtain ⟨x, hx, rx⟩ := r.get hd
    refine ⟨⟨xs, x, .inl s, hx⟩, fun y H' ⟨e, hy⟩ => ?_⟩
    subst e
    refine ⟨.refl, ?_⟩
    have := hy xs (.inl s)
    rw [hx] at this
    cases this
    exact .inl rx
  stop := fun Z H al hp i hi => by
    obtain ⟨a', xs, e, s, r⟩ := (show RepT K Z T H (.ref a) (.tuple ds) from .inl (hp _ (List.mem_singleton.mpr rfl))).tuple
    cases e
    exact ⟨xs, .inl s, by rw [r.length]; exact hi⟩
theorem i_seq {ge : GE} (h : DE X e ge) : DI X false tg e (gSeqI ge) := ⟨pi_weak (pi_seq h.pe) fun σ H R ⟨c, O, n, env, Qd, E, hg, k⟩ =>
  ⟨c, O, n, env, _, E, hg, fun v d H' n' x t r q => by
    cases d with
    | list ds =>
      obtain ⟨a, xs, rfl, s, ra⟩ := (show RepT X.K (c.av O) c.T H' v (.list ds) from .inl r).list
      exact ⟨a, rfl, .inl ⟨⟨xs, .of s⟩, k _ _ ds H' n' x t (fun q hq => by cases List.mem_singleton.mp hq; exact r) iter_list q⟩⟩
    | tuple ds =>
      obtain ⟨a, xs, rfl, s, ra⟩ := (show RepT X.K (c.av O) c.T H' v (.tuple ds) from .inl r).tuple
      exact ⟨a, rfl, .inr ⟨⟨xs, .inl s⟩, k _ _ ds H' n' x t (fun q hq => by cases List.mem_singleton.mp hq; exact r) iter_tup q⟩⟩
    | _ => exact q.elim⟩⟩
/-- range(j) -/
def gRng1 (ge : GE) : GI := fun env n Q => ge env n fun d n1 => match d with
  | .int j => j < 2 ^ 62 ∧ -(2 ^ 62) ≤ j ∧ Q ((List.range j.toNat).map fun (i : Nat) => .int i) n1
  | _ => False
theorem iter_rng {K : PySem.W.Frag} {T : Tb} {m : Nat} : IterOk K false T (Itr 0 m) [] ((List.range m).map fun (i : Nat) => .int i) where
  go := fun Z H al hp i d hd => by
    have hl := (List.getElem?_eq_some_iff.mp hd).1
    rw [List.length_map, List.length_range] at hl
    rw [List.getElem?_map, List.getElem?_range hl] at hd
    cases hd
    refine ⟨hl, fun y H' ⟨e, hy⟩ => ?_⟩
    subst e hy
    refine ⟨.refl, ?_⟩
    have : (0 : Int) + (i : Int) = (i : Int) := by omega
    rw [this]
    exact .inl (.int _)
  stop := fun Z H al hp i hi => by
    rw [List.length_map, List.length_range] at hi
    exact hi
theorem i_rng1 {ge : GE} {p : Pos} (hg : Gl X "range") (hm : X.mg "range" = none) (h : DB X e ge) (hs : starEach [e] X.env = [(false, eval e X.env)] := by rfl) (hs' : starEach [e] X.env = (false, eval e X.env) :: starEach [] X.env := by rfl) : DI X false tg (.Call (.Name "range" p) [e] [] pos) (gRng1 ge) :=
  ⟨pi_weak (pi_range1 hg hm (pa_cons h.pe pa_nil hs') hs) fun σ H R ⟨c, O, n, env, Qd, E, hg, k⟩ =>
    ⟨c, O, n, env, _, E, hg, fun v d H' n' x t r q => by
      cases d with
      | int j =>
        cases r.int
        exact ⟨j, rfl, q.2.1, q.1, k _ [] _ H' n' x t (fun _ h => nomatch h) iter_rng q.2.2⟩
      | _ => exact q.elim⟩⟩
/-- range(lo, hi, step) -/
def rngL (i c : Int) (n : Nat) : List PyData := (List.range n).map fun (k : Nat) => .int (i + (k : Nat) * c)
def gRng3 (ga : GA) : GI := fun env n Q => ga env n fun ds n1 => match ds with
  | [.int i, .int j, .int c] => ∃ m, RgC i j c m ∧ Q (rngL i c m) n1
  | _ => False
theorem iter_rng3 {K : PySem.W.Frag} {T : Tb} {i c : Int} {m : Nat} : IterOk K false T (Itc i c m) [] (rngL i c m) where
  go := fun Z H al hp j d hd => by
    have hl := (List.getElem?_eq_some_iff.mp hd).1
    unfold rngL at hl hd
    rw [List.length_map, List.length_range] at hl
    rw [List.getElem?_map, List.getElem?_range hl] at hd
    cases hd
    refine ⟨hl, fun y H' ⟨e, hy⟩ => ?_⟩
    subst e hy
    exact ⟨.refl, .inl (.int _)⟩
  stop := fun Z H al hp j hi => by
    unfold rngL at hi
    rw [List.length_map, List.length_range] at hi
    exact hi
/-- a text, sign by sign -/
def gStrI (ge : GE) : GI := fun env n Q => ge env n fun d n1 => match d with
  | .str x => Q (x.cps.toList.map fun c => .str ⟨#[c]⟩) n1
  | _ => False
theorem iter_str {K : PySem.W.Frag} {T : Tb} {x : Str} : IterOk K false T (Its x) [] (x.cps.toList.map fun c => .str ⟨#[c]⟩) where
  go := fun Z H al hp j d hd => by
    rw [List.getElem?_map] at hd
    cases hc : x.cps.toList[j]? with
    | none => rw [hc] at hd; cases hd
    | some cc =>
      rw [hc] at hd
      cases hd
      have hc' : x.cps[j]? = some cc := by simpa using hc
      refine ⟨(show j < x.cps.size from (Array.getElem?_eq_some_iff.mp hc').1), fun y H' ⟨e, cc', h1, h2⟩ => ?_⟩
      subst e h2
      rw [hc'] at h1
      cases h1
      exact ⟨.refl, .inl (.str _)⟩
  stop := fun Z H al hp j hi => by
    rw [List.length_map, Array.length_toList] at hi
    exact hi
theorem i_str {ge : GE} (h : DB X e ge) : DI X false tg e (gStrI ge) := ⟨pi_weak (pi_str h.pe) fun σ H R ⟨c, O, n, env, Qd, E, hg, k⟩ =>
  ⟨c, O, n, env, _, E, hg, fun v d H' n' x t r q => by
    cases d with
    | str y => exact ⟨y, r.str, k _ [] _ H' n' x t (fun _ h => nomatch h) iter_str q⟩
    | _ => exact q.elim⟩⟩
theorem i_rng3 {a b c : Expr} {ga : GA} {p : Pos} (hg : Gl X "range") (hm : X.mg "range" = none) (h : DAB X [a, b, c] ga) (hs : starEach [a, b, c] X.env = (false, eval a X.env) :: starEach [b, c] X.env := by rfl) (hpl : (backTo pos (starEach [b, c] X.env)).any (·.1) = false := by rfl) :
    DI X false tg (.Call (.Name "range" p) [a, b, c] [] pos) (gRng3 ga) :=
  ⟨pi_weak (pi_range3 hg hm h.pe hs hpl) fun σ H R ⟨c, O, n, env, Qd, E, hg, k⟩ => ⟨c, O, n, env, _, E, hg, fun vs ds H' n' x t r q => by
    unfold gRng3 at *
    split at q
    · next i j cc =>
      obtain ⟨m, rg, q⟩ := q
      cases r with
      | cons r1 r =>
        cases r with
        | cons r2 r =>
          cases r with
          | cons r3 r =>
            cases r
            cases r1.int
            cases r2.int
            cases r3.int
            exact ⟨i, j, cc, m, rfl, rg, k _ [] _ H' n' x t (fun _ h => nomatch h) iter_rng3 q⟩
    · exact q.elim⟩⟩
/-- enumerate(list) -/
def enumF : Nat → List PyData → List PyData
  | _, [] => []
  | k, d :: ds => .tuple [.int (k : Nat), d] :: enumF (k + 1) ds
def enumD (ds : List PyData) : List PyData := enumF 0 ds
theorem enumF_get : ∀ (ds : List PyData) (k j : Nat), (enumF k ds)[j]? = ds[j]?.map fun d => .tuple [.int ((k + j : Nat) : Int), d]
  | [], _, _ => by simp [enumF]
  | d :: ds, k, 0 => by simp [enumF]
  | d :: ds, k, j + 1 => by
    have := enumF_get ds (k + 1) j
    simp only [enumF, List.getElem?_cons_succ, this]
    rw [show k + 1 + j = k + (j + 1) by omega]
theorem enumD_get (ds : List PyData) (j : Nat) : (enumD ds)[j]? = ds[j]?.map fun d => .tuple [.int (j : Nat), d] := by
  have := enumF_get ds 0 j
  rw [Nat.zero_add] at this
  exact this
theorem enumF_len : ∀ (ds : List PyData) (k : Nat), (enumF k ds).length = ds.length
  | [], _ => rfl
  | d :: ds, k => by simp [enumF, enumF_len ds (k + 1)]
theorem enumD_len (ds : List PyData) : (enumD ds).length = ds.length := enumF_len ds 0
def gEnum (ge : GE) : GI := fun env n Q => ge env n fun d n1 => match d with
  | .list ds => Q (enumD ds) n1
  | _ => False
theorem iter_enum {K : PySem.W.Frag} {T : Tb} {a : Addr} {ds : List PyData} : IterOk K true T (Ite K a) [(.ref a, .list ds)] (enumD ds) where
  go := fun Z H al hp i d hd => by
    obtain ⟨a', xs, e, s, r⟩ := (show RepT K Z T H (.ref a) (.list ds) from .inl (hp _ (List.mem_singleton.mpr rfl))).list
    cases e
    rw [enumD_get] at hd
    cases h0 : ds[i]? with
    | none => rw [h0] at hd; cases hd
    | some d0 =>
      rw [h0] at hd
      cases hd
      obtain ⟨x, hx, rx⟩ := r.get h0
      refine ⟨⟨xs, x, .of s, hx⟩, fun y H' ⟨Ta, x', e1, hT, e2, hy⟩ => ?_⟩
      subst e1 e2
      have := hy xs (.of s)
      rw [hx] at this
      cases this
      exact ⟨.new hT, .inr ⟨rfl, _, _, _, _, _, rfl, rfl, .inl upd_same, .int _, rx.grow (.new hT)⟩⟩
  stop := fun Z H al hp i hi => by
    obtain ⟨a', xs, e, s, r⟩ := (show RepT K Z T H (.ref a) (.list ds) from .inl (hp _ (List.mem_singleton.mpr rfl))).list
    cases e
    rw [enumD_len] at hi
    exact ⟨xs, .of s, by rw [r.length]; exact hi⟩
theorem i_enum {ge : GE} {p tpos : Pos} {elts : List Expr} {kk : Nat} (hg : Gl X "enumerate") (hm : X.mg "enumerate" = none) (h : DE X e ge) (hs : starEach [e] X.env = [(false, eval e X.env)] := by rfl) (hs' : starEach [e] X.env = (false, eval e X.env) :: starEach [] X.env := by rfl) :
    DI X true (.Tuple elts kk tpos) (.Call (.Name "enumerate" p) [e] [] pos) (gEnum ge) :=
  ⟨pi_weak (pi_enum hg hm (pa_cons h.pe pa_nil hs') hs) fun σ H R ⟨c, O, n, env, Qd, E, hg, k⟩ => ⟨c, O, n, env, _, E, hg, fun v d H' n' x t r q => by
    cases d with
    | list ds =>
      obtain ⟨a, xs, rfl, s, ra⟩ := (show RepT X.K (c.av O) c.T H' v (.list ds) from .inl r).list
      exact ⟨a, xs, rfl, .of s, k _ _ _ H' n' x t (fun q hq => by cases List.mem_singleton.mp hq; exact r) iter_enum q⟩
    | _ => exact q.elim⟩⟩
/-- zip of two lists or of two tuples -/
def zipD : List PyData → List PyData → List PyData
  | a :: as, b :: bs => .tuple [a, b] :: zipD as bs
  | _, _ => []
theorem zipD_get : ∀ (as bs : List PyData) (i : Nat) (d : PyData), (zipD as bs)[i]? = some d → ∃ a b, as[i]? = some a ∧ bs[i]? = some b ∧ d = .tuple [a, b]
  | a :: as, b :: bs, 0, d, h => by
    simp [zipD] at h
    exact ⟨a, b, rfl, rfl, h.symm⟩
  | a :: as, b :: bs, i + 1, d, h => by
    obtain ⟨x, y, h1, h2, h3⟩ := zipD_get as bs i d (by simpa [zipD] using h)
    exact ⟨x, y, by simpa using h1, by simpa using h2, h3⟩
  | [], _, _, _, h => by simp [zipD] at h
  | _ :: _, [], _, _, h => by simp [zipD] at h
theorem zipD_len : ∀ (as bs : List PyData), (zipD as bs).length = min as.length bs.length
  | a :: as, b :: bs => by
    simp only [zipD, List.length_cons, zipD_len as bs]
    omega
  | [], _ => by simp [zipD]
  | _ :: _, [] => by simp [zipD]
def gZip (ga : GA) : GI := fun env n Q => ga env n fun ds n1 => match ds with
  | [.list as, .list bs] => Q (zipD as bs) n1
  | [.tuple as, .tuple bs] => Q (zipD as bs) n1
  | _ => False
theorem iter_zipL {K : PySem.W.Frag} {T : Tb} {a b : Addr} {as bs : List PyData} : IterOk K true T (Itz K a b) [(.ref a, .list as), (.ref b, .list bs)] (zipD as bs) where
  go := fun Z H al hp i d hd => by
    obtain ⟨a', xs, e, s, r⟩ := (show RepT K Z T H (.ref a) (.list as) from .inl (hp _ List.mem_cons_self)).list
    cases e
    obtain ⟨b', ys, e, s', r'⟩ := (show RepT K Z T H (.ref b) (.list bs) from .inl (hp _ (List.mem_cons_of_mem _ List.mem_cons_self))).list
    cases e
    obtain ⟨p, q, h1, h2, rfl⟩ := zipD_get as bs i d hd
    obtain ⟨x, hx, rx⟩ := r.get h1
    obtain ⟨y, hy, ry⟩ := r'.get h2
    refine ⟨⟨xs, ys, x, y, .of s, .of s', hx, hy⟩, fun v H' ⟨Ta, x', y', e1, hT, e2, f1, f2⟩ => ?_⟩
    subst e1 e2
    have := f1 xs (.of s)
    rw [hx] at this
    cases this
    have := f2 ys (.of s')
    rw [hy] at this
    cases this
    exact ⟨.new hT, .inr ⟨rfl, _, _, _, _, _, rfl, rfl, .inl upd_same, rx.grow (.new hT), ry.grow (.new hT)⟩⟩
  stop := fun Z H al hp i hi => by
    obtain ⟨a', xs, e, s, r⟩ := (show RepT K Z T H (.ref a) (.list as) from .inl (hp _ List.mem_cons_self)).list
    cases e
    obtain ⟨b', ys, e, s', r'⟩ := (show RepT K Z T H (.ref b) (.list bs) from .inl (hp _ (List.mem_cons_of_mem _ List.mem_cons_self))).list
    cases e
    rw [zipD_len] at hi
    exact ⟨xs, ys, .of s, .of s', by rw [r.length, r'.length]; omega⟩
theorem iter_zipT {K : PySem.W.Frag} {T : Tb} {a b : Addr} {as bs : List PyData} : IterOk K true T (RZ.ItzT K a b) [(.ref a, .tuple as), (.ref b, .tuple bs)] (zipD as bs) where
  go := fun Z H al hp i d hd => by
    obtain ⟨a', xs, e, s, r⟩ := (show RepT K Z T H (.ref a) (.tuple as) from .inl (hp _ List.mem_cons_self)).tuple
    cases e
    obtain ⟨b', ys, e, s', r'⟩ := (show RepT K Z T H (.ref b) (.tuple bs) from .inl (hp _ (List.mem_cons_of_mem _ List.mem_cons_self))).tuple
    cases e
    obtain ⟨p, q, h1, h2, rfl⟩ := zipD_get as bs i d hd
    obtain ⟨x, hx, rx⟩ := r.get h1
    obtain ⟨y, hy, ry⟩ := r'.get h2
    refine ⟨⟨xs, ys, x, y, .inl s, .inl s', hx, hy⟩, fun v H' ⟨Ta, x', y', e1, hT, e2, f1, f2⟩ => ?_⟩
    subst e1 e2
    have := f1 xs (.inl s)
    rw [hx] at this
    cases this
    have := f2 ys (.inl s')
    rw [hy] at this
    cases this
    exact ⟨.new hT, .inr ⟨rfl, _, _, _, _, _, rfl, rfl, .inl upd_same, rx.grow (.new hT), ry.grow (.new hT)⟩⟩
  stop := fun Z H al hp i hi => by
    obtain ⟨a', xs, e, s, r⟩ := (show RepT K Z T H (.ref a) (.tuple as) from .inl (hp _ List.mem_cons_self)).tuple
    cases e
    obtain ⟨b', ys, e, s', r'⟩ := (show RepT K Z T H (.ref b) (.tuple bs) from .inl (hp _ (List.mem_cons_of_mem _ List.mem_cons_self))).tuple
    cases e
    rw [zipD_len] at hi
    exact ⟨xs, ys, .inl s, .inl s', by rw [r.length, r'.length]; omega⟩
theorem all2 {K : PySem.W.Frag} {Z : Addr → Prop} {T : Tb} {H : Hp} {vs : List V} {d1 d2 : PyData} (r : RepAll K Z T H vs [d1, d2]) : ∃ x y, vs = [x, y] ∧ Rep K Z T H x d1 ∧ Rep K Z T H y d2 := rep2 r
theorem i_zip {ga : GA} {a b : Expr} {p tpos : Pos} {elts : List Expr} {kk : Nat} (hg : Gl X "zip") (hm : X.mg "zip" = none) (h : DA X [a, b] ga) (hs : starEach [a, b] X.env = (false, eval a X.env) :: starEach [b] X.env := by rfl) (hpl : (backTo pos (starEach [b] X.env)).any (·.1) = false := by rfl) :
    DI X true (.Tuple elts kk tpos) (.Call (.Name "zip" p) [a, b] [] pos) (gZip ga) :=
  ⟨pi_weak (RZ.pi_zipA hg hm h.pe hs hpl) fun σ H R ⟨c, O, n, env, Qd, E, hg, k⟩ => ⟨c, O, n, env, _, E, hg, fun vs ds H' n' x t r q => by
    unfold gZip at *
    split at q
    · obtain ⟨v1, v2, rfl, r1, r2⟩ := all2 r
      obtain ⟨a, xs, rfl, s, ra⟩ := (show RepT X.K (c.av O) c.T H' v1 (.list _) from .inl r1).list
      obtain ⟨b, ys, rfl, s', rb⟩ := (show RepT X.K (c.av O) c.T H' v2 (.list _) from .inl r2).list
      refine ⟨a, b, xs, ys, rfl, .inl ⟨.of s, .of s', k _ _ _ H' n' x t (fun q hqz => ?_) iter_zipL q⟩⟩
      rcases List.mem_cons.mp hqz with rfl | hqz
      · exact r1
      · cases List.mem_singleton.mp hqz; exact r2
    · obtain ⟨v1, v2, rfl, r1, r2⟩ := all2 r
      obtain ⟨a, xs, rfl, s, ra⟩ := (show RepT X.K (c.av O) c.T H' v1 (.tuple _) from .inl r1).tuple
      obtain ⟨b, ys, rfl, s', rb⟩ := (show RepT X.K (c.av O) c.T H' v2 (.tuple _) from .inl r2).tuple
      refine ⟨a, b, xs, ys, rfl, .inr ⟨.inl s, .inl s', k _ _ _ H' n' x t (fun q hqz => ?_) iter_zipT q⟩⟩
      rcases List.mem_cons.mp hqz with rfl | hqz
      · exact r1
      · cases List.mem_singleton.mp hqz; exact r2
    · exact q.elim⟩⟩
end

/-! ### for -/
def gForL (gg : GG) (gb : GS) (D : DEnds) : List PyData → List Sl → Nat → Prop
  | [], env, n => D.nx env n
  | d :: ds, env, n => gg d env fun env' => gb { D with nx := gForL gg gb D ds, ct := gForL gg gb D ds, bk := D.nx } env' n
def gFor (gi : GI) (gg : GG) (gb : GS) : GS := fun D env n => gi env n fun items n' => gForL gg gb D items env n'
section
variable {X : Cx} {pos : Pos}
theorem Link.hold {K : PySem.W.Frag} {c : Ct} {D : Ends} {Dd : DEnds} {ps : List (V × PyData)} (L : Link K c D Dd) : Link K { c with ex := ps ++ c.ex } D Dd where
  nx := fun O n H σ env E q => L.nx _ n H σ env (EnvOk.back (l := c.lim) (ex := ps ++ c.ex) E E.le fun q h => List.mem_append_right _ h) q
  bk := fun O n H σ env E q => L.bk _ n H σ env (EnvOk.back (l := c.lim) (ex := ps ++ c.ex) E E.le fun q h => List.mem_append_right _ h) q
  ct := fun O n H σ env E q => L.ct _ n H σ env (EnvOk.back (l := c.lim) (ex := ps ++ c.ex) E E.le fun q h => List.mem_append_right _ h) q
  rt := L.rt
  rf := L.rf
theorem s_for {tg iter : Expr} {is : List Nat} {body : List Stmt} {gi : GI} {gg : GG} {gb : GS} (hp : PassesOwn (model X.prog X.w) X.A X.env X.xe) (hc : X.calm = true) {jj : Bool} (hi : DI X jj tg iter gi) (hg : DG X jj is tg gg) (hb : DSs X body gb)
    (hs : ∀ x, foldedSetIterable iter X.env x = pure x := by intro _; rfl) : DS X (.For tg iter body [] pos) (gFor gi gg gb) :=
  ⟨ps_weak (ps_for hp hc hi.pi hg.pe hb.ps hs) fun D σ H ⟨c, O, n, env, Dd, E, hg, L⟩ =>
    ⟨c, O, n, env, _, E, hg, fun J ps items H' n' x t hps io q => by
      have L' := L.hold (ps := ps)
      have E' := (E.extend x t).hold hps
      refine ⟨fun i m σ H => m = items.length - i ∧ i ≤ items.length ∧ ∃ O n env, EnvOk X.K { c with ex := ps ++ c.ex } O n H σ env ∧ gForL gg gb Dd (items.drop i) env n, ⟨_, rfl, Nat.zero_le _, O, n', env, E', by simpa using q⟩, ?_⟩
      rintro i m σ H ⟨rfl, hle, O, n, env, E, q⟩
      have hpin : ∀ q ∈ ps, Rep X.K (c.av O) c.T H q.1 q.2 := fun q hq => E.ex q (List.mem_append_left _ hq)
      by_cases hlt : i < items.length
      · have hd : items.drop i = items[i] :: items.drop (i + 1) := List.drop_eq_getElem_cons hlt
        rw [hd] at q
        obtain ⟨hgo, hy⟩ := io.go (c.av O) H E.al hpin i items[i] (List.getElem?_eq_getElem hlt)
        refine .inr ⟨hgo, fun σ' H' => ∃ O n env, EnvOk X.K { c with ex := ps ++ c.ex } O n H' σ' env ∧ gForL gg gb Dd (items.drop (i + 1)) env n, fun σ' H' h => ⟨items.length - (i + 1), by omega, rfl, hlt, h⟩, fun x H' y => ?_⟩
        obtain ⟨gr, rx⟩ := hy x H' y
        refine ⟨_, O, n, env, items[i], _, E.grow gr, rx, q, fun O' σ' H'' env' x' _ _ E' _ q' => ?_⟩
        exact ⟨_, O', n, env', _, E', q', ⟨fun O n H σ env E q => ⟨O, n, env, E, q⟩, fun O n H σ env E q => L'.nx O n H σ env E q, fun O n H σ env E q => ⟨O, n, env, E, q⟩, L'.rt, L'.rf⟩⟩
      · have e : i = items.length := by omega
        subst e
        rw [List.drop_length] at q
        exact .inl ⟨io.stop (c.av O) H E.al hpin _ (Nat.le_refl _), L'.nx O n H σ env E q⟩⟩⟩

/-! ### while -/
def gWhileN (gc : GT) (gb : GS) (D : DEnds) : Nat → List Sl → Nat → Prop
  | 0, _, _ => False
  | k + 1, env, n => gc env n fun b n' => if b = true then gb { D with nx := gWhileN gc gb D k, ct := gWhileN gc gb D k, bk := D.nx } env n' else D.nx env n'
def gWhile (gc : GT) (gb : GS) : GS := fun D env n => ∃ k, gWhileN gc gb D k env n
theorem s_while {c : Expr} {body : List Stmt} {gc : GT} {gb : GS} (hp : PassesOwn (model X.prog X.w) X.A X.env X.xe) (hc : DT X c gc) (hb : DSs X body gb) : DS X (.While c body [] pos) (gWhile gc gb) :=
  ⟨ps_weak (ps_while hp hc.pe hb.ps) fun D σ H ⟨c, O, n, env, Dd, E, ⟨k, hg⟩, L⟩ => by
    refine ⟨fun m σ H => ∃ O n env, EnvOk X.K c O n H σ env ∧ gWhileN gc gb Dd m env n, ⟨k, O, n, env, E, hg⟩, ?_⟩
    rintro m σ H ⟨O, n, env, E, q⟩
    cases m with
    | zero => exact q.elim
    | succ m =>
      refine ⟨c, O, n, env, _, E, q, fun b H' n' x t q => ?_⟩
      cases b with
      | true =>
        rw [if_pos rfl] at q ⊢
        refine ⟨fun σ' H' => ∃ O n env, EnvOk X.K c O n H' σ' env ∧ gWhileN gc gb Dd m env n, fun σ' H' h => ⟨m, Nat.lt_succ_self _, h⟩, c, O, n', env, _, E.extend x t, q, ?_⟩
        exact ⟨fun O n H σ env E q => ⟨O, n, env, E, q⟩, fun O n H σ env E q => L.nx O n H σ env E q, fun O n H σ env E q => ⟨O, n, env, E, q⟩, L.rt, L.rf⟩
      | false =>
        rw [if_neg Bool.false_ne_true] at q ⊢
        exact L.nx O n' H' σ env (E.extend x t) q⟩
end
end L2.DL
end

section
/-! The data layer 9: comprehensions. -/
namespace L2.DL
open L2 PySem PySem.Spec PyProof.Rows
variable [TabsOf]

def wipeE (env : List Sl) : List Nat → List Sl
  | [] => env
  | v :: vs => (wipeE env vs).set v .no
theorem wipeE_length (env : List Sl) : ∀ vs : List Nat, (wipeE env vs).length = env.length
  | [] => rfl
  | v :: vs => by unfold wipeE; rw [List.length_set, wipeE_length env vs]
section
variable {K : PySem.W.Frag} {c : Ct} {O : Own} {n : Nat} {H : Hp} {σ : St} {env : List Sl}
theorem EnvOk.setN (E : EnvOk K c O n H σ env) (i : Nat) (hi : ∀ d, env[i]? ≠ some (Sl.own d)) : EnvOk K c O n H (σ.set i none) (env.set i .no) where
  len := by rw [List.length_set, List.length_set]; exact E.len
  le := by rw [List.length_set]; exact E.le
  fin := E.fin
  tz := E.tz
  z0 := E.z0
  ext := E.ext
  tub := E.tub
  o0 := E.o0
  inj := E.inj
  cons := fun j a hj h => by
    rw [List.length_set] at hj
    obtain ⟨d, hd⟩ := E.cons j a hj h
    have e : i ≠ j := fun e => hi d (e ▸ hd)
    rw [List.getElem?_set_ne e]
    exact ⟨d, hd⟩
  dat := fun j d h => by
    by_cases e : i = j
    · subst e
      rw [List.getElem?_set] at h
      simp at h
    · rw [List.getElem?_set_ne e] at h
      obtain ⟨v, h1, h2⟩ := E.dat j d h
      exact ⟨v, by rw [List.getElem?_set_ne e]; exact h1, h2⟩
  own := fun j d h => by
    by_cases e : i = j
    · subst e
      rw [List.getElem?_set] at h
      simp at h
    · rw [List.getElem?_set_ne e] at h
      obtain ⟨v, h0, h1, h2⟩ := E.own j d h
      exact ⟨v, h0, by rw [List.getElem?_set_ne e]; exact h1, h2⟩
  ex := E.ex
/-- no list or dict that may be changed stands in these slots -/
def noOwn (env : List Sl) (vs : List Nat) : Prop := ∀ i ∈ vs, ∀ d, env[i]? ≠ some (Sl.own d)
theorem wipeE_own {env : List Sl} {i : Nat} {d : PyData} : ∀ {vs : List Nat}, (wipeE env vs)[i]? = some (Sl.own d) → env[i]? = some (Sl.own d)
  | [], h => h
  | v :: vs, h => by
    unfold wipeE at h
    by_cases e : v = i
    · subst e
      rw [List.getElem?_set] at h
      simp at h
    · rw [List.getElem?_set_ne e] at h
      exact wipeE_own h
theorem EnvOk.wipe (E : EnvOk K c O n H σ env) : ∀ vs, noOwn env vs → EnvOk K c O n H (wipe σ vs) (wipeE env vs)
  | [], _ => E
  | v :: vs, h => (E.wipe vs fun i hi => h i (List.mem_cons_of_mem _ hi)).setN v fun d q => h v List.mem_cons_self d (wipeE_own q)
/-- a temporary list or dict is changed -/
theorem EnvOk.chgT {t : Nat} {a : Addr} {o : HO} (nt : ∀ u, H a = some u → NT u ∧ ∀ φ, u ≠ .ext φ) (nu : ¬ New (upd H a o) a) (E : EnvOk K c O n H σ env) (ht : env.length ≤ t) (ot : O t = some a) : EnvOk K c O n (upd H a o) σ env := by
  have k : ∀ b u, ¬ c.av O b → NT u → H b = some u → upd H a o b = some u := fun b u nb _ e => by
    rw [upd_ne fun z => nb (.inr ⟨t, by rw [z]; exact ot⟩)]; exact e
  have zz : ∀ b, ¬ c.av O b → ¬ New H b → ¬ c.av O b := fun _ n _ => n
  exact {
    len := E.len
    le := E.le
    fin := E.fin
    tz := E.tz
    z0 := E.z0
    ext := ext_upd E.ext (E.o0 t a ot).1
    tub := ⟨fun b hb => by
      obtain ⟨x, y, z, q, rest⟩ := E.tub.go b hb
      exact ⟨x, y, z, by rw [upd_ne fun (w : b = a) => E.notT ot (w ▸ hb)]; exact q, rest⟩, tabs_upd E.tub.tb nt⟩
    o0 := fun j b h => ⟨(E.o0 j b h).1, by
      by_cases e : b = a
      · subst e; exact nu
      · exact fun w => (E.o0 j b h).2 fun u nt q => w u nt (by rw [upd_ne e]; exact q)⟩
    inj := E.inj
    cons := E.cons
    dat := fun j d2 h => by
      obtain ⟨v', e1, r'⟩ := E.dat j d2 h
      exact ⟨v', e1, r'.keep k zz⟩
    own := fun j d2 h => by
      obtain ⟨b, e1, e2, r'⟩ := E.own j d2 h
      refine ⟨b, e1, e2, r'.keep k zz ?_⟩
      rw [upd_ne]
      intro z
      have hj := (List.getElem?_eq_some_iff.mp h).1
      have := E.inj j t a (z ▸ e1) ot
      omega
    ex := fun q h => (E.ex q h).keep k zz }
end

/-! ### [elt for tg in iter if ..] -/
structure DTs (X : Cx) (es : List Expr) (g : GT) : Prop where pe : PTs X es (tDT X.K g)
def gYes : GT := fun _ n Q => Q true n
section
variable {X : Cx} {pos : Pos}
theorem pts_weak {es : List Expr} {t t' : TT} (h : PTs X es t) (w : ∀ σ H Q, t' σ H Q → t σ H Q) : PTs X es t' := ⟨fun pins s σ H Q I q => h.run pins s σ H Q I (w σ H Q q)⟩
theorem ts_nil : DTs X [] gYes := ⟨pts_weak pts_nil fun σ H Q ⟨c, O, n, env, Qd, E, hg, k⟩ => k true H n .refl E.tub hg⟩
theorem ts_one {e : Expr} {g : GT} (h : DT X e g) : DTs X [e] g := ⟨pts_one h.pe⟩
def gLcL (gg : GG) (gt : GT) (ge : GE) (env : List Sl) (Q : List PyData → Nat → Prop) : List PyData → List PyData → Nat → Prop
  | [], acc, n => Q acc n
  | d :: ds, acc, n => gg d env fun env' => gt env' n fun b n1 => if b = true then ge env' n1 fun y n2 => acc.length < sizeLine ∧ gLcL gg gt ge env Q ds (acc ++ [y]) n2 else gLcL gg gt ge env Q ds acc n1
def gLc (vs : List Nat) (gi : GI) (gg : GG) (gt : GT) (ge : GE) : GE := fun env n Q => noOwn env vs ∧ gi env n fun items n' => gLcL gg gt ge (wipeE env vs) (fun acc n'' => Q (.list acc) n'') items [] n'

/-- what the new list at D holds, through the turns -/
structure LcSt (K : PySem.W.Frag) (c : Ct) (O : Own) (H1 : Hp) (D : Addr) (ps : List (V × PyData)) (σ : St) (env : List Sl) (n : Nat) (H : Hp) (acc : PyData) : Prop where
  E : EnvOk K { c with ex := ps ++ c.ex, lim := c.lim + 1 } (O.put c.lim D) n H σ env
  top : TopAt K (c.av (O.put c.lim D)) c.T H D acc
  x : Ext c.T H1 H
theorem LcSt.start {K : PySem.W.Frag} {c : Ct} {O : Own} {H1 : Hp} {D : Addr} {ps : List (V × PyData)} {σ : St} {env : List Sl} {n : Nat} {u : HO} {acc : PyData} (E : EnvOk K c O n H1 σ env) (hps : ∀ q ∈ ps, Rep K (c.av O) c.T H1 q.1 q.2) (hD : H1 D = none)
    (top : ∀ Z, TopAt K Z c.T (upd H1 D u) D acc) (vs : List Nat) (no : noOwn env vs) : LcSt K c O H1 D ps (wipe σ vs) (wipeE env vs) n (upd H1 D u) acc := by
  have E1 := (E.hold hps).wipe vs no
  have E2 := E1.tmp (Grow.new (o := u) hD).ext (E.tub.grow (.new hD)) (new_none hD) (top c.Z).sm
  exact ⟨E2, top _, (Grow.new hD).ext⟩
theorem LcSt.next {K : PySem.W.Frag} {c : Ct} {O : Own} {H1 : Hp} {D : Addr} {ps : List (V × PyData)} {σ : St} {env : List Sl} {n n' : Nat} {H H' : Hp} {acc : PyData} (S : LcSt K c O H1 D ps σ env n H acc) (x : Ext c.T H H') (t : TubOk c.T n' H') :
    LcSt K c O H1 D ps σ env n' H' acc := ⟨S.E.extend x t, S.top.ext S.E.atz x (S.E.notT (i := c.lim) put_self), S.x.trans x⟩
theorem LcSt.fin {K : PySem.W.Frag} {c : Ct} {O : Own} {H1 : Hp} {D : Addr} {ps : List (V × PyData)} {σ : St} {env : List Sl} {n : Nat} {H : Hp} {acc : PyData} (S : LcSt K c O H1 D ps σ env n H acc) (fin : ∀ t, c.lim ≤ t → O t = none) : TopAt K (Zp (c.av O) D) c.T H D acc :=
  S.top.less fun a h => by
    rcases h with h | h
    · rcases h with h | ⟨j, h⟩
      · exact .inl h
      · refine .inr ⟨j, ?_⟩
        rw [put_ne]
        · exact h
        · intro e
          rw [e, fin _ (Nat.le_refl _)] at h
          cases h
    · exact .inr ⟨c.lim, by rw [h]; exact put_self⟩
theorem LcSt.put {K : PySem.W.Frag} {c : Ct} {O : Own} {H1 : Hp} {D : Addr} {ps : List (V × PyData)} {σ : St} {env : List Sl} {n : Nat} {H : Hp} {acc acc' : PyData} {u : HO} (S : LcSt K c O H1 D ps σ env n H acc) (hD : H1 D = none) (hl : env.length ≤ c.lim)
    (top : TopAt K (c.av (O.put c.lim D)) c.T (upd H D u) D acc') : LcSt K c O H1 D ps σ env n (upd H D u) acc' :=
  ⟨S.E.chgT (top_nt S.top) top.sm hl put_self, top, ext_upd S.x (new_none hD)⟩
theorem lc_go {jj : Bool} {is vs : List Nat} {gi : GI} {gg : GG} {gt : GT} {ge : GE} {σ : St} {H : Hp} {Q : VK} (hw : vs = is) (h : tDF X.K (gLc is gi gg gt ge) σ H Q) : tLc (tDI X.K jj gi) (tDG X.K jj is gg) (tDT X.K gt) (tDE X.K ge) vs σ H Q := by
  obtain ⟨c, O, n, env, Qd, E, ⟨no, hg⟩, k⟩ := h
  rw [hw]
  refine ⟨c, O, n, env, _, E, hg, fun J ps items H1 n1 x1 t1 hps io q D hD => ?_⟩
  have E1 := E.extend x1 t1
  have hD0 : New H D := none_before E x1 (new_none hD) (tub_some t1)
  refine ⟨fun i m H' => m = items.length - i ∧ i ≤ items.length ∧ ∃ n acc, LcSt X.K c O H1 D ps (wipe σ is) (wipeE env is) n H' (.list acc) ∧ gLcL gg gt ge (wipeE env is) (fun acc n'' => Qd (.list acc) n'') (items.drop i) acc n,
    ⟨_, rfl, Nat.zero_le _, n1, [], LcSt.start E1 hps hD (fun Z => .inl ⟨[], [], rfl, upd_same, .nil⟩) is no, by simpa using q⟩, ?_⟩
  rintro i m H2 ⟨rfl, hle, n2, acc, S, q⟩
  have hpin : ∀ q ∈ ps, Rep X.K (c.av (O.put c.lim D)) c.T H2 q.1 q.2 := fun q hq => S.E.ex q (List.mem_append_left _ hq)
  have hlen : (wipeE env is).length ≤ c.lim := by rw [wipeE_length]; exact E.le
  by_cases hlt : i < items.length
  · have hd : items.drop i = items[i] :: items.drop (i + 1) := List.drop_eq_getElem_cons hlt
    rw [hd] at q
    obtain ⟨hgo, hy⟩ := io.go _ H2 S.E.al hpin i items[i] (List.getElem?_eq_getElem hlt)
    refine .inr ⟨hgo, fun H' => ∃ n acc, LcSt X.K c O H1 D ps (wipe σ is) (wipeE env is) n H' (.list acc) ∧ gLcL gg gt ge (wipeE env is) (fun acc n'' => Qd (.list acc) n'') (items.drop (i + 1)) acc n,
      fun H' h => ⟨items.length - (i + 1), by omega, rfl, hlt, h⟩, fun x H3 y => ?_⟩
    obtain ⟨gr, rx⟩ := hy x H3 y
    have S3 := S.next gr.ext (S.E.tub.grow gr)
    refine ⟨_, _, n2, _, items[i], _, S3.E, rx, q, fun O4 σ4 H4 env4 x4 oo w4 E4 l4 q4 => ⟨?_, ?_⟩⟩
    · rw [w4]
      have : ∀ (σ : St) (vs : List Nat), wipe (wipe σ vs) vs = wipe σ vs := by
        intro σ vs
        have two : ∀ (vs ws : List Nat) (σ : St), (∀ v ∈ vs, v ∈ ws) → wipe (wipe σ ws) vs = wipe σ ws := by
          intro vs
          induction vs with
          | nil => intro ws σ _; rfl
          | cons v vs ih =>
            intro ws σ h
            show (wipe (wipe σ ws) vs).set v none = wipe σ ws
            rw [ih ws σ fun u hu => h u (List.mem_cons_of_mem _ hu)]
            have hv := h v List.mem_cons_self
            apply List.ext_getElem?
            intro j
            by_cases e : v = j
            · subst e
              rw [List.getElem?_set]
              simp only [if_true]
              by_cases hl : v < (wipe σ ws).length
              · rw [if_pos hl]
                cases hw : (wipe σ ws)[v]? with
                | none => rw [List.getElem?_eq_none_iff] at hw; omega
                | some o =>
                  cases o with
                  | none => rfl
                  | some x => exact absurd hv (wipe_some hw).2
              · rw [if_neg hl, List.getElem?_eq_none (by omega)]
            · rw [List.getElem?_set_ne e]
        exact two vs vs σ fun _ h => h
      exact this σ is
    · have D4 : O4 c.lim = some D := by rw [oo c.lim (.inl hlen)]; exact put_self
      refine ⟨_, O4, n2, env4, _, E4, q4, fun b H5 n5 x5 t5 q5 => ?_⟩
      have S5 := (S3.next x4 E4.tub).next x5 t5
      cases b with
      | false =>
        rw [if_neg Bool.false_ne_true] at q5
        exact iteF ⟨n5, acc, S5, q5⟩
      | true =>
        rw [if_pos rfl] at q5
        refine iteT ⟨_, O4, n5, env4, _, E4.extend x5 t5, q5, fun v d H6 n6 x6 t6 r6 ⟨hz, q6⟩ => ?_⟩
        have S6 := S5.next x6 t6
        obtain ⟨xs, hx, ra⟩ := top_list S6.top
        refine ⟨xs, hx, by rw [ra.length]; exact hz, n6, acc ++ [d], S6.put hD hlen (.inl ⟨_, _, rfl, upd_same, ?_⟩), q6⟩
        have r6' : Rep X.K (c.av (O.put c.lim D)) c.T H6 v d := r6.less fun a h => by
          rcases h with h | ⟨j, h⟩
          · exact .inl h
          · refine .inr ⟨j, ?_⟩
            by_cases hj : (wipeE env is).length ≤ j
            · rw [oo j (.inl hj)]; exact h
            · rw [oo j (.inr fun hm => ?_)]
              · exact h
              · obtain ⟨d, hd⟩ := S.E.cons j a (by omega) h
                exact no j hm d (wipeE_own hd)
        exact (RepAll.chg (i := c.lim) put_self ra).append (.cons (Rep.chg (i := c.lim) put_self r6') .nil)
  · have e : i = items.length := by omega
    subst e
    rw [List.drop_length] at q
    exact .inl ⟨io.stop _ H2 S.E.al hpin _ (Nat.le_refl _), k D _ H2 n2 (x1.trans S.x) S.E.tub hD0 (S.fin E.fin) q⟩
theorem f_lc {elt tg iter : Expr} {is : List Nat} {ifs : List Expr} {scope : Scope} {own : List (Str × Nat)} {gi : GI} {gg : GG} {gt : GT} {ge : GE} (hc : X.calm = true) (hN : X.N.Nodup) {jj : Bool} (hi : DI X jj tg iter gi) (ok : BlkOk X.N X.env.scope scope own) (hw : own.map (·.2) = is)
    (hg : ∀ (s : Shared) (H : Hp) (C : Addr) (cl : List (Str × Addr)) (fp : List Addr), DG (X.blk s H scope (compEnvC scope cl C X.env) fp) jj is tg gg) (ht : ∀ (s : Shared) (H : Hp) (C : Addr) (cl : List (Str × Addr)) (fp : List Addr), DTs (X.blk s H scope (compEnvC scope cl C X.env) fp) ifs gt)
    (he : ∀ (s : Shared) (H : Hp) (C : Addr) (cl : List (Str × Addr)) (fp : List Addr), DE (X.blk s H scope (compEnvC scope cl C X.env) fp) elt ge) (hs : ∀ x, foldedSetIterable iter X.env x = pure x := by intro _; rfl) :
    DF X (.ListComp elt [⟨tg, iter, ifs, 0⟩] scope pos) (gLc is gi gg gt ge) :=
  ⟨pe_weak (pe_lc (te := tDE X.K ge) (tt := tDT X.K gt) (g := tDG X.K jj is gg) hc hN hi.pi ok (fun s H C cl fp => (hg s H C cl fp).pe) (fun s H C cl fp => (ht s H C cl fp).pe) (fun s H C cl fp => (he s H C cl fp).pe) hs) fun σ H Q h => lc_go hw h⟩
/-- name = [..], the name a local -/
theorem s_setLc {i : Nat} {y : Str} {py spos : Pos} {elt tg iter : Expr} {is : List Nat} {ifs : List Expr} {scope : Scope} {own : List (Str × Nat)} {gi : GI} {gg : GG} {gt : GT} {ge : GE} (hc : X.calm = true) (hN : X.N.Nodup) (hy : X.N[i]? = some y) (hyl : X.env.scope.names.lookup y = some .local)
    (hsw : swapsWith (.ListComp elt [⟨tg, iter, ifs, 0⟩] scope pos) (some (.Name y py)) spos.line X.env = pure true) {jj : Bool} (hi : DI X jj tg iter gi) (ok : BlkOk X.N X.env.scope scope own) (hw : own.map (·.2) = is)
    (hg : ∀ (s : Shared) (H : Hp) (C : Addr) (cl : List (Str × Addr)) (fp : List Addr), DG (X.blk s H scope (compEnvC scope cl C X.env) fp) jj is tg gg) (ht : ∀ (s : Shared) (H : Hp) (C : Addr) (cl : List (Str × Addr)) (fp : List Addr), DTs (X.blk s H scope (compEnvC scope cl C X.env) fp) ifs gt)
    (he : ∀ (s : Shared) (H : Hp) (C : Addr) (cl : List (Str × Addr)) (fp : List Addr), DE (X.blk s H scope (compEnvC scope cl C X.env) fp) elt ge) (hs : ∀ x, foldedSetIterable iter X.env x = pure x := by intro _; rfl) :
    DS X (.Assign [.Name y py] (.ListComp elt [⟨tg, iter, ifs, 0⟩] scope pos) spos) (gSet i (gLc is gi gg gt ge)) :=
  ⟨ps_weak (ps_setLc (te := tDE X.K ge) (tt := tDT X.K gt) (g := tDG X.K jj is gg) hc hN hy hyl hsw hi.pi ok (fun s H C cl fp => (hg s H C cl fp).pe) (fun s H C cl fp => (ht s H C cl fp).pe) (fun s H C cl fp => (he s H C cl fp).pe) hs) fun D σ H ⟨c, O, n, env, Dd, E, ⟨hl, hge⟩, L⟩ =>
    lc_go (Q := fun x H1 => gName i x σ H1 D.nx) hw ⟨c, O, n, env, fun d n' => Dd.nx (env.set i (.dat d)) n', E, hge, fun p d H' n' x t f r q =>
      L.nx _ n' H' _ _ ((E.extend x t).setD hl ((r.less fun _ z => .inl z).rep fun z => E.al p z f)) q⟩⟩
end
end L2.DL
end

section
/-! The data layer 10: dict comprehensions, a, b = x, y. -/
namespace L2.DL
open L2 PySem PySem.Spec PyProof.Rows
variable [TabsOf]

section
variable {X : Cx} {pos : Pos}
theorem wipe_two (σ : St) (vs : List Nat) : L2.wipe (L2.wipe σ vs) vs = L2.wipe σ vs := by
  have two : ∀ (vs ws : List Nat) (σ : St), (∀ v ∈ vs, v ∈ ws) → L2.wipe (L2.wipe σ ws) vs = L2.wipe σ ws := by
    intro vs
    induction vs with
    | nil => intro ws σ _; rfl
    | cons v vs ih =>
      intro ws σ h
      show (L2.wipe (L2.wipe σ ws) vs).set v none = L2.wipe σ ws
      rw [ih ws σ fun u hu => h u (List.mem_cons_of_mem _ hu)]
      have hv := h v List.mem_cons_self
      apply List.ext_getElem?
      intro j
      by_cases e : v = j
      · subst e
        rw [List.getElem?_set]
        simp only [if_true]
        by_cases hl : v < (L2.wipe σ ws).length
        · rw [if_pos hl]
          cases hw : (L2.wipe σ ws)[v]? with
          | none => rw [List.getElem?_eq_none_iff] at hw; omega
          | some o =>
            cases o with
            | none => rfl
            | some x => exact absurd hv (wipe_some hw).2
        · rw [if_neg hl, List.getElem?_eq_none (by omega)]
      · rw [List.getElem?_set_ne e]
  exact two vs vs σ fun _ h => h
def gDcL (gg : GG) (gk ge : GE) (env : List Sl) (Q : List (PyData × PyData) → Nat → Prop) : List PyData → List (PyData × PyData) → Nat → Prop
  | [], acc, n => Q acc n
  | d :: ds, acc, n => gg d env fun env' => gk env' n fun x n1 => ge env' n1 fun y n2 => isKey x = true ∧ acc.length < sizeLine ∧ gDcL gg gk ge env Q ds (putD acc x y) n2
def gDc (vs : List Nat) (gi : GI) (gg : GG) (gk ge : GE) : GE := fun env n Q => noOwn env vs ∧ gi env n fun items n' => gDcL gg gk ge (wipeE env vs) (fun acc n'' => Q (.dict acc) n'') items [] n'
theorem f_dc {kx elt tg iter : Expr} {is : List Nat} {scope : Scope} {own : List (Str × Nat)} {gi : GI} {gg : GG} {gk ge : GE} (hc : X.calm = true) (hN : X.N.Nodup) {jj : Bool} (hi : DI X jj tg iter gi) (ok : BlkOk X.N X.env.scope scope own) (hw : own.map (·.2) = is)
    (hg : ∀ (s : Shared) (H : Hp) (C : Addr) (cl : List (Str × Addr)) (fp : List Addr), DG (X.blk s H scope (compEnvC scope cl C X.env) fp) jj is tg gg)
    (hk : ∀ (s : Shared) (H : Hp) (C : Addr) (cl : List (Str × Addr)) (fp : List Addr), DE (X.blk s H scope (compEnvC scope cl C X.env) fp) kx gk)
    (he : ∀ (s : Shared) (H : Hp) (C : Addr) (cl : List (Str × Addr)) (fp : List Addr), DE (X.blk s H scope (compEnvC scope cl C X.env) fp) elt ge) (hs : ∀ x, foldedSetIterable iter X.env x = pure x := by intro _; rfl) :
    DF X (.DictComp kx elt [⟨tg, iter, [], 0⟩] scope pos) (gDc is gi gg gk ge) :=
  ⟨pe_weak (pe_dc (tk := tDE X.K gk) (tv := tDE X.K ge) (tt := tYes) (g := tDG X.K jj is gg) hc hN hi.pi ok (fun s H C cl fp => (hg s H C cl fp).pe) (fun s H C cl fp => pts_nil) (fun s H C cl fp => (hk s H C cl fp).pe) (fun s H C cl fp => (he s H C cl fp).pe) hs) fun σ H Q ⟨c, O, n, env, Qd, E, ⟨no, hg⟩, k⟩ => by
    rw [hw]
    refine ⟨c, O, n, env, _, E, hg, fun J ps items H1 n1 x1 t1 hps io q D hD => ?_⟩
    have E1 := E.extend x1 t1
    have hD0 : New H D := none_before E x1 (new_none hD) (tub_some t1)
    refine ⟨fun i m H' => m = items.length - i ∧ i ≤ items.length ∧ ∃ n acc, LcSt X.K c O H1 D ps (L2.wipe σ is) (wipeE env is) n H' (.dict acc) ∧ gDcL gg gk ge (wipeE env is) (fun acc n'' => Qd (.dict acc) n'') (items.drop i) acc n,
      ⟨_, rfl, Nat.zero_le _, n1, [], LcSt.start E1 hps hD (fun Z => .inr ⟨[], [], rfl, upd_same, .nil⟩) is no, by simpa using q⟩, ?_⟩
    rintro i m H2 ⟨rfl, hle, n2, acc, S, q⟩
    have hpin : ∀ q ∈ ps, Rep X.K (c.av (O.put c.lim D)) c.T H2 q.1 q.2 := fun q hq => S.E.ex q (List.mem_append_left _ hq)
    have hlen : (wipeE env is).length ≤ c.lim := by rw [wipeE_length]; exact E.le
    by_cases hlt : i < items.length
    · have hd : items.drop i = items[i] :: items.drop (i + 1) := List.drop_eq_getElem_cons hlt
      rw [hd] at q
      obtain ⟨hgo, hy⟩ := io.go _ H2 S.E.al hpin i items[i] (List.getElem?_eq_getElem hlt)
      refine .inr ⟨hgo, fun H' => ∃ n acc, LcSt X.K c O H1 D ps (L2.wipe σ is) (wipeE env is) n H' (.dict acc) ∧ gDcL gg gk ge (wipeE env is) (fun acc n'' => Qd (.dict acc) n'') (items.drop (i + 1)) acc n,
        fun H' h => ⟨items.length - (i + 1), by omega, rfl, hlt, h⟩, fun x H3 y => ?_⟩
      obtain ⟨gr, rx⟩ := hy x H3 y
      have S3 := S.next gr.ext (S.E.tub.grow gr)
      refine ⟨_, _, n2, _, items[i], _, S3.E, rx, q, fun O4 σ4 H4 env4 x4 oo w4 E4 l4 q4 => ⟨by rw [w4]; exact wipe_two σ is, ?_⟩⟩
      unfold tYes; dsimp only
      rw [if_pos rfl]
      refine ⟨_, O4, n2, env4, _, E4, q4, fun vk dk H5 n5 x5 t5 r5 q5 => ?_⟩
      refine ⟨_, O4, n5, env4, _, E4.extend x5 t5, q5, fun v d H6 n6 x6 t6 r6 ⟨ik, hz, q6⟩ => ?_⟩
      have S6 := ((S3.next x4 E4.tub).next x5 t5).next x6 t6
      obtain ⟨xs, hx, ra⟩ := top_dict S6.top
      have r5' := (show RepT X.K (c.av O4) c.T H5 vk dk from .inl r5)
      obtain ⟨key, rfl, rfl⟩ := key_of r5' ik
      have r6' : Rep X.K (c.av (O.put c.lim D)) c.T H6 v d := r6.less fun a h => by
        rcases h with h | ⟨j, h⟩
        · exact .inl h
        · refine .inr ⟨j, ?_⟩
          by_cases hj : (wipeE env is).length ≤ j
          · rw [oo j (.inl hj)]; exact h
          · rw [oo j (.inr fun hm => ?_)]
            · exact h
            · obtain ⟨d, hd⟩ := S.E.cons j a (by omega) h
              exact no j hm d (wipeE_own hd)
      exact ⟨xs, key, rfl, hx, by rw [ra.length]; exact hz, n6, putD acc (keyD key) d, S6.put hD hlen (.inr ⟨_, _, rfl, upd_same, put_of key (Rep.chg (i := c.lim) put_self r6') (RepKV.chg (i := c.lim) put_self ra)⟩), q6⟩
    · have e : i = items.length := by omega
      subst e
      rw [List.drop_length] at q
      exact .inl ⟨io.stop _ H2 S.E.al hpin _ (Nat.le_refl _), k D _ H2 n2 (x1.trans S.x) S.E.tub hD0 (S.fin E.fin) q⟩⟩
end

/-! ### several values, some of them new lists or dicts -/
inductive RK (K : PySem.W.Frag) (c : Ct) (O : Own) (H : Hp) : Nat → List Bool → List V → List PyData → Prop
  | nil {lo : Nat} : RK K c O H lo [] [] []
  | dat {lo : Nat} {v : V} {d : PyData} {ks : List Bool} {vs : List V} {ds : List PyData} : Rep K (c.av O) c.T H v d → RK K c O H lo ks vs ds → RK K c O H lo (false :: ks) (v :: vs) (d :: ds)
  | own {lo t : Nat} {p : Addr} {d : PyData} {ks : List Bool} {vs : List V} {ds : List PyData} : lo ≤ t → O t = some p → TopAt K (c.av O) c.T H p d → RK K c O H (t + 1) ks vs ds → RK K c O H lo (true :: ks) (.ref p :: vs) (d :: ds)
def setV (σ : St) : List Nat → List V → St
  | i :: is, v :: vs => setV (σ.set i (some v)) is vs
  | _, _ => σ
def setE (env : List Sl) : List Nat → List Bool → List PyData → List Sl
  | i :: is, k :: ks, d :: ds => setE (env.set i (if k = true then .own d else .dat d)) is ks ds
  | _, _, _ => env
section
variable {K : PySem.W.Frag} {c : Ct} {O O' : Own} {n : Nat} {H H' : Hp} {σ : St} {env : List Sl}
theorem RK.mono : ∀ {lo ks vs ds}, RK K c O H lo ks vs ds → (∀ t, lo ≤ t → O' t = O t) → (∀ a, c.av O' a → c.av O a) → RK K c O' H lo ks vs ds
  | _, _, _, _, .nil, _, _ => .nil
  | _, _, _, _, .dat r s, h, l => .dat (r.less l) (RK.mono s h l)
  | _, _, _, _, .own hl ot r s, h, l => .own hl ((h _ hl).trans ot) (r.less l) (RK.mono s (fun t ht => h t (by omega)) l)
theorem RK.lower : ∀ {lo lo' ks vs ds}, RK K c O H lo ks vs ds → lo' ≤ lo → RK K c O H lo' ks vs ds
  | _, _, _, _, _, .nil, _ => .nil
  | _, _, _, _, _, .dat r s, h => .dat r (RK.lower s h)
  | _, _, _, _, _, .own hl ot r s, h => .own (Nat.le_trans h hl) ot r s
theorem RK.len : ∀ {lo ks vs ds}, RK K c O H lo ks vs ds → vs.length = ks.length
  | _, _, _, _, .nil => rfl
  | _, _, _, _, .dat _ s => by simp [RK.len s]
  | _, _, _, _, .own _ _ _ s => by simp [RK.len s]
theorem RK.store {lo : Nat} {ks : List Bool} {vs : List V} {ds : List PyData} (r : RK K c O H lo ks vs ds) : ∀ (is : List Nat), EnvOk K c O n H σ env → env.length ≤ lo → (∀ i ∈ is, i < env.length) → is.length = ks.length → ∃ O', EnvOk K c O' n H (setV σ is vs) (setE env is ks ds) := by
  induction ks generalizing lo vs ds O σ env with
  | nil =>
    intro is E _ _ hl
    cases r
    cases is with
    | nil => exact ⟨O, E⟩
    | cons _ _ => cases hl
  | cons k ks ih =>
    intro is E hle hi hl
    cases is with
    | nil => cases hl
    | cons i is =>
      have hii := hi i List.mem_cons_self
      cases r with
      | dat r s =>
        have E1 := E.setD hii r
        exact ih (s.mono (fun t ht => clr_ne (by omega)) (av_clr c O i)) is E1 (by rw [List.length_set]; exact hle) (fun j hj => by rw [List.length_set]; exact hi j (List.mem_cons_of_mem _ hj)) (by simpa using hl)
      | @own _ t p d _ _ _ ht ot r s =>
        have E1 := E.mvF hii (Nat.le_trans hle ht) ot r
        refine ih (s.mono (fun u hu => ?_) fun a h => ?_) is E1 (by rw [List.length_set]; omega) (fun j hj => by rw [List.length_set]; exact hi j (List.mem_cons_of_mem _ hj)) (by simpa using hl)
        · rw [put_ne (by omega), clr_ne (by omega)]
        · rcases av_put c _ i p a h with z | z
          · exact av_clr c O t a z
          · exact .inr ⟨t, by rw [z]; exact ot⟩
end
def tDK (K : PySem.W.Frag) (ks : List Bool) (g : GA) : TA := fun σ H Q => ∃ (c : Ct) (O : Own) (n : Nat) (env : List Sl) (Qd : List PyData → Nat → Prop), EnvOk K c O n H σ env ∧ g env n Qd ∧
  ∀ vs ds l O' H' n', Ext c.T H H' → EnvOk K { c with lim := l } O' n' H' σ env → RK K { c with lim := l } O' H' c.lim ks vs ds →
    (∀ v d, Rep K (c.av O) c.T H v d → Rep K (c.av O') c.T H' v d) → (∀ t p d, O t = some p → TopAt K (c.av O) c.T H p d → O' t = some p ∧ TopAt K (c.av O') c.T H' p d) → Qd ds n' → Q vs H'
structure DK (X : Cx) (ks : List Bool) (es : List Expr) (g : GA) : Prop where pe : PA X es (tDK X.K ks g)
section
variable {X : Cx} {e : Expr} {es : List Expr} {pos : Pos} {ks : List Bool}
theorem dk_nil : DK X [] [] gNil := ⟨pa_weak pa_nil fun σ H Q ⟨c, O, n, env, Qd, E, hg, k⟩ => k [] [] c.lim O H n .refl E .nil (fun _ _ r => r) (fun _ _ _ h r => ⟨h, r⟩) hg⟩
theorem dk_dat {g : GE} {r : GA} (he : DE X e g) (hr : DK X ks es r) (hs : starEach (e :: es) X.env = (false, eval e X.env) :: starEach es X.env := by rfl) : DK X (false :: ks) (e :: es) (gCons g r) :=
  ⟨pa_weak (pa_cons he.pe hr.pe hs) fun σ H Q ⟨c, O, n, env, Qd, E, hg, k⟩ =>
    ⟨c, O, n, env, _, E, hg, fun v d H1 n1 x1 t1 r1 q1 => ⟨c, O, n1, env, _, E.extend x1 t1, q1, fun vs ds l O' H2 n2 x2 E2 rk u1 u2 q2 =>
      k (v :: vs) (d :: ds) l O' H2 n2 (x1.trans x2) E2 (.dat (u1 v d r1) rk) (fun v d r => u1 v d (r.ext E.atz x1)) (fun t p d h r => u2 t p d h (r.ext E.atz x1 (E.notT h))) q2⟩⟩⟩
theorem dk_own {g : GE} {r : GA} (he : DF X e g) (hr : DK X ks es r) (hs : starEach (e :: es) X.env = (false, eval e X.env) :: starEach es X.env := by rfl) : DK X (true :: ks) (e :: es) (gCons g r) :=
  ⟨pa_weak (pa_cons he.pe hr.pe hs) fun σ H Q ⟨c, O, n, env, Qd, E, hg, k⟩ =>
    ⟨c, O, n, env, _, E, hg, fun p d H1 n1 x1 t1 f1 r1 q1 => by
      have E1 := E.tmp x1 t1 f1 r1.sm
      have kk : ∀ a o, ¬ c.av O a → NT o → H a = some o → H1 a = some o := fun a o na => x1.kp a o fun e => na (.inl (E.tz a e))
      have zz : ∀ a, ¬ c.av O a → ¬ New H a → ¬ c.av (O.put c.lim p) a := fun a na ha z => by
        rcases av_put c O c.lim p a z with z | z
        · exact na z
        · exact ha (z ▸ f1)
      refine ⟨_, _, n1, env, _, E1, q1, fun vs ds l O' H2 n2 x2 E2 rk u1 u2 q2 => ?_⟩
      obtain ⟨o1, top1⟩ := u2 c.lim p d put_self (r1.less (av_put c O c.lim p))
      refine k (.ref p :: vs) (d :: ds) l O' H2 n2 (x1.trans x2) E2 (.own (Nat.le_refl _) o1 top1 rk) (fun v d r => u1 v d (r.keep kk zz)) (fun t q d h r => ?_) q2
      have ht : t ≠ c.lim := fun e => by
        rw [e, E.fin _ (Nat.le_refl _)] at h
        cases h
      refine u2 t q d (by rw [put_ne ht]; exact h) ?_
      rcases r with ⟨xs, ds, rfl, q, r⟩ | ⟨kvs, ds, rfl, q, r⟩
      · exact .inl ⟨xs, ds, rfl, x1.kp _ _ (E.notT h) nt_lst q, r.keep kk zz⟩
      · exact .inr ⟨kvs, ds, rfl, x1.kp _ _ (E.notT h) nt_dK q, r.keep kk zz⟩⟩⟩
/-- a, b = x, y -/
def gPar (is : List Nat) (ks : List Bool) (ga : GA) : GS := fun D env n => (∀ i ∈ is, i < env.length) ∧ ga env n fun ds n' => D.nx (setE env is ks ds) n'
theorem setE_length : ∀ (is : List Nat) (ks : List Bool) (ds : List PyData) (env : List Sl), (setE env is ks ds).length = env.length
  | i :: is, k :: ks, d :: ds, env => by
    show (setE _ is ks ds).length = _
    rw [setE_length is ks ds, List.length_set]
  | [], _, _, _ => rfl
  | _ :: _, [], _, _ => rfl
  | _ :: _, _ :: _, [], _ => rfl
theorem par_of {is : List Nat} {ga : GA} {D : Ends} {Dd : DEnds} {c : Ct} {O : Own} {n : Nat} {env : List Sl} {σ : St} {H : Hp} (hl : is.length = ks.length) (E : EnvOk X.K c O n H σ env) (hg : gPar is ks ga Dd env n) (L : Link X.K c D Dd)
    {R : List V → Hp → Prop} (hR : ∀ vs ds H' n' O', EnvOk X.K c O' n' H' (setV σ is vs) (setE env is ks ds) → vs.length = ks.length → Dd.nx (setE env is ks ds) n' → R vs H') : tDK X.K ks ga σ H R := by
  obtain ⟨hi, hg⟩ := hg
  refine ⟨c, O, n, env, _, E, hg, fun vs ds l O' H' n' x E' rk u1 u2 q => ?_⟩
  obtain ⟨O2, E2⟩ := rk.store is E' E.le hi hl
  have hv := rk.len
  exact hR vs ds H' n' _ (EnvOk.back (l := l) (ex := c.ex) E2 (by rw [setE_length]; exact E.le) fun _ h => h) hv q
theorem s_par {i j : Nat} {x y : Str} {a b : Expr} {ga : GA} {px py pt : Pos} {kt k2 pt2} (hc : X.calm = true) (hN : X.N.Nodup) (hi : X.N[i]? = some x) (hj : X.N[j]? = some y) (hij : i ≠ j)
    (hx : X.env.scope.names.lookup x = some .local) (hy : X.env.scope.names.lookup y = some .local) (h : DK X ks [a, b] ga) (hk : ks.length = 2) (hw : swappedStores [.Tuple [.Name x px, .Name y py] kt pt] (.Tuple [a, b] k2 pt2) X.env = pure (some [x, y])) (hs : swapsWithSole [.Tuple [.Name x px, .Name y py] kt pt] (.Tuple [a, b] k2 pt2) pos.line X.env = pure false := by rfl) :
    DS X (.Assign [.Tuple [.Name x px, .Name y py] kt pt] (.Tuple [a, b] k2 pt2) pos) (gPar [i, j] ks ga) :=
  ⟨ps_weak (ps_par hc hN hi hj hij hx hy h.pe hw hs) fun D σ H ⟨c, O, n, env, Dd, E, hg, L⟩ =>
    par_of (by rw [hk]; rfl) E hg L fun vs ds H' n' O' E' hv q => by
      rw [hk] at hv
      match vs, hv with
      | [v, w], _ => exact ⟨v, w, rfl, L.nx O' n' H' _ _ E' q⟩⟩
theorem s_par3 {i j l : Nat} {x y z : Str} {a b c' : Expr} {ga : GA} {px py pz pt : Pos} {kt k2 pt2} (hc : X.calm = true) (hN : X.N.Nodup) (hi : X.N[i]? = some x) (hj : X.N[j]? = some y) (hl : X.N[l]? = some z) (hij : i ≠ j) (hil : i ≠ l) (hjl : j ≠ l)
    (hx : X.env.scope.names.lookup x = some .local) (hy : X.env.scope.names.lookup y = some .local) (hz : X.env.scope.names.lookup z = some .local) (h : DK X ks [a, b, c'] ga) (hk : ks.length = 3)
    (hw : swappedStores [.Tuple [.Name x px, .Name y py, .Name z pz] kt pt] (.Tuple [a, b, c'] k2 pt2) X.env = pure (some [x, y, z]))
    (hs : swapsWithSole [.Tuple [.Name x px, .Name y py, .Name z pz] kt pt] (.Tuple [a, b, c'] k2 pt2) pos.line X.env = pure false := by rfl) :
    DS X (.Assign [.Tuple [.Name x px, .Name y py, .Name z pz] kt pt] (.Tuple [a, b, c'] k2 pt2) pos) (gPar [i, j, l] ks ga) :=
  ⟨ps_weak (ps_par3 hc hN hi hj hl hij hil hjl hx hy hz h.pe hw hs) fun D σ H ⟨c, O, n, env, Dd, E, hg, L⟩ =>
    par_of (by rw [hk]; rfl) E hg L fun vs ds H' n' O' E' hv q => by
      rw [hk] at hv
      match vs, hv with
      | [v, w, u], _ => exact ⟨v, w, u, rfl, L.nx O' n' H' _ _ E' q⟩⟩
/-- by a tuple: where a name is captured -/
theorem s_tup2 {i j : Nat} {x y : Str} {a b : Expr} {ga : GA} {px py pt : Pos} {kt k2 pt2} (hc : X.calm = true) (hN : X.N.Nodup) (hi : X.N[i]? = some x) (hj : X.N[j]? = some y)
    (hx : Loc X.env.scope x) (hy : Loc X.env.scope y) (h : DK X ks [a, b] ga) (hk : ks.length = 2)
    (hw : swappedStores [.Tuple [.Name x px, .Name y py] kt pt] (.Tuple [a, b] k2 pt2) X.env = pure none)
    (hs : swapsWithSole [.Tuple [.Name x px, .Name y py] kt pt] (.Tuple [a, b] k2 pt2) pos.line X.env = pure false := by rfl)
    (h1 : (assignEach [.Tuple [.Name x px, .Name y py] kt pt] X.env).map (·.2) = [assign (.Tuple [.Name x px, .Name y py] kt pt) X.env] := by rfl)
    (hf : X.fn x = true ∨ X.env.scope.names.lookup x = some .local := by first | exact .inl rfl | exact .inr rfl | assumption) (hf' : X.fn y = true ∨ X.env.scope.names.lookup y = some .local := by first | exact .inl rfl | exact .inr rfl | assumption) :
    DS X (.Assign [.Tuple [.Name x px, .Name y py] kt pt] (.Tuple [a, b] k2 pt2) pos) (gPar [i, j] ks ga) :=
  ⟨ps_weak (ps_asg (pe_tup h.pe) (pg_tup hc (pgs_cons (pg_name hN hi hx hf) (pgs_cons (pg_name hN hj hy hf') pgs_nil))) hs hw h1) fun D σ H ⟨c, O, n, env, Dd, E, hg, L⟩ =>
    par_of (by rw [hk]; rfl) E hg L fun vs ds H' n' O' E' hv q => by
      rw [hk] at hv
      match vs, hv with
      | [v, w], _ => exact ⟨by show 2 ≤ sizeLine; decide, fun p hp => ⟨p, [v, w], rfl, .of upd_same, rfl, v, [w], rfl, w, [], rfl, rfl, L.nx O' n' _ _ _ (E'.grow (.new hp)) q⟩⟩⟩
theorem s_tup3 {i j l : Nat} {x y z : Str} {a b c' : Expr} {ga : GA} {px py pz pt : Pos} {kt k2 pt2} (hc : X.calm = true) (hN : X.N.Nodup) (hi : X.N[i]? = some x) (hj : X.N[j]? = some y) (hl : X.N[l]? = some z)
    (hx : Loc X.env.scope x) (hy : Loc X.env.scope y) (hz : Loc X.env.scope z) (h : DK X ks [a, b, c'] ga) (hk : ks.length = 3)
    (hw : swappedStores [.Tuple [.Name x px, .Name y py, .Name z pz] kt pt] (.Tuple [a, b, c'] k2 pt2) X.env = pure none)
    (hs : swapsWithSole [.Tuple [.Name x px, .Name y py, .Name z pz] kt pt] (.Tuple [a, b, c'] k2 pt2) pos.line X.env = pure false := by rfl)
    (h1 : (assignEach [.Tuple [.Name x px, .Name y py, .Name z pz] kt pt] X.env).map (·.2) = [assign (.Tuple [.Name x px, .Name y py, .Name z pz] kt pt) X.env] := by rfl)
    (hf : X.fn x = true ∨ X.env.scope.names.lookup x = some .local := by first | exact .inl rfl | exact .inr rfl | assumption) (hf' : X.fn y = true ∨ X.env.scope.names.lookup y = some .local := by first | exact .inl rfl | exact .inr rfl | assumption)
    (hf'' : X.fn z = true ∨ X.env.scope.names.lookup z = some .local := by first | exact .inl rfl | exact .inr rfl | assumption) :
    DS X (.Assign [.Tuple [.Name x px, .Name y py, .Name z pz] kt pt] (.Tuple [a, b, c'] k2 pt2) pos) (gPar [i, j, l] ks ga) :=
  ⟨ps_weak (ps_asg (pe_tup h.pe) (pg_tup hc (pgs_cons (pg_name hN hi hx hf) (pgs_cons (pg_name hN hj hy hf') (pgs_cons (pg_name hN hl hz hf'') pgs_nil)))) hs hw h1) fun D σ H ⟨c, O, n, env, Dd, E, hg, L⟩ =>
    par_of (by rw [hk]; rfl) E hg L fun vs ds H' n' O' E' hv q => by
      rw [hk] at hv
      match vs, hv with
      | [v, w, u], _ => exact ⟨by show 3 ≤ sizeLine; decide, fun p hp => ⟨p, [v, w, u], rfl, .of upd_same, rfl, v, [w, u], rfl, w, [u], rfl, u, [], rfl, rfl, L.nx O' n' _ _ _ (E'.grow (.new hp)) q⟩⟩⟩
end
end L2.DL
end

section
/-! The data layer 11: defs and their calls. -/
namespace L2.DL
open L2 PySem PySem.Spec PyProof.Rows
variable [TabsOf]

/-- what a def does with data -/
abbrev GF := List PyData → Nat → GK → Prop
/-- the promise: data in, data out; nothing that stood is changed (but the drawn-number list) -/
def spD (K : PySem.W.Frag) (g : GF) : Sp := fun vs H Q _ => ∃ (Z : Addr → Prop) (T : Tb) (n : Nat) (ds : List PyData) (Qd : GK),
  (∀ a, Z a → ¬ New H a) ∧ (∀ a, T.u = some a → Z a) ∧ TubOk T n H ∧ RepAll K Z T H vs ds ∧ g ds n Qd ∧
  ∀ v d H' n', Ext T H H' → TubOk T n' H' → Rep K Z T H' v d → Qd d n' → Q v H'
/-- .. a new list or dict out -/
def spF (K : PySem.W.Frag) (g : GF) : Sp := fun vs H Q _ => ∃ (Z : Addr → Prop) (T : Tb) (n : Nat) (ds : List PyData) (Qd : GK),
  (∀ a, Z a → ¬ New H a) ∧ (∀ a, T.u = some a → Z a) ∧ TubOk T n H ∧ RepAll K Z T H vs ds ∧ g ds n Qd ∧
  ∀ p d H' n', Ext T H H' → TubOk T n' H' → New H p → TopAt K (Zp Z p) T H' p d → Qd d n' → Q (.ref p) H'
def gFun (g : GF) (ga : GA) : GE := fun env n Q => ga env n fun ds n1 => g ds n1 Q
section
variable {X : Cx} {k : Nat} {f : Addr} {fd : FuncData} {ps ks : List Str} {x : Str} {p pos kpos : Pos} {e : Expr} {es : List Expr} {ga : GA} {g : GF} {kws : List Keyword} {nm : Option Str}
theorem call_go {t : GA} {σ : St} {H : Hp} {Q : VK} {E : XK} (h : tDE X.K (gFun g t) σ H Q) : tCall (spD X.K g) [] E (tDA X.K t) σ H Q := by
  obtain ⟨c, O, n, env, Qd, E, hg, k⟩ := h
  exact ⟨c, O, n, env, _, E, hg, fun vs ds H1 n1 x1 t1 r1 q1 => by
    dsimp only
    rw [List.append_nil]
    exact ⟨c.av O, c.T, n1, ds, Qd, (E.extend x1 t1).al, E.atz, t1, r1, q1, fun v d H' n' x t r q => k v d H' n' (x1.trans x) t r q⟩⟩
theorem callF_go' {t : GA} {σ : St} {H : Hp} {Q : VK} {E : XK} (h : tDF X.K (gFun g t) σ H Q) : tCall (spF X.K g) [] E (tDA X.K t) σ H Q := by
  obtain ⟨c, O, n, env, Qd, E, hg, k⟩ := h
  exact ⟨c, O, n, env, _, E, hg, fun vs ds H1 n1 x1 t1 r1 q1 => by
    dsimp only
    rw [List.append_nil]
    exact ⟨c.av O, c.T, n1, ds, Qd, (E.extend x1 t1).al, E.atz, t1, r1, q1, fun v d H' n' x t f r q => k v d H' n' (x1.trans x) t (none_before E x1 f (tub_some t1)) r q⟩⟩
theorem d_call (F : FnOk X.prog X.w X.K X.mg X.base CX0 k f fd ps (spD X.K g)) (hr : Room k X.A) (hg : Gl X x) (hm : X.mg x = some (.ref f)) (hk : PySem.W.keepIn X.K (.ref f) = true) (hb : Binds X.K fd ps [])
    (ha : DA X (e :: es) ga) (hdb : (x == ("__debug__" : Str)) = false := by decide) (he : starEach (e :: es) X.env = (false, eval e X.env) :: starEach es X.env := by rfl) (hpl : (backTo pos (starEach es X.env)).any (·.1) = false := by rfl) :
    DE X (.Call (.Name x p) (e :: es) [] pos) (gFun g ga) := ⟨pe_weak (pe_call (E := E0) F hr hg hm hk hb .nil pass0 ha.pe hdb he hpl) fun _ _ _ h => call_go h⟩
theorem f_call (F : FnOk X.prog X.w X.K X.mg X.base CX0 k f fd ps (spF X.K g)) (hr : Room k X.A) (hg : Gl X x) (hm : X.mg x = some (.ref f)) (hk : PySem.W.keepIn X.K (.ref f) = true) (hb : Binds X.K fd ps [])
    (ha : DA X (e :: es) ga) (hdb : (x == ("__debug__" : Str)) = false := by decide) (he : starEach (e :: es) X.env = (false, eval e X.env) :: starEach es X.env := by rfl) (hpl : (backTo pos (starEach es X.env)).any (·.1) = false := by rfl) :
    DF X (.Call (.Name x p) (e :: es) [] pos) (gFun g ga) := ⟨pe_weak (pe_call (E := E0) F hr hg hm hk hb .nil pass0 ha.pe hdb he hpl) fun _ _ _ h => callF_go' h⟩
theorem d_call0 (F : FnOk X.prog X.w X.K X.mg X.base CX0 k f fd ps (spD X.K g)) (hr : Room k X.A) (hg : Gl X x) (hm : X.mg x = some (.ref f)) (hk : PySem.W.keepIn X.K (.ref f) = true) (hb : Binds X.K fd ps [])
    (hdb : (x == ("__debug__" : Str)) = false := by decide) : DE X (.Call (.Name x p) [] [] pos) (gFun g gNil) := ⟨pe_weak (pe_call0 (E := E0) F hr hg hm hk hb .nil pass0 hdb) fun σ H Q ⟨c, O, n, env, Qd, E, hg, k⟩ => by
  show spD X.K g [] H Q E0
  exact ⟨c.av O, c.T, n, [], Qd, E.al, E.atz, E.tub, .nil, hg, k⟩⟩
/-! ### by keywords alone -/
structure DKW (X : Cx) (kws : List Keyword) (g : GA) : Prop where pe : PK X kws (tDA X.K g)
theorem pk_weak {t t' : TA} (h : PK X kws t) (w : ∀ σ H Q, t' σ H Q → t σ H Q) : PK X kws t' := ⟨fun pos pins s σ H Q I q => h.run pos pins s σ H Q I (w σ H Q q)⟩
theorem kw_nil : DKW X [] gNil := ⟨pk_weak pk_nil fun σ H Q ⟨c, O, n, env, Qd, E, hg, k⟩ => k [] [] H n .refl E.tub .nil hg⟩
theorem kw_cons {ge : GE} {r : GA} (he : DE X e ge) (hr : DKW X kws r) : DKW X (⟨nm, e, kpos⟩ :: kws) (gCons ge r) :=
  ⟨pk_weak (pk_cons he.pe hr.pe) fun σ H Q ⟨c, O, n, env, Qd, E, hg, k⟩ => by
    exact ⟨c, O, n, env, _, E, hg, fun v d H1 n1 x1 t1 r1 q1 => ⟨c, O, n1, env, _, E.extend x1 t1, q1, fun vs ds H2 n2 x2 t2 r2 q2 =>
      k (v :: vs) (d :: ds) H2 n2 (x1.trans x2) t2 (.cons (r1.ext E.atz x2) r2) q2⟩⟩⟩
theorem pe_callK0 {CX : CXT} {sp : Sp} {E : XK} {tk : TA} {gg : List Value → List Value → List Value} {gV : List V → List V → List V} (F : FnOk X.prog X.w X.K X.mg X.base CX k f fd ps sp) (hr : Room k X.A) (hg : Gl X x) (hm : X.mg x = some (.ref f)) (hk : PySem.W.keepIn X.K (.ref f) = true) (hb : KBinds X.K fd ps ks gg gV) (hx : Passes CX X E)
    (hkw : PK X kws tk) (hall : (backToKw pos (keywordEach kws X.env)).all (·.1.isSome) = true := by rfl) (hks : (backToKw pos (keywordEach kws X.env)).filterMap (·.1) = ks := by rfl)
    (hdb : (x == ("__debug__" : Str)) = false := by decide) (hpl : ((backTo pos (starEach [] X.env)).any (·.1) || (backToKw pos (keywordEach kws X.env)).any (·.1.isNone)) = false := by rfl) :
    PE X (.Call (.Name x p) [] kws pos) (fun σ H Q => tk σ H fun zs H1 => sp (gV [] zs) H1 Q E) := by
  refine ⟨fun pinsz sz σ H Q Iz hz => ?_⟩
  refine wpAny_Call_Name_kw (ld_glob Iz hg hm ?_ hdb)
  refine PySem.W.callWith_KW0 (h₀ := X.base) Iz.ok.mod.kin hk hall ?_ hpl
  refine thn (hkw.run pos pinsz sz σ H _ Iz hz) fun ws s2 ⟨zs, H2, I2, rz, q2⟩ => ⟨I2.kIn, ?_⟩
  rw [hks]
  exact run_fnk (us := []) F hr hb hx I2 .nil rz q2
def gFunK (g : GF) (ga : GA) : GE := fun env n Q => ga env n fun ds n1 => g ds.reverse n1 Q
theorem RepAll.rev {K : PySem.W.Frag} {Z : Addr → Prop} {T : Tb} {H : Hp} {vs : List V} {es : List PyData} (r : RepAll K Z T H vs es) : RepAll K Z T H vs.reverse es.reverse := by
  induction vs generalizing es with
  | nil => cases r; exact .nil
  | cons v vs ih =>
    cases r with
    | cons a b =>
      rw [(List.reverse_cons), List.reverse_cons]
      exact (ih b).append (.cons a .nil)
/-- nothing by place, all by keywords, the last first -/
def gRev {α : Type} (us ws : List α) : List α := match us with
  | [] => ws.reverse
  | _ :: _ => []
/-- all parameters by keywords, the last first -/
theorem d_callK (F : FnOk X.prog X.w X.K X.mg X.base CX0 k f fd ps (spD X.K g)) (hr : Room k X.A) (hg : Gl X x) (hm : X.mg x = some (.ref f)) (hk : PySem.W.keepIn X.K (.ref f) = true) (hb : KBinds X.K fd ps ks gRev gRev)
    (hkw : DKW X kws ga) (hall : (backToKw pos (keywordEach kws X.env)).all (·.1.isSome) = true := by rfl) (hks : (backToKw pos (keywordEach kws X.env)).filterMap (·.1) = ks := by rfl)
    (hdb : (x == ("__debug__" : Str)) = false := by decide) (hpl : ((backTo pos (starEach [] X.env)).any (·.1) || (backToKw pos (keywordEach kws X.env)).any (·.1.isNone)) = false := by rfl) :
    DE X (.Call (.Name x p) [] kws pos) (gFunK g ga) := ⟨pe_weak (pe_callK0 (E := E0) F hr hg hm hk hb pass0 hkw.pe hall hks hdb hpl) fun σ H Q ⟨c, O, n, env, Qd, E, hg, k⟩ =>
  ⟨c, O, n, env, _, E, hg, fun vs ds H1 n1 x1 t1 r1 q1 => ⟨c.av O, c.T, n1, ds.reverse, Qd, (E.extend x1 t1).al, E.atz, t1, r1.rev, q1, fun v d H' n' x t r q => k v d H' n' (x1.trans x) t r q⟩⟩⟩
end

/-! ### a def keeps its promise -/
def startE (N : List Str) (ds : List PyData) : List Sl := ds.map .dat ++ List.replicate (N.length - ds.length) .no
section
variable {P : Program} {w : World}
variable {K : PySem.W.Frag} {mg : Str → Option Value} {base : Heap}
theorem env_start {Z : Addr → Prop} {T : Tb} {n : Nat} {H : Hp} {vs : List V} {ds : List PyData} {N : List Str} (al : ∀ a, Z a → ¬ New H a) (tz : ∀ a, T.u = some a → Z a) (t : TubOk T n H) (r : RepAll K Z T H vs ds) (hl : ds.length ≤ N.length) :
    EnvOk K ⟨Z, T, H, [], N.length⟩ (fun _ => none) n H (start N vs) (startE N ds) where
  len := by unfold start startE; simp [r.length]
  le := by
    show (startE N ds).length ≤ N.length
    unfold startE
    rw [(List.length_append), List.length_map, List.length_replicate]
    omega
  fin := fun _ _ => rfl
  tz := tz
  z0 := al
  ext := .refl
  tub := t
  o0 := fun _ _ hz => nomatch hz
  inj := fun _ _ _ hz => nomatch hz
  cons := fun _ _ _ hz => nomatch hz
  dat := fun i d hz => by
    unfold startE at hz
    have hi : i < ds.length := by
      by_cases q : i < ds.length
      · exact q
      · rw [List.getElem?_append_right (by simpa using q), List.getElem?_replicate] at hz
        split at hz <;> cases hz
    rw [List.getElem?_append_left (by simpa using hi), List.getElem?_map] at hz
    cases hd : ds[i]? with
    | none => rw [hd] at hz; cases hz
    | some d' =>
      rw [hd] at hz
      injection hz with hz
      injection hz with hz
      subst hz
      obtain ⟨v, hv, rv⟩ := r.get hd
      refine ⟨v, ?_, rv.less fun a hz => by rcases hz with hz | ⟨_, hz⟩; exact hz; cases hz⟩
      unfold start
      have hi' : i < vs.length := by rw [r.length]; exact hi
      rw [List.getElem?_append_left (by simpa using hi'), List.getElem?_map, hv]
      rfl
  own := fun i d hz => by
    unfold startE at hz
    by_cases q : i < ds.length
    · rw [List.getElem?_append_left (by simpa using q), List.getElem?_map] at hz
      cases hd : ds[i]? with
      | none => rw [hd] at hz; cases hz
      | some d' => rw [hd] at hz; injection hz with hz; cases hz
    · rw [List.getElem?_append_right (by simpa using q), List.getElem?_replicate] at hz
      split at hz <;> cases hz
  ex := fun _ hz => nomatch hz
/-- THE RULE for a def -/
theorem fn_d {x qual : Str} {st : Stmt} {f : Addr} {fd : FuncData} {N ps : List Str} {k : Nat} {g : GF} {gb : GS} (F : Fun K x qual st f fd) (S : FnScope N ps (defScope st)) (len : ∀ ds n Q, g ds n Q → ds.length = ps.length) (hN : ps.length ≤ N.length)
    (walk : ∀ (cdv : Value) (A : Around) (outer : List Env) (s : Shared) (H : Hp) (E : XK), Room k (A.deeper (envOfC qual (defScope st) s.heap.objs.size f cdv)) → DSs (cxOf CX0 P w K mg base N qual (defScope st) f cdv A outer s H E).nox (defBody st) gb)
    (law : ∀ ds n Q, g ds n Q → gb { nx := fun _ n => Q .none n, rt := Q } (startE N ds) n) : FnOk P w K mg base CX0 (k + 1) f fd ps (spD K g) := by
  refine F.ok S (fun vs H Q E ⟨Z, T, n, ds, Qd, al, tz, t, r, hg, _⟩ => by rw [r.length]; exact len ds n Qd hg) fun cdv A outer s H vs Q E hr ⟨Z, T, n, ds, Qd, al, tz, t, r, hg, k⟩ => ?_
  refine ⟨_, (walk cdv A outer s H E hr).ps, ?_⟩
  have hl := len ds n Qd hg
  refine ⟨⟨Z, T, H, [], N.length⟩, fun _ => none, n, startE N ds, _, env_start al tz t r (by omega), law ds n Qd hg, ⟨fun O n H σ env E q => ?_, fun _ _ _ _ _ _ q => q.elim, fun _ _ _ _ _ _ q => q.elim, fun n H' v d x t r q => k v d H' n x t r q, fun _ _ _ _ _ _ _ _ q => q.elim⟩⟩
  exact k .non .none H n E.ext E.tub .non q
/-- a def that hands something new back -/
theorem fn_f {x qual : Str} {st : Stmt} {f : Addr} {fd : FuncData} {N ps : List Str} {k : Nat} {g : GF} {gb : GS} (F : Fun K x qual st f fd) (S : FnScope N ps (defScope st)) (len : ∀ ds n Q, g ds n Q → ds.length = ps.length) (hN : ps.length ≤ N.length)
    (walk : ∀ (cdv : Value) (A : Around) (outer : List Env) (s : Shared) (H : Hp) (E : XK), Room k (A.deeper (envOfC qual (defScope st) s.heap.objs.size f cdv)) → DSs (cxOf CX0 P w K mg base N qual (defScope st) f cdv A outer s H E).nox (defBody st) gb)
    (law : ∀ ds n Q, g ds n Q → gb { nx := fun _ _ => False, rt := fun _ _ => False, rf := Q } (startE N ds) n) : FnOk P w K mg base CX0 (k + 1) f fd ps (spF K g) := by
  refine F.ok S (fun vs H Q E ⟨Z, T, n, ds, Qd, al, tz, t, r, hg, _⟩ => by rw [r.length]; exact len ds n Qd hg) fun cdv A outer s H vs Q E hr ⟨Z, T, n, ds, Qd, al, tz, t, r, hg, k⟩ => ?_
  refine ⟨_, (walk cdv A outer s H E hr).ps, ?_⟩
  have hl := len ds n Qd hg
  exact ⟨⟨Z, T, H, [], N.length⟩, fun _ => none, n, startE N ds, _, env_start al tz t r (by omega), law ds n Qd hg, ⟨fun _ _ _ _ _ _ q => q.elim, fun _ _ _ _ _ _ q => q.elim, fun _ _ _ _ _ _ q => q.elim, fun _ _ _ _ _ _ _ q => q.elim, fun n H' p d x t f r q => k p d H' n x t f r q⟩⟩
end
end L2.DL
end

section
/-! The data layer 12: chains, and/or/not as values, one sign in a text, dict(..) of pairs. -/
namespace L2.DL
open L2 PySem PySem.Spec PyProof.Rows
variable [TabsOf]

section
variable {X : Cx} {e a b c' : Expr} {es rest : List Expr} {pos : Pos}
def gChain (o o' : OD) (ga gb gc : GE) : GE := fun env n Q => ga env n fun d1 n1 => gb env n1 fun d2 n2 => o d1 d2 fun z => match z with
  | .bool k => if k = true then gc env n2 fun d3 n3 => o' d2 d3 fun d => Q d n3 else Q (.bool false) n2
  | _ => False
theorem chain_of {o o' : OD} {ga gb gc : GE} {σ : St} {H : Hp} {Q : VK} (h : tDE X.K (gChain o o' ga gb gc) σ H Q) : tChain (tOD X.K o) (tOD X.K o') (tDB X.K ga) (tDB X.K gb) (tDB X.K gc) σ H Q := by
  obtain ⟨c, O, n, env, Qd, E, hg, k⟩ := h
  refine ⟨c, O, n, env, _, E, hg, fun v1 d1 H1 n1 x1 t1 r1 q1 => ⟨c, O, n1, env, _, E.extend x1 t1, q1, fun v2 d2 H2 n2 x2 t2 r2 q2 => ?_⟩⟩
  have E2 := (E.extend x1 t1).extend x2 t2
  refine ⟨c.av O, c.T, d1, d2, _, E2.al, r1.ext E.atz x2, r2, q2, fun v d H3 g r q => ?_⟩
  cases d with
  | bool z =>
    have e : v = .bl z := (show RepT X.K (c.av O) c.T H3 v (.bool z) from .inl r).bl
    refine ⟨z, e, ?_⟩
    cases z with
    | true =>
      dsimp only at q; rw [if_pos rfl] at q ⊢
      refine ⟨c, O, n2, env, _, E2.grow g, q, fun v3 d3 H4 n3 x3 t3 r3 q3 => ?_⟩
      refine ⟨c.av O, c.T, d2, d3, _, ((E2.grow g).extend x3 t3).al, (r2.ext E.atz g.ext).ext E.atz x3, r3, q3, fun v d H5 g5 r q => k v d H5 n3 (((x1.trans x2).trans g.ext).trans (x3.trans g5.ext)) (t3.grow g5) r q⟩
    | false =>
      dsimp only at q; rw [if_neg Bool.false_ne_true] at q ⊢
      exact k _ _ H3 n2 ((x1.trans x2).trans g.ext) (t2.grow g) (.bl _) q
  | _ => exact q.elim
theorem t_chain {op op' : CmpOp} {o o' : OD} {ga gb gc : GE} (ho : OpD X (compareOp op) o) (ho' : OpD X (compareOp op') o') (ha : DB X a ga) (hb : DB X b gb) (hc : DB X c' gc) (hm : lastMarks [op, op'] [b, c'] = false := by with_unfolding_all rfl) :
    DT X (.Compare a [op, op'] [b, c'] pos) (gTst (gChain o o' ga gb gc)) :=
  ⟨pt_weak (pt_chain ho ho' ha.pe hb.pe hc.pe hm) fun _ _ _ h => tst_of (t := tChain (tOD X.K o) (tOD X.K o') (tDB X.K ga) (tDB X.K gb) (tDB X.K gc)) (fun _ _ _ h => chain_of h) h⟩
/-! ### and, or, not as values -/
def gAndV (ga gb : GE) : GE := fun env n Q => ga env n fun d n1 => match d with
  | .bool c => if c = true then gb env n1 Q else Q (.bool false) n1
  | _ => False
def gOrV (ga gb : GE) : GE := fun env n Q => ga env n fun d n1 => match d with
  | .bool c => if c = true then Q (.bool true) n1 else gb env n1 Q
  | _ => False
def gNotV (ga : GE) : GE := fun env n Q => ga env n fun d n1 => match d with
  | .bool c => Q (.bool (!c)) n1
  | _ => False
theorem d_one {op} {g : GE} (h : DE X a g) : DE X (.BoolOp op [a] pos) g := ⟨pe_one h.pe⟩
theorem d_and {ga gb : GE} (ha : DE X a ga) (hb : DE X (.BoolOp .And (b :: rest) pos) gb) : DE X (.BoolOp .And (a :: b :: rest) pos) (gAndV ga gb) := ⟨pe_weak (L2.pe_and ha.pe hb.pe) fun σ H Q ⟨c, O, n, env, Qd, E, hg, k⟩ =>
  ⟨c, O, n, env, _, E, hg, fun v d H1 n1 x1 t1 r1 q1 => by
    cases d with
    | bool z =>
      have e : v = .bl z := (show RepT X.K (c.av O) c.T H1 v (.bool z) from .inl r1).bl
      refine ⟨z, e, ?_⟩
      cases z with
      | true =>
        dsimp only at q1; rw [if_pos rfl] at q1 ⊢
        exact ⟨c, O, n1, env, _, E.extend x1 t1, q1, fun v d H2 n2 x2 t2 r q => k v d H2 n2 (x1.trans x2) t2 r q⟩
      | false =>
        dsimp only at q1; rw [if_neg Bool.false_ne_true] at q1 ⊢
        exact k _ _ H1 n1 x1 t1 (.bl _) q1
    | _ => exact q1.elim⟩⟩
theorem d_or {ga gb : GE} (ha : DE X a ga) (hb : DE X (.BoolOp .Or (b :: rest) pos) gb) : DE X (.BoolOp .Or (a :: b :: rest) pos) (gOrV ga gb) := ⟨pe_weak (L2.pe_or ha.pe hb.pe) fun σ H Q ⟨c, O, n, env, Qd, E, hg, k⟩ =>
  ⟨c, O, n, env, _, E, hg, fun v d H1 n1 x1 t1 r1 q1 => by
    cases d with
    | bool z =>
      have e : v = .bl z := (show RepT X.K (c.av O) c.T H1 v (.bool z) from .inl r1).bl
      refine ⟨z, e, ?_⟩
      cases z with
      | false =>
        dsimp only at q1; rw [if_neg Bool.false_ne_true] at q1 ⊢
        exact ⟨c, O, n1, env, _, E.extend x1 t1, q1, fun v d H2 n2 x2 t2 r q => k v d H2 n2 (x1.trans x2) t2 r q⟩
      | true =>
        dsimp only at q1; rw [if_pos rfl] at q1 ⊢
        exact k _ _ H1 n1 x1 t1 (.bl _) q1
    | _ => exact q1.elim⟩⟩
theorem d_not {ga : GE} (ha : DE X a ga) : DE X (.UnaryOp .Not a pos) (gNotV ga) := ⟨pe_weak (L2.pe_not ha.pe) fun σ H Q ⟨c, O, n, env, Qd, E, hg, k⟩ =>
  ⟨c, O, n, env, _, E, hg, fun v d H1 n1 x1 t1 r1 q1 => by
    cases d with
    | bool z =>
      have e : v = .bl z := (show RepT X.K (c.av O) c.T H1 v (.bool z) from .inl r1).bl
      exact ⟨z, e, k _ _ H1 n1 x1 t1 (.bl _) q1⟩
    | _ => exact q1.elim⟩⟩
/-- a list or, if it is empty, another one: both new -/
def gOrL (ga gb : GE) : GE := fun env n Q => ga env n fun d n1 => match d with
  | .list ds => if ds.isEmpty = true then gb env n1 Q else Q (.list ds) n1
  | _ => False
theorem f_orL {ga gb : GE} (ha : DF X a ga) (hb : DF X b gb) : DF X (.BoolOp .Or [a, b] pos) (gOrL ga gb) := ⟨pe_weak (pe_orT ha.pe (pe_one hb.pe)) fun σ H Q ⟨c, O, n, env, Qd, E, hg, k⟩ =>
  ⟨c, O, n, env, _, E, hg, fun p d H1 n1 x1 t1 f1 r1 q1 => by
    cases d with
    | list ds =>
      obtain ⟨xs, hx, ra⟩ := top_list r1
      have hl : xs.isEmpty = ds.isEmpty := by
        have := ra.length
        cases xs <;> cases ds <;> simp_all
      refine ⟨_, .inl ⟨xs, .of hx, rfl⟩, ?_⟩
      rw [hl]
      cases hd : ds.isEmpty with
      | true =>
        dsimp only at q1; rw [hd, if_pos rfl] at q1
        rw [if_neg (by simp)]
        exact ⟨c, O, n1, env, _, E.extend x1 t1, q1, fun p d H2 n2 x2 t2 f2 r q => k p d H2 n2 (x1.trans x2) t2 (none_before E x1 f2 (tub_some t1)) r q⟩
      | false =>
        dsimp only at q1; rw [hd, if_neg Bool.false_ne_true] at q1
        rw [if_pos (by simp)]
        exact k _ _ H1 n1 x1 t1 f1 r1 q1
    | _ => exact q1.elim⟩⟩
theorem p_inS : OpD X (compareOp .In) oInS := opD_of op_in_sign fun x y H Q ⟨Z, T, d1, d2, Qd, al, r1, r2, o, k⟩ => by
  unfold oInS at o
  split at o
  · obtain ⟨c, rfl, o⟩ := o
    exact ⟨c, _, r1.str, r2.str, k _ _ _ .refl (.bl _) o⟩
  · exact o.elim
end
end L2.DL
end

section
/-! The data layer 13: sorted, of lists, tuples, views of dicts. -/
namespace L2.DL
open PySem PySem.Spec PySem.Calls PyProof.Rows L2
variable [TabsOf]

section
variable {P : Program} {w : World}
variable {A : Around}
variable {E : Value → Shared → Prop}
variable {s : Shared}
/-- what is gathered of a list or of a tuple -/
theorem gather_seq {l : Addr} {T : String} {o : Obj} {its : List Value} {n : Nat} {Q : List Value → Shared → Prop} (hT : T = "list" ∨ T = "tuple") (ho : s.heap.get? l = some o) (hc : o.cls = .type T) (hd : o.data = .seq its.toArray n) (hz : its.length ≤ sizeLine)
    (q : ∀ h', (∀ b u, s.heap.get? b = some u → h'.get? b = some u) → s.heap.objs.size ≤ h'.objs.size → Q its { s with heap := h' }) : wpAny (model P w) A (collect (.ref l)) Q E s := by
  unfold collect
  refine (wpAny_bind (wpAny_runValue (codeAny_builtin entry_proto_collect' ?_)))
  show wpAny _ _ (newList [] >>= fun z => again (.builtin "list.__iadd__" ⟨[z, .ref l], []⟩)) _ _ s
  refine (wpAny_bind (wpAny_newList (wpAny_pure ⟨Code.quiet_builtin _ (by decide +kernel), codeAny_builtin entry_list_iadd' ?_⟩)))
  have h0 : (s.heap.push (seqObj "list" #[] 0)).get? s.heap.objs.size = some (seqObj "list" #[] 0) := Heap.get?_push_size _ rfl
  have hl : (s.heap.push (seqObj "list" #[] 0)).get? l = some o := Heap.get?_push_of_some _ ho
  show (wpAny _ _ (Builtin.List.listExtendWith (.ref s.heap.objs.size) (.ref l) (.ref s.heap.objs.size)) _ _ { s with heap := s.heap.push (seqObj "list" #[] 0) })
  unfold Builtin.List.listExtendWith at ⊢
  refine wpAny_bind (wpAny_typeOf (T := T) ⟨o, hl, hc⟩ ?_)
  rw [if_pos (by rcases hT with rfl | rfl <;> simp)]
  refine wpAny_bind (listItems_at hl hd ?_)
  refine wpAny_bind (listItems_at (xs := #[]) (n := 0) h0 rfl ?_)
  rw [if_neg (by simp)]
  have hz2 : (#[] ++ its.toArray).size ≤ sizeLine + 1 := by
    rw [Array.size_append, List.size_toArray]
    show 0 + its.length ≤ _
    omega
  refine wpAny_bind (listUpdate_at (xs := #[]) (n := 0) h0 rfl (hsz := Nat.zero_le _) (hsz2 := hz2) (wpAny_pure ?_))
  have h1 := get?_update_seq (c := "list") (xs := #[]) (n := 0) h0 (· ++ its.toArray)
  refine wpAny_bind (wpAny_load h1 ?_)
  refine wpAny_pure ?_
  dsimp only
  rw [show ((#[] : Array Value) ++ its.toArray).toList = its by simp]
  refine q _ (fun b u ez => ?_) ?_
  · rw [Heap.get?_update_ne _ _ _ _ (Nat.ne_of_lt (Heap.lt_size ez))]
    exact Heap.get?_push_of_some _ ez
  · rw [Heap.size_update, size_push']
    exact Nat.le_succ _

/-- sorted of whatever can be gathered -/
theorem sorted_gathered {v : Value} {β : Type} {enc : β → PyData} {Q : Value → Shared → Prop} (col : wpAny (model P w) A.in1 (collect v) (fun vs s1 => ∃ (bs : List β) (R : Value → β → Prop), PySem.W.EachIs R vs bs ∧ PySem.W.EachIs (fun v b => ∃ as, Reads s1.heap v (enc b) as) vs bs ∧
      PySem.W.AllAlike (bs.map enc) ∧ PySem.W.Sortable (bs.map enc) ∧ bs.length ≤ sizeLine ∧ (∀ b, b ∈ bs → A.units + 2 + (enc b).depth < cLine) ∧
      ∀ (out : List Value) (h' : Heap) (c : Nat), (∀ b u, s1.heap.get? b = some u → h'.get? b = some u) → h'.get? s1.heap.objs.size = some (seqObj "list" out.toArray c) → out.length = bs.length → PySem.W.EachIs R out (bs.mergeSort (PySem.W.dataLe false enc)) → Q (.ref s1.heap.objs.size) { s1 with heap := h' }) E s) :
    wpAny (model P w) A (call (.builtin "sorted") [v]) Q E s := by
  refine (Calls.call_function_entry kind_sorted plain_sorted entry_sorted (args_sorted1 _) ?_)
  unfold Builtin.«sorted»
  refine (wpAny_bind (m := checkCount "sorted" 1 1 _) (wpAny_pure ?_))
  refine wpAny_bind (wpAny_mono col ?_ fun _ _ e => e)
  rintro vs s1 ⟨bs, R, e, er, hal, hk, hL, hu, q⟩
  have hv : vs.length ≤ sizeLine := by rw [e.length]; exact hL
  refine wpAny_bind (wpAny_newList ?_ hv)
  have hob : (s1.heap.push (seqObj "list" vs.toArray 0)).get? s1.heap.objs.size = some (seqObj "list" vs.toArray 0) := Heap.get?_push_size _ rfl
  have kp : ∀ b u, s1.heap.get? b = some u → b ≠ s1.heap.objs.size ∧ (s1.heap.push (seqObj "list" vs.toArray 0)).get? b = some u := fun b u z => ⟨Nat.ne_of_lt (Heap.lt_size z), Heap.get?_push_of_some _ z⟩
  have er' : PySem.W.EachIs (fun v b => ∃ as, Reads (PySem.W.sortingHeap (s1.heap.push (seqObj "list" vs.toArray 0)) s1.heap.objs.size vs) v (enc b) as) vs bs := er.mono fun _ _ ⟨as, r⟩ =>
    ⟨as, PyProof.Rows.Reads.keeps (fun b u z => PySem.W.sortingHeap_old (kp b u z).1 (kp b u z).2) r⟩
  have S := PySem.W.SortsAt.data (prog := P) (w := w) (A := A.in1.in1) (s := { s1 with heap := PySem.W.sortingHeap (s1.heap.push (seqObj "list" vs.toArray 0)) s1.heap.objs.size vs })
    (PySem.W.each_map (R := fun v d => ∃ as, Reads (PySem.W.sortingHeap (s1.heap.push (seqObj "list" vs.toArray 0)) s1.heap.objs.size vs) v d as) enc er') hal hk (PySem.W.bound_map (A := A.in1.in1) hu)
  refine wpAny_bind (wpAny_holding (wpAny_call_entry slot_list_sort ⟨_, hob, rfl⟩ entry_list_sort (PySem.W.list_sort_vals (s := { s1 with heap := s1.heap.push (seqObj "list" vs.toArray 0) }) hob S hv ⟨_, rfl, ?_⟩) (args_list_sort _)))
  obtain ⟨c, hc⟩ := sortedHeap_at (vs := vs) (out := (PySem.W.sortVals (PySem.W.dataKind (PySem.W.sortingHeap (s1.heap.push (seqObj "list" vs.toArray 0)) s1.heap.objs.size vs) (bs.map enc)) false vs vs).toArray) hob
  refine wpAny_pure ⟨_, rfl, q _ _ c (fun b u z => ?_) hc ?_ (PySem.W.sortVals_data false e er' hal)⟩
  · exact (sortedHeap_old (kp b u z).1 (Heap.lt_size (kp b u z).2)).trans (kp b u z).2
  · rw [PySem.W.sortVals_length false rfl]; exact e.length
end

/-! ### by data -/
abbrev dle : PyData → PyData → Bool := PySem.W.dataLe false id
def SortOk (ds : List PyData) : Prop := PySem.W.AllAlike ds ∧ PySem.W.Sortable ds ∧ ∀ d, d ∈ ds → shp d
section
variable {X : Cx} {pins : List (Addr × Obj)} {σ : St} {H : Hp} {s : Shared} {Z : Addr → Prop} {T : Tb}
theorem each_zip {K : PySem.W.Frag} : ∀ {xs : List V} {ds : List PyData} {vs : List Value}, Vals xs vs → RepAll K Z T H xs ds → PySem.W.EachIs (fun v (b : V × PyData) => RelV b.1 v ∧ Rep K Z T H b.1 b.2) vs (xs.zip ds)
  | _, _, _, .nil, .nil => .nil
  | _, _, _, .cons a b, .cons c d => .cons ⟨a, c⟩ (each_zip b d)
theorem each_out {K : PySem.W.Frag} : ∀ {out : List Value} {bs : List (V × PyData)}, PySem.W.EachIs (fun v (b : V × PyData) => RelV b.1 v ∧ Rep K Z T H b.1 b.2) out bs → Vals (bs.map (·.1)) out ∧ RepAll K Z T H (bs.map (·.1)) (bs.map (·.2))
  | _, _, .nil => ⟨.nil, .nil⟩
  | _, _, .cons a b => ⟨.cons a.1 (each_out b).1, .cons a.2 (each_out b).2⟩
theorem sorted_d {v : Value} {Q : VK} (hu : X.A.units + 66 < cLine) (col : wpAny (model X.prog X.w) X.A.in1 (collect v) (fun vs s1 => ∃ (H1 : Hp) (xs : List V) (ds : List PyData), Inv X pins σ H1 s1 ∧ (∀ a, Z a → ¬ New H1 a) ∧ Vals xs vs ∧ RepAll X.K Z T H1 xs ds ∧ SortOk ds ∧ ds.length ≤ sizeLine ∧
      ∀ p H', Grow H1 H' → H1 p = none → TopAt X.K (Zp Z p) T H' p (.list (ds.mergeSort dle)) → Q (.ref p) H') X.xe s) :
    wpAny (model X.prog X.w) X.A (call (.builtin "sorted") [v]) (EP X pins σ Q) X.xe s := by
  refine sorted_gathered (β := V × PyData) (enc := Prod.snd) (wpAny_mono col ?_ fun _ _ e => e)
  rintro vs s1 ⟨H1, xs, ds, I1, al, rv, ra, ⟨h1, h2, h3⟩, hz, q⟩
  have hm : (xs.zip ds).map Prod.snd = ds := List.map_snd_zip (Nat.le_of_eq ra.length.symm)
  have hl : (xs.zip ds).length = ds.length := by rw [List.length_zip, ra.length, Nat.min_self]
  have mem : ∀ b, b ∈ xs.zip ds → shp b.2 := fun b hb => h3 _ (List.of_mem_zip hb).2
  refine ⟨xs.zip ds, _, each_zip rv ra, ?_, by rw [hm]; exact h1, by rw [hm]; exact h2, by rw [hl]; exact hz, fun b hb => ?_, fun out h' c kp hg ho eo => ?_⟩
  · exact (PySem.W.each_mem (each_zip rv ra)).mono fun v b ⟨⟨r1, r2⟩, hb⟩ => Dp.reads I1 b.2 b.1 v (r2.dp (SeqAt.canLay_of_shaped (mem b hb))) r1
  · have := SeqAt.depth_of_shaped (mem b hb)
    omega
  · have e2 : ((xs.zip ds).mergeSort (PySem.W.dataLe false Prod.snd)).map Prod.snd = ds.mergeSort dle := by
      have := List.map_mergeSort (r := PySem.W.dataLe false Prod.snd) (s := dle) (f := Prod.snd) (l := xs.zip ds) (fun _ _ _ _ => rfl)
      rw [this, hm]
    obtain ⟨v1, v2⟩ := each_out eo
    rw [e2] at v2
    have hn : H1 s1.heap.objs.size = none := I1.hok.fresh (Nat.le_refl _)
    have hz2 : (((xs.zip ds).mergeSort (PySem.W.dataLe false Prod.snd)).map (·.1)).length ≤ sizeLine := by
      rw [List.length_map, List.length_mergeSort, hl]; exact hz
    exact ⟨.ref s1.heap.objs.size, upd H1 s1.heap.objs.size (.lst (((xs.zip ds).mergeSort (PySem.W.dataLe false Prod.snd)).map (·.1))), I1.laid (t' := s1.toks) kp (Nat.le_refl _) ⟨hz2, out, c, v1, hg⟩, rfl,
      q _ _ (.new hn) hn (.inl ⟨_, _, rfl, upd_same, v2.avoid hn⟩)⟩
end
def oSorted : OC
  | [.list ds], Q => SortOk ds ∧ Q (.list (ds.mergeSort dle))
  | [.tuple ds], Q => SortOk ds ∧ Q (.list (ds.mergeSort dle))
  | _, _ => False
theorem c_sorted {X : Cx} (hu : X.A.units + 66 < cLine) : CallF X (.builtin "sorted") oSorted := by
  intro pins s σ H xs us Q I r ⟨Z, T, ds, Qd, al, rt, o, k⟩
  unfold oSorted at o
  split at o
  · obtain ⟨x, rfl, rr⟩ := ts1 rt
    obtain ⟨a, ys, rfl, sa, ra⟩ := rr.list
    rw [Vals.ref1 r]
    obtain ⟨its, rv, pl, hz⟩ := I.list (.of sa)
    obtain ⟨ob, ho, hc, n, hd⟩ := pl.isList
    have hz2 := hz
    have hz3 := rv.length
    refine sorted_d (Z := Z) (T := T) hu (gather_seq (.inl rfl) ho hc hd (by omega) fun h' kp hs => ⟨H, ys, _, I.kept (t' := s.toks) kp, al, rv, ra, o.1, by rw [← ra.length]; omega, fun p H' g hn t => k p _ H' g hn t o.2⟩)
  · obtain ⟨x, rfl, rr⟩ := ts1 rt
    obtain ⟨a, ys, rfl, sa, ra⟩ := rr.tuple
    rw [Vals.ref1 r]
    obtain ⟨its, rv, pl, hz⟩ := I.tuple (.inl sa)
    obtain ⟨ob, ho, hc, n, hd⟩ := id pl
    have hz3 := rv.length
    refine sorted_d (Z := Z) (T := T) hu (gather_seq (.inr rfl) ho hc hd (by omega) fun h' kp hs => ⟨H, ys, _, I.kept (t' := s.toks) kp, al, rv, ra, o.1, by rw [← ra.length]; omega, fun p H' g hn t => k p _ H' g hn t o.2⟩)
  · exact o.elim
end L2.DL
end

section
/-! The data layer 14: d.values(), d.items() under list(..), sorted(..). -/
namespace L2.DL
open PySem PySem.Spec PySem.Calls PyProof.Rows L2
variable [TabsOf]

/-- the view of kind T of the dict at d -/
def vwO (T : String) (p d : Addr) : HO := .ext fun h => ∃ o, h.get? p = some o ∧ o.cls = .type T ∧ o.data = .fields #[.ref d]
theorem vwO_ok {P : Program} {w : World} {H : Hp} {h : Heap} {p d : Addr} {T : String} (e : h.get? p = some { cls := .type T, data := .fields #[.ref d] }) : ObjOk P w H h p (vwO T p d) :=
  ⟨⟨_, e, rfl, rfl⟩, ⟨_, e⟩, fun h1z h2z xz kz => let ⟨o, ho, r⟩ := xz; ⟨o, kz o ho, r⟩⟩
section
variable {X : Cx} {e : Expr} {apos cpos pos p : Pos}
def tVw (T : String) (te : TE) : TE := fun σ H Q => te σ H fun x H1 => ∃ a kvs, x = .ref a ∧ Rd H1 a (.dK kvs) ∧ ∀ p, H1 p = none → Q (.ref p) (upd H1 p (vwO T p a))
theorem pe_values {te : TE} (he : PE X e te) (hbase : attributeBase e "values" X.env (eval e X.env) = eval e X.env := by rfl) (hline : (apos.endLine == cpos.line) = true := by rfl) :
    PE X (.Call (.Attribute e "values" apos) [] [] cpos) (tVw "dict_values" te) := by
  refine ⟨fun pins s σ H Q I h => wpAny_Call_method0_late hbase hline (thn (he.run pins s σ H _ I h) ?_)⟩
  rintro uz s1 ⟨x, H1, I1, rxz, az, kvs, rfl, rd, q⟩
  obtain rfl : uz = Value.ref az := rxz
  obtain ⟨_, sy, vs, kv, dof⟩ := dk_rd I1.hok rd
  have dof' := dof
  obtain ⟨ob, es, ep, ho, ex, _⟩ := dof'
  refine ⟨"dict", "dict.values", F.plainAttrs_dict, F.slot_dict_values, F.type_dict_values, ⟨ob, ho, ex.1⟩, fun b z => by cases z; exact ⟨ob, ho, ex.2.1⟩, Calls.callWith_builtin rfl (PySem.evalArgs_none ?_)⟩
  refine call_meetsIn F.slot_dict_values ⟨ob, ho, ex.1⟩ F.entry_dict_values (F.args_dict_values_1 _) (meets_dict_values (mixKind X.prog X.w) az sy) ⟨⟨vs, dof⟩, ?_⟩
  exact ⟨.ref s1.heap.objs.size, _, I1.laid (t' := s1.toks) (fun b o z => Heap.get?_push_of_some _ z) (Nat.le_refl _) (vwO_ok (Heap.get?_push_size _ rfl)), rfl, q _ (I1.hok.fresh (Nat.le_refl _))⟩
theorem pe_items {te : TE} (he : PE X e te) (hbase : attributeBase e "items" X.env (eval e X.env) = eval e X.env := by rfl) (hline : (apos.endLine == cpos.line) = true := by rfl) :
    PE X (.Call (.Attribute e "items" apos) [] [] cpos) (tVw "dict_items" te) := by
  refine ⟨fun pins s σ H Q I h => wpAny_Call_method0_late hbase hline (thn (he.run pins s σ H _ I h) ?_)⟩
  rintro uz s1 ⟨x, H1, I1, rxz, az, kvs, rfl, rd, q⟩
  obtain rfl : uz = Value.ref az := rxz
  obtain ⟨_, sy, vs, kv, dof⟩ := dk_rd I1.hok rd
  have dof' := dof
  obtain ⟨ob, es, ep, ho, ex, _⟩ := dof'
  refine ⟨"dict", "dict.items", F.plainAttrs_dict, F.slot_dict_items, F.type_dict_items, ⟨ob, ho, ex.1⟩, fun b z => by cases z; exact ⟨ob, ho, ex.2.1⟩, Calls.callWith_builtin rfl (PySem.evalArgs_none ?_)⟩
  refine call_meetsIn F.slot_dict_items ⟨ob, ho, ex.1⟩ F.entry_dict_items (F.args_dict_items_1 _) (meets_dict_items (mixKind X.prog X.w) az sy) ⟨⟨vs, dof⟩, ?_⟩
  exact ⟨.ref s1.heap.objs.size, _, I1.laid (t' := s1.toks) (fun b o z => Heap.get?_push_of_some _ z) (Nat.le_refl _) (vwO_ok (Heap.get?_push_size _ rfl)), rfl, q _ (I1.hok.fresh (Nat.le_refl _))⟩

/-! ### what the calls do -/
def tVC (K : PySem.W.Frag) (T : String) (o : List (PyData × PyData) → (PyData → Prop) → Prop) : List V → Hp → VK → Prop := fun xs H Q => ∃ (Z : Addr → Prop) (S : Tb) (p a : Addr) (kvs : List (Key × V)) (ds : List (PyData × PyData)) (Qd : PyData → Prop),
  xs = [.ref p] ∧ H p = some (vwO T p a) ∧ Rd H a (.dK kvs) ∧ (∀ a, Z a → ¬ New H a) ∧ RepKV K Z S H kvs ds ∧ o ds Qd ∧ ∀ p d H', Grow H H' → H p = none → TopAt K (Zp Z p) S H' p d → Qd d → Q (.ref p) H'
def ViewF (X : Cx) (f : Value) (T : String) (o : List (PyData × PyData) → (PyData → Prop) → Prop) : Prop := CallR X f (tVC X.K T o)
theorem RepKV.vals {K : PySem.W.Frag} {Z : Addr → Prop} {T : Tb} {H : Hp} : ∀ {kvs : List (Key × V)} {ds : List (PyData × PyData)}, RepKV K Z T H kvs ds → RepAll K Z T H (kvs.map (·.2)) (ds.map (·.2))
  | _, _, .nil => .nil
  | _, _, .cons a b => .cons a (RepKV.vals b)
theorem kv_vals : ∀ {kvs : List (Key × V)} {vs : List (Key × Value)}, KV kvs vs → Vals (kvs.map (·.2)) (vs.map (·.2))
  | _, _, .nil => .nil
  | _, _, .cons a b => .cons a.2 (kv_vals b)
theorem acc_vals {vs : List (Key × Value)} {acc : Array Value} (h : ItemsOf (fun i v => ∃ k, vs[i]? = some (k, v)) acc vs.length) : acc.toList = vs.map (·.2) := by
  refine L2.items_out (Pv := fun i v => ∃ k, vs[i]? = some (k, v)) (by rw [List.length_map]; exact h) fun j v ⟨k, e⟩ => ?_
  rw [List.getElem?_map, e]
  rfl
def oSortedV : List (PyData × PyData) → (PyData → Prop) → Prop := fun ds Q => SortOk (ds.map (·.2)) ∧ Q (.list ((ds.map (·.2)).mergeSort dle))
def oListV : List (PyData × PyData) → (PyData → Prop) → Prop := fun ds Q => Q (.list (ds.map (·.2)))
def pairD (p : PyData × PyData) : PyData := .tuple [p.1, p.2]
def oSortedI : List (PyData × PyData) → (PyData → Prop) → Prop := fun ds Q => SortOk (ds.map pairD) ∧ Q (.list ((ds.map pairD).mergeSort dle))
theorem v_sorted (hc : X.calm = true) (hu : X.A.units + 66 < cLine) : ViewF X (.builtin "sorted") "dict_values" oSortedV := by
  rintro pins s σ H xs us Q I r ⟨Z, S, p, a, kvs, ds, Qd, rfl, hp, rd, al, rk, ⟨o1, o2⟩, k⟩
  rw [Vals.ref1 r]
  obtain ⟨hz, sy, vs, kv, dofz⟩ := dk_rd I.hok rd
  obtain ⟨ep, datz⟩ := dofz.dictAt
  have hv : s.heap.IsValuesView p a := (show ObjOk X.prog X.w H s.heap p (vwO "dict_values" p a) from I.hok p _ hp).1
  have hl := KV.length kv
  refine sorted_d (Z := Z) (T := S) hu (PySem.W.kdu_collect (A := X.A.in1) (PySem.W.kdl_values (knd := mixKind X.prog X.w) (kvs := vs) (ep := ep)) (I.ok.hd hc) ⟨hv, datz⟩ (by omega) fun h' tk acc kp hi => ?_)
  have ea := acc_vals hi
  exact ⟨H, _, _, I.kept (t' := tk) kp, al, by rw [ea]; exact kv_vals kv, rk.vals, o1, by rw [List.length_map, ← rk.length]; exact hz, fun p H' g hn t => k p _ H' g hn t o2⟩
theorem v_list (hc : X.calm = true) : ViewF X (.type "list") "dict_values" oListV := by
  rintro pins sz σ H xs us Q Iz r ⟨Z, S, p, a, kvs, ds, Qd, rfl, hp, rd, al, rk, o, k⟩
  rw [Vals.ref1 r]
  obtain ⟨hz, sy, vs, kv, dofz⟩ := dk_rd Iz.hok rd
  obtain ⟨ep, datz⟩ := dofz.dictAt
  have hv : sz.heap.IsValuesView p a := (show ObjOk X.prog X.w H sz.heap p (vwO "dict_values" p a) from Iz.hok p _ hp).1
  have hl := KV.length kv
  refine PySem.W.kdl_call (PySem.W.kdl_values (knd := mixKind X.prog X.w) (kvs := vs) (ep := ep)) (Iz.ok.hd hc) ⟨hv, datz⟩ (by omega) fun h' tk acc c kp hS hi => ?_
  have ea := acc_vals hi
  have hnz : H sz.heap.objs.size = none := Iz.hok.fresh (Nat.le_refl _)
  refine ⟨.ref sz.heap.objs.size, upd H sz.heap.objs.size (.lst (kvs.map (·.2))), Iz.laid (t' := tk) kp (Nat.le_refl _) ⟨by rw [List.length_map]; exact hz, acc.toList, c, by rw [ea]; exact kv_vals kv, by rw [Array.toArray_toList]; exact hS⟩, rfl, ?_⟩
  exact k _ _ _ (.new hnz) hnz (.inl ⟨_, _, rfl, upd_same, rk.vals.avoid hnz⟩) o
theorem rep_of_get {K : PySem.W.Frag} {Z : Addr → Prop} {T : Tb} {H : Hp} : ∀ {xs : List V} {ds : List PyData}, xs.length = ds.length → (∀ (j : Nat) (x : V) (d : PyData), xs[j]? = some x → ds[j]? = some d → Rep K Z T H x d) → RepAll K Z T H xs ds
  | [], [], _, _ => .nil
  | x :: xs, d :: ds, hy, f => .cons (f 0 x d rfl rfl) (rep_of_get (by simpa using hy) fun j x d a b => f (j + 1) x d (by simpa using a) (by simpa using b))
  | [], _ :: _, hy, _ => by simp at hy
  | _ :: _, [], hy, _ => by simp at hy
theorem RepKV.at {K : PySem.W.Frag} {Z : Addr → Prop} {T : Tb} {H : Hp} : ∀ {kvs : List (Key × V)} {ds : List (PyData × PyData)} {j : Nat} {q : Key × V}, RepKV K Z T H kvs ds → kvs[j]? = some q → ∃ d, ds[j]? = some (keyD q.1, d) ∧ Rep K Z T H q.2 d
  | _, _, 0, q, .cons a b, h => by
    simp at h; subst h; exact ⟨_, rfl, a⟩
  | _, _, j + 1, q, .cons a b, h => by
    obtain ⟨d, e, r⟩ := RepKV.at (j := j) b (by simpa using h)
    exact ⟨d, by simpa using e, r⟩
  | _, _, j, q, .nil, h => by simp at h
theorem key_rep {K : PySem.W.Frag} {Z : Addr → Prop} {T : Tb} {H : Hp} (k : Key) : Rep K Z T H (kV k) (keyD k) := by
  cases k
  · exact .int _
  · exact .str _
/-- tuples that stand on the heap are tracked -/
theorem takeF {pins : List (Addr × Obj)} {σ : St} {H0 : Hp} {s : Shared} {h' : Heap} {tk : Nat} {P : Addr → List V → Prop} (I0 : Inv X pins σ H0 s) : ∀ (L : List Addr) (H1 : Hp), Inv X pins σ H1 { s with heap := h', toks := tk } → L.Nodup →
    (∀ a ∈ L, s.heap.objs.size ≤ a ∧ H1 a = none ∧ ∃ vs, P a vs ∧ ∃ its : List Value, vs.length ≤ sizeLine ∧ Vals vs its ∧ h'.get? a = some { cls := .type "tuple", data := .seq its.toArray }) →
    ∃ H2, Inv X pins σ H2 { s with heap := h', toks := tk } ∧ (∀ b o, H1 b = some o → H2 b = some o) ∧ ∀ a ∈ L, ∃ vs, P a vs ∧ ∃ its, H2 a = some (ftO its vs)
  | [], H1, I1, _, _ => ⟨H1, I1, fun _ _ e => e, fun _ hy => nomatch hy⟩
  | a :: L, H1, I1, ndz, f => by
    obtain ⟨lo, no, vs, hP, its, z, r, e⟩ := f a List.mem_cons_self
    obtain ⟨n1z, n2z⟩ := List.nodup_cons.mp ndz
    have J : Inv X pins σ (upd H1 a (ftO its vs)) { s with heap := h', toks := tk } := I1.take (h' := h') (t' := tk) (fun _ _ _ q => q) (I0.fpOk lo no) (ftO_ok z r e)
    obtain ⟨H2, J2, g, q⟩ := takeF I0 L (upd H1 a (ftO its vs)) J n2z fun c hcz => by
      obtain ⟨c1, c2, c3⟩ := f c (List.mem_cons_of_mem _ hcz)
      have w : c ≠ a := fun w => n1z (by rw [← w]; exact hcz)
      exact ⟨c1, by rw [upd_ne w]; exact c2, c3⟩
    refine ⟨H2, J2, fun b o w => g b o (by rw [upd_ne (ne_of_none w no)]; exact w), fun c hcz => ?_⟩
    rcases List.mem_cons.mp hcz with rfl | hcz
    · exact ⟨vs, hP, its, g _ _ upd_same⟩
    · exact q c hcz
theorem v_sortedI (hc : X.calm = true) (hu : X.A.units + 66 < cLine) : ViewF X (.builtin "sorted") "dict_items" oSortedI := by
  rintro pins s σ H xs us Q I r ⟨Z, S, p, az, kvs, ds, Qd, rfl, hp, rd, al, rk, ⟨o1, o2⟩, k⟩
  rw [Vals.ref1 r]
  obtain ⟨hz, sy, vs, kv, dofz⟩ := dk_rd I.hok rd
  obtain ⟨ep, datz⟩ := dofz.dictAt
  have hv : s.heap.IsItemsView p az := (show ObjOk X.prog X.w H s.heap p (vwO "dict_items" p az) from I.hok p _ hp).1
  have hl := KV.length kv
  refine sorted_d (Z := Z) (T := S) hu (PySem.W.kdx_collect (A := X.A.in1) (knd := mixKind X.prog X.w) (kvs := vs) (ep := ep) (I.ok.hd hc) hv datz (by omega) fun h' tk asz kp la hGz => ?_)
  have ndz : asz.Nodup := List.Pairwise.imp (fun {az bz} (hy : az < bz) => Nat.ne_of_lt hy) hGz.rise
  have I1 : Inv X pins σ H { s with heap := h', toks := tk } := I.kept (t' := tk) kp
  obtain ⟨H2, I2, g, qt⟩ := takeF (P := fun bz zs => ∃ (jz : Nat) (q : Key × V), asz[jz]? = some bz ∧ kvs[jz]? = some q ∧ zs = [kV q.1, q.2]) I asz H I1 ndz fun bz hbz => by
    obtain ⟨jz, hjz⟩ := List.mem_iff_getElem?.mp hbz
    obtain ⟨key, kk, x, e1, e2, e3⟩ := hGz.pairs jz bz hjz
    obtain ⟨y, e4, e5⟩ := KV.at' kv e1
    have low : s.heap.objs.size ≤ bz := Nat.le_of_lt (hGz.above bz hbz)
    exact ⟨low, I.hok.fresh low, [kV kk, y], ⟨jz, (kk, y), hjz, e4, rfl⟩, [key, x], by show 2 ≤ sizeLine; decide, .cons (relV_key e2) (.cons e5 .nil), e3⟩
  have gr : Grow H H2 := fun bz o z => g bz o z
  have rk2 := rk.grow gr
  refine ⟨H2, asz.map V.ref, ds.map pairD, I2, fun bz z => ?_, LiI.vals_refs asz, ?_, o1, by rw [List.length_map, ← rk.length]; exact hz, fun p H' g' hn t => k p _ H' (gr.trans g') ?_ t o2⟩
  · exact fun w => al bz z fun o nt q => w o nt (gr bz o q)
  · refine rep_of_get (by rw [List.length_map, List.length_map, ← rk.length]; omega) fun jz x d hx hd => ?_
    rw [List.getElem?_map] at hx hd
    obtain ⟨bz, hbz, rfl⟩ := Option.map_eq_some_iff.mp hx
    obtain ⟨e, he, rfl⟩ := Option.map_eq_some_iff.mp hd
    obtain ⟨zs, ⟨i, q, i1, i2, rfl⟩, us, hH⟩ := qt bz (List.mem_of_getElem? hbz)
    have eij : i = jz := (List.getElem?_inj (List.getElem?_eq_some_iff.mp i1).1 ndz).mp (i1.trans hbz.symm)
    subst eij
    obtain ⟨d, e1, e2⟩ := rk2.at i2
    rw [he] at e1
    cases e1
    refine .tup (fun z => ?_) hH rfl (.cons (key_rep _) (.cons e2 .nil))
    have := al bz z
    exact this (new_none (I.hok.fresh (Nat.le_of_lt (hGz.above bz (List.mem_of_getElem? hbz)))))
  · cases q : H p with
    | none => rfl
    | some o => rw [gr p o q] at hn; cases hn

/-! ### as expressions -/
def gVw (o : List (PyData × PyData) → (PyData → Prop) → Prop) (ge : GE) : GE := fun env n Q => ge env n fun d n1 => match d with
  | .dict ds => dOk ds ∧ o ds fun d => Q d n1
  | _ => False
theorem vw_go {T : String} {o : List (PyData × PyData) → (PyData → Prop) → Prop} {ge : GE} {σ : St} {H : Hp} {Q : VK} (h : tDF X.K (gVw o ge) σ H Q) : tVw T (tDB X.K ge) σ H fun v H1 => tVC X.K T o [v] H1 Q := by
  obtain ⟨c, O, n, env, Qd, E, hg, k⟩ := h
  refine ⟨c, O, n, env, _, E, hg, fun v d H1 n1 x1 t1 r1 q1 => ?_⟩
  cases d with
  | dict ds =>
    obtain ⟨ok, q⟩ := q1
    obtain ⟨a, kvs, rfl, rd, rk⟩ := r1.dict ok
    refine ⟨a, kvs, rfl, rd, fun p hp => ?_⟩
    have E1 := E.extend x1 t1
    have g1 : Grow H1 (upd H1 p (vwO T p a)) := .new hp
    refine ⟨c.av O, c.T, p, a, kvs, ds, _, rfl, upd_same, rd_keep nt_dK (fun o _ z => g1 _ _ z) rd, (E1.grow g1).al, rk.grow g1, q, fun p' d H' g hn t q' => ?_⟩
    exact k p' d H' n1 (x1.trans (g1.trans g).ext) (t1.grow (g1.trans g)) (none_before E x1 (fun o nt z => by rw [g1 p' o z] at hn; cases hn) (tub_some t1)) t q'
  | _ => exact q1.elim
theorem f_viewB {x : Str} {id : String} {T : String} {o : List (PyData × PyData) → (PyData → Prop) → Prop} {ge : GE} {ve : Expr} (hv' : PE X ve (tVw T (tDB X.K ge))) (hf : ViewF X (.builtin id) T o) (hg : Gl X x) (hm : X.mg x = none) (hv : bootBuiltins x = some (.builtin id))
    (hn : x ≠ "__name__" := by decide) (hdb : (x == ("__debug__" : Str)) = false := by decide) (hs : starEach [ve] X.env = (false, eval ve X.env) :: starEach [] X.env := by rfl) (hpl : (backTo pos (starEach [] X.env)).any (·.1) = false := by rfl) :
    DF X (.Call (.Name x p) [ve] [] pos) (gVw o ge) :=
  ⟨pe_weak (pe_callB hf hg hm hv (pa_cons hv' pa_nil hs) hn hdb hs hpl) fun _ _ _ h => vw_go h⟩
theorem f_viewT {x : Str} {id : String} {T : String} {o : List (PyData × PyData) → (PyData → Prop) → Prop} {ge : GE} {ve : Expr} (hv' : PE X ve (tVw T (tDB X.K ge))) (hf : ViewF X (.type id) T o) (hg : Gl X x) (hm : X.mg x = none) (hv : bootBuiltins x = some (.type id))
    (hn : x ≠ "__name__" := by decide) (hdb : (x == ("__debug__" : Str)) = false := by decide) (hs : starEach [ve] X.env = (false, eval ve X.env) :: starEach [] X.env := by rfl) (hpl : (backTo pos (starEach [] X.env)).any (·.1) = false := by rfl) :
    DF X (.Call (.Name x p) [ve] [] pos) (gVw o ge) :=
  ⟨pe_weak (pe_callTy hf hg hm hv (pa_cons hv' pa_nil hs) hn hdb hs hpl) fun _ _ _ h => vw_go h⟩
end
end L2.DL
end

section
/-! The data layer 15: dict(..) of pairs. -/
namespace L2.DL
open PySem PySem.Spec PySem.Calls PyProof.Rows L2
variable [TabsOf]

def mergeD (acc more : List (PyData × PyData)) : List (PyData × PyData) := more.foldl (fun z q => putD z q.1 q.2) acc
theorem merge_of {K : PySem.W.Frag} {Z : Addr → Prop} {T : Tb} {H : Hp} : ∀ {more : List (Key × V)} {dm : List (PyData × PyData)} {kvs : List (Key × V)} {ds : List (PyData × PyData)}, RepKV K Z T H more dm → RepKV K Z T H kvs ds → RepKV K Z T H (mergeK kvs more) (mergeD ds dm)
  | _, _, _, _, .nil, s => s
  | _, _, kvs, ds, .cons (k := k) (v := v) (r := r) (d := d) (ds := dm) a b, s => by
    show RepKV K Z T H (mergeK (putK kvs k v) r) (mergeD (putD ds (keyD k) d) dm)
    exact merge_of b (put_of k a s)
section
variable {X : Cx}
/-- pairs that stand as tuples -/
theorem rep_pairs {K : PySem.W.Frag} {Z : Addr → Prop} {T : Tb} {H : Hp} : ∀ {qs : List (PyData × PyData)} {xs : List V}, RepAll K Z T H xs (qs.map pairD) → (∀ q ∈ qs, isKey q.1 = true) →
    ∃ (ps : List Addr) (kvs : List (Key × V)), xs = ps.map V.ref ∧ Paired (fun p kv => SqT K H p [kV kv.1, kv.2]) ps kvs ∧ RepKV K Z T H kvs qs
  | [], _, r, _ => by
    cases r
    exact ⟨[], [], rfl, .nil, .nil⟩
  | q :: qs, _, r, h => by
    rw [List.map_cons] at r
    cases r with
    | cons a b =>
      obtain ⟨ps, kvs, rfl, h1, h2⟩ := rep_pairs b fun z hz => h z (List.mem_cons_of_mem _ hz)
      obtain ⟨p, ys, rfl, rd, ra⟩ := (show RepT K Z T H _ (.tuple [q.1, q.2]) from .inl a).tuple
      obtain ⟨x, y, rfl, r1, r2⟩ := rep2 ra
      obtain ⟨k, e1, e2⟩ := key_of (show RepT K Z T H _ _ from .inl r1) (h q List.mem_cons_self)
      subst e1
      refine ⟨p :: ps, (k, y) :: kvs, rfl, .cons (.inl rd) h1, ?_⟩
      rw [show q = (keyD k, q.2) from by rw [← e2]]
      exact .cons r2 h2
theorem pairs_at {pins : List (Addr × Obj)} {σ : St} {H : Hp} {s : Shared} (I : Inv X pins σ H s) : ∀ {ps : List Addr} {kvs : List (Key × V)}, Paired (fun p kv => SqT X.K H p [kV kv.1, kv.2]) ps kvs →
    ∃ (prs : List (Key × Value)) (ws : List (Value × Value)), KV kvs prs ∧ prs.length = ps.length ∧ ws.length = ps.length ∧ ∀ (j : Nat) (u v : Value), ws[j]? = some (u, v) → ∃ (k : Key) (b : Addr), prs[j]? = some (k, v) ∧ keyIs k u = true ∧ ps[j]? = some b ∧ s.heap.IsTuple b #[u, v]
  | _, _, .nil => ⟨[], [], .nil, rfl, rfl, fun j u v e => by simp at e⟩
  | _, _, .cons (a := p) (b := kv) hy tz => by
    obtain ⟨prs, ws, r, l1, l2, hp⟩ := pairs_at I tz
    obtain ⟨itsz, rvz, htz, _⟩ := I.tuple hy
    obtain ⟨u, y, rfl, ru, ry⟩ := vals2 rvz
    refine ⟨(kv.1, y) :: prs, (u, y) :: ws, .cons ⟨rfl, ry⟩ r, by simp [l1], by simp [l2], fun j u' v' e => ?_⟩
    cases j with
    | zero =>
      simp at e
      obtain ⟨rfl, rfl⟩ := e
      exact ⟨kv.1, p, rfl, kV_is (P := X.prog) (w := X.w) ru, rfl, htz⟩
    | succ j =>
      obtain ⟨k, b, e1, e2, e3, e4⟩ := hp j u' v' (by simpa using e)
      exact ⟨k, b, by simpa using e1, e2, by simpa using e3, e4⟩
theorem call_dictPT (hc : X.calm = true) : CallR X (.type "dict") (fun xs H Q => ∃ (a : Addr) (o : Obj) (ps : List Addr) (kvs : List (Key × V)), xs = [.ref a] ∧ H a = some (.frz o (.tup (ps.map V.ref))) ∧ o.dict = none ∧ Paired (fun p kv => SqT X.K H p [kV kv.1, kv.2]) ps kvs ∧ ∀ p, H p = none → Q (.ref p) (upd H p (.dK (mergeK [] kvs)))) := by
  rintro pins sz σ H xs us Q Iz r ⟨a, o, ps, kvs, rfl, ha, hd, hp, q⟩
  rw [Vals.ref1 r]
  obtain ⟨ho, hz, its, rv, o', ho', hcl, n, hdat⟩ := (show sz.heap.get? a = some o ∧ ObjOk X.prog X.w H sz.heap a (.tup (ps.map V.ref)) from Iz.hok a _ ha)
  rw [ho] at ho'
  cases ho'
  have ei := refs_at rv
  subst ei
  rw [List.length_map] at hz
  obtain ⟨prs, ws, rel, l1, l2, hw⟩ := pairs_at Iz hp
  have P := PairArg.tuple (prog := X.prog) (w := X.w) a (ps.map Value.ref).toArray (fun j => ps.getD j 0) ws
  refine PySem.call_dict_pairs (knd := mixKind X.prog X.w) (kvs := prs) P (Iz.ok.hd hc) ⟨⟨o, n, ho, hcl, hd, hdat⟩, by simp [l2], fun j u v e => ?_⟩ ⟨by rw [l1, l2], fun j u v e => ?_⟩ (by omega) fun h' tk hd' kp => ?_
  · obtain ⟨k, b, e1, e2, e3, e4⟩ := hw j u v e
    refine ⟨by simp [e3], .inl ?_⟩
    show sz.heap.IsTuple (ps.getD j 0) _
    rw [List.getD_eq_getElem?_getD, e3]
    exact e4
  · obtain ⟨k, b, e1, e2, _⟩ := hw j u v e
    exact ⟨k, e1, e2⟩
  · have hmz : (sz.heap.objs.size == sysModules) = false := beq_eq_false_iff_ne.mpr (Nat.ne_of_gt Iz.big)
    have hnz : H sz.heap.objs.size = none := Iz.hok.fresh (Nat.le_refl _)
    refine ⟨.ref sz.heap.objs.size, upd H sz.heap.objs.size (.dK (mergeK [] kvs)), Iz.laid (t' := tk) (fun b u e => kp b u (by simp) e) (Nat.le_refl _) ⟨?_, hmz, _, KV.merge rel .nil, hd'⟩, rfl, q _ hnz⟩
    have := length_mergeK kvs []
    have := KV.length rel
    simp at *
    omega
def oDictP : OC
  | [.list ds], Q => ∃ qs : List (PyData × PyData), ds = qs.map pairD ∧ (∀ q ∈ qs, isKey q.1 = true) ∧ Q (.dict (mergeD [] qs))
  | [.tuple ds], Q => ∃ qs : List (PyData × PyData), ds = qs.map pairD ∧ (∀ q ∈ qs, isKey q.1 = true) ∧ Q (.dict (mergeD [] qs))
  | _, _ => False
theorem c_dictP (hc : X.calm = true) : CallF X (.type "dict") oDictP := callF_of ((call_dictP hc).or (call_dictPT hc)) fun xs H Q ⟨Z, T, ds, Qd, al, r, o, k⟩ => by
  unfold oDictP at o
  split at o
  · obtain ⟨qs, rfl, hk, o⟩ := o
    obtain ⟨x, rfl, rr⟩ := ts1 r
    obtain ⟨a, ys, rfl, s, ra⟩ := rr.list
    obtain ⟨ps, kvs, rfl, h1, h2⟩ := rep_pairs ra hk
    exact .inl ⟨a, ps, kvs, rfl, .of s, h1, fun p hp => k p _ _ (.new hp) hp (.inr ⟨_, _, rfl, upd_same, (merge_of h2 .nil).avoid hp⟩) o⟩
  · obtain ⟨qs, rfl, hk, o⟩ := o
    obtain ⟨x, rfl, rr⟩ := ts1 r
    obtain ⟨a, ob, ys, rfl, s, hd, ra⟩ := rr.tupleF
    obtain ⟨ps, kvs, rfl, h1, h2⟩ := rep_pairs ra hk
    exact .inr ⟨a, ob, ps, kvs, rfl, s, hd, h1, fun p hp => k p _ _ (.new hp) hp (.inr ⟨_, _, rfl, upd_same, (merge_of h2 .nil).avoid hp⟩) o⟩
  · exact o.elim
end
end L2.DL
end

section
/-! The data layer 16: max(xs, key=lambda x: ..). -/
namespace L2.DL
open PySem PySem.Spec PySem.Calls PyProof.Rows L2
variable [TabsOf]

/-- one parameter; captured names and globals besides -/
structure LamP (sc scope : Scope) (x : Str) : Prop where
  kind : scope.kind = .function
  co : (scope.isCoroutine) = false
  gen : (scope.isGenerator) = false
  par : scope.names.lookup x = some .local
  own : ∀ y ∈ scope.names, y.2 ≠ .cell ∧ (y.2 = .local → y.1 = x)
  free : (∀ y ∈ scope.names, y.2 = .free → sc.names.lookup y.1 = some .cell ∨ sc.names.lookup y.1 = some .free)
def lamPB (sc scope : Scope) (x : Str) : Bool :=
  decide (scope.kind = .function) && !scope.isCoroutine && !scope.isGenerator && decide (scope.names.lookup x = some .local) && (scope.names.all fun y => !decide (y.2 = .cell) && (!decide (y.2 = .local) || decide (y.1 = x)) && (!decide (y.2 = .free) || (decide (sc.names.lookup y.1 = some .cell) || decide (sc.names.lookup y.1 = some .free))))
theorem lamP_by {sc scope : Scope} {x : Str} (h : lamPB sc scope x = true) : LamP sc scope x := by
  unfold lamPB at h
  simp only [Bool.or_eq_true, Bool.not_eq_true', decide_eq_true_eq, decide_eq_false_iff_not, List.all_eq_true, Bool.and_eq_true] at h
  obtain ⟨⟨⟨⟨h1, h2⟩, h3⟩, h4⟩, h5⟩ := h
  refine ⟨h1, h2, h3, h4, fun y hy => ⟨(h5 y hy).1.1, fun e => (h5 y hy).1.2.elim (fun z => absurd e z) id⟩, fun y hy e => (h5 y hy).2.elim (fun z => absurd e z) id⟩
/-- the context of the key's body -/
def keyCx (X : Cx) (A : Around) (s : Shared) (H : Hp) (scope : Scope) (f c' : Addr) : Cx where
  prog := X.prog
  w := X.w
  K := X.K
  mg := X.mg
  base := X.base
  A := A.deeper (LamX.lamEnv X scope s.heap.objs.size f c')
  N := X.N
  s_0 := s
  H_0 := H
  env := LamX.lamEnv X scope s.heap.objs.size f c'
  outer := X.stack
  stack := LamX.lamEnv X scope s.heap.objs.size f c' :: X.stack
  ex := []
  fn := fun _ => false
  calm := true
  pn := []
  xe := fun _ _ => False
section
variable {X : Cx} {pins : List (Addr × Obj)} {σ : St} {H : Hp} {s : Shared} {scope : Scope} {x : Str} {j : Nat} {A : Around} {v : V} {u : Value} {f c' : Addr}
theorem LamP.has (L : LamP X.env.scope scope x) (ok : X.Ok) : ∀ y ∈ scope.names, y.2 = .free → ∃ c, X.env.cells.lookup y.1 = some c := fun y hy e => ok.has _ (L.free y hy e)
theorem key_start {h₁ : Heap} {tk : Nat} (L : LamP X.env.scope scope x) (hN : X.N.Nodup) (hj : X.N[j]? = some x) (I : Inv X pins σ H s) (hd : A.handled = none) (hf : A.frames = some X.stack) (r : RelV v u) (hns : h₁.Ns s.heap.objs.size fun y => [(x, u)].reverse.lookup y)
    (kp : ∀ b o, s.heap.get? b = some o → h₁.get? b = some o) : Inv (keyCx X A s H scope f c') [] (σ.set j (some v)) H { s with heap := h₁, toks := tk } := by
  have e0 := I.env0
  have hfreez := L.has I.ok
  have jl : j < σ.length := by rw [I.len]; exact (List.getElem?_eq_some_iff.mp hj).1
  have cmz : ∀ {y cz}, (cloFrom X.env.cells scope.names []).lookup y = some cz → X.env.cells.lookup y = some cz := fun {y cz} ez => by
    rcases cloFrom_mem (PySem.mem_of_lookup ez) with hmz | ⟨h1z, h2z⟩
    · cases hmz
    · obtain ⟨c1z, hcz⟩ := hfreez _ h1z rfl
      have hc' : X.env.cells.lookup y = some c1z := hcz
      have : cz = c1z := by rw [h2z, hc']; rfl
      rw [this]; exact hc'
  have look : ∀ {y}, scope.names.lookup y = some .free → ∃ cz, (cloFrom X.env.cells scope.names []).lookup y = some cz := fun {y} hl => mem_lookup (cloFrom_has (cells := X.env.cells) (acc := []) (PySem.mem_of_lookup hl))
  have ck : ∀ {cz : Addr} {zz : Option Value}, s.heap.IsCell cz zz → h₁.IsCell cz zz := fun ⟨o, ho, hdd⟩ => ⟨o, kp _ _ ho, hdd⟩
  have nx : ∀ b : Addr, b ∉ (keyCx X A s H scope f c').ex := fun b zz => by
    have z' : b ∈ ([] : List Addr) := zz
    simp at z'
  exact {
    ok := {
      mod := e0.mod
      kind := L.kind
      glob := rfl
      blt := rfl
      above := Nat.le_refl _
      inj := fun y zz cz e1 e2 => I.ok.inj y zz cz (cmz e1) (cmz e2)
      has := fun y hy => by
        rcases hy with hy | hy
        · exact absurd rfl (L.own _ (PySem.mem_of_lookup hy)).1
        · exact look hy
      cab := fun y cz zz => by cases (show false = true from zz)
      hd := fun _ => hd
      frames := Around.frames_deeper hf
      stk := .inr ⟨rfl, rfl⟩
      exf := fun b zz => absurd zz (nx b)
      bs := e0.bs
      bsz := e0.bsz
      noex := fun b _ _ => nx b
      exfs := fun b zz => absurd zz (nx b)
      funs := e0.funs
      frf := e0.frf }
    os := rfl
    bare := e0.bare
    base := Un.kept kp
    loc := by
      refine ⟨_, hns, fun i y w e1 e2 e3 => ?_⟩
      by_cases hy : y = x
      · subst hy
        have hij : i = j := nodup_ix hN e1 hj
        subst hij
        rw [List.getElem?_set_self jl] at e2
        cases e2
        refine ⟨u, r, .inl ⟨L.par, ?_⟩⟩
        simp [List.lookup]
      · have hij : j ≠ i := fun ez => hy (by
          have e1' : X.N[j]? = some y := by rw [ez]; exact e1
          rw [e1'] at hj; exact Option.some.inj hj)
        rw [List.getElem?_set_ne hij] at e2
        have kfree : scope.names.lookup y = some .free := by
          rcases e3 with kz | kz | kz
          · exact absurd ((L.own _ (PySem.mem_of_lookup kz)).2 rfl) hy
          · exact absurd rfl (L.own _ (PySem.mem_of_lookup kz)).1
          · exact kz
        obtain ⟨m, hn, hl⟩ := I.loc
        have hvis : Vis X.env.scope y := (L.free _ (PySem.mem_of_lookup kfree) rfl).elim (fun kz => .inr (.inl kz)) fun kz => .inr (.inr kz)
        obtain ⟨w', rw', qz⟩ := hl i y w e1 e2 hvis
        obtain ⟨c2, h2z⟩ := look kfree
        refine ⟨w', rw', .inr ⟨.inr kfree, c2, h2z, ?_⟩⟩
        have c1z := cmz h2z
        rcases qz with ⟨kz', _⟩ | ⟨_, c3z, ez', zz⟩
        · have k'' : X.env.scope.names.lookup y = some .local := kz'
          rcases L.free _ (PySem.mem_of_lookup kfree) rfl with k2 | k2 <;> rw [show X.env.scope.names.lookup y = _ from k2] at k'' <;> cases k''
        · rw [c1z] at ez'
          cases ez'
          exact ck zz
    cell := fun y cz ez => let ⟨w', zz⟩ := I.cell y cz (cmz ez); ⟨w', ck zz⟩
    free := e0.hok.fresh (Nat.le_refl _)
    freeC := fun y cz ez => I.freeC y cz (cmz ez)
    pin := fun qz hq => by
      have hq' : qz ∈ ([] : List (Addr × Obj)) := hq
      simp at hq'
    hok := e0.hok.kept kp
    len := by rw [List.length_set]; exact I.len }
/-- the key is called -/
theorem key_run {params : Arguments} {body : Expr} {pm ctv : Value} {k : Nat} {tb : TE} {Q : VK} (L : LamP X.env.scope scope x) (hN : X.N.Nodup) (hj : X.N[j]? = some x) (I : Inv X pins σ H s) (hr : Room (k + 1) A) (hf : A.frames = some X.stack)
    (hfo : s.heap.get? f = some (PySem.W.kla_obj "<lambda>" (X.env.qual ++ "<lambda>") params body scope (cloFrom X.env.cells scope.names []) pm c' ctv)) (hc : H c' = some (LamX.CodeO c' (X.env.qual ++ "<lambda>")))
    (hbind : ∀ u, bindArgs (PySem.W.kla_fn "<lambda>" (X.env.qual ++ "<lambda>") params body scope (cloFrom X.env.cells scope.names []) pm (.ref c') ctv) ⟨[u], []⟩ = pure [(x, u)])
    (hbody : PE (keyCx X A s H scope f c') body tb) (r : RelV v u) (q : tb (σ.set j (some v)) H Q) : wpAny (model X.prog X.w) A (call (.ref f) [u]) (EP X pins σ Q) (fun _ _ => False) s := by
  obtain ⟨⟨oc, vs, t, hoc, hdc, hvc⟩, _, _⟩ := I.hok c' _ hc
  refine wpAny_call (codeAny_mono (R := fun r s' => CR CX0 X.stack X.prog X.w H s Q E0 r s') ?_ fun r s' hq => ?_)
  · refine PySem.W.kla_callFunE (by have := hr.dp; omega) hfo rfl L.co L.gen rfl ⟨c', oc, vs, t, rfl, hoc, hdc, hvc⟩ ?_
    rw [hbind]
    refine wpAny_pure (wpAny_newFunctionEnv (fun y hy => (L.own y hy).1) (fun y hy => ?_) (fun h₁ hns hsb => ⟨I.nolimit.fresh _ hsb, ?_⟩) L.kind)
    · rw [List.mem_singleton.mp hy]; exact L.par
    · have kp : ∀ b o, s.heap.get? b = some o → h₁.get? b = some o := fun b o e => hsb.extBut b o (Nat.ne_of_lt (Heap.lt_size e)) (Heap.get?_push_of_some _ e)
      have J : Inv (keyCx X A s H scope f c') [] (σ.set j (some v)) H { s with heap := h₁, toks := s.toks + 1 } := key_start L hN hj I hr.hd hf r hns kp
      refine PySem.W.kla_codeExpr (wpAny_mono (hbody.run [] _ _ H Q J q) (fun w s' hq => ?_) fun e s' hq => hq.elim)
      obtain ⟨w', H', J', rv, q'⟩ := hq
      exact ⟨w', H', J'.os, J'.bare, J'.base, J'.hok, rv, q'⟩
  · cases r with
    | error e => exact hq.elim
    | ok fl =>
      cases fl with
      | ret z => exact I.after hq
      | next => exact False.elim hq
      | brk => exact False.elim hq
      | cont => exact False.elim hq
end

/-! ### the loop of max -/
/-- the key, the best so far, the iterator: ours alone -/
abbrev Kst (X : Cx) (pins : List (Addr × Obj)) (σ : St) (H : Hp) (f S it : Addr) (fo so io : Obj) (s : Shared) : Prop := Inv X (pins ++ [(f, fo), (S, so), (it, io)]) σ H s
structure Own1 (X : Cx) (pins : List (Addr × Obj)) (b : Addr) : Prop where
  loc : b ≠ X.env.locals
  new : b ∈ X.ex ∨ X.s_0.heap.objs.size ≤ b
  cel : ∀ x c, X.env.cells.lookup x = some c → c ≠ b
  pin : ∀ p ∈ X.pn ++ pins, p.1 ≠ b
section
variable {X : Cx} {pins : List (Addr × Obj)} {σ : St} {H : Hp} {s : Shared} {f S it l : Addr} {fo so io : Obj} {h' : Heap}
theorem Kst.at3 (I : Kst X pins σ H f S it fo so io s) : (s.heap.get? f = some fo ∧ H f = none) ∧ (s.heap.get? S = some so ∧ H S = none) ∧ s.heap.get? it = some io ∧ H it = none := by
  have m := fun p (hp : p ∈ [(f, fo), (S, so), (it, io)]) => I.pin p (List.mem_append_right _ (List.mem_append_right _ hp))
  have a := m (f, fo) (by simp)
  have b := m (S, so) (by simp)
  have c := m (it, io) (by simp)
  exact ⟨⟨a.1, a.2.1⟩, ⟨b.1, b.2.1⟩, c.1, c.2.1⟩
theorem Kst.pokeI {io' : Obj} {t' : Nat} (I : Kst X pins σ H f S it fo so io s) (o : Own1 X pins it) (n1 : f ≠ it) (n2 : S ≠ it) (k : ∀ b u, b ≠ it → s.heap.get? b = some u → h'.get? b = some u) (e : h'.get? it = some io') (nc : ∀ v, io'.data ≠ .cell v) :
    Kst X pins σ H f S it fo so io' { s with heap := h', toks := t' } := by
  have I1 := (Inv.unpinned I).turned (t' := t') k I.at3.2.2.2 o.loc o.new o.cel o.pin
  refine I1.pins_of fun pz hpz => ?_
  rcases List.mem_append.mp hpz with hpz | hpz
  · exact I1.pin pz (List.mem_append_right _ hpz)
  · have q := fun pz (hpz : pz ∈ [(f, fo), (S, so), (it, io)]) => I.pin pz (List.mem_append_right _ (List.mem_append_right _ hpz))
    simp only [List.mem_cons, List.not_mem_nil, or_false] at hpz
    rcases hpz with rfl | rfl | rfl
    · have z := q (f, fo) (by simp)
      exact ⟨k _ _ n1 z.1, z.2⟩
    · have z := q (S, so) (by simp)
      exact ⟨k _ _ n2 z.1, z.2⟩
    · have z := q (it, io) (by simp)
      exact ⟨e, z.2.1, z.2.2.1, z.2.2.2.1, nc⟩
theorem Kst.pokeS {so' : Obj} {t' : Nat} (I : Kst X pins σ H f S it fo so io s) (o : Own1 X pins S) (n1 : f ≠ S) (n2 : S ≠ it) (k : ∀ b u, b ≠ S → s.heap.get? b = some u → h'.get? b = some u) (e : h'.get? S = some so') (nc : ∀ v, so'.data ≠ .cell v) :
    Kst X pins σ H f S it fo so' io { s with heap := h', toks := t' } := by
  have I1 := (Inv.unpinned I).turned (t' := t') k I.at3.2.1.2 o.loc o.new o.cel o.pin
  refine I1.pins_of fun pz hpz => ?_
  rcases List.mem_append.mp hpz with hpz | hpz
  · exact I1.pin pz (List.mem_append_right _ hpz)
  · have q := fun pz (hpz : pz ∈ [(f, fo), (S, so), (it, io)]) => I.pin pz (List.mem_append_right _ (List.mem_append_right _ hpz))
    simp only [List.mem_cons, List.not_mem_nil, or_false] at hpz
    rcases hpz with rfl | rfl | rfl
    · have z := q (f, fo) (by simp)
      exact ⟨k _ _ n1 z.1, z.2⟩
    · have z := q (S, so) (by simp)
      exact ⟨e, z.2.1, z.2.2.1, z.2.2.2.1, nc⟩
    · have z := q (it, io) (by simp)
      exact ⟨k _ _ (Ne.symm n2) z.1, z.2⟩
/-- one turn of the key -/
def KTurn (X : Cx) (pins : List (Addr × Obj)) (σ : St) (f S it : Addr) (fo : Obj) (c : Ct) (O : Own) (n : Nat) (env : List Sl) (c' : Addr) (q : HO) (ds : List PyData) (kf : Nat → Int) : Prop :=
  ∀ (i : Nat) (d : PyData) (s : Shared) (H : Hp) (so io : Obj) (v : V) (u : Value), ds[i]? = some d → Kst X pins σ H f S it fo so io s → EnvOk X.K c O n H σ env → H c' = some q → RelV v u → Rep X.K (c.av O) c.T H v d →
    wpAny (model X.prog X.w) X.A.in1 (call (.ref f) [u]) (fun w s' => ∃ (H' : Hp) (t : Tok), w = .int (kf i) t ∧ Kst X pins σ H' f S it fo so io s' ∧ Ext c.T H H' ∧ TubOk c.T n H') (fun _ _ => False) s
theorem item_at {K : PySem.W.Frag} {Z : Addr → Prop} {T : Tb} {ds : List PyData} {i : Nat} {d : PyData} {v : V} (r : RepT K Z T H v (.list ds)) (h : ds[i]? = some d) : ∃ a xs x, v = .ref a ∧ H a = some (.lst xs) ∧ xs[i]? = some x ∧ Rep K Z T H x d ∧ xs.length = ds.length := by
  obtain ⟨a, xs, e, hx, ra⟩ := r.list
  obtain ⟨x, e1, e2⟩ := ra.get h
  exact ⟨a, xs, x, e, hx, e1, e2, ra.length⟩
structure Best (kf : Nat → Int) (i m : Nat) : Prop where
  lt : i ≤ m
  up : ∀ j, j ≤ m → kf j ≤ kf i ∧ (j < i → kf j < kf i)
theorem Best.stay {kf : Nat → Int} {i m : Nat} (b : Best kf i m) (h : ¬ kf (m + 1) > kf i) : Best kf i (m + 1) := ⟨Nat.le_succ_of_le b.lt, fun j hj => by
  by_cases e : j = m + 1
  · subst e; exact ⟨by omega, fun w => by have := b.lt; omega⟩
  · exact b.up j (by omega)⟩
theorem Best.new {kf : Nat → Int} {i m : Nat} (b : Best kf i m) (h : kf (m + 1) > kf i) : Best kf (m + 1) (m + 1) := ⟨Nat.le_refl _, fun j hj => by
  by_cases e : j = m + 1
  · subst e; exact ⟨Int.le_refl _, fun w => absurd w (Nat.lt_irrefl _)⟩
  · have := (b.up j (by omega)).1
    exact ⟨by omega, fun _ => by omega⟩⟩
theorem max_go {Hs : Hp} {c : Ct} {O : Own} {n : Nat} {env : List Sl} {c' : Addr} {q : HO} {ds : List PyData} {kf : Nat → Int} {R : Result → Shared → Prop} (hc : X.calm = true) (oS : Own1 X pins S) (oI : Own1 X pins it) (n1 : f ≠ S) (n2 : f ≠ it) (n3 : S ≠ it) (ntT : c.T.u ≠ some c') (nq : NT q)
    (turn : KTurn X pins σ f S it fo c O n env c' q ds kf)
    (hR : ∀ (i : Nat) (d : PyData) (s : Shared) (H : Hp) (xb : V) (vb : Value), ds[i]? = some d → Best kf i (ds.length - 1) → Inv X pins σ H s → EnvOk X.K c O n H σ env → Ext c.T Hs H → RelV xb vb → Rep X.K (c.av O) c.T H xb d → R (.ok (.ret vb)) s) :
    ∀ (r j i : Nat) (s : Shared) (H : Hp) (xb : V) (vb : Value) (tb : Tok) (e : Nat) (d : PyData) (io : Obj), ds.length - (j + 1) = r → j + 1 ≤ ds.length → Kst X pins σ H f S it fo (seqObj "list" #[vb, .int (kf i) tb] e) io s → s.heap.IsListIter it l (j + 1) → EnvOk X.K c O n H σ env → Ext c.T Hs H → H c' = some q →
      RepT X.K (c.av O) c.T H (.ref l) (.list ds) → ds[i]? = some d → Best kf i j → RelV xb vb → Rep X.K (c.av O) c.T H xb d → codeAny (model X.prog X.w) X.A (.builtin "max.loop" ⟨[.ref it, .ref f, .ref S], []⟩) R s := by
  have hnamez : (toString "max" ++ toString ".loop" : String) = "max.loop" := by decide
  intro r
  induction r with
  | zero =>
    intro j i s H xb vb tb e d io hr hj I hit E x0 hcq rl hd b rb rd
    have hin : j + 1 = ds.length := by omega
    obtain ⟨a, xs, _, e1, hx, _, _, ln⟩ := item_at rl hd
    cases e1
    obtain ⟨its, rv, pl, hz⟩ := I.list (.of hx)
    have lv := rv.length
    have at3 := I.at3
    refine (codeAny_builtin PySem.F.entry_max_loop ?_)
    rw [(Around.under_plainId PySem.F.plain_max_loop _)]
    show wpAny _ X.A.in1 (seqItems? (.ref S) >>= _) _ _ _
    refine wpAny_bind (wpAny_seqItems at3.2.1.1 rfl ?_)
    show wpAny _ X.A.in1 (tryCatch (pyNext (.ref it)) _ >>= _) _ _ _
    refine wpAny_bind (wpAny_tryCatch (wpAny_pyNext_list_end (I.ok.hd hc) hit pl.isList (by simp; omega) fun h1 eb => ?_))
    have hS1 : h1.get? S = some (seqObj "list" #[vb, .int (kf i) tb] e) := eb S _ n3 at3.2.1.1
    have sb := Heap.SameBut.update h1 S (Obj.mapSeq fun _ => (#[] : Array Value))
    show wpAny _ X.A.in1 (updateSeq S (fun _ => #[]) >>= _) _ _ _
    refine wpAny_bind ?_
    refine wpAny_updateSeq hS1 rfl (wpAny_bind (wpAny_letGo (wpAny_pure ?_)))
    have J1 : Inv X pins σ H { s with heap := h1 } := (Inv.unpinned I).turned (t' := s.toks) (fun b o hb q => eb b o hb q) at3.2.2.2 oI.loc oI.new oI.cel oI.pin
    have J2 := J1.turned (t' := s.toks) (fun b o hb q => (sb.2 b hb).trans q) at3.2.1.2 oS.loc oS.new oS.cel oS.pin
    refine hR i d _ H xb vb hd ?_ J2 E x0 rb rd
    rw [show ds.length - 1 = j by omega]
    exact b
  | succ r ih =>
    intro j i s H xb vb tb e d io hr hj I hit E x0 hcq rl hd b rb rd
    have hlt : j + 1 < ds.length := by omega
    obtain ⟨a, xs, x, e1, hx, gx, rx, ln⟩ := item_at rl (List.getElem?_eq_getElem hlt)
    cases e1
    obtain ⟨its, rv, pl, hz⟩ := I.list (.of hx)
    obtain ⟨u, hu, ru⟩ := rv.get gx
    have at3 := I.at3
    refine (codeAny_builtin PySem.F.entry_max_loop ?_)
    rw [(Around.under_plainId PySem.F.plain_max_loop _)]
    show wpAny _ X.A.in1 (seqItems? (.ref S) >>= _) _ _ _
    refine wpAny_bind (wpAny_seqItems at3.2.1.1 rfl ?_)
    show wpAny _ X.A.in1 (tryCatch (pyNext (.ref it)) _ >>= _) _ _ _
    refine wpAny_bind (wpAny_tryCatch (wpAny_pyNext_list_item hit pl.isList (x := u) (by simpa using hu) fun h1 hit1 sb1 => ?_))
    obtain ⟨io1, g1, g2, g3⟩ := id hit1
    have I1 : Kst X pins σ H f S it fo (seqObj "list" #[vb, .int (kf i) tb] e) io1 { s with heap := h1 } := Kst.pokeI (t' := s.toks) I oI n2 n3 (fun b o hb q => (sb1.2 b hb).trans q) g1 (fun v z => by rw [g3] at z; cases z)
    show wpAny _ X.A.in1 (tryCatch (holding [u] (call (.ref f) [u])) _ >>= _) _ _ _
    refine wpAny_bind (wpAny_tryCatch (wpAny_holding (wpAny_mono (turn (j + 1) _ _ H _ _ x u (List.getElem?_eq_getElem hlt) I1 E hcq ru rx) ?_ fun _ _ hF => hF.elim)))
    rintro w s2 ⟨H2, t2, rfl, I2, x2, tu2⟩
    have E2 := E.extend x2 tu2
    have rl2 := rl.ext E.atz x2
    have rx2 := rx.ext E.atz x2
    have rd2 := rd.ext E.atz x2
    have hcq2 : H2 c' = some q := x2.kp _ _ ntT nq hcq
    have at2 := Kst.at3 I2
    have hit2 : s2.heap.IsListIter it l (j + 1 + 1) := ⟨io1, at2.2.2.1, g2, g3⟩
    show wpAny _ X.A.in1 (tryCatch (holding [u, .int (kf (j + 1)) t2] (richCompare .Gt (.int (kf (j + 1)) t2) (.int (kf i) tb) >>= _)) _ >>= _) _ _ _
    refine wpAny_bind (wpAny_tryCatch (wpAny_holding (wpAny_bind (CmpOf.ints_gt (prog := X.prog) (w := X.w) (A := X.A.in1) (P := fun i v => ∃ t, v = .int (kf i) t) kf (fun i v h => h) (j + 1) i _ _ _ _ _ ⟨t2, rfl⟩ ⟨tb, rfl⟩ ?_))))
    refine (wpAny_bind (wpAny_holding (wpAny_truthy_bool ?_)))
    refine (wpAny_bind (wpAny_letGo (wpAny_pure ?_)))
    by_cases hb : kf (j + 1) > kf i
    · have sb := Heap.SameBut.update s2.heap S (Obj.mapSeq fun _ => #[u, .int (kf (j + 1)) t2])
      obtain ⟨e2, he2⟩ : ∃ e2, (s2.heap.update S (Obj.mapSeq fun _ => #[u, .int (kf (j + 1)) t2])).get? S = some (seqObj "list" #[u, .int (kf (j + 1)) t2] e2) := ⟨_, get?_update_seq at2.2.1.1 fun _ => #[u, .int (kf (j + 1)) t2]⟩
      simp only [hb, decide_true, if_true]
      refine wpAny_bind ?_
      refine wpAny_updateSeq at2.2.1.1 rfl (wpAny_bind (wpAny_letGo ?_))
      rw [hnamez]
      have I4 := Kst.pokeS (t' := s2.toks) I2 oS n1 n3 (fun b o hb q => (sb.2 b hb).trans q) he2 (fun v z => by cases z)
      refine wpAny_pure ⟨plainId_quiet PySem.F.plain_max_loop _, ih (j + 1) (j + 1) _ H2 x u t2 e2 _ io1 (by omega) hlt I4 ⟨io1, (sb.2 it (Ne.symm n3)).trans at2.2.2.1, g2, g3⟩ E2 (x0.trans x2) hcq2 rl2 (List.getElem?_eq_getElem hlt) (b.new hb) ru rx2⟩
    · simp only [hb, decide_false, Bool.false_eq_true, if_false]
      refine (wpAny_bind (wpAny_letGo ?_))
      rw [hnamez]
      exact wpAny_pure ⟨plainId_quiet PySem.F.plain_max_loop _, ih (j + 1) i _ H2 xb vb tb e d io1 (by omega) hlt I2 hit2 E2 (x0.trans x2) hcq2 rl2 hd (b.stay hb) rb rd2⟩
end
end L2.DL
end

section
/-! The data layer 17: max(xs, key=lambda x: ..), the call. -/
namespace L2.DL
open PySem PySem.Spec PySem.Calls PyProof.Rows L2
variable [TabsOf]

section
variable {X : Cx} {pins : List (Addr × Obj)} {σ : St} {H : Hp} {s : Shared} {f l : Addr} {fo : Obj}
theorem own1_new (I : Inv X pins σ H s) {b : Addr} (hb : s.heap.objs.size ≤ b) : Own1 X pins b := by
  obtain ⟨_, h1, _, h2, h3, h4⟩ := I.fpOk hb (H' := H) (I.hok.fresh hb)
  exact ⟨h1, h2, h3, h4⟩
theorem nofs_new (I : Inv X pins σ H s) {b : Addr} (hb : s.heap.objs.size ≤ b) : b ∉ X.fs := I.nofs hb
theorem max_call {c : Ct} {O : Own} {n : Nat} {env : List Sl} {c' : Addr} {q : HO} {ds : List PyData} {kf : Nat → Int} {Q : VK} {E0 : Value → Shared → Prop} (hc : X.calm = true) (I : Inv X pins σ H s) (hf : s.heap.get? f = some fo) (fH : H f = none) (fL : f ≠ X.env.locals) (fF : f ∉ X.fs) (fC : ∀ v, fo.data ≠ .cell v)
    (ntT : c.T.u ≠ some c') (nq : NT q) (turn : ∀ S it, KTurn X pins σ f S it fo c O n env c' q ds kf) (E : EnvOk X.K c O n H σ env) (hcq : H c' = some q) (rl : RepT X.K (c.av O) c.T H (.ref l) (.list ds)) (hne : 0 < ds.length)
    (hQ : ∀ (i : Nat) (d : PyData) (H' : Hp) (v : V), ds[i]? = some d → Best kf i (ds.length - 1) → EnvOk X.K c O n H' σ env → Ext c.T H H' → Rep X.K (c.av O) c.T H' v d → Q v H') :
    wpAny (model X.prog X.w) X.A (call (.builtin "max") [.ref l] [(Str.ofString "key", .ref f)]) (EP X pins σ Q) E0 s := by
  have hnamez : (toString "max" ++ toString ".loop" : String) = "max.loop" := by decide
  obtain ⟨a, xs, x, e1, hx, gx, rx, ln⟩ := item_at rl (List.getElem?_eq_getElem hne)
  cases e1
  obtain ⟨its, rv, pl, hz⟩ := I.list (.of hx)
  obtain ⟨u, hu, ru⟩ := rv.get gx
  have fsz : f < s.heap.objs.size := Heap.lt_size hf
  have hSz : (s.heap.push { cls := .type "list_iterator", data := .fields #[.ref l, .int 0 0] }).objs.size = s.heap.objs.size + 1 := size_push' ..
  have gI : ((s.heap.push { cls := .type "list_iterator", data := .fields #[.ref l, .int 0 0] }).push (seqObj "list" #[] 0)).get? s.heap.objs.size = some { cls := .type "list_iterator", data := .fields #[.ref l, .int 0 0] } := Heap.get?_push_of_some _ (Heap.get?_push_size _ rfl)
  have gSz : ((s.heap.push { cls := .type "list_iterator", data := .fields #[.ref l, .int 0 0] }).push (seqObj "list" #[] 0)).get? (s.heap.objs.size + 1) = some (seqObj "list" #[] 0) := by
    rw [← hSz]; exact Heap.get?_push_size _ rfl
  have oI : Own1 X pins s.heap.objs.size := own1_new I (Nat.le_refl _)
  have oS : Own1 X pins (s.heap.objs.size + 1) := own1_new I (Nat.le_succ _)
  have n1 : f ≠ s.heap.objs.size + 1 := Nat.ne_of_lt (Nat.lt_succ_of_lt fsz)
  have n2 : f ≠ s.heap.objs.size := Nat.ne_of_lt fsz
  have n3 : s.heap.objs.size + 1 ≠ s.heap.objs.size := Nat.succ_ne_self _
  have kp : ∀ b o, s.heap.get? b = some o → ((s.heap.push { cls := .type "list_iterator", data := .fields #[.ref l, .int 0 0] }).push (seqObj "list" #[] 0)).get? b = some o := fun b o e => Heap.get?_push_of_some _ (Heap.get?_push_of_some _ e)
  have I2 : Inv X pins σ H { s with heap := (s.heap.push { cls := .type "list_iterator", data := .fields #[.ref l, .int 0 0] }).push (seqObj "list" #[] 0) } := I.kept (t' := s.toks) kp
  have K0 : Kst X pins σ H f (s.heap.objs.size + 1) s.heap.objs.size fo (seqObj "list" #[] 0) { cls := .type "list_iterator", data := .fields #[.ref l, .int 0 0] } { s with heap := (s.heap.push { cls := .type "list_iterator", data := .fields #[.ref l, .int 0 0] }).push (seqObj "list" #[] 0) } := by
    refine I2.pins_of fun p hpz => ?_
    rcases List.mem_append.mp hpz with hpz | hpz
    · exact I2.pin p (List.mem_append_right _ hpz)
    · simp only [List.mem_cons, List.not_mem_nil, or_false] at hpz
      rcases hpz with rfl | rfl | rfl
      · exact ⟨kp _ _ hf, fH, fL, fF, fC⟩
      · exact ⟨gSz, I.hok.fresh (Nat.le_succ _), oS.loc, nofs_new I (Nat.le_succ _), fun v z => by cases z⟩
      · exact ⟨gI, I.hok.fresh (Nat.le_refl _), oI.loc, nofs_new I (Nat.le_refl _), fun v z => by cases z⟩
  refine (kmk_tree PySem.F.kind_max PySem.F.plain_max PySem.F.entry_max (kmk_max_key _ _) ?_)
  show wpAny _ X.A.in1 (Builtin.Builtins.bindParams "max" ["key", "default"] 0 ⟨[], [(Str.ofString "key", .ref f)]⟩ >>= _) _ _ s
  refine wpAny_bind (wpAny_of_eq (show Builtin.Builtins.bindParams "max" ["key", "default"] 0 ⟨[], [(Str.ofString "key", .ref f)]⟩ = pure [some (.ref f), none] from rfl) ?_)
  refine (wpAny_bind (wpAny_pure ?_))
  refine wpAny_bind (wpAny_pyIter_list pl.isList ?_)
  refine (wpAny_bind (wpAny_newList ?_ (Nat.zero_le _)))
  rw [hnamez]
  refine (wpAny_pure ⟨plainId_quiet PySem.F.plain_max_loop _, ?_⟩)
  dsimp only [Option.getD]
  rw [hSz]
  refine (codeAny_builtin PySem.F.entry_max_loop ?_)
  rw [(Around.under_plainId PySem.F.plain_max_loop _)]
  show wpAny _ X.A.in1 (seqItems? (.ref (s.heap.objs.size + 1)) >>= _) _ _ _
  refine wpAny_bind (wpAny_seqItems gSz rfl ?_)
  show wpAny _ X.A.in1 (tryCatch (pyNext (.ref s.heap.objs.size)) _ >>= _) _ _ _
  have plI : ((s.heap.push { cls := .type "list_iterator", data := .fields #[.ref l, .int 0 0] }).push (seqObj "list" #[] 0)).IsList l its.toArray := let ⟨o, ho, r⟩ := pl.isList; ⟨o, kp _ _ ho, r⟩
  refine wpAny_bind (wpAny_tryCatch (wpAny_pyNext_list_item (x := u) ⟨_, gI, rfl, rfl⟩ plI (by simpa using hu) fun h1 hit1 sb1 => ?_))
  obtain ⟨io1, g1, g2, g3⟩ := id hit1
  have I1 := Kst.pokeI (t' := s.toks) K0 oI n2 n3 (fun b o hb q => (sb1.2 b hb).trans q) g1 (fun v z => by rw [g3] at z; cases z)
  show wpAny _ X.A.in1 (tryCatch (holding [u] (call (.ref f) [u])) _ >>= _) _ _ _
  refine wpAny_bind (wpAny_tryCatch (wpAny_holding (wpAny_mono (turn _ _ 0 _ _ H _ _ x u (List.getElem?_eq_getElem hne) I1 E hcq ru rx) ?_ fun _ _ hF => hF.elim)))
  rintro w s2 ⟨H2, t2, rfl, J2, x2, tu2⟩
  have E2 := E.extend x2 tu2
  have at2 := Kst.at3 J2
  have sb := Heap.SameBut.update s2.heap (s.heap.objs.size + 1) (Obj.mapSeq fun _ => #[u, .int (kf 0) t2])
  obtain ⟨e2, he2⟩ : ∃ e2, (s2.heap.update (s.heap.objs.size + 1) (Obj.mapSeq fun _ => #[u, .int (kf 0) t2])).get? (s.heap.objs.size + 1) = some (seqObj "list" #[u, .int (kf 0) t2] e2) := ⟨_, get?_update_seq at2.2.1.1 fun _ => #[u, .int (kf 0) t2]⟩
  show wpAny _ X.A.in1 (updateSeq (s.heap.objs.size + 1) (fun _ => #[u, .int (kf 0) t2]) >>= _) _ _ _
  refine wpAny_bind ?_
  refine wpAny_updateSeq at2.2.1.1 rfl ?_
  rw [hnamez]
  have J3 := Kst.pokeS (t' := s2.toks) J2 oS n1 n3 (fun b o hb q => (sb.2 b hb).trans q) he2 (fun v z => by cases z)
  refine wpAny_pure ⟨plainId_quiet PySem.F.plain_max_loop _, max_go (Hs := H) (l := l) hc oS oI n1 n2 n3 ntT nq (turn _ _) (fun i d s' H' xb vb hd hb J E' x0 rb rd => ?_) _ 0 0 _ H2 x u t2 e2 _ io1 rfl hne J3 ⟨io1, (sb.2 _ (Ne.symm n3)).trans at2.2.2.1, g2, g3⟩ E2 x2 (x2.kp _ _ ntT nq hcq) (rl.ext E.atz x2) (List.getElem?_eq_getElem hne) ⟨Nat.le_refl _, fun j hj => by
    have : j = 0 := by omega
    subst this
    exact ⟨Int.le_refl _, fun w => absurd w (Nat.lt_irrefl _)⟩⟩ ru (rx.ext E.atz x2)⟩
  exact ⟨xb, H', J, rb, hQ i d H' xb hd hb E' x0 rd⟩
end
/-- max(e, key=lambda x: body): the first of those whose key is the greatest -/
def gMaxK (j : Nat) (ge g : GE) : GE := fun env n Q => ge env n fun d n1 => match d with
  | .list ds => j < env.length ∧ 0 < ds.length ∧ ∃ kf : Nat → Int, (∀ i d, ds[i]? = some d → g (env.set j (.dat d)) n1 fun r n2 => r = .int (kf i) ∧ n2 = n1) ∧ ∀ i d, ds[i]? = some d → Best kf i (ds.length - 1) → Q d n1
  | _ => False
section
variable {X : Cx} {e body : Expr} {ge g : GE} {params : Arguments} {scope : Scope} {p pos kpos lpos : Pos} {c P : Addr} {x : Str} {j k : Nat}
theorem d_maxlam (hcalm : X.calm = true) (hr : Room (k + 2) X.A) (hN : X.N.Nodup) (hj : X.N[j]? = some x) (L : LamP X.env.scope scope x) (TB : LamX.TabB X.base X.mg c P) (hcode : X.env.code = .ref c) (hm : (P, X.env.qual ++ "<lambda>") ∈ TabsOf.tt) (hu : ∀ p ∈ TabsOf.tt, p.1 = P → p.2 = X.env.qual ++ "<lambda>")
    (hdef : defaultsOf params X.env = ([], []))
    (hbind : ∀ (u : Value) (q : Str) (cl : List (Str × Addr)) (pm cv ctv : Value), bindArgs (PySem.W.kla_fn "<lambda>" q params body scope cl pm cv ctv) ⟨[u], []⟩ = pure [(x, u)])
    (hg : Gl X "max") (hmx : X.mg "max" = none) (hv : bootBuiltins "max" = some (.builtin "max")) (he : DE X e ge)
    (hbody : ∀ (A : Around) (s : Shared) (H : Hp) (f c' : Addr), Room k (A.deeper (LamX.lamEnv X scope s.heap.objs.size f c')) → DE (keyCx X A s H scope f c') body g) (hs : starEach [e] X.env = (false, eval e X.env) :: starEach [] X.env := by rfl)
    (he' : backTo pos (starEach [e] X.env) = (false, eval e X.env) :: backTo pos (starEach [] X.env) := by rfl) (hpl : (backTo pos (starEach [e] X.env)).any (·.1) = false := by rfl)
    (hall : (backToKw pos (keywordEach [⟨some "key", .Lambda params body scope lpos, kpos⟩] X.env)).all (·.1.isSome) = true := by rfl) (hnone : (backToKw pos (keywordEach [⟨some "key", .Lambda params body scope lpos, kpos⟩] X.env)).any (·.1.isNone) = false := by rfl)
    (hks : (backToKw pos (keywordEach [⟨some "key", .Lambda params body scope lpos, kpos⟩] X.env)).filterMap (·.1) = [Str.ofString "key"] := by rfl) :
    DE X (.Call (.Name "max" p) [e] [⟨some "key", .Lambda params body scope lpos, kpos⟩] pos) (gMaxK j ge g) := by
  refine ⟨⟨fun pins s σ H Q I ⟨c0, O, n, env, Qd, E, hge, kk⟩ => ?_⟩⟩
  refine wpAny_Call_Name_kw (ld_blt I hg hmx hv ?_)
  refine PyProof.Rows.callWith_kw (thn ((pa_cons he.pe pa_nil hs).run pos pins s σ H (fun vs H1 => ∃ v d n1, vs = [v] ∧ Ext c0.T H H1 ∧ TubOk c0.T n1 H1 ∧ Rep X.K (c0.av O) c0.T H1 v d ∧ (match d with
    | .list ds => j < env.length ∧ 0 < ds.length ∧ ∃ kf : Nat → Int, (∀ i d, ds[i]? = some d → g (env.set j (.dat d)) n1 fun r n2 => r = .int (kf i) ∧ n2 = n1) ∧ ∀ i d, ds[i]? = some d → Best kf i (ds.length - 1) → Qd d n1
    | _ => False)) I ⟨c0, O, n, env, _, E, hge, fun v d H1 n1 x1 t1 r1 q1 => ⟨v, d, n1, rfl, x1, t1, r1, q1⟩⟩) ?_) he' hpl hall hnone
  rintro us s1 ⟨vs, H1, I1, rv, v, d, n1, rfl, x1, t1, r1, q1⟩
  have E1 := E.extend x1 t1
  cases d with
  | list ds =>
    obtain ⟨jl, hne, kf, hk, hQ⟩ := q1
    obtain ⟨l, xs, rfl, hl, ra⟩ := (show RepT X.K (c0.av O) c0.T H1 v (.list ds) from .inl r1).list
    rw [Vals.ref1 rv]
    show wpAny _ _ (evalAll ((do let v ← eval (.Lambda params body scope lpos) X.env; standAt pos; pure v) :: [])) _ _ s1
    refine wpAny_evalAll_cons (wpAny_bind (LamX.lam_make2 I1 TB hcode hm hu t1.tb hdef (L.has I1.ok) fun f c' pm ctv H2 s2 I2 eN T2 hf hfn hfr hco => wpAny_bind (wpAny_standAt (wpAny_pure ?_))))
    refine wpAny_evalAll_nil ?_
    rw [hks]
    have ntc : c0.T.u ≠ some c' := fun z => by
      obtain ⟨a1, a2, a3, a4, _⟩ := t1.go c' z
      have := eN _ _ a4 (fun _ h => by cases h)
      rw [hco] at this
      cases this
    have x2 : Ext c0.T H1 H2 := ⟨fun a o _ nt q => eN a o q nt⟩
    have tu2 : TubOk c0.T n1 H2 := ⟨fun a z => by
      obtain ⟨a1, a2, a3, a4, rest⟩ := t1.go a z
      exact ⟨a1, a2, a3, eN _ _ a4 (fun _ h => by cases h), rest⟩, T2⟩
    have E2 := E1.extend x2 tu2
    have fL : f ≠ X.env.locals := fun z => by
      obtain ⟨m, ⟨o, es, ep, ho, hx, _⟩, _⟩ := I2.loc
      rw [← z, hf] at ho
      cases ho
      cases hx
    have fF : f ∉ X.fs := fun z => hfr (by
      rcases I2.ok.stk with e | ⟨e, _⟩
      · rw [e]; exact z
      · rw [e]
        obtain ⟨b, hb, hb2⟩ := List.mem_filterMap.mp (show f ∈ X.outer.filterMap (·.frame) from z)
        exact List.mem_filterMap.mpr ⟨b, List.mem_cons_of_mem _ hb, hb2⟩)
    refine max_call (c := c0) (O := O) (n := n1) (env := env) (kf := kf) hcalm I2 hf hfn fL fF (fun v z => by cases z) ntc (fun _ z => by cases z) (fun S it i d s3 H3 so io v u hd K3 E3 hc3 ru rd => ?_) E2 hco ((show RepT X.K (c0.av O) c0.T H1 (.ref l) (.list ds) from .inl r1).ext E1.atz x2) hne fun i d H' v hd hb E' x' rd => kk v d H' n1 ((x1.trans x2).trans x') E'.tub rd (hQ i d hd hb)
    have at3 := Kst.at3 K3
    refine wpAny_mono (key_run (k := k) (Q := fun w H' => w = .int (kf i) ∧ Ext c0.T H3 H' ∧ TubOk c0.T n1 H') L hN hj K3 hr.in1 K3.ok.frames at3.1.1 hc3 (fun u => hbind u _ _ _ _ _) (hbody _ _ _ _ _ (hr.in1.deeper _)).pe ru ?_) (fun w s' ⟨y, H', J, ry, e, x5, t5⟩ => ?_) fun _ _ z => z
    · exact ⟨c0, O.clr j, n1, env.set j (.dat d), _, E3.setD jl rd, hk i d hd, fun v' d' H' n' x5 t5 r5 ⟨e1, e2⟩ => by
        subst e1 e2
        exact ⟨(show RepT X.K _ _ _ v' (.int (kf i)) from .inl r5).int, x5, t5⟩⟩
    · subst e
      obtain ⟨t, rfl⟩ := ry
      exact ⟨H', t, rfl, J, x5, t5⟩
  | _ => exact q1.elim
end
end L2.DL
end

section
/-! The data layer 18: what is left of the small rules. -/
namespace L2.DL
open PySem PySem.Spec PySem.Calls PyProof.Rows L2
variable [TabsOf]

section
variable {X : Cx} {st : Stmt} {e x o i tg iter : Expr} {pos : Pos}
/-- a statement that is never reached -/
def gNever : GS := fun _ _ _ => False
theorem s_never : DS X st gNever := ⟨⟨fun _ _ _ _ _ _ ⟨_, _, _, _, _, _, hg, _⟩ => hg.elim⟩⟩
theorem f_dict0 : DF X (.Dict [] [] pos) (gC (.dict [])) := ⟨pe_weak pe_dnewK fun σ H Q ⟨c, O, n, env, Qd, E, hg, k⟩ p hp =>
  k p _ _ n (Grow.new hp).ext (E.tub.grow (.new hp)) (new_none hp) (.inr ⟨[], [], rfl, upd_same, .nil⟩) hg⟩

/-! ### [(k, d[k]) for k in d], d a dict of a slot -/
def gSelf (i j : Nat) : GE := fun env n Q => match env[i]? with
  | some (.own (.dict ds)) => i ≠ j ∧ j < env.length ∧ ds.length ≤ sizeLine ∧ Q (.list (ds.map fun q => .tuple [q.1, (lookD ds q.1).getD .none])) n
  | _ => False
theorem RepKV.keys {K : PySem.W.Frag} {Z : Addr → Prop} {T : Tb} {H : Hp} : ∀ {kvs : List (Key × V)} {ds : List (PyData × PyData)}, RepKV K Z T H kvs ds → kvs.map (fun q => keyD q.1) = ds.map (·.1)
  | _, _, .nil => rfl
  | _, _, .cons a b => by rw [List.map_cons, List.map_cons, RepKV.keys b]
theorem val_there {kws : List (Key × V)} {i : Nat} {q : Key × V} (h : kws[i]? = some q) : ∃ v, valV kws q.1 = some v := by
  induction kws generalizing i with
  | nil => simp at h
  | cons p r ih =>
    by_cases e : p.1 = q.1
    · exact ⟨p.2, valV_pos e⟩
    · rw [valV_neg e]
      cases i with
      | zero =>
        simp at h
        subst h
        exact absurd rfl e
      | succ i => exact ih (by simpa using h)
theorem f_self {i j : Nat} {x y : Str} {scope : Scope} {kk : Nat} {p1 p2 p3 p4 p5 p6 p7 : Pos} (hc : X.calm = true) (hu : X.A.units + 1 < cLine) (hN : X.N.Nodup) (hi : X.N[i]? = some y) (hj : X.N[j]? = some x) (hvi : Vis X.env.scope y) (ok : BlkOk X.N X.env.scope scope [(x, j)])
    (hvi' : ∀ (s : Shared) (H : Hp) (C : Addr) (cl : List (Str × Addr)) (fp : List Addr), Vis (X.blk s H scope (compEnvC scope cl C X.env) fp).env.scope y)
    (hfj : ∀ (s : Shared) (H : Hp) (C : Addr) (cl : List (Str × Addr)) (fp : List Addr), (X.blk s H scope (compEnvC scope cl C X.env) fp).env.scope.names.lookup x = some .local)
    (hd1 : (x == ("__debug__" : Str)) = false) (hd2 : (x == ("__classdict__" : Str)) = false) (hd3 : (y == ("__debug__" : Str)) = false) (hd4 : (y == ("__classdict__" : Str)) = false) :
    DF X (.ListComp (.Tuple [.Name x p1, .Subscript (.Name y p2) (.Name x p3) p4] kk p5) [⟨.Name x p6, .Name y p7, [], 0⟩] scope pos) (gSelf i j) :=
  ⟨pe_weak (pe_lock (pe_lc (own := [(x, j)]) hc hN (pi_keys (pe_var hi hvi hd3 hd4)) ok (fun s H C cl fp => pg_name hN hj (.inl (hfj s H C cl fp)) (.inr (hfj s H C cl fp))) (fun _ _ _ _ _ => pts_nil)
    (fun s H C cl fp => pe_tupZ (pa_cons (pe_var hj (.inl (hfj s H C cl fp)) hd1 hd2) (pa_cons (pe_dget hu (pe_var hi (hvi' s H C cl fp) hd3 hd4) (pe_var hj (.inl (hfj s H C cl fp)) hd1 hd2) fun _ _ => rfl) pa_nil))))) fun σ H Q ⟨c, O, n, env, Qd, E, hg, k⟩ => by
    unfold gSelf at hg
    split at hg
    · next ds he =>
      obtain ⟨nij, jl, hz, hg⟩ := hg
      obtain ⟨d, oi, sd, tp⟩ := E.own i _ he
      obtain ⟨kvs, hd, rk⟩ := top_dict tp
      have jl' : j < σ.length := by rw [E.len]; exact jl
      refine ⟨d, .dK kvs, hd, True.intro, fun od => ?_⟩
      refine ⟨_, sd, d, od, rfl, .inl ⟨kvs, upd_same, fun D hD => ?_⟩⟩
      have nDd : d ≠ D := fun z => by rw [← z, upd_same] at hD; cases hD
      have hD0 : H D = none := by rw [upd_ne (Ne.symm nDd)] at hD; exact hD
      have ln := rk.length
      have up : ∀ {b o}, b ≠ d → H b = some o → upd H d (.frz od (.dK kvs)) b = some o := fun nb e => by rw [upd_ne nb]; exact e
      have avd : ∀ {b}, ¬ c.av O b → b ≠ d := fun nb z => nb (.inr ⟨i, by rw [z]; exact oi⟩)
      have val : ∀ {H' : Hp} {v : V} {dv : PyData}, (∀ b o, b ≠ D → upd H d (.frz od (.dK kvs)) b = some o → H' b = some o) → Rep X.K (c.av O) c.T H v dv → Rep X.K (Zp (c.av O) D) c.T H' v dv := fun kp r =>
        r.keep (fun b o nb nt e => kp b o (fun z => by rw [z, hD0] at e; cases e) (up (avd nb) e)) fun b nb nn z => z.elim nb fun z => nn (z ▸ new_none hD0)
      refine ⟨fun m l H' => l = kvs.length - m ∧ m ≤ kvs.length ∧ ∃ acc, H' D = some (.lst acc) ∧ RepAll X.K (Zp (c.av O) D) c.T H' acc ((ds.take m).map fun q => .tuple [q.1, (lookD ds q.1).getD .none]) ∧ ∀ b o, b ≠ D → upd H d (.frz od (.dK kvs)) b = some o → H' b = some o,
        ⟨_, rfl, Nat.zero_le _, [], upd_same, .nil, fun b o nb e => by rw [upd_ne nb]; exact e⟩, ?_⟩
      rintro m l H' ⟨rfl, hm, acc, hacc, ra, kp⟩
      have hd' : H' d = some (.frz od (.dK kvs)) := kp d _ nDd upd_same
      by_cases lt : m < kvs.length
      · refine .inr ⟨⟨hd', lt⟩, fun H'' => ∃ acc, H'' D = some (.lst acc) ∧ RepAll X.K (Zp (c.av O) D) c.T H'' acc ((ds.take (m + 1)).map fun q => .tuple [q.1, (lookD ds q.1).getD .none]) ∧ ∀ b o, b ≠ D → upd H d (.frz od (.dK kvs)) b = some o → H'' b = some o,
          fun H'' h => ⟨kvs.length - (m + 1), by omega, rfl, lt, h⟩, fun w H'' ⟨e1, kq, v0, e2, e3⟩ => ?_⟩
        subst e1 e3
        obtain ⟨dv0, e4, _⟩ := rk.at e2
        obtain ⟨v, hv⟩ := val_there e2
        have lk := look_of kq rk
        rw [hv] at lk
        cases hw : lookD ds (keyD kq) with
        | none => rw [hw] at lk; exact lk.elim
        | some dv =>
          rw [hw] at lk
          refine ⟨by show ((((σ.set j none).set j (some (kV kq))).set j none) = σ.set j none); rw [List.set_set, List.set_set], ?_⟩
          unfold tYes
          dsimp only
          rw [if_pos rfl]
          refine ⟨kV kq, by rw [List.getElem?_set_self (by rw [wipe_length]; exact jl')], ?_⟩
          refine ⟨.ref d, by rw [List.getElem?_set_ne (Ne.symm nij)]; show (σ.set j none)[i]? = _; rw [List.getElem?_set_ne (Ne.symm nij)]; exact sd, kV kq, by rw [List.getElem?_set_self (by rw [wipe_length]; exact jl')], ?_⟩
          refine ⟨d, v, rfl, .inl ⟨kvs, kq, .inr ⟨od, hd'⟩, rfl, hv.symm⟩, by show 2 ≤ sizeLine; decide, fun p its hp => ?_⟩
          have npD : p ≠ D := fun z => by rw [z, hacc] at hp; cases hp
          have npd : p ≠ d := fun z => by rw [z, hd'] at hp; cases hp
          refine ⟨acc, by rw [upd_ne (Ne.symm npD)]; exact hacc, by rw [ra.length, List.length_map, List.length_take]; omega, acc ++ [.ref p], upd_same, ?_, fun b o nb e => ?_⟩
          · have g : ∀ b o, ¬ Zp (c.av O) D b → NT o → H'' b = some o → upd (upd H'' p (ftO its [kV kq, v])) D (.lst (acc ++ [.ref p])) b = some o := fun b o nb _ e => by
              rw [upd_ne fun z => nb (.inr z), upd_ne fun z => by rw [z, hp] at e; cases e]
              exact e
            have ra' := ra.keep g fun _ n _ => n
            have rv := (val kp lk).keep g fun _ n _ => n
            have et : ds.take (m + 1) = ds.take m ++ [(keyD kq, dv0)] := by rw [List.take_add_one, e4]; rfl
            rw [et, List.map_append]
            refine ra'.append (.cons (.tup (o := { cls := .type "tuple", data := .seq its.toArray }) (fun z => ?_) (xs := [kV kq, v]) ?_ rfl (.cons (key_rep kq) (.cons ?_ .nil))) .nil)
            · rcases z with z | z
              · refine E.al p z fun o nt e => ?_
                have := kp p o npD (up npd e)
                rw [hp] at this; cases this
              · exact npD z
            · rw [upd_ne npD, upd_same]; rfl
            · show Rep _ _ _ _ v ((lookD ds (keyD kq)).getD .none)
              rw [hw]; exact rv
          · rw [upd_ne nb, upd_ne fun z => by have := kp b o nb e; rw [z, hp] at this; cases this]
            exact kp b o nb e
      · have em : m = kvs.length := by omega
        subst em
        refine .inl ⟨⟨hd', Nat.le_refl _⟩, hd', ?_⟩
        have gr : Grow H (upd H' d (.dK kvs)) := fun b o e => by
          by_cases hb : b = d
          · subst hb
            rw [upd_same]; exact hd.symm.trans e
          · rw [upd_ne hb]
            exact kp b o (fun z => by rw [z, hD0] at e; cases e) (up hb e)
        have tk : ds.take kvs.length = ds := by rw [ln]; exact List.take_length
        rw [tk] at ra
        refine k D _ _ n gr.ext (E.tub.grow gr) (new_none hD0) (.inl ⟨acc, _, rfl, by rw [upd_ne (Ne.symm nDd)]; exact hacc, ra.keep (fun b o nb _ e => ?_) fun _ n _ => n⟩) hg
        rw [upd_ne (avd fun z => nb (.inl z))]
        exact e
    · exact hg.elim⟩
end
end L2.DL
end

section
/-! The data layer 19: x.append(y.pop(k)); the drawn-number list. -/
namespace L2.DL
open PySem PySem.Spec PySem.Calls PyProof.Rows L2
variable [TabsOf]

section
variable {X : Cx} {st : Stmt} {e x o o2 k : Expr} {pos : Pos}
/-! ### the drawn-number list -/
theorem tub_inv {K : PySem.W.Frag} {Z : Addr → Prop} {T : Tb} {H : Hp} {v : V} (r : Rep K Z T H v tubD) : ∃ a, v = .ref a ∧ T.u = some a := by
  generalize hd : tubD = dd at r
  unfold tubD at hd
  cases r with
  | tub e => exact ⟨_, rfl, e⟩
  | dic n s r =>
    injection hd with hd
    subst hd
    generalize hq : [(PyData.none, PyData.none)] = qq at r
    cases r with
    | cons ra rb =>
      injection hq with hq
      injection hq with hq
      exact (keyD_none hq).elim
    | nil => cases hq
  | fzd n s r => unfold fzD at hd; cases hd
  | scr e => unfold scrD at hd; cases hd
  | _ => cases hd
def gTub (i k : Nat) : GE := fun env n Q => env[i]? = some (.dat tubD) ∧ k < 3 ∧ ∀ z : Int, 0 ≤ z → (k = 1 → z < 2 ^ 62) → (k = 2 → z ≤ n) → Q (.int z) n
theorem d_tub (i : Nat) {kk j : Nat} {p1 : Pos} (ho : PE X o (tVar i)) : DE X (.Subscript o (.Constant (.int (kk : Nat)) j p1) pos) (gTub i kk) :=
  ⟨pe_weak (pe_ix ix_list ho pe_int fun _ _ => rfl) fun σ H Q ⟨c, O, n, env, Qd, E, ⟨he, hk, hg⟩, k⟩ => by
    obtain ⟨v, e1, r⟩ := E.dat i _ he
    obtain ⟨a, rfl, ta⟩ := tub_inv r
    obtain ⟨x, y, z, ha, h1, h2, h3, h4, h5⟩ := E.tub.go a ta
    refine ⟨_, e1, ?_⟩
    have go : ∀ w : Int, atI [V.int x, V.int y, V.int z] (kk : Nat) = some (.int w) → 0 ≤ w → (kk = 1 → w < 2 ^ 62) → (kk = 2 → w ≤ n) → rIxL X.K (.ref a) (.int (kk : Nat)) H Q := fun w hw w1 w2 w3 =>
      ⟨a, _, _, _, rfl, rfl, .of ha, hw, k _ _ H n .refl E.tub (.int w) (hg w w1 w2 w3)⟩
    rcases kk with _ | _ | _ | kk
    · exact go x rfl h1 (fun z => nomatch z) fun z => nomatch z
    · exact go y rfl h2 (fun _ => h3) fun z => by omega
    · exact go z rfl h4 (fun z => by omega) fun _ => h5
    · omega⟩
theorem EnvOk.chgTub {K : PySem.W.Frag} {c : Ct} {O : Own} {n n' : Nat} {H : Hp} {σ : St} {env : List Sl} {a : Addr} {xs : List V} {o : HO} (E : EnvOk K c O n H σ env) (ta : c.T.u = some a) (ha : H a = some (.lst xs))
    (t : ∃ x y z : Int, o = .lst [.int x, .int y, .int z] ∧ 0 ≤ x ∧ 0 ≤ y ∧ y < 2 ^ 62 ∧ 0 ≤ z ∧ z ≤ n') : Ext c.T H (upd H a o) ∧ TubOk c.T n' (upd H a o) := by
  refine ⟨⟨fun b u hb nt e => ?_⟩, ⟨fun b hb => ?_, tabs_upd E.tub.tb (nt_of_lst ha)⟩⟩
  · rw [upd_ne fun z => hb (by rw [z]; exact ta)]; exact e
  · rw [ta] at hb
    cases hb
    obtain ⟨x, y, z, rfl, r⟩ := t
    exact ⟨x, y, z, upd_same, r⟩
/-- tub[0] = e; tub[2] = e -/
def gTubSet (i k : Nat) (ge : GE) : GS := fun D env n => env[i]? = some (.dat tubD) ∧ ge env n fun d n1 => ∃ v : Int, d = .int v ∧ 0 ≤ v ∧ ((k = 0 ∧ D.nx env n1) ∨ (k = 2 ∧ v ≤ n1 + 1 ∧ D.nx env (n1 + 1)))
theorem s_tubset (i : Nat) {kk j : Nat} {ge : GE} {tpos p1 : Pos} (ho : PE X o (tVar i)) (h : DE X e ge)
    (ha : ∀ v, assign (.Subscript o (.Constant (.int (kk : Nat)) j p1) tpos) X.env v = (do
      let ov ← (holding [v] (eval o X.env))
      let iv ← holding [v, ov] (eval (.Constant (.int (kk : Nat)) j p1) X.env)
      standAt tpos
      (holding [v, ov, iv] (setItem ov iv v))
      release [v, ov, iv] []) := by intro _; rfl)
    (hs : swapsWithSole [.Subscript o (.Constant (.int (kk : Nat)) j p1) tpos] e pos.line X.env = pure false := by rfl) (hw : swappedStores [.Subscript o (.Constant (.int (kk : Nat)) j p1) tpos] e X.env = pure none := by rfl)
    (h1 : (assignEach [.Subscript o (.Constant (.int (kk : Nat)) j p1) tpos] X.env).map (·.2) = [assign (.Subscript o (.Constant (.int (kk : Nat)) j p1) tpos) X.env] := by rfl) :
    DS X (.Assign [.Subscript o (.Constant (.int (kk : Nat)) j p1) tpos] e pos) (gTubSet i kk ge) :=
  ⟨ps_weak (ps_asg h.pe (pg_sub ho pe_int set_list ha) hs hw h1) fun D σ H ⟨c, O, n, env, Dd, E, ⟨he, hg⟩, L⟩ =>
    ⟨c, O, n, env, _, E, hg, fun v d H1 n1 x1 t1 r1 ⟨w, ed, w0, q⟩ => by
      subst ed
      have ev := (show RepT X.K (c.av O) c.T H1 v (.int w) from .inl r1).int
      subst ev
      have E1 := E.extend x1 t1
      obtain ⟨v, e1, r⟩ := E1.dat i _ he
      obtain ⟨a, rfl, ta⟩ := tub_inv r
      obtain ⟨x, y, z, hla, g1, g2, g3, g4, g5⟩ := E1.tub.go a ta
      refine ⟨_, e1, ?_⟩
      rcases q with ⟨rfl, q⟩ | ⟨rfl, w1, q⟩
      · refine ⟨a, _, _, 0, rfl, rfl, hla, rfl, ?_⟩
        obtain ⟨x2, t2⟩ := E1.chgTub ta hla (n' := n1) (o := .lst [.int w, .int y, .int z]) ⟨w, y, z, rfl, w0, g2, g3, g4, g5⟩
        exact L.nx O n1 _ _ _ (E1.extend x2 t2) q
      · refine ⟨a, _, _, 2, rfl, rfl, hla, rfl, ?_⟩
        obtain ⟨x2, t2⟩ := E1.chgTub ta hla (n' := n1 + 1) (o := .lst [.int x, .int y, .int w]) ⟨x, y, w, rfl, g1, g2, g3, w0, by simpa using w1⟩
        exact L.nx O (n1 + 1) _ _ _ (E1.extend x2 t2) q⟩⟩

/-! ### x.append(y.pop(k)) -/
def gAppPop (i j : Nat) (gk : GE) : GS := fun D env n => match env[j]?, env[i]? with
  | some (.own (.list ds)), some (.own (.list fs)) => gk env n fun k n1 => match k with
    | .int z => 0 ≤ z ∧ z < 2 ^ 63 ∧ i ≠ j ∧ ∃ d, ds[z.toNat]? = some d ∧ fs.length < sizeLine ∧ D.nx ((env.set j (.own (.list (ds.eraseIdx z.toNat)))).set i (.own (.list (fs ++ [d])))) n1
    | _ => False
  | _, _ => False
theorem s_appPop {i j : Nat} {gk : GE} {ap1 cp1 ap2 cp2 : Pos} (hi : PE X o (tVar i)) (hj : PE X o2 (tVar j)) (hk : DB X k gk)
    (hb1 : attributeBase o "append" X.env (eval o X.env) = eval o X.env := by rfl)
    (hf1 : ((backTo cp1 (starEach [.Call (.Attribute o2 "pop" ap2) [k] [] cp2] X.env)).all (fun x => !x.1) && (backToKw cp1 (keywordEach [] X.env)).all (fun x => x.1.isSome)
      && decide ([Expr.Call (.Attribute o2 "pop" ap2) [k] [] cp2].length + ([] : List Keyword).length + (if ([] : List Keyword).isEmpty then 0 else 1) < 30)) = true := by rfl)
    (hl1 : (ap1.endLine == cp1.line) = true := by rfl) (hs1 : starEach [.Call (.Attribute o2 "pop" ap2) [k] [] cp2] X.env = (false, eval (.Call (.Attribute o2 "pop" ap2) [k] [] cp2) X.env) :: starEach [] X.env := by rfl) (hp1 : (backTo cp1 (starEach [] X.env)).any (·.1) = false := by rfl)
    (hb2 : attributeBase o2 "pop" X.env (eval o2 X.env) = eval o2 X.env := by rfl)
    (hf2 : ((backTo cp2 (starEach [k] X.env)).all (fun x => !x.1) && (backToKw cp2 (keywordEach [] X.env)).all (fun x => x.1.isSome)
      && decide ([k].length + ([] : List Keyword).length + (if ([] : List Keyword).isEmpty then 0 else 1) < 30)) = true := by rfl)
    (hl2 : (ap2.endLine == cp2.line) = true := by rfl) (hs2 : starEach [k] X.env = (false, eval k X.env) :: starEach [] X.env := by rfl) (hp2 : (backTo cp2 (starEach [] X.env)).any (·.1) = false := by rfl)
    (hsw : swapsWith (.Call (.Attribute o "append" ap1) [.Call (.Attribute o2 "pop" ap2) [k] [] cp2] [] cp1) none pos.line X.env = pure false := by rfl) :
    DS X (.Expr (.Call (.Attribute o "append" ap1) [.Call (.Attribute o2 "pop" ap2) [k] [] cp2] [] cp1) pos) (gAppPop i j gk) :=
  ⟨ps_weak (ps_expr (pe_bm PySem.F.plainAttrs_list PySem.F.slot_list_append PySem.F.type_list_append mt_append hi
      (pa_cons (pe_bm PySem.F.plainAttrs_list PySem.F.slot_list_pop PySem.F.type_list_pop mt_popAt hj (pa_cons hk.pe pa_nil hs2) hb2 hf2 hl2 hs2 hp2) pa_nil hs1) hb1 hf1 hl1 hs1 hp1) hsw) fun D σ H ⟨c, O, n, env, Dd, E, hg, L⟩ => by
    unfold gAppPop at hg
    split at hg
    · next ds fs hj' hi' =>
      have jl := (List.getElem?_eq_some_iff.mp hj').1
      have il := (List.getElem?_eq_some_iff.mp hi').1
      obtain ⟨b, oj, sb, tpb⟩ := E.own j _ hj'
      obtain ⟨ys, hb, rb⟩ := top_list tpb
      obtain ⟨a, oi, sa, tpa⟩ := E.own i _ hi'
      obtain ⟨xs, ha, ra⟩ := top_list tpa
      refine ⟨_, sa, .inl ⟨rfl, xs, .of ha⟩, _, sb, .inl ⟨rfl, ys, .of hb⟩, c, O, n, env, _, E, hg, fun w dk H1 n1 x1 t1 r1 q1 => ?_⟩
      cases dk with
      | int z =>
        obtain ⟨z0, z1, nij, d, hd, hz, q⟩ := q1
        have E1 := E.extend x1 t1
        have hb1 := x1.kp b _ (E.notT oj) nt_lst hb
        have ha1 := x1.kp a _ (E.notT oi) nt_lst ha
        have rb1 := rb.ext E.atz x1
        have ra1 := ra.ext E.atz x1
        obtain ⟨y, hy, ry⟩ := rb1.get hd
        have yl := (List.getElem?_eq_some_iff.mp hy).1
        have nab : a ≠ b := fun e => nij (E.inj i j a oi (e ▸ oj))
        have E2 := E1.chg (o := .lst (ys.eraseIdx z.toNat)) (nt_of_lst hb1) jl oj sb (.inl ⟨_, _, rfl, upd_same, (rb1.chg oj).erase z.toNat⟩)
        have ha2 : upd H1 b (.lst (ys.eraseIdx z.toNat)) a = some (.lst xs) := by rw [upd_ne nab]; exact ha1
        have hsq : seqIndex? z ys.length = some z.toNat := by
          have e1 : (if z < 0 then z + (ys.length : Int) else z) = z := if_neg (by omega)
          have e2 : (0 ≤ z && z < (ys.length : Int)) = true := by simp; omega
          unfold seqIndex?
          rw [e1]
          simp only [e2, if_true]
        refine ⟨b, ys, z, z.toNat, y, rfl, by rw [r1.int], hb1, by omega, z1, hsq, hy, ?_⟩
        refine ⟨a, xs, y, rfl, rfl, ha2, by rw [ra.length]; exact hz, ?_⟩
        refine L.nx O n1 _ _ _ (E2.chg (nt_of_lst ha2) (by rw [List.length_set]; exact il) oi sa (.inl ⟨_, _, rfl, upd_same, ?_⟩)) q
        exact ((ra1.chg oj).chg oi).append (.cons ((ry.chg oj).chg oi) .nil)
      | _ => exact q1.elim
    · exact hg.elim⟩
end
end L2.DL
end

section
/-! The data layer 20: a def called with a new drawn-number list. -/
namespace L2.DL
open PySem PySem.Spec PySem.Calls PyProof.Rows L2
variable [TabsOf]

section
variable {X : Cx} {k : Nat} {f : Addr} {fd : FuncData} {ps ks : List Str} {x : Str} {p pos kpos : Pos} {e : Expr} {g : GF}
def gCallTub (g : GF) (ge : GE) : GE := fun env n Q => ge env n fun d n1 => ∃ x y : Int, d = .list [.int x, .int y, .int 0] ∧ 0 ≤ x ∧ 0 ≤ y ∧ y < 2 ^ 62 ∧ g [tubD] 0 fun d' _ => ∃ b : Bool, d' = .bool b ∧ Q (.bool b) n1
theorem d_callTub {ge : GE} (F : FnOk X.prog X.w X.K X.mg X.base CX0 k f fd ps (spD X.K g)) (hr : Room k X.A) (hg : Gl X x) (hm : X.mg x = some (.ref f)) (hk : PySem.W.keepIn X.K (.ref f) = true) (hb : Binds X.K fd ps [])
    (he : DF X e ge) (hdb : (x == ("__debug__" : Str)) = false := by decide) (hs : starEach [e] X.env = (false, eval e X.env) :: starEach [] X.env := by rfl) (hpl : (backTo pos (starEach [] X.env)).any (·.1) = false := by rfl) :
    DE X (.Call (.Name x p) [e] [] pos) (gCallTub g ge) := ⟨pe_weak (pe_call (E := E0) F hr hg hm hk hb .nil pass0 (pa_cons he.pe pa_nil hs) hdb hs hpl) fun σ H Q ⟨c, O, n, env, Qd, E, hg, k⟩ => by
  refine ⟨c, O, n, env, _, E, hg, fun q d H1 n1 x1 t1 nq r1 q1 => ?_⟩
  dsimp only
  show spD X.K g [.ref q] H1 Q E0
  obtain ⟨x, y, rfl, x0, y0, y1, q1⟩ := q1
  have E1 := E.extend x1 t1
  have hz : ∀ a, Zp (c.av O) q a → ¬ New H1 a := fun a h => by
    rcases h with h | rfl
    · exact E1.al a h
    · exact r1.sm
  obtain ⟨ys, hq, ra⟩ := top_list r1
  have e3 : ys = [.int x, .int y, .int 0] := by
    cases ra with
    | cons a ra =>
      cases ra with
      | cons b ra =>
        cases ra with
        | cons c ra =>
          cases ra with
          | nil => cases a; cases b; cases c; rfl
  subst e3
  refine ⟨Zp (c.av O) q, ⟨some q⟩, 0, [tubD], _, hz, fun a h => by cases h; exact .inr rfl, ⟨fun a h => by
    cases h
    exact ⟨x, y, 0, hq, x0, y0, y1, Int.le_refl 0, by simp⟩, t1.tb⟩, .cons (.tub rfl) .nil, q1, fun v d H' n' x' t' r' ⟨b, eb, q'⟩ => ?_⟩
  subst eb
  have ev := (show RepT X.K _ _ H' v (.bool b) from .inl r').bl
  subst ev
  have nT : c.T.u ≠ some q := fun w => E.al q (.inl (E.tz q w)) nq
  refine k _ _ H' n1 ⟨fun a o h1 h2 h3 => ?_⟩ ⟨fun a h => ?_, t'.tb⟩ (.bl b) q'
  · have h4 := x1.kp a o h1 h2 h3
    refine x'.kp a o (fun w => ?_) h2 h4
    cases w
    exact nq o h2 h3
  · obtain ⟨x2, y2, z2, e2, r2⟩ := t1.go a h
    refine ⟨x2, y2, z2, x'.kp a _ (fun w => ?_) nt_lst e2, r2⟩
    cases w
    exact nT h⟩
end
end L2.DL
end

section
/-! The data layer 21: sets of strs: len(set(xs)), sorted(set(xs)). -/
namespace L2.DL
open PySem PySem.Spec PySem.Calls PyProof.Rows L2

/-! ### a set of strs whose table rises -/
def txtOf (e : Int × Value) : Str := match e.2 with | .str x _ => x | _ => Str.empty
def TxtE (w : World) (e : Int × Value) : Prop := ∃ x tk, e.2 = Value.str x tk ∧ e.1 = hashStr w x
structure TxtTab (w : World) (es : Array (Int × Value)) (t : SetTable) (M : Str → Bool) (c : Nat) : Prop where
  good : ∀ e ∈ es.toList, TxtE w e
  nd : (es.toList.map txtOf).Nodup
  mem : ∀ x, M x = true ↔ x ∈ es.toList.map txtOf
  sm : es.size < scanBound
  fit : t.fits es.size = true
  cnt : es.size = c
  ris : Ris t.place.toList
  led : (w.params.followText "set-order" = true) ∨ (t.led = true)
def TxtSet (w : World) (h : Heap) (a : Addr) (M : Str → Bool) (c : Nat) : Prop := ∃ o es ep t, h.get? a = some o ∧ o.ExactSet ∧ o.data = .set es ep t ∧ TxtTab w es t M c
section
variable {P : Program} {w : World} {A : Around} {E : Value → Shared → Prop} {s : Shared} {a : Addr} {M : Str → Bool} {c : Nat} {h h' : Heap}
theorem TxtSet.at (R : TxtSet w h a M c) (k : ∀ o, h.get? a = some o → h'.get? a = some o) : TxtSet w h' a M c :=
  let ⟨o, es, ep, t, ho, r⟩ := R; ⟨o, es, ep, t, k o ho, r⟩
theorem TxtSet.congr {M' : Str → Bool} (R : TxtSet w h a M c) (e : ∀ x, M' x = M x) : TxtSet w h a M' c := by
  rw [show M' = M from funext e]; exact R
theorem txt_elems (P : Program) {l : List (Int × Value)} (g : ∀ e ∈ l, TxtE w e) : ElemsOf (PySem.strKind P w) l := fun e he => by
  obtain ⟨x, tk, p, q⟩ := g e he
  exact ⟨⟨x, by rw [p]; exact strKind_is P w x tk, q⟩, by rw [p] <;> rfl⟩
theorem txt_is {e : Int × Value} (g : TxtE w e) (x : Str) : (PySem.strKind P w).is x e.2 = true ↔ txtOf e = x := by
  obtain ⟨y, tk, p, _⟩ := g
  unfold txtOf
  rw [p]
  constructor
  · intro h
    exact (PySem.strKind P w).inj _ _ _ (strKind_is P w y tk) h
  · rintro rfl
    exact strKind_is P w y tk
theorem txt_mem {l : List (Int × Value)} (g : ∀ e ∈ l, TxtE w e) (x : Str) : x ∈ l.map txtOf ↔ ∃ e ∈ l, (PySem.strKind P w).is x e.2 = true :=
  ⟨fun h => let ⟨e, he, q⟩ := List.mem_map.mp h; ⟨e, he, (txt_is (g e he) x).2 q⟩, fun ⟨e, he, q⟩ => List.mem_map.mpr ⟨e, he, (txt_is (g e he) x).1 q⟩⟩
theorem TxtTab.perm {es es' : Array (Int × Value)} {t t' : SetTable} (T : TxtTab w es t M c) (p : es'.toList.Perm es.toList) (f : t'.fits es'.size = true) (r : Ris t'.place.toList) (l : t'.led = t.led) : TxtTab w es' t' M c := by
  have z : es'.size = es.size := by rw [← Array.length_toList, p.length_eq, Array.length_toList]
  exact ⟨fun e he => T.good e (p.mem_iff.mp he), (p.map txtOf).nodup_iff.mpr T.nd, fun x => (T.mem x).trans (p.map txtOf).mem_iff.symm, by rw [z]; exact T.sm, f, z.trans T.cnt, r, T.led.imp id fun q => l.trans q⟩

/-- the tail of an adding: the table is laid anew where it's too full -/
theorem txt_tail {g : Bool → Sem Unit} (hg : ∀ (b : Bool) (s1 : Shared) (Q : Unit → Shared → Prop), Q () s1 → wpAny (model P w) A (g b) Q E s1) {o : Obj} {es : Array (Int × Value)} {ep : Nat} {t : SetTable} (ho : s.heap.get? a = some o) (hx : o.ExactSet) (hd : o.data = .set es ep t)
    {es1 : Array (Int × Value)} {t2 : SetTable} (T : TxtTab w es1 t2 M c) {wd : Bool} {R : Option Bool → Shared → Prop} (hR : ∀ h', Heap.SameBut a s.heap h' → TxtSet w h' a M c → R (some true) { s with heap := h' }) :
    wpAny (model P w) A (do
        storeSet a es1 t2
        if (!wd && t2.tooFull) = true then do
            g ((relayAll t2 es1 (SetTable.grown es1.size)).2.2)
            storeSet a ((relayAll t2 es1 (SetTable.grown es1.size)).1) ((relayAll t2 es1 (SetTable.grown es1.size)).2.1)
            pure (some true)
          else (pure (some true))) R E s := by
  refine wpAny_bind (wpAny_storeSet_of ho hd ?_ (fits_of_scanBound T.sm))
  have o1 := store_at (es' := es1) (t' := t2) ho hd
  have b1 := Heap.SameBut.update s.heap a (Obj.putSet es1 t2)
  split
  · have T3 := T.perm (relayAll_perm t2 es1 (SetTable.grown es1.size)) (by
      rw [show (relayAll t2 es1 (SetTable.grown es1.size)).1.size = es1.size by rw [← Array.length_toList, (relayAll_perm t2 es1 (SetTable.grown es1.size)).length_eq, Array.length_toList]]
      have := relayAll_fits t2 es1 (SetTable.grown es1.size)
      rw [show (relayAll t2 es1 (SetTable.grown es1.size)).1.size = es1.size by rw [← Array.length_toList, (relayAll_perm t2 es1 (SetTable.grown es1.size)).length_eq, Array.length_toList]] at this
      exact this) (relayAll_ris t2 es1 (SetTable.grown es1.size)) (relayAll_led t2 es1 (SetTable.grown es1.size))
    generalize relayAll t2 es1 (SetTable.grown es1.size) = z at T3 ⊢
    obtain ⟨es2, t3, gave⟩ := z
    refine wpAny_bind (hg _ _ _ (wpAny_bind (wpAny_storeSet_of o1 rfl ?_ (fits_of_scanBound T3.sm))))
    exact wpAny_pure (hR _ (b1.trans (Heap.SameBut.update _ a _)) ⟨_, es2, _, t3, store_at (es' := es2) (t' := t3) o1 rfl, hx, rfl, T3⟩)
  · exact wpAny_pure (hR _ b1 ⟨_, es1, _, t2, o1, hx, rfl, T⟩)

theorem txt_add {x : Str} {tk : Tok} {Q : Bool → Shared → Prop} (R : TxtSet w s.heap a M c) (room : c + 1 < scanBound)
    (hQ : ∀ h', Heap.SameBut a s.heap h' → TxtSet w h' a (fun y => M y || decide (y = x)) (if M x = true then c else c + 1) → Q (!M x) { s with heap := h' }) :
    wpAny (model P w) A (setAddHashed a (.str x tk) ((PySem.strKind P w).hash x)) Q E s := by
  obtain ⟨o, es, ep, t, ho, hx, hd, T⟩ := R
  have hk : (PySem.strKind P w).is x (.str x tk) = true := strKind_is P w x tk
  have hscz : (Value.str x tk).scannable = true := rfl
  have hel : ElemsOf (PySem.strKind P w) es.toList := txt_elems P T.good
  unfold setAddHashed setAddHashedIn at ⊢
  refine wpAny_holding (wpAny_bind (wpAny_setState_of ho hd T.fit ?_))
  dsimp only
  rw [byScan_of hscz T.sm hel]
  simp only [↓reduceIte]
  unfold setAddByScan
  refine wpAny_bind (wpAny_bind (wpAny_rule (wpAny_bind (wpAny_setScan_of hk ho hd T.fit hel ?_))))
  cases hfi : List.findIdx? (fun e => (PySem.strKind P w).is x e.2) es.toList with
  | some j =>
    obtain ⟨hjz, pjz, _⟩ := List.findIdx?_eq_some_iff_getElem.mp hfi
    have hM : M x = true := (T.mem x).2 ((txt_mem (P := P) T.good x).2 ⟨es.toList[j], List.getElem_mem hjz, pjz⟩)
    refine (wpAny_pure (wpAny_pure ?_))
    have q := hQ s.heap (Heap.SameBut.refl a s.heap) ((show TxtSet w s.heap a M (if M x = true then c else c + 1) by rw [if_pos hM]; exact ⟨o, es, ep, t, ho, hx, hd, T⟩).congr fun y => by
      by_cases e : y = x
      · subst e; rw [hM]; rfl
      · simp [e])
    rw [hM] at q
    exact q
  | none =>
    dsimp only
    have hnx : x ∉ es.toList.map txtOf := fun zz => by
      obtain ⟨e, hez, q⟩ := (txt_mem (P := P) T.good x).1 zz
      exact absurd q (by rw [List.findIdx?_eq_none_iff.mp hfi e hez]; exact Bool.false_ne_true)
    have hM : M x = false := by
      cases q : M x with
      | false => rfl
      | true => exact absurd ((T.mem x).1 q) hnx
    have gw : ∀ (b : Bool) {s1 : Shared} {Q' : Unit → Shared → Prop}, Q' () s1 → wpAny (model P w) A (match b with | true => rule "set.scan.the-table-gave-way" | false => pure ()) Q' E s1 := fun b _ _ q => by
      cases b <;> first | exact wpAny_pure q | exact wpAny_rule q
    have pm := layNew_perm t es ((PySem.strKind P w).hash x) (.str x tk)
    have f1 := layNew_fits t es ((PySem.strKind P w).hash x) (.str x tk)
    have r1 := layNew_ris t es ((PySem.strKind P w).hash x) (.str x tk) T.ris
    have l1 := layNew_led t es ((PySem.strKind P w).hash x) (.str x tk)
    generalize layNew t es ((PySem.strKind P w).hash x) (.str x tk) = zz at pm f1 r1 l1 ⊢
    obtain ⟨es1, t1, wd, gave⟩ := zz
    dsimp only at pm f1 r1 l1 ⊢
    rw [Array.toList_push] at pm
    have pcz : es1.toList.Perm (((PySem.strKind P w).hash x, Value.str x tk) :: es.toList) := pm.trans (List.perm_append_singleton _ _)
    have pk : (es1.toList.map txtOf).Perm (x :: es.toList.map txtOf) := pcz.map txtOf
    have sz : es1.size = c + 1 := by rw [← Array.length_toList, pcz.length_eq, List.length_cons, Array.length_toList, T.cnt]
    have T1 : TxtTab w es1 t1 (fun y => M y || decide (y = x)) (c + 1) := {
      good := fun e hez => by
        rcases List.mem_cons.mp (pcz.mem_iff.mp hez) with zz | zz
        · rw [zz]; exact ⟨x, tk, rfl, rfl⟩
        · exact T.good e zz
      nd := pk.nodup_iff.mpr (List.nodup_cons.mpr ⟨hnx, T.nd⟩)
      mem := fun y => by
        rw [Bool.or_eq_true, decide_eq_true_eq, T.mem y, pk.mem_iff, List.mem_cons]
        exact Or.comm
      sm := by rw [sz]; exact room
      fit := f1
      cnt := sz
      ris := r1
      led := T.led.imp id fun zz => by rw [l1]; exact zz }
    have fin : ∀ h', Heap.SameBut a s.heap h' → TxtSet w h' a (fun y => M y || decide (y = x)) (c + 1) → Q true { s with heap := h' } := fun h' sb r => by
      have q := hQ h' sb
      rw [hM] at q
      exact q r
    have T1' : ∀ b : Bool, TxtTab w es1 (if b = true then { t1 with plain := false } else t1) (fun y => M y || decide (y = x)) (c + 1) := fun b => by
      cases b with
      | true => exact ⟨T1.good, T1.nd, T1.mem, T1.sm, SetTable.fits_plain_off T1.fit, T1.cnt, T1.ris, T1.led⟩
      | false => exact T1
    refine wpAny_bind (gw _ ?_)
    split
    · refine wpAny_bind ?_
      rw [hashByValue_scannable 8 hscz]
      refine wpAny_pure ?_
      refine txt_tail (M := fun y => M y || decide (y = x)) (c := c + 1) (fun b _ _ q => by cases b <;> first | exact wpAny_pure q | exact wpAny_rule q) ho hx hd ?_ fun h' sb r => wpAny_pure (fin h' sb r)
      first | exact T1 | (split <;> first | exact T1 | exact ⟨T1.good, T1.nd, T1.mem, T1.sm, SetTable.fits_plain_off T1.fit, T1.cnt, T1.ris, T1.led⟩)
    · refine (wpAny_bind (wpAny_pure ?_))
      simp only [↓reduceIte]
      exact txt_tail (M := fun y => M y || decide (y = x)) (c := c + 1) (fun b _ _ q => by cases b <;> first | exact wpAny_pure q | exact wpAny_rule q) ho hx hd T1 fun h' sb r => wpAny_pure (fin h' sb r)

theorem txt_fresh {ns : List Str} (ho : h.get? a = some { cls := .type "set", dict := none, data := .set #[] 0 (.fresh 0 0 (!w.params.followText "set-order")) }) : TxtSet w h a (fun y => decide (y ∈ ns.take 0)) 0 :=
  ⟨_, #[], 0, _, ho, ⟨rfl, rfl, rfl⟩, rfl, ⟨fun e he => by simp at he, by simp, fun y => by simp, by decide, by rfl, rfl, List.Pairwise.nil, by
    show (_ ∨ (!w.params.followText "set-order") = true)
    cases w.params.followText "set-order" <;> first | exact .inr rfl | exact .inl rfl⟩⟩
theorem txt_update {I : Addr} {fp wr : List Addr} {G : Array GenState → Array GenState → Prop} {n : Nat} {Pv : Nat → Value → Prop} {St : Nat → Shared → Prop} {R : Result → Shared → Prop}
    (W : WalksS P w A.in1 I fp wr G n Pv St) (S : Addr) (hS : S ∉ fp) (ns : List Str) (hn : n = ns.length) (hb : ns.length + 1 < scanBound) (hv : ∀ i v, Pv i v → ∃ x t, ns[i]? = some x ∧ v = .str x t) :
    ∀ (k i : Nat) (s : Shared), n - i = k → i ≤ n → St i s → (∃ c, c ≤ i ∧ ((ns.take i).Nodup → c = i) ∧ TxtSet w s.heap S (fun y => decide (y ∈ ns.take i)) c) →
      (∀ s' c, Moved (S :: wr) G s s' → c ≤ n → (ns.Nodup → c = n) → TxtSet w s'.heap S (fun y => decide (y ∈ ns)) c → R (.ok (.ret .none)) s') → codeAny (model P w) A (.builtin "set.update.loop" ⟨[.ref S, .ref I], []⟩) R s := by
  have hw : S ∉ wr := fun h => hS (W.sub _ h)
  have sub : ∀ b ∈ wr, b ∈ S :: wr := fun b => List.mem_cons_of_mem _
  intro k
  induction k with
  | zero =>
    intro i s ez hi hstz ⟨c, hc, hd, T⟩ hR
    obtain rfl : i = n := by omega
    refine codeAny_builtin F.entry_set_update_loop (by
      rw [(Around.under_plainId F.plain_set_update_loop _)]
      show (wpAny _ A.in1 (pyNext (.ref I) >>= _) _ _ s)
      refine wpAny_bind (W.done s _ _ hstz fun s' hmz => ?_)
      show (wpAny _ A.in1 (ret Value.none) _ _ s')
      have ez : ns.take i = ns := List.take_of_length_le (by omega)
      rw [ez] at T hd
      exact wpAny_pure (hR s' c (hmz.mono sub) hc hd (T.at fun o ez => hmz.heap S o hw ez)))
  | succ k ih =>
    intro i s ez hi hstz ⟨c, hc, hd, T⟩ hR
    have hltz : i < n := by omega
    refine (codeAny_builtin F.entry_set_update_loop ?_)
    rw [(Around.under_plainId F.plain_set_update_loop _)]
    show (wpAny _ A.in1 (pyNext (.ref I) >>= _) _ _ s)
    refine wpAny_bind (W.item i s _ _ hltz hstz fun v s' hPz hstz' hmz => ?_)
    obtain ⟨x, t, hx, rfl⟩ := hv i v hPz
    have T' : TxtSet w s'.heap S (fun y => decide (y ∈ ns.take i)) c := T.at fun o ez => hmz.heap S o hw ez
    show wpAny _ A.in1 (holding [Value.str x t] (setAdd S (.str x t)) >>= _) _ _ s'
    unfold setAdd
    refine wpAny_bind (wpAny_holding (wpAny_holding (wpAny_bind ((PySem.strKind P w).pyHash (k := x) (strKind_is _ _ _ _) (txt_add (s := { s' with toks := s'.toks + 1 }) T' (by omega) fun h' sb T2 => ?_)))))
    have et : ns.take (i + 1) = ns.take i ++ [x] := by rw [List.take_add_one, hx]; rfl
    have T3 : TxtSet w h' S (fun y => decide (y ∈ ns.take (i + 1))) (if decide (x ∈ ns.take i) = true then c else c + 1) := T2.congr fun y => by
      rw [et]
      simp [List.mem_append]
    have c3 : (if decide (x ∈ ns.take i) = true then c else c + 1) ≤ i + 1 := by split <;> omega
    have d3 : (ns.take (i + 1)).Nodup → (if decide (x ∈ ns.take i) = true then c else c + 1) = i + 1 := fun nd => by
      rw [et] at nd
      obtain ⟨n1, n2, n3⟩ := List.nodup_append.mp nd
      rw [if_neg (by
        rw [decide_eq_true_eq]
        exact fun m => n3 x m x List.mem_cons_self rfl), hd n1]
    refine wpAny_pure ⟨plainId_quiet F.plain_set_update_loop _, ih (i + 1) _ (by omega) hltz (W.frame _ s' _ _ hstz' (Nat.le_succ _) fun b hb o ez => ?_) ⟨_, c3, d3, T3⟩ fun s'' c2 m2 k2 e2 T4 => ?_⟩
    · exact (sb.2 b fun z => hS (by rw [← z]; exact hb)).trans ez
    · refine hR s'' c2 (Moved.trans W.gtrans ((hmz.mono sub).then_heap (Nat.le_succ _) fun b o hb ez => ?_) m2) k2 e2 T4
      exact (sb.2 b fun z => hb (by rw [z]; exact List.mem_cons_self)).trans ez
end
end L2.DL
end

section
/-! The data layer 22: set(xs) of a list or a tuple of strs. -/
namespace L2.DL
open PySem PySem.Spec PySem.Calls PyProof.Rows L2
abbrev set0 (w : World) : Obj := { cls := .type "set", dict := none, data := .set #[] 0 (.fresh 0 0 (!w.params.followText "set-order")) }
section
variable {P : Program} {w : World}
variable {A : Around}
variable {E : Value → Shared → Prop}
variable {s : Shared}
/-- what set.__init__ does, given a walk through the argument -/
theorem txt_loop {I : Addr} {fp : List Addr} {items : Array Value} {St : Nat → Heap → Prop} {ns : List Str} {h1 : Heap} {tk : Nat} {S : Addr} {Q : Result → Shared → Prop} (W : Walks P w A.in1 I fp [I] items.size (fun i v => items[i]? = some v) St) (hfp : S ∉ fp) (hS : h1.get? S = some (set0 w)) (st : St 0 h1)
    (hi : StrsAre items.toList ns) (hb : ns.length + 1 < scanBound)
    (q : ∀ h' tk c, TxtSet w h' S (fun y => decide (y ∈ ns)) c → (ns.Nodup → c = ns.length) → (∀ b o, b ≠ S → b ≠ I → h1.get? b = some o → h'.get? b = some o) → Q (.ok (.ret .none)) { s with heap := h', toks := tk }) :
    codeAny (model P w) A (.builtin "set.update.loop" ⟨[.ref S, .ref I], []⟩) Q { s with heap := h1, toks := tk } := by
  have sz : items.size = ns.length := by rw [← StrsAre.len_eq hi, Array.length_toList]
  have hv : ∀ (i : Nat) (v : Value), items[i]? = some v → ∃ x t, ns[i]? = some x ∧ v = .str x t := fun i v hv => by
    have il : i < ns.length := by rw [← sz]; exact (Array.getElem?_eq_some_iff.mp hv).1
    obtain ⟨t, e⟩ := SS.strs_at hi i v (by rw [Array.getElem?_toList]; exact hv)
    exact ⟨ns[i], t, List.getElem?_eq_getElem il, by rw [e, List.getD_eq_getElem?_getD, List.getElem?_eq_getElem il] <;> rfl⟩
  refine txt_update W.toS S hfp ns sz hb hv (items.size - 0) 0 _ (by omega) (Nat.zero_le _) st ⟨0, Nat.le_refl 0, fun _ => rfl, txt_fresh hS⟩ fun sz' c m hc hd T => ?_
  obtain ⟨h', g2z, dz', tkz', osz'⟩ := sz'
  obtain rfl : g2z = s.gens := m.gens
  obtain rfl : dz' = s.drawn := m.drawn
  obtain rfl : osz' = s.os := m.os
  exact q h' tkz' c T (fun nd => by rw [← sz]; exact hd nd) fun b o b1 b2 e => m.heap b o (by simp only [List.mem_cons, List.not_mem_nil, or_false, not_or]; exact ⟨b1, b2⟩) e

set_option maxHeartbeats 3300000 in
theorem call_setTxt {l : Addr} {items : Array Value} {ns : List Str} {Q : Value → Shared → Prop} (hh : A.handled = none) (hl : s.heap.IsList l items ∨ s.heap.IsTuple l items) (hi : StrsAre items.toList ns) (hb : ns.length + 1 < scanBound)
    (q : ∀ (h' : Heap) (tk c : Nat), TxtSet w h' s.heap.objs.size (fun y => decide (y ∈ ns)) c → (ns.Nodup → c = ns.length) → (∀ b o, s.heap.get? b = some o → h'.get? b = some o) → Q (.ref s.heap.objs.size) { s with heap := h', toks := tk }) : wpAny (model P w) A (call (.type "set") [.ref l]) Q E s := by
  obtain ⟨c, tlz, hmroz⟩ := F.called_set.mro
  have hmadez := F.called_set.made
  have hsub := F.called_set.sub
  refine wpAny_call (codeAny_of_tree (show wpAny _ _ (callAny (.type "set") _) _ _ _ from wpAny_pure ⟨Code.quiet_builtin _ (by decide +kernel), codeAny_builtin F.entry_type_call ?_⟩))
  rw [(Around.under_plain (weight_type_call_type "set" [.ref l] []) rfl)]
  have h1z := F.called_set.notType
  have h2z := F.called_set.canCreate
  have hctz := F.typeCall_set_1 (.ref l)
  repeat (any_goals (first | assumption | (wp_step)))
  refine codeAny_mono (code_set_led1 (.ref l) (E := E) (Q₁ := fun z s1 => z = .ref s.heap.objs.size ∧ s1 = { s with heap := s.heap.push (set0 w) }) ⟨rfl, rfl⟩) fun r s1 hr => ?_
  rcases r with e | fl
  · exact hr
  · cases fl with
    | ret z =>
      obtain ⟨rfl, rfl⟩ := hr
      have hS : (s.heap.push (set0 w)).get? s.heap.objs.size = some (set0 w) := Heap.get?_push_size _ rfl
      have hT : Shared.TypeIs { s with heap := s.heap.push (set0 w) } (.ref s.heap.objs.size) "set" := ⟨_, hS, rfl⟩
      have hliz := F.called_set.init.lookup
      have hbiz := F.called_set.init.bind (.ref s.heap.objs.size)
      repeat (any_goals (first | assumption | (wp_step)))
      refine codeAny_mono (codeAny_call_builtin (R := wants (fun r s2 => r = .none ∧ ∃ h' tk c, s2 = { s with heap := h', toks := tk } ∧ TxtSet w h' s.heap.objs.size (fun y => decide (y ∈ ns)) c ∧ (ns.Nodup → c = ns.length) ∧
          (∀ b o, s.heap.get? b = some o → h'.get? b = some o)) E) F.called_set.init.plain F.entry_set_init (check_set_init_1 hT ?_)) fun r2 s2 hr2 => ?_
      · have s1 : (s.heap.push (set0 w)).objs.size = s.heap.objs.size + 1 := Heap.size_push ..
        rcases hl with hl | hl
        · obtain ⟨olz, holz, hclz, nlz, hdlz⟩ := hl
          obtain ⟨oclsz, odictz, odataz, oslotsz⟩ := olz
          simp only at hclz hdlz
          subst hclz; subst hdlz
          have lS : l < s.heap.objs.size := Heap.lt_size holz
          have hol' : (s.heap.push (set0 w)).get? l = some { cls := .type "list", dict := odictz, data := .seq items nlz, slots := oslotsz } := Heap.get?_push_of_some _ holz
          have hsls := F.sub_list_set
          have hslfz := F.sub_list_frozenset
          have hnez : (Value.type "list" == Value.type "dict") = false := by decide
          have hl1 : (s.heap.push (set0 w)).IsList l items := ⟨_, hol', rfl, nlz, rfl⟩
          unfold Builtin.«set.__init__» noKeywords Builtin.Frozenset.updateFrom at ⊢
          generalize hPI : pyIter = PI
          wp_walk
          subst hPI
          refine wpAny_pyIter_list hl1 (wpAny_bind (wpAny_runValue ?_))
          refine txt_loop (s := s) (I := (s.heap.push (set0 w)).objs.size) (S := s.heap.objs.size) (Walks.list (by simp [hh]) _ l (by rw [s1]; exact Nat.ne_of_lt (Nat.lt_succ_of_lt lS)) items) (by
            rw [s1]
            simp only [List.mem_cons, List.not_mem_nil, or_false, not_or]
            exact ⟨Nat.ne_of_lt (Nat.lt_succ_self _), Nat.ne_of_gt lS⟩) (Heap.get?_push_of_some _ hS) ⟨⟨_, Heap.get?_push_size _ rfl, rfl, rfl⟩, hl1.push _⟩ hi hb fun h' tk c T hd k => ?_
          refine (show wpAny _ _ _ _ _ _ from wpAny_pure (show wpAny _ _ (ret Value.none) _ _ _ from ?_))
          exact wpAny_pure ⟨rfl, h', tk, c, rfl, T, hd, fun b o e => k b o (Nat.ne_of_lt (Heap.lt_size e)) (by rw [s1]; exact Nat.ne_of_lt (Nat.lt_succ_of_lt (Heap.lt_size e))) (Heap.get?_push_of_some _ (Heap.get?_push_of_some _ e))⟩
        · obtain ⟨olz, holz, hclz, nlz, hdlz⟩ := hl
          obtain ⟨oclsz, odictz, odataz, oslotsz⟩ := olz
          simp only at hclz hdlz
          subst hclz; subst hdlz
          have lS : l < s.heap.objs.size := Heap.lt_size holz
          have hol' : (s.heap.push (set0 w)).get? l = some { cls := .type "tuple", dict := odictz, data := .seq items nlz, slots := oslotsz } := Heap.get?_push_of_some _ holz
          have hsls := F.sub_tuple_set
          have hslfz := F.sub_tuple_frozenset
          have hnez : (Value.type "tuple" == Value.type "dict") = false := by decide
          have hl1 : (s.heap.push (set0 w)).IsTuple l items := ⟨_, hol', rfl, nlz, rfl⟩
          unfold Builtin.«set.__init__» noKeywords Builtin.Frozenset.updateFrom at ⊢
          generalize hPI : pyIter = PI
          wp_walk
          subst hPI
          refine wpAny_pyIter_tuple hl1 (wpAny_bind (wpAny_runValue ?_))
          refine txt_loop (s := s) (I := (s.heap.push (set0 w)).objs.size) (S := s.heap.objs.size) (Walks.tuple (by simp [hh]) _ l (by rw [s1]; exact Nat.ne_of_lt (Nat.lt_succ_of_lt lS)) items) (by
            rw [s1]
            simp only [List.mem_cons, List.not_mem_nil, or_false, not_or]
            exact ⟨Nat.ne_of_lt (Nat.lt_succ_self _), Nat.ne_of_gt lS⟩) (Heap.get?_push_of_some _ hS) ⟨⟨_, Heap.get?_push_size _ rfl, rfl, rfl⟩, hl1.push _⟩ hi hb fun h' tk c T hd k => ?_
          refine (show wpAny _ _ _ _ _ _ from wpAny_pure (show wpAny _ _ (ret Value.none) _ _ _ from ?_))
          exact wpAny_pure ⟨rfl, h', tk, c, rfl, T, hd, fun b o e => k b o (Nat.ne_of_lt (Heap.lt_size e)) (by rw [s1]; exact Nat.ne_of_lt (Nat.lt_succ_of_lt (Heap.lt_size e))) (Heap.get?_push_of_some _ (Heap.get?_push_of_some _ e))⟩
      · rcases r2 with e | fl2
        · exact hr2
        · cases fl2 with
          | ret r =>
            obtain ⟨rfl, h', tk, c, rfl, T, hd, k⟩ := hr2
            repeat (any_goals (first | assumption | (wp_step)))
            exact q _ _ _ T hd k
          | _ => exact hr2.elim
    | _ => exact hr.elim
end
end L2.DL
end

section
/-! The data layer 23: len(set(xs)), sorted(set(xs)) over data. -/
namespace L2.DL
open PySem PySem.Spec PySem.Calls PyProof.Rows L2
variable [TabsOf]

/-- the set of the strs ns, c of them -/
def txO (w : World) (p : Addr) (ns : List Str) (c : Nat) : HO := .ext fun h => TxtSet w h p (fun y => decide (y ∈ ns)) c
theorem txO_ok {P : Program} {w : World} {H : Hp} {h : Heap} {p : Addr} {ns : List Str} {c : Nat} (R : TxtSet w h p (fun y => decide (y ∈ ns)) c) : ObjOk P w H h p (txO w p ns c) :=
  ⟨R, let ⟨o, _, _, _, ho, _⟩ := R; ⟨o, ho⟩, fun _ _ x k => TxtSet.at x k⟩
section
variable {X : Cx}
theorem strs_dat {K : PySem.W.Frag} {Z : Addr → Prop} {T : Tb} {H : Hp} : ∀ {xs : List V} {ns : List Str}, RepAll K Z T H xs (ns.map .str) → xs = ns.map V.str := rep_strs
def rSetTxt (K : PySem.W.Frag) (w : World) : List V → Hp → VK → Prop := fun xs H Q => ∃ (l : Addr) (ns : List Str), xs = [.ref l] ∧ (SqL K H l (ns.map V.str) ∨ SqT K H l (ns.map V.str)) ∧ ns.length + 1 < scanBound ∧
  ∀ p c, H p = none → (ns.Nodup → c = ns.length) → Q (.ref p) (upd H p (txO w p ns c))
theorem cr_setTxt (hc : X.calm = true) : CallR X (.type "set") (rSetTxt X.K X.w) := by
  rintro pins s σ H xs us Q I r ⟨l, ns, rfl, hq, hb, q⟩
  rw [Vals.ref1 r]
  have go : ∀ its : List Value, Vals (ns.map V.str) its → (s.heap.IsList l its.toArray ∨ s.heap.IsTuple l its.toArray) → wpAny (model X.prog X.w) X.A (call (.type "set") [.ref l]) (EP X pins σ Q) X.xe s := fun its rv hl =>
    call_setTxt (I.ok.hd hc) hl (by simpa using strsAre_of rv) hb fun h' tk c T hd k =>
      ⟨.ref s.heap.objs.size, upd H s.heap.objs.size (txO X.w s.heap.objs.size ns c), I.laid (t' := tk) k (Nat.le_refl _) (txO_ok T), rfl, q _ c (I.hok.fresh (Nat.le_refl _)) hd⟩
  rcases hq with hq | hq
  · obtain ⟨its, rv, pl, _⟩ := I.list hq
    exact go its rv (.inl pl.isList)
  · obtain ⟨its, rv, pl, _⟩ := I.tuple hq
    exact go its rv (.inr pl)
def rLenTxt (w : World) : List V → Hp → VK → Prop := fun xs H Q => ∃ (p : Addr) (ns : List Str) (c : Nat), xs = [.ref p] ∧ H p = some (txO w p ns c) ∧ Q (.int c) H
theorem cr_lenTxt : CallR X (.builtin "len") (rLenTxt X.w) := by
  rintro pins s σ H xs us Q I r ⟨p, ns, c, rfl, hp, q⟩
  rw [Vals.ref1 r]
  obtain ⟨o, es, ep, t, ho, hx, hd, T⟩ := (I.hok p _ hp).1
  have hz := T.sm
  refine call_len_set ho hx hd T.fit ?_ ⟨.int c, H, I.tok _, ⟨_, by rw [T.cnt]⟩, q⟩
  have : scanBound < 2 ^ 62 := by decide
  omega
/-- sorted(set(xs)) -/
def rSortTxt (w : World) : List V → Hp → VK → Prop := fun xs H Q => ∃ (Z : Addr → Prop) (T : Tb) (K : PySem.W.Frag) (p : Addr) (ns : List Str) (c : Nat) (Qd : PyData → Prop), xs = [.ref p] ∧ H p = some (txO w p ns c) ∧ (∀ a, Z a → ¬ New H a) ∧
  (∀ out : List Str, out.Nodup → (∀ y, y ∈ out ↔ y ∈ ns) → SortOk (out.map .str) ∧ Qd (.list ((out.map .str).mergeSort dle))) ∧ ∀ p d H', Grow H H' → H p = none → TopAt K (Zp Z p) T H' p d → Qd d → Q (.ref p) H'
theorem rep_strL {K : PySem.W.Frag} {Z : Addr → Prop} {T : Tb} {H : Hp} : ∀ ns : List Str, RepAll K Z T H (ns.map V.str) (ns.map .str)
  | [] => .nil
  | x :: ns => .cons (.str x) (rep_strL ns)
theorem vals_strs : ∀ {us : List Value}, (∀ v ∈ us, ∃ x tk, v = Value.str x tk) → Vals ((us.map fun v => txtOf (0, v)).map V.str) us
  | [], _ => .nil
  | v :: us, h => by
    obtain ⟨x, tk, rfl⟩ := h v List.mem_cons_self
    exact .cons ⟨tk, rfl⟩ (vals_strs fun u hu => h u (List.mem_cons_of_mem _ hu))
theorem topK {K K' : PySem.W.Frag} {Z : Addr → Prop} {T : Tb} {H : Hp} {p : Addr} {ds : List PyData} {out : List Str} (t : TopAt K Z T H p (.list ds)) (e : ds = out.map .str) : TopAt K' Z T H p (.list ds) := by
  subst e
  obtain ⟨ys, hp, ra⟩ := top_list t
  rw [rep_strs ra] at hp
  exact .inl ⟨_, _, rfl, hp, rep_strL out⟩
theorem sort_strs (out : List Str) : ∃ ys : List Str, (out.map PyData.str).mergeSort dle = ys.map .str := by
  refine ⟨out.mergeSort (fun x y => dle (.str x) (.str y)), ?_⟩
  exact (List.map_mergeSort (r := fun x y => dle (PyData.str x) (.str y)) (s := dle) (f := PyData.str) (l := out) (fun _ _ _ _ => rfl)).symm
theorem cr_sortTxt (hc : X.calm = true) (hu : X.A.units + 66 < cLine) : CallR X (.builtin "sorted") (rSortTxt X.w) := by
  rintro pins s σ H xs us Q I r ⟨Z, T, K, p, ns, c, Qd, rfl, hp, al, o, k⟩
  rw [Vals.ref1 r]
  obtain ⟨ob, es, ep, t, ho, hx, hd, TT⟩ := (I.hok p _ hp).1
  refine sorted_d (Z := Z) (T := T) hu (collect_set (A := X.A.in1) (I.ok.hd hc) ⟨ob, ho, hx.1, hd⟩ TT.fit TT.sm TT.ris TT.led fun s1 vs k1 hz g1 o1 pm => ?_)
  have I1 : Inv X pins σ H s1 := I.call' (ch := []) o1 (Un.kept k1) (I.hok.kept k1) (by rw [g1]; exact I.bare) (fun _ z => nomatch z)
  have hv : ∀ v ∈ vs, ∃ x tk, v = Value.str x tk := fun v hv => by
    obtain ⟨e, he, ev⟩ := List.mem_map.mp (pm.mem_iff.mp hv)
    obtain ⟨x, tk, e1, _⟩ := TT.good e he
    exact ⟨x, tk, ev.symm.trans e1⟩
  have pk : (vs.map fun v => txtOf (0, v)).Perm (es.toList.map txtOf) := by
    have z := pm.map fun v => txtOf (0, v)
    rw [List.map_map] at z
    exact z
  obtain ⟨o1, o2⟩ := o (vs.map fun v => txtOf (0, v)) (pk.nodup_iff.mpr TT.nd) fun y => by rw [pk.mem_iff, ← TT.mem y, decide_eq_true_eq]
  refine ⟨H, _, _, I1, al, vals_strs hv, rep_strL _, o1, ?_, fun p H' g hn t => ?_⟩
  · rw [List.length_map, List.length_map, pm.length_eq, List.length_map, Array.length_toList]
    exact fits_of_scanBound TT.sm
  · obtain ⟨ys, ey⟩ := sort_strs (vs.map fun v => txtOf (0, v))
    exact k p _ H' g hn (topK t ey) o2
end
section
variable {X : Cx} {e : Expr} {p p2 q pos : Pos}
def strsOf : PyData → Option (List Str)
  | .list ds => ds.mapM fun d => match d with | .str x => some x | _ => none
  | .tuple ds => ds.mapM fun d => match d with | .str x => some x | _ => none
  | _ => none
def gStrs (ge : GE) : List Sl → Nat → (List Str → Nat → Prop) → Prop := fun env n Q => ge env n fun d n1 => ∃ ns : List Str, (d = .list (ns.map .str) ∨ d = .tuple (ns.map .str)) ∧ ns.length + 1 < scanBound ∧ Q ns n1
/-- set(e) on its way -/
theorem set_go {ge : GE} {X : Cx} {σ : St} {H : Hp} {Q : VK} {c : Ct} {O : Own} {n : Nat} {env : List Sl} {R : List Str → Nat → Prop} (E : EnvOk X.K c O n H σ env) (hg : gStrs ge env n R)
    (k : ∀ p ns cc H' n1, Ext c.T H H' → TubOk c.T n1 H' → New H p → H' p = some (txO X.w p ns cc) → (ns.Nodup → cc = ns.length) → R ns n1 → Q (.ref p) H') : tCB (rSetTxt X.K X.w) (L2.tCons (tDB X.K ge) L2.tNil) σ H Q := by
  refine ⟨c, O, n, env, _, E, hg, fun v d H1 n1 x1 t1 r1 ⟨ns, hd, hb, q⟩ => ?_⟩
  have go : ∃ l, v = .ref l ∧ (SqL X.K H1 l (ns.map V.str) ∨ SqT X.K H1 l (ns.map V.str)) := by
    rcases hd with rfl | rfl
    · obtain ⟨a, ys, rfl, sa, ra⟩ := r1.list
      rw [rep_strs ra] at sa
      exact ⟨a, rfl, .inl (.of sa)⟩
    · obtain ⟨a, ys, rfl, sa, ra⟩ := r1.tuple
      rw [rep_strs ra] at sa
      exact ⟨a, rfl, .inr (.inl sa)⟩
  obtain ⟨l, rfl, sq⟩ := go
  refine ⟨l, ns, rfl, sq, hb, fun p cc hp hn => ?_⟩
  have E1 := E.extend x1 t1
  exact k p ns cc _ n1 (x1.trans (Grow.new hp).ext) (t1.grow (.new hp)) (fun o nt h => by
    by_cases z : c.T.u = some p
    · exact E1.al p (.inl (E.tz p z)) (new_none hp)
    · exact x1.sm z (not_new nt h) (new_none hp)) upd_same hn q
def gLenSet (ge : GE) : GE := fun env n Q => gStrs ge env n fun ns n1 => ns.Nodup ∧ Q (.int ns.length) n1
theorem d_lenSet {ge : GE} (hc : X.calm = true) (h : DB X e ge) (g1 : Gl X "len") (m1 : X.mg "len" = none) (g2 : Gl X "set") (m2 : X.mg "set" = none)
    (hs : starEach [e] X.env = (false, eval e X.env) :: starEach [] X.env := by rfl) (hs2 : starEach [.Call (.Name "set" p2) [e] [] q] X.env = (false, eval (.Call (.Name "set" p2) [e] [] q) X.env) :: starEach [] X.env := by rfl)
    (hpl : (backTo pos (starEach [] X.env)).any (·.1) = false := by rfl) (hpl2 : (backTo q (starEach [] X.env)).any (·.1) = false := by rfl) :
    DE X (.Call (.Name "len" p) [.Call (.Name "set" p2) [e] [] q] [] pos) (gLenSet ge) :=
  ⟨pe_weak (pe_callB cr_lenTxt g1 m1 boot_len (pa_cons (pe_callTy (cr_setTxt hc) g2 m2 boot_set (pa_cons h.pe pa_nil hs) (by decide) (by decide) hs hpl2) pa_nil hs2) (by decide) (by decide) hs2 hpl) fun σ H Q ⟨c, O, n, env, Qd, E, hg, k⟩ => by
    refine set_go E hg fun p ns cc H' n1 x1 t1 _ hp hn ⟨nd, q⟩ => ⟨p, ns, cc, rfl, hp, ?_⟩
    have := hn nd
    subst this
    exact k _ _ H' n1 x1 t1 (.int _) q⟩
def gSortSet (ge : GE) : GE := fun env n Q => gStrs ge env n fun ns n1 => ∀ out : List Str, out.Nodup → (∀ y, y ∈ out ↔ y ∈ ns) → SortOk (out.map .str) ∧ Q (.list ((out.map .str).mergeSort dle)) n1
theorem f_sortSet {ge : GE} (hc : X.calm = true) (hu : X.A.units + 66 < cLine) (h : DB X e ge) (g1 : Gl X "sorted") (m1 : X.mg "sorted" = none) (g2 : Gl X "set") (m2 : X.mg "set" = none)
    (hs : starEach [e] X.env = (false, eval e X.env) :: starEach [] X.env := by rfl) (hs2 : starEach [.Call (.Name "set" p2) [e] [] q] X.env = (false, eval (.Call (.Name "set" p2) [e] [] q) X.env) :: starEach [] X.env := by rfl)
    (hpl : (backTo pos (starEach [] X.env)).any (·.1) = false := by rfl) (hpl2 : (backTo q (starEach [] X.env)).any (·.1) = false := by rfl) :
    DF X (.Call (.Name "sorted" p) [.Call (.Name "set" p2) [e] [] q] [] pos) (gSortSet ge) :=
  ⟨pe_weak (pe_callB (cr_sortTxt hc hu) g1 m1 (by rfl) (pa_cons (pe_callTy (cr_setTxt hc) g2 m2 boot_set (pa_cons h.pe pa_nil hs) (by decide) (by decide) hs hpl2) pa_nil hs2) (by decide) (by decide) hs2 hpl) fun σ H Q ⟨c, O, n, env, Qd, E, hg, k⟩ => by
    refine set_go E hg fun p ns cc H' n1 x1 t1 nw hp hn q => ⟨c.av O, c.T, X.K, p, ns, cc, fun d => Qd d n1, rfl, hp, (E.extend x1 t1).al, q, fun p' d H2 g hn2 t q2 => ?_⟩
    exact k p' d H2 n1 (x1.trans g.ext) (t1.grow g) (none_before E x1 (fun o nt h => by rw [hn2] at h; cases h) (tub_some t1)) t q2⟩
end
end L2.DL
end

section
/-! The data layer 24: an own exception over LookupError whose __init__ is: super().__init__(name); self.name = name. -/
namespace L2.DL
open PySem PySem.Spec PySem.Calls PyProof.Rows L2

def ntScope : Scope := { kind := .function, names := [("self", .local), ("name", .local), ("__class__", .free), ("super", .globalImplicit)], isGenerator := false, isCoroutine := false, more := [] }
def ntArgs : Arguments := { posonlyargs := [], args := [{ arg := "self", annotation := none, pos := ⟨4, 17, 4, 21⟩ }, { arg := "name", annotation := none, pos := ⟨4, 23, 4, 27⟩ }], vararg := none, kwonlyargs := [], kw_defaults := [], kwarg := none, defaults := [] }
def ntB1 : Stmt := .Expr (.Call (.Attribute (.Call (.Name "super" ⟨5, 8, 5, 13⟩) [] [] ⟨5, 8, 5, 15⟩) "__init__" ⟨5, 8, 5, 24⟩) [.Name "name" ⟨5, 25, 5, 29⟩] [] ⟨5, 8, 5, 30⟩) ⟨5, 8, 5, 30⟩
def ntB2 : Stmt := .Assign [.Attribute (.Name "self" ⟨6, 8, 6, 12⟩) "name" ⟨6, 8, 6, 17⟩] (.Name "name" ⟨6, 20, 6, 24⟩) ⟨6, 8, 6, 24⟩
def ntBody : List Stmt := [ntB1, ntB2]
abbrev leMro : List Value := [.type "LookupError", .type "Exception", .type "BaseException", .type "object"]
/-- what the written part says of the class C, its __init__ fI, the cell cc, the code object cda -/
structure NtC (P : Program) (K : PySem.W.Frag) (C fI cc cda : Addr) : Prop where
  fn : ∃ (oc : Value) (od : Option Addr) (kV doc pm : Value) (an : Option Addr) (ct : Value) (osl : Array (Option Value)),
    K.lookup fI = some ⟨oc, od, .func (PySem.W.fnX "__init__" "NoTask.__init__" ntArgs ntBody ntScope [("__class__", cc)] .none kV doc pm an (.ref cda) ct), osl⟩
  code : PySem.W.codeIn K (.ref cda) "NoTask.__init__" = true
  file : ∃ (ccl : Value) (cdd : Option Addr) (vs : Array Value) (ccs : Array (Option Value)) (file : Str) (tf : Tok), K.lookup cda = some ⟨ccl, cdd, .fields vs, ccs⟩ ∧ vs[2]? = some (.str file tf) ∧ ((P.main.file : Str) == file) = true
  cell : ∃ (cl : Value) (cld : Option Addr) (csl : Array (Option Value)), K.lookup cc = some ⟨cl, cld, .cell (some (.ref C)), csl⟩
  cls : ∃ cd, PySem.W.clsIn K C = some cd
  exI : PySem.W.excInitIn K C leMro "LookupError.__new__" = true
  exO : PySem.W.excOver K C leMro = true
  hd : (PySem.W.hasDictIn K C) = true
  init : (PySem.W.findIn K (.ref C) "__init__") = some (some (.ref fI))
  tI : PySem.W.typeIn K (.ref fI) = some (.type "function")
  sa : (PySem.W.findIn K (.ref C) "__setattr__") = some (some (.builtin "object.__setattr__"))
  tk : PySem.W.takerIn K C "name" = some none
  sup : PySem.W.ks_superIn K C C "__init__" = some (some (.builtin "LookupError.__init__"))
  opq : PySem.W.nsIn K cStatics "thirdparty.any" = some none
  subL : PySem.W.subIn K (.ref C) (.type "LookupError") = some true
  mroC : PySem.W.mroIn K C (.ref C) = some true
  supg : PySem.W.nsIn K mainGlobals "super" = some none
  top : (P.main.scope.names.lookup ("super" : Str)).isSome = false

section
open PySem.W Builtin Builtin.ObjectAttr
variable {P : Program} {w : World} {A : Around} {E : Value → Shared → Prop} {K : PySem.W.Frag} {C fI cc cda : Addr} {hp : Heap} {mg : Str → Option Value}
/-- self.name = v, the first field -/
theorem nt_osa {s : Shared} {t1 x : Addr} {tk : Tok} {v : Value} {R : Result → Shared → Prop} (T : NtC P K C fI cc cda) (X : K.In s.heap) (hx : s.heap.get? x = some (PySem.HandSPX.excO C t1))
    (q : ∀ h' tk' dx, (∀ b o, b ≠ x → s.heap.get? b = some o → h'.get? b = some o) → s.heap.objs.size ≤ dx → dx ≠ x → h'.get? x = some { cls := .ref C, dict := some dx, data := .fields #[.ref t1, .none, .none, .none, .bool false, .none] } →
      h'.Ns1 dx (fun y => if y = ("name" : Str) then some v else none) → R (.ok (.ret .none)) { s with heap := h', toks := tk' }) :
    codeAny (model P w) A (.call (.builtin "object.__setattr__") ⟨[.ref x, .str "name" tk, v], []⟩) R s := by
  refine osa_openX (od := none) PySem.F.store_LookupError X ⟨hx, rfl, rfl, trivial⟩ T.exO T.tk fun b => ?_
  obtain ⟨cd, hc, hd⟩ := any_some T.hd
  have ne : x ≠ s.heap.objs.size := Nat.ne_of_lt (Heap.lt_size hx)
  have hcls : Looks (model P w) s.heap (classData C) cd := looks_clsIn X hc
  show wpAny _ _ (storeInOwnDict (.ref x) (.ref C) (.str "name" tk) "name" v b) _ _ _
  obtain ⟨hp, g, d, t, os⟩ := s
  obtain ⟨nm, bs, mro, ns, qn, hd', sn, sb, ab, col, del⟩ := cd
  dsimp only at hd
  subst hd
  unfold storeInOwnDict ownDictForStores at ⊢
  repeat (first | with_reducible refine PySem.HandSPX.store_in_new ?_ ?_ | with_reducible refine wpAny_loadPart_at hx ?_ | with_reducible refine hcls.at ?_ | wp_step)
  · exact ⟨_, #[], _, (Heap.get?_update_ne _ _ _ _ ne.symm).trans (Heap.get?_push_at rfl rfl), rfl, fun e he => absurd he (by simp), fun _ => rfl⟩
  · intro h' tk' hn hs
    have x1 : (hp.push { cls := .type "dict", data := .dict #[] }).get? x = some (PySem.HandSPX.excO C t1) := Heap.get?_push_of_some _ hx
    refine q h' tk' hp.objs.size (fun b o hb ho => (hs.2 b (Nat.ne_of_lt (Heap.lt_size ho))).trans ((Heap.get?_update_ne _ _ _ _ hb).trans (Heap.get?_push_of_some _ ho))) (Nat.le_refl _) ne.symm ?_ hn
    exact (hs.2 x ne).trans (Heap.get?_update_self _ x1 rfl)

/-- what is true where the exception stands -/
def NtMade (C : Addr) (hp h' : Heap) (e : Addr) (v : Value) : Prop := ∃ dx t1 : Addr, (∀ b o, hp.get? b = some o → h'.get? b = some o) ∧ hp.objs.size ≤ e ∧ hp.objs.size ≤ dx ∧ dx ≠ e ∧
  h'.get? e = some { cls := .ref C, dict := some dx, data := .fields #[.ref t1, .none, .none, .none, .bool false, .none] } ∧ h'.Ns1 dx (fun y => if y = ("name" : Str) then some v else none)
theorem nt_body {s : Shared} {L x t0 : Addr} {v : Value} {m : Str → Option Value} {Q : Flow → Shared → Prop} (T : NtC P K C fI cc cda) (X₀ : K.In hp) (G : hp.Ns mainGlobals mg) (B : ∃ mb, hp.Ns builtinsNs mb ∧ ∀ y : Str, y ≠ "__name__" → mb y = bootBuiltins y)
    (F : Fr hp L s.heap m) (N : News hp L s.heap [(x, excObj C t0 none .none)]) (m1 : m "self" = some (.ref x)) (m2 : m "name" = some v) (hxs : hp.objs.size ≤ x)
    (q : ∀ h' tk, NtMade C hp h' x v → Q .next { s with heap := h', toks := tk }) :
    _root_.PySem.wpAt (model P w) A (.func ntBody (ksEnv "NoTask.__init__" ntScope L fI (.ref cda) cc)) (execs ntBody (ksEnv "NoTask.__init__" ntScope L fI (.ref cda) cc)) Q E s := by
  obtain ⟨oc, od, kV, doc, pm, an, ct, osl, hf⟩ := T.fn
  obtain ⟨ccl, cdd, vs, ccs, file, tf, hcode, hvs, hfile⟩ := T.file
  obtain ⟨cl, cld, csl, hcell⟩ := T.cell
  obtain ⟨cd, hD⟩ := T.cls
  obtain ⟨mb, hb, hbt⟩ := B
  have X : (K.In s.heap) := (X₀.keeps F.keep)
  have I0 : InstAt s.heap x (excObj C t0 none .none) C none := InstAt.of_exc0 N (by simp)
  obtain ⟨oD, hD1, hD2⟩ : ∃ oD, s.heap.get? C = some oD ∧ oD.data = .cls cd := by
    unfold clsIn at hD
    split at hD
    · rename_i c d cd' sl ho
      cases hD
      exact ⟨_, X _ _ ho, rfl⟩
    · cases hD
  refine ks_wpAt_execs_cons (ks_wpAt_Expr_any (ks_wpAt_MethodCall ?_))
  refine ks_wpAt_super_base (env := ksEnv "NoTask.__init__" ntScope L fI (.ref cda) cc) (by rfl) (by rfl) (by decide) rfl (X _ _ hf) rfl rfl rfl (X _ _ hcode) rfl hvs hfile T.top ?_
  refine ks_loadName_global rfl rfl (loadGlobal_builtin (env := ksEnv "NoTask.__init__" ntScope L fI (.ref cda) cc) (G.keeps F.keep) (mg_none_of X₀ G T.supg) (hb.keeps F.keep) ((hbt _ (by decide +kernel)).trans (by rfl)) ⟨rfl, ?_⟩)
  refine wpAny_loadName_free rfl rfl rfl ⟨_, X _ _ hcell, rfl⟩ (wpAny_loadName_local rfl rfl F.ns m1 (ks_wpAny_isType_cls hD1 hD2 ⟨rfl, ?_⟩))
  refine ks_wpAny_call_super hD1 hD2 I0.at_ I0.cls (fun c e => by cases e) (looks_mroIn X T.mroC) fun h1 e1 k1 => ?_
  obtain ⟨F1, N1, l1⟩ := ks_newsPush F N rfl e1 k1
  have x1 : x < s.heap.objs.size := l1 _ List.mem_cons_self
  refine kxs_method (s := { s with heap := h1 }) (so := s.heap.objs.size) (D := C) (x := x) (C := C) kxs_LookupError F1 X₀ N1 List.mem_cons_self (InstAt.of_exc0 (t := t0) (c2 := .none) N1 (List.mem_cons_of_mem _ List.mem_cons_self)) T.opq T.sup T.subL (by decide) fun u h2 F2 N2 l2 => ?_
  have u1 : s.heap.objs.size < u := l2 _ List.mem_cons_self
  have u2 : x < u := l2 _ (List.mem_cons_of_mem _ List.mem_cons_self)
  refine kxs_callWith1 (x := x) (i := "LookupError.__init__") N2 List.mem_cons_self ?_
  refine PyProof.Rows.args_cons (wpAny_Name (wpAny_loadName_local rfl rfl F2.ns m2 (PyProof.Rows.args_nil ⟨kxs_at N2 List.mem_cons_self, ?_⟩))) rfl
  refine kxs_call F2 X₀ N2 PySem.F.excBase_LookupError T.exI (u := u) (x := x) List.mem_cons_self (.tail (Nat.ne_of_gt u2) (.tail (Nat.ne_of_gt x1) (.head fun _ h => nomatch h))) (by show 1 ≤ sizeLine; decide) fun t' h3 F3 N3 _ => ?_
  refine wpAt_of_wpAny ?_
  have hx3 : h3.get? x = some (PySem.HandSPX.excO C t') := (N3 (x, excObj C t' none .none) (by simp)).1
  show wpAny _ _ (execs [ntB2] _) _ _ _
  have X3 : K.In h3 := X₀.keeps F3.keep
  refine wpAny_execs_cons (plainObj_wpAny_Assign_Attribute (wpAny_Name (wpAny_loadName_local rfl rfl F3.ns m2 (wpAny_Name (wpAny_loadName_local rfl rfl F3.ns m1 ?_)))) (by rfl))
  refine set_plain X3 (ox := PySem.HandSPX.excO C t') (od := none) ⟨hx3, rfl, rfl, trivial⟩ T.sa ?_
  refine nt_osa T X3 hx3 fun h4 tk4 dx k4 ge ne hx4 hn4 => ?_
  have kp : ∀ b o, hp.get? b = some o → h4.get? b = some o := fun b o e => k4 b o (Nat.ne_of_lt (Nat.lt_of_lt_of_le (Heap.lt_size e) hxs)) (F3.keep b o e)
  have sz : hp.objs.size ≤ dx := Nat.le_trans (Nat.le_trans hxs (Nat.le_of_lt (Heap.lt_size hx3))) ge
  exact wpAny_execs_nil (q _ _ ⟨dx, t', kp, hxs, sz, ne, hx4, hn4⟩)
end
end L2.DL
end

section
/-! The data layer 25: NoTask(task) made and raised. -/
namespace L2.DL
open PySem PySem.Spec PySem.Calls PyProof.Rows L2

section
open PySem.W
variable {P : Program} {w : World} {A : Around} {E : Value → Shared → Prop} {K : PySem.W.Frag} {C fI cc cda : Addr} {hp : Heap} {mg : Str → Option Value}
theorem nt_call {k : Nat} {v : Value} {g : Array GenState} {d : Drawn} {t : Nat} {os : OsState} {Q : Value → Shared → Prop} (T : NtC P K C fI cc cda) (hr : Room (k + 1) A) (X : K.In hp) (G : hp.Ns mainGlobals mg) (B : ∃ mb, hp.Ns builtinsNs mb ∧ ∀ y : Str, y ≠ "__name__" → mb y = bootBuiltins y) (nl : hp.NoLimit)
    (q : ∀ h' tk e, NtMade C hp h' e v → Q (.ref e) ⟨h', g, d, tk, os⟩) : wpAny (model P w) A (call (.ref C) [v]) Q E ⟨hp, g, d, t, os⟩ := by
  obtain ⟨nm, N', qn, bs, bm, hdct, sn, sub, ab, col, dd, k0, k1, k2, k3, k5, hC, hT⟩ := excInit_of X T.exI
  obtain ⟨oc, od, kV, doc, pm, an, ct, osl, hf⟩ := T.fn
  have kk : ∀ b o, hp.get? b = some o → ((hp.push (kdv_tup [v])).push (PySem.HandSPX.excO C hp.objs.size)).get? b = some o := fun b o e => Heap.get?_push_of_some _ (Heap.get?_push_of_some _ e)
  have sz : (hp.push (kdv_tup [v])).objs.size = hp.objs.size + 1 := Heap.size_push ..
  have sz2 : ((hp.push (kdv_tup [v])).push (PySem.HandSPX.excO C hp.objs.size)).objs.size = hp.objs.size + 2 := by rw [Heap.size_push, sz]
  have hget : ((hp.push (kdv_tup [v])).push (PySem.HandSPX.excO C hp.objs.size)).get? (hp.objs.size + 1) = some (PySem.HandSPX.excO C hp.objs.size) := Heap.get?_push_at sz.symm rfl
  refine wpAny_call (PySem.HandSPX.call_own PySem.F.excBase_LookupError hT hC (looks_findIn X T.init) (fun self => bind_fn X self T.tI) (by show 1 ≤ sizeLine; decide) ?_)
  refine ks_codeAny_call_defAt (fd := fnX "__init__" "NoTask.__init__" ntArgs ntBody ntScope [("__class__", cc)] .none kV doc pm an (.ref cda) ct) (body := ntBody) (binds := [("self", .ref (hp.objs.size + 1)), ("name", v)])
    (hr.make C [v] []).depth (X.keeps kk _ _ hf) rfl (nl.keeps kk) (codeRec_of (X.keeps kk) T.code) rfl (BindsTo.of_eq rfl) (by show ∀ x ∈ ntScope.names, x.2 ≠ .cell; decide) (fun x hxz => by
      simp only [List.mem_cons, List.not_mem_nil, or_false] at hxz
      rcases hxz with rfl | rfl <;> rfl) fun h1 hns k1 => ?_
  have ne : hp.objs.size + 1 ≠ ((hp.push (kdv_tup [v])).push (PySem.HandSPX.excO C hp.objs.size)).objs.size := by rw [sz2]; exact Nat.ne_of_lt (Nat.lt_succ_self _)
  have F : Fr hp ((hp.push (kdv_tup [v])).push (PySem.HandSPX.excO C hp.objs.size)).objs.size h1 (fun x => ([("self", .ref (hp.objs.size + 1)), ("name", v)] : List (Str × Value)).reverse.lookup x) := ⟨hns, fun b o e => k1 b o (kk b o e), by rw [sz2]; exact Nat.le_add_right _ _⟩
  have N : News hp ((hp.push (kdv_tup [v])).push (PySem.HandSPX.excO C hp.objs.size)).objs.size h1 [(hp.objs.size + 1, excObj C hp.objs.size none .none)] := fun p hp' => by
    obtain rfl := List.mem_singleton.mp hp'
    refine ⟨k1 _ _ hget, ne, ?_⟩
    cases z : hp.get? (hp.objs.size + 1) with
    | none => rfl
    | some o => exact absurd (Heap.lt_size z) (Nat.not_lt_of_le (Nat.le_succ _))
  refine nt_body (v := v) T X G B F N rfl rfl (Nat.le_succ _) fun h' tk M => ?_
  exact ⟨rfl, q h' tk _ M⟩
end

section
variable {X : Cx} {C fI cc cda : Addr} {x : Str} {p pos : Pos} {e : Expr} {te : TE}
/-- what else the written part says of C -/
structure NtR (K : PySem.W.Frag) (C : Addr) : Prop where
  exC : (PySem.W.subIn K (.ref C) (.type "BaseException")) = some true
  tyC : (PySem.W.typeIn K (.ref C)) = some (.type "type")
  kC : (PySem.W.keepIn K (.ref C)) = true
def tNt (C : Addr) (te : TE) : St → Hp → XK → Prop := fun σ H Q => te σ H fun v H1 => ∀ dx, H1 dx = none → Q (.ref C) (some dx) (upd H1 dx (.xd [("name", v)]))
theorem pmk_nt {k : Nat} (T : NtC X.prog X.K C fI cc cda) (R : NtR X.K C) (hr : Room (k + 1) X.A) (hg : Gl X x) (hm : X.mg x = some (.ref C)) (he : PE X e te) (hdb : (x == ("__debug__" : Str)) = false := by decide)
    (hs : starEach [e] X.env = (false, eval e X.env) :: starEach [] X.env := by rfl) (hpl : (backTo pos (starEach [] X.env)).any (·.1) = false := by rfl) : PMk X (.Call (.Name x p) [e] [] pos) (tNt C te) := by
  intro pins s σ H Q Iz h
  refine wpAny_Call_Name_kw (ld_glob Iz hg hm ?_ hdb)
  refine PySem.W.callWith_K (h₀ := X.base) Iz.ok.mod.kin R.kC (thn ((pa_cons he pa_nil hs).run pos pins s σ H (fun vs H1 => match vs with | [v] => ∀ dx, H1 dx = none → Q (.ref C) (some dx) (upd H1 dx (.xd [("name", v)])) | _ => False) Iz h) fun us s1 ⟨vs, H1, I1, r1, q1⟩ => ⟨I1.kIn, ?_⟩) hs hpl
  cases r1 with
  | nil => exact q1.elim
  | @cons y uz ys vs r1 rr =>
    cases rr with
    | cons _ _ => exact q1.elim
    | nil =>
      show wpAny _ _ (call (.ref C) [uz]) _ _ _
      obtain ⟨hp, g, d, t, os⟩ := s1
      obtain ⟨mb, hb, hbt⟩ := I1.ok.mod.blt
      refine nt_call (mg := X.mg) T hr I1.kIn (I1.ok.mod.glob.keeps I1.bk) ⟨mb, hb.keeps I1.bk, hbt⟩ (I1.ok.mod.nolimit.keeps I1.bk) fun h' tk e ⟨dx, t1, kp, ge, gd, ne, hx, hns⟩ => ?_
      obtain ⟨G, g1, g2⟩ := restrict h' fun b => decide (b ≠ e)
      have gk : ∀ b, b ≠ e → G.get? b = h'.get? b := fun b hb => g1 b (decide_eq_true hb)
      have ge0 : G.get? e = none := g2 e (by simp)
      have nn : H1 dx = none := I1.hok.fresh gd
      have J : Inv X pins σ (upd H1 dx (.xd [("name", y)])) ⟨G, g, d, tk, os⟩ := I1.laid (t' := tk) (h' := G) (fun b o z => (gk b (Nat.ne_of_lt (Nat.lt_of_lt_of_le (Heap.lt_size z) ge))).trans (kp b o z)) gd
        ⟨_, hns.at fun o z => (gk dx ne).trans z, relO_put (fs := []) r1 fun _ => True.intro⟩
      refine ⟨e, _, _, ⟨G, g, d, tk, os⟩, _, .ref C, some dx, rfl, J, fun b o z => ?_, ge0, hx, ⟨rfl, rfl⟩, rfl, rfl, ?_, rfl, I1.bare, raises_own R.exC R.tyC, q1 dx nn⟩
      · by_cases w : b = e
        · rw [w, ge0] at z; cases z
        · exact (gk b w).symm.trans z
      · rw [upd_ne ne.symm]
        exact I1.hok.fresh ge
end
end L2.DL
end

section
/-! The data layer 26: isinstance of a caught exception that has a dict; defs that raise; the catch. -/
namespace PySem.W
open PySem PySem.Spec PyProof.Rows PySem.Calls
section
variable {prog : Program} {w : World} {A : Around} {E : Value → Shared → Prop} {K : Frag} {x D : Addr} {ox : Obj} {od : Option Obj}
theorem find_clsD {a g : Value} (hc : (clsIn K D).isSome = true) (ha : findIn K (.ref D) "__class__" = some (some a)) (hg : specialIn K a "__get__" = some (some g)) (ht : takesIn K a = some true) : findObj K D od "__class__" = some (.bind g a) := by
  obtain ⟨cdz, hc⟩ := Option.isSome_iff_exists.mp hc
  unfold findObj
  rw [(hc), Option.bind_some, ha, Option.bind_some]
  cases od <;> simp [hg, ht]
theorem cls_ofD {s : Shared} {Q : Option Value → Shared → Prop} (C : L2.ExcC K D) (X : K.In s.heap) (I : InstAt s.heap x ox D od) (h : Q (some (.ref D)) { s with toks := s.toks + 1 }) : wpAny (model prog w) A (getAttr? (.ref x) "__class__") Q E s := by
  have hf : findObj K D od "__class__" = some (.bind (.builtin "getset_descriptor.__get__") (.builtin "object.__class__")) := find_clsD (by obtain ⟨cd, hc, _⟩ := any_some C.hd; rw [hc]; rfl) C.ha C.hn C.ht
  obtain ⟨hp, g, d, t, os⟩ := s
  have l0 := I.type (M := model prog w)
  have l1 := looks_findIn (M := model prog w) X C.hg
  have l2 := looks_findIn (M := model prog w) X C.hk
  have l3 := looks_find (M := model prog w) X I hf
  have lb : Looks (model prog w) hp (isInstance (.ref x) (.type "BaseException")) true := l0.andThen (looks_subIn X C.hs)
  have n2 : (onTheHeap (Value.ref D) && Value.builtin "BaseException.__getattribute__" == Value.builtin "object.__getattribute__") = false := by
    rw [show (Value.builtin "BaseException.__getattribute__" == Value.builtin "object.__getattribute__") = false by decide +kernel]; rfl
  unfold getAttr? getAttrBy? getAttrBy at ⊢
  refine wpAny_bind (wpAny_mkText (wpAny_bind (wpAny_attempt (wpAny_holding (wpAny_bind (l0.at (wpAny_bind (l1.at ?_))))))))
  refine (show wpAny _ _ (if (onTheHeap (Value.ref D) && Value.builtin "BaseException.__getattribute__" == Value.builtin "object.__getattribute__") = true then _ else _) _ _ _ from ?_)
  rw [n2, if_neg Bool.false_ne_true]
  unfold getAttrByItsOwn hookBefore at ⊢
  refine wpAny_bind (by
    rw [(if_pos (show onTheHeap (Value.ref D) = true from rfl))]
    refine l2.at (wpAny_bind (wpAny_attempt (wpAny_holding ?_)))
    unfold callGetattribute
    rw [show (false && onTheHeap (Value.builtin "BaseException.__getattribute__")) = false from rfl, if_neg Bool.false_ne_true]
    unfold boundAndCalled
    rw [(PySem.F.excAttr_ValueError.ga.bind (.ref x))]
    refine wpAny_bind (wpAny_pure (show wpAny _ _ (call (.builtin "BaseException.__getattribute__") [.ref x, .str "__class__" t]) _ _ _ from ?_))
    refine wpAny_call (codeAny_call_builtin PySem.F.excAttr_ValueError.ga.plain PySem.F.entry_bexc_ga (@check_slot (model prog w) _ _ ⟨hp, g, d, t + 1, os⟩ "BaseException.__getattribute__" "BaseException" "__getattribute__" (.ref x) [.str "__class__" t] [] _ (by decide +kernel) (by decide +kernel) lb (PySem.F.args_bexc_ga (.ref x) (.str "__class__" t)) ?_))
    unfold Builtin.«object.__getattribute__» at ⊢
    refine wpAny_bind (wpAny_of_eq (a := ((Value.ref x : Value), [Value.str "__class__" t])) (by first | rfl | (simp only [slotArgs]; rfl)) (wpAny_bind (wpAny_pure (wpAny_bind (l0.at (wpAny_bind (l3.at ?_)))))))
    refine (show wpAny _ _ (holding [Value.builtin "object.__class__"] (call (.builtin "getset_descriptor.__get__") [.builtin "object.__class__", .ref x, .ref D]) >>= ret) _ _ _ from wpAny_bind (wpAny_holding (wpAny_call (class_get (s := ⟨hp, g, d, t + 1, os⟩) (ox := ox) (od := od) X I C.hm (wpAny_pure ?_)))))
    refine (show wpAny _ _ (handedOut (.ref D)) _ _ _ from ?_)
    rw [(handedOut_of (v := .ref D) rfl)]
    first
      | exact (wpAny_pure (wpAny_pure h))
      | exact wpAny_pure h
      | exact wpAny_pure (wpAny_bind (wpAny_pure (wpAny_pure h))))
theorem kit_excD (C : L2.ExcC K D) : KitX K (.ref x) (.ref D) (fun h => ∃ od, InstAt h x ox D od) where
  ty := fun _ _ _ ⟨_, I⟩ => I.type
  it := fun _ _ X _ => by
    obtain ⟨cdD, hcD, _⟩ := any_some C.hd
    unfold clsIn at hcD
    split at hcD
    · rename_i c' d' cd' sl' ho
      intro A' Q' E' s' kz qz
      unfold isType loadHead
      exact wpAny_bind (wpAny_loadPart (kz _ _ (X _ _ ho)) (wpAny_pure qz))
    · cases hcD
  ne := fun h tpz ddz itsz nz slz X htpz => by
    obtain ⟨cdD, hcD, _⟩ := any_some C.hd
    refine Bool.eq_false_iff.mpr fun qz => ?_
    obtain rfl : D = tpz := Value.ref.inj (beq_iff_eq.mp qz)
    unfold clsIn at hcD
    split at hcD
    · rename_i c' d' cd' sl' ho
      cases (X _ _ ho).symm.trans htpz
    · cases hcD
  ca := fun X ⟨_, I⟩ kz => cls_ofD C X I kz
end
end PySem.W
namespace L2.DL
open PySem PySem.Spec PySem.Calls PyProof.Rows L2
theorem call_isED {X : Cx} {a D : Addr} {cls : Value} {d : Option Addr} {oe : Obj} {pn : List (Addr × Obj)} (C : ExcC X.K D) (hz : Zc cls d oe) (hf : ∃ vs, oe.data = .fields vs) :
    CallR (X.suite a ((a, oe) :: pn)) (.builtin "isinstance") (fun xs H Q => cls = .ref D ∧ (∃ dd fs, d = some dd ∧ H dd = some (.xd fs)) ∧ rIsE X.K D a xs H Q) := by
  intro pins s σ H xs us Q Iz r ⟨ec, ⟨dd, fs, ed, hdd⟩, c, cv, b, e1, hcv, e, q⟩
  subst e1 ec ed
  cases r with
  | cons rx rr =>
    cases rr with
    | cons rt rr =>
      cases rr
      cases rx
      obtain rfl := hcv _ rt
      obtain ⟨hgetz, _⟩ := Iz.pin (a, oe) (List.mem_append.mpr (.inl List.mem_cons_self))
      obtain ⟨vs, hv⟩ := hf
      obtain ⟨mA, ⟨oD, es, ep, ho, _⟩, _⟩ : ObjOk X.prog X.w H s.heap dd (.xd fs) := Iz.hok dd _ hdd
      have J : PySem.W.InstAt s.heap a oe D (some oD) := by
        obtain ⟨oc, odd, oda, osl⟩ := oe
        obtain ⟨h1, h2⟩ := hz
        dsimp only at h1 h2 hv
        subst h1 h2 hv
        exact ⟨hgetz, rfl, rfl, ho⟩
      exact PySem.W.kia_one (PySem.W.kit_excD C) Iz.kIn ⟨_, J⟩ e (fun z => nomatch z) fun tk => ⟨.bl b, H, Iz.kept (t' := tk) fun _ _ z => z, rfl, q⟩
end L2.DL
end

section
/-! The data layer 27: defs that raise NoTask; the catch. -/
namespace L2.DL
open PySem PySem.Spec PySem.Calls PyProof.Rows L2
variable [TabsOf]

abbrev GX := List PyData → Str → Prop
/-- the promise: NoTask(x) is raised; nothing that stood is changed -/
def spX (K : PySem.W.Frag) (C : Addr) (g : GX) : Sp := fun vs H _ E => ∃ (Z : Addr → Prop) (T : Tb) (n : Nat) (ds : List PyData) (x : Str),
  (∀ a, Z a → ¬ New H a) ∧ (∀ a, T.u = some a → Z a) ∧ TubOk T n H ∧ RepAll K Z T H vs ds ∧ g ds x ∧
  ∀ n' dx H', Ext T H H' → TubOk T n' H' → New H dx → H' dx = some (.xd [("name", .str x)]) → E (.ref C) (some dx) H'
/-- what is wanted of the exception -/
def Xok (c : Ct) (C : Addr) (E : XK) (x : Str) : Prop := ∀ n dx H, Ext c.T c.H0 H → TubOk c.T n H → New c.H0 dx → H dx = some (.xd [("name", .str x)]) → E (.ref C) (some dx) H
section
variable {K : PySem.W.Frag}
theorem callX_go {C : Addr} {g : GX} {ga : GA} {c : Ct} {O : Own} {n : Nat} {H : Hp} {σ : St} {env : List Sl} {x : Str} {E : XK} {Q : VK} (Ev : EnvOk K c O n H σ env) (hg : ga env n fun ds _ => g ds x) (k : Xok c C E x) : tCall (spX K C g) [] E (tDA K ga) σ H Q :=
  ⟨c, O, n, env, _, Ev, hg, fun vs ds H1 n1 x1 t1 r1 q1 => by
    dsimp only
    rw [List.append_nil]
    exact ⟨c.av O, c.T, n1, ds, x, (Ev.extend x1 t1).al, Ev.atz, t1, r1, q1, fun n' dx H' x' t' nw hd => k n' dx H' (Ev.ext.trans (x1.trans x')) t' ((Ev.extend x1 t1).newp nw) hd⟩⟩
theorem pss_never {X : Cx} {sts : List Stmt} : PSs X sts (fun _ _ _ => False) := ⟨fun _ _ _ _ _ _ h => h.elim⟩
variable {P : Program} {w : World} {mg : Str → Option Value} {base : Heap}
/-- THE RULE for a def that raises -/
theorem fn_x {x qual : Str} {st : Stmt} {f : Addr} {fd : FuncData} {N ps : List Str} {k : Nat} {C : Addr} {g : GX} {t : XK → TS} (F : Fun K x qual st f fd) (S : FnScope N ps (defScope st)) (len : ∀ ds x, g ds x → ds.length = ps.length) (hN : ps.length ≤ N.length)
    (walk : ∀ (cdv : Value) (A : Around) (outer : List Env) (s : Shared) (H : Hp) (E : XK), Room k (A.deeper (envOfC qual (defScope st) s.heap.objs.size f cdv)) → PSs (cxOf (L2.CX P w) P w K mg base N qual (defScope st) f cdv A outer s H E) (defBody st) (t E))
    (law : ∀ (ds : List PyData) (n : Nat) (y : Str), g ds y → ∀ (E : XK) (D : Ends) (σ : St) (H : Hp) (c : Ct), EnvOk K c (fun _ => none) n H σ (startE N ds) → Xok c C E y → t E D σ H) : FnOk P w K mg base (L2.CX P w) (k + 1) f fd ps (spX K C g) := by
  refine F.okX S (fun vs H Q E ⟨Z, T, n, ds, y, al, tz, t, r, hg, _⟩ => by rw [r.length]; exact len ds y hg) fun cdv A outer s H vs Q E hr ⟨Z, T, n, ds, y, al, tz, tt, r, hg, k⟩ => ?_
  refine ⟨_, walk cdv A outer s H E hr, ?_⟩
  have hl := len ds y hg
  exact law ds n y hg E _ _ _ ⟨Z, T, H, [], N.length⟩ (env_start al tz tt r (by omega)) fun n' dx H' x t nw hd => k n' dx H' x t nw hd
end

/-! ### if c: raise NoTask(e) -/
section
variable {X : Cx} {C fI cc cda : Addr} {x : Str} {p pos pos2 pos3 : Pos} {e c : Expr}
def tIfNt (K : PySem.W.Frag) (C : Addr) (gt : GT) (ge : GE) (E : XK) : TS := fun D σ H => tDT K gt σ H fun b H1 => if b = true then tNt C (tDE K ge) σ H1 (fun cls d H' => E cls d H') else False
theorem ss_ifNt {k : Nat} {E : XK} {gt : GT} {ge : GE} (T : NtC X.prog X.K C fI cc cda) (R : NtR X.K C) (hr : Room (k + 1) X.A) (hcalm : X.calm = true) (tk : Takes X fun cls d _ H => E cls d H) (hg : Gl X x) (hm : X.mg x = some (.ref C)) (ht : DT X c gt) (he : DE X e ge) (hdb : (x == ("__debug__" : Str)) = false := by decide)
    (hs : starEach [e] X.env = (false, eval e X.env) :: starEach [] X.env := by rfl) (hpl : (backTo pos (starEach [] X.env)).any (·.1) = false := by rfl) :
    PSs X [.If c [.Raise (some (.Call (.Name x p) [e] [] pos)) none pos2] [] pos3] (tIfNt X.K C gt ge E) :=
  pss_one (ps_weak (ps_if ht.pe (pss_one (ps_raise hcalm tk (pmk_nt T R hr hg hm he.pe hdb hs hpl))) pss_nil) fun D σ H ⟨c, O, n, env, Qd, Ev, hg, k⟩ => ⟨c, O, n, env, Qd, Ev, hg, fun b H1 n1 x1 t1 q1 => by
    have := k b H1 n1 x1 t1 q1
    cases b with
    | true => exact this
    | false => exact this.elim⟩)
theorem ifNt_go {K : PySem.W.Frag} {gt : GT} {ge : GE} {E : XK} {D : Ends} {σ : St} {H : Hp} {c : Ct} {O : Own} {n : Nat} {env : List Sl} {y : Str} (Ev : EnvOk K c O n H σ env) (hg : gt env n fun b n1 => b = true ∧ ge env n1 fun d _ => d = .str y) (k : Xok c C E y) : tIfNt K C gt ge E D σ H := by
  refine ⟨c, O, n, env, _, Ev, hg, fun b H1 n1 x1 t1 ⟨eb, q1⟩ => ?_⟩
  subst eb
  rw [if_pos rfl]
  refine ⟨c, O, n1, env, _, Ev.extend x1 t1, q1, fun v d H2 n2 x2 t2 r ed dx hd => ?_⟩
  subst ed
  obtain rfl := (show RepT K _ _ H2 v (.str y) from .inl r).str
  have E2 := (Ev.extend x1 t1).extend x2 t2
  exact k n2 dx _ ((Ev.ext.trans (x1.trans x2)).trans (Grow.new hd).ext) (t2.grow (.new hd)) (E2.newp (new_none hd)) upd_same
end

/-! ### a call that raises, as a first statement; as what is returned -/
section
variable {X : Cx} {k : Nat} {f : Addr} {fd : FuncData} {ps : List Str} {x : Str} {C : Addr} {p pos : Pos} {e : Expr} {es : List Expr} {g : GX} {ga : GA} {E : XK}
theorem pe_callNt (F : FnOk X.prog X.w X.K X.mg X.base (L2.CX X.prog X.w) k f fd ps (spX X.K C g)) (tk : Takes X fun cls d _ H => E cls d H) (hr : Room k X.A) (hg : Gl X x) (hm : X.mg x = some (.ref f)) (hk : PySem.W.keepIn X.K (.ref f) = true) (hb : Binds X.K fd ps [])
    (ha : DA X (e :: es) ga) (hdb : (x == ("__debug__" : Str)) = false := by decide) (he : starEach (e :: es) X.env = (false, eval e X.env) :: starEach es X.env := by rfl) (hpl : (backTo pos (starEach es X.env)).any (·.1) = false := by rfl) :
    PE X (.Call (.Name x p) (e :: es) [] pos) (tCall (spX X.K C g) [] E (tDA X.K ga)) :=
  pe_call F hr hg hm hk hb .nil (passes_call tk fun _ _ _ _ h => h) ha.pe hdb he hpl
end
end L2.DL
end

section
/-! The data layer 28: a try whose body raises NoTask. -/
namespace L2.DL
open PySem PySem.Spec PySem.Calls PyProof.Rows L2
variable [TabsOf]
section
variable {K : PySem.W.Frag} {c : Ct} {O : Own} {n : Nat} {H : Hp} {σ : St} {env : List Sl}
theorem EnvOk.noset (E : EnvOk K c O n H σ env) {i : Nat} (h : env[i]? = some .no) (v : Option V) : EnvOk K c O n H (σ.set i v) env where
  len := by rw [List.length_set]; exact E.len
  le := E.le
  fin := E.fin
  tz := E.tz
  z0 := E.z0
  ext := E.ext
  tub := E.tub
  o0 := E.o0
  inj := E.inj
  cons := E.cons
  dat := fun k d hk => by
    have ne : i ≠ k := fun e => by rw [← e, h] at hk; cases hk
    rw [List.getElem?_set_ne ne]
    exact E.dat k d hk
  own := fun k d hk => by
    have ne : i ≠ k := fun e => by rw [← e, h] at hk; cases hk
    rw [List.getElem?_set_ne ne]
    exact E.own k d hk
  ex := E.ex
theorem callXS_go {C : Addr} {g : GX} {ga : GA} {x : Str} {W : WX} {Q : VK} (Ev : EnvOk K c O n H σ env) (hg : ga env n fun ds _ => g ds x)
    (k : ∀ n' dx H', Ext c.T H H' → TubOk c.T n' H' → New H dx → H' dx = some (.xd [("name", .str x)]) → W (.ref C) (some dx) σ H') : tCallS (spX K C g) (WE W) (tDA K ga) σ H Q :=
  ⟨c, O, n, env, _, Ev, hg, fun vs ds H1 n1 x1 t1 r1 q1 => ⟨c.av O, c.T, n1, ds, x, (Ev.extend x1 t1).al, Ev.atz, t1, r1, q1, fun n' dx H' x' t' nw hd => k n' dx H' (x1.trans x') t' (fun o nt z => by
    by_cases e : c.T.u = some dx
    · exact (Ev.extend x1 t1).al dx (.inl (Ev.tz dx e)) nw
    · exact x1.sm e (not_new nt z) nw) hd⟩⟩
end
section
variable {X : Cx} {C : Addr} {gA gB : GX} {gaA gaB : GA} {gt : GT} {ca sa er cn nl : Str} {i j m : Nat} {c eA eB : Expr} {p1 p2 p3 p4 p5 p6 p7 p8 p9 q1 q2 q3 q4 q5 q6 q7 pos : Pos}
def gTryNt (gt : GT) (gaA : GA) (gA : GX) (gaB : GA) (gB : GX) (i j : Nat) : GS := fun D env n => env[i]? = some .no ∧ i ≠ j ∧ j < env.length ∧ gt env n fun b n1 => ∃ x : Str, (if b = true then gaA env n1 fun ds _ => gA ds x else gaB env n1 fun ds _ => gB ds x) ∧ ∀ n', D.nx (env.set j (.dat (.list [.str x, .bool true]))) n'
theorem s_tryNt (hs : X.stack = X.env :: X.outer) (hf : X.env.frame = some X.env.locals) (hN : X.N.Nodup) (hi : X.N[i]? = some er) (hler : X.env.kindOf er = some .local) (hj : X.N[j]? = some ca) (hlca : Loc X.env.scope ca) (hfca : X.fn ca = true ∨ X.env.scope.names.lookup ca = some .local)
    (hm : X.N[m]? = some sa) (hlsa : Loc X.env.scope sa) (hfsa : X.fn sa = true ∨ X.env.scope.names.lookup sa = some .local) (hN1 : Names X cn (.ref C)) (xf : XfC X.K C) (xno : PySem.W.findIn X.K (.ref C) "name" = some none) (xc : ExcC X.K C) (hex : PySem.W.exmOne X.K (.ref C) (.ref C) = some true) (hkit : PySem.W.kitOne X.K (.ref C) (.type "LookupError") = some true)
    (g1 : Gl X "isinstance") (m1 : X.mg "isinstance" = none) (g2 : Gl X "LookupError") (m2 : X.mg "LookupError" = none)
    (hver : Vis X.env.scope er) (hdb : (er == ("__debug__" : Str)) = false) (hcd : (er == ("__classdict__" : Str)) = false)
    (hc : ∀ pn xe, DT (X.tr pn xe) c gt) (hA : ∀ W pn xe, Takes (X.tr pn xe) W → PE (X.tr pn xe) eA (tCallS (spX X.K C gA) (WE W) (tDA X.K gaA))) (hB : ∀ W pn xe, Takes (X.tr pn xe) W → PE (X.tr pn xe) eB (tCallS (spX X.K C gB) (WE W) (tDA X.K gaB)))
    (sA : swapsWith eA (some (.Name sa p1)) p2.line X.env = pure false) (sB : swapsWith eB (some (.Name sa p3)) p4.line X.env = pure false) :
    DS X (.Try [.If c [.Assign [.Name sa p1] eA p2] [.Assign [.Name sa p3] eB p4] p5] [.ExceptHandler (some (.Name cn p6)) (some er) [.Assign [.Name ca p7] (.List [.Attribute (.Name er q1) "name" q2, .Call (.Name "isinstance" q3) [.Name er q4, .Name "LookupError" q5] [] q6] q7) p8] p9] [] [] pos) (gTryNt gt gaA gA gaB gB i j) := by
  refine ⟨ps_weak (ps_try_as (i := i) (c := .ref C) (Wout := fun _ _ _ _ => False) hs hf hN hi hler hN1 takes0
    (tb := fun W => L2.tIfS (tDT X.K gt) (tAsg (tCallS (spX X.K C gA) (WE W) (tDA X.K gaA)) (gName m)) (tAsg (tCallS (spX X.K C gB) (WE W) (tDA X.K gaB)) (gName m)))
    (fun W pn xe tk _ => pss_one (ps_if (hc pn xe).pe (pss_one (ps_set hN hm hlsa (hA W pn xe tk) sA hfsa)) (pss_one (ps_set hN hm hlsa (hB W pn xe tk) sB hfsa))))
    (fun a oe cls d pn hz hd => pss_one (ps_set hN hj hlca (pe_lst (pa_cons (pe_xf xf xno hz hd (pe_var hi hver hdb hcd)) (pa_cons (pe_callB (call_isED xc hz hd) g1 m1 (by rfl) (pa_cons (pe_var hi hver hdb hcd) (pa_cons (pe_bltn (v := .ty "LookupError") g2 m2 (by rfl) rfl) pa_nil))) pa_nil))) (by rfl) hfca))) fun D σ H ⟨c, O, n, env, Dd, Ev, hg, L⟩ => ?_⟩
  obtain ⟨h0, hij, jl, hg⟩ := hg
  have il : i < σ.length := by rw [Ev.len]; exact (List.getElem?_eq_some_iff.mp h0).1
  refine ⟨c, O, n, env, _, Ev, hg, fun b H1 n1 x1 t1 ⟨x, q1, qn⟩ => ?_⟩
  have E1 := Ev.extend x1 t1
  have fin : ∀ n' dx H', Ext c.T H1 H' → TubOk c.T n' H' → New H1 dx → H' dx = some (.xd [("name", .str x)]) → wAs X.K (.ref C) i (fun a cls d => tAsg (tLst (tCons (tXf a cls d C "name" (tVar i)) (tCons (tCB (fun xs H Q => cls = .ref C ∧ (∃ dd fs, d = some dd ∧ H dd = some (.xd fs)) ∧ rIsE X.K C a xs H Q) (tCons (tVar i) (tCons (tC (.ty "LookupError")) tNil))) tNil))) (gName j)) (fun _ _ _ _ => False) D (.ref C) (some dx) σ H' := by
    intro n' dx H' x' t' nw hd
    have E2 := E1.extend x' t'
    refine ⟨true, hex, fun _ a ha => ?_, fun z => nomatch z⟩
    have ga : (σ.set i (some (V.ref a)))[i]? = some (some (.ref a)) := List.getElem?_set_self il
    refine ⟨_, ga, rfl, rfl, dx, _, _, rfl, hd, rfl, ?_⟩
    refine ⟨_, ga, rfl, ⟨dx, _, rfl, hd⟩, .ty "LookupError", .type "LookupError", true, rfl, fun u r => r, hkit, ?_⟩
    refine ⟨by show 2 ≤ sizeLine; decide, fun pz hpz => ?_⟩
    have E3 := (E2.grow (Grow.new (o := .lst [.str x, .bl true]) hpz)).setD (i := j) (v := .ref pz) (d := .list [.str x, .bool true]) jl (.lst (E2.new hpz) upd_same (.cons (.str x) (.cons (.bl true) .nil)))
    have E4 := E3.noset (i := i) (by rw [List.getElem?_set_ne hij.symm]; exact h0) none
    have eσ : ((σ.set i (some (V.ref a))).set j (some (V.ref pz))).set i none = (σ.set j (some (V.ref pz))).set i none := by
      rw [List.set_comm _ _ hij, List.set_set]
    show D.nx (((σ.set i (some (V.ref a))).set j (some (V.ref pz))).set i none) _
    rw [eσ]
    exact L.nx _ n' _ _ _ E4 (qn n')
  cases b with
  | true =>
    rw [if_pos rfl] at q1
    exact (if_pos rfl).mpr (callXS_go E1 q1 fin)
  | false =>
    rw [if_neg Bool.false_ne_true] at q1
    exact (if_neg Bool.false_ne_true).mpr (callXS_go E1 q1 fin)
end
end L2.DL
end

section
/-! The data layer 29: short words for the walks. -/
namespace L2.DL
open PySem PySem.Spec PySem.Calls PyProof.Rows L2
variable [TabsOf]

/-- the built-in names that the text uses stand for the built-ins -/
structure Bt (mg : Str → Option Value) : Prop where
  len : mg "len" = none
  abs : mg "abs" = none
  int : mg "int" = none
  all : mg "all" = none
  min : mg "min" = none
  max : mg "max" = none
  list : mg "list" = none
  tuple : mg "tuple" = none
  dict : mg "dict" = none
  sorted : mg "sorted" = none
  set : mg "set" = none
  isi : mg "isinstance" = none
  range : mg "range" = none
  enum : mg "enumerate" = none
  zip : mg "zip" = none
  str : mg "str" = none
  bool : mg "bool" = none
  lke : mg "LookupError" = none
/-- a def of the text that keeps a promise over data -/
structure Has (P : Program) (w : World) (K : PySem.W.Frag) (mg : Str → Option Value) (base : Heap) (nm : Str) (k : Nat) (ps : List Str) (g : GF) : Prop where
  ex : ∃ f fd, mg nm = some (.ref f) ∧ PySem.W.keepIn K (.ref f) = true ∧ Binds K fd ps [] ∧ FnOk P w K mg base CX0 k f fd ps (spD K g)
structure HasF (P : Program) (w : World) (K : PySem.W.Frag) (mg : Str → Option Value) (base : Heap) (nm : Str) (k : Nat) (ps : List Str) (g : GF) : Prop where
  ex : ∃ f fd, mg nm = some (.ref f) ∧ PySem.W.keepIn K (.ref f) = true ∧ Binds K fd ps [] ∧ FnOk P w K mg base CX0 k f fd ps (spF K g)
structure HasX (P : Program) (w : World) (K : PySem.W.Frag) (mg : Str → Option Value) (base : Heap) (nm : Str) (k : Nat) (ps : List Str) (C : Addr) (g : GX) : Prop where
  ex : ∃ f fd, mg nm = some (.ref f) ∧ PySem.W.keepIn K (.ref f) = true ∧ Binds K fd ps [] ∧ FnOk P w K mg base (L2.CX P w) k f fd ps (spX K C g)
theorem rm66 {k : Nat} {A : Around} (r : Room k A) : A.units + 66 < cLine := by have := r.un; omega
theorem rm65 {k : Nat} {A : Around} (r : Room k A) : A.units + 65 < cLine := by have := r.un; omega
theorem rm64 {k : Nat} {A : Around} (r : Room k A) : A.units + 64 < cLine := by have := r.un; omega
theorem rm1 {k : Nat} {A : Around} (r : Room k A) : A.units + 1 < cLine := by have := r.un; omega
section
variable {X : Cx} {x nm : Str} {p p2 q q2 pos pos2 apos cpos : Pos} {e o i a b c' : Expr} {es : List Expr} {ga : GA} {ge go gi : GE} {k : Nat} {ps ks : List Str} {g : GF} {kws : List Keyword}
theorem pvv (i : Nat) (hN : X.N[i]? = some x := by rfl) (hv : Vis X.env.scope x := by first | exact Or.inl rfl | exact Or.inr (Or.inl rfl) | exact Or.inr (Or.inr rfl)) (hd : (x == ("__debug__" : Str)) = false := by decide) (hcd : (x == ("__classdict__" : Str)) = false := by decide) : PE X (.Name x pos) (tVar i) := pe_var hN hv hd hcd
theorem d_has (h : Has X.prog X.w X.K X.mg X.base nm k ps g) (hr : Room k X.A) (ha : DA X (e :: es) ga) (hg : Gl X nm := by rfl) (hdb : (nm == ("__debug__" : Str)) = false := by decide) (he : starEach (e :: es) X.env = (false, eval e X.env) :: starEach es X.env := by rfl) (hpl : (backTo pos (starEach es X.env)).any (·.1) = false := by rfl) :
    DE X (.Call (.Name nm p) (e :: es) [] pos) (gFun g ga) := let ⟨_, _, hm, hk, hb, F⟩ := h.ex; d_call F hr hg hm hk hb ha hdb he hpl
theorem f_has (h : HasF X.prog X.w X.K X.mg X.base nm k ps g) (hr : Room k X.A) (ha : DA X (e :: es) ga) (hg : Gl X nm := by rfl) (hdb : (nm == ("__debug__" : Str)) = false := by decide) (he : starEach (e :: es) X.env = (false, eval e X.env) :: starEach es X.env := by rfl) (hpl : (backTo pos (starEach es X.env)).any (·.1) = false := by rfl) :
    DF X (.Call (.Name nm p) (e :: es) [] pos) (gFun g ga) := let ⟨_, _, hm, hk, hb, F⟩ := h.ex; f_call F hr hg hm hk hb ha hdb he hpl
theorem d_has0 (h : Has X.prog X.w X.K X.mg X.base nm k ps g) (hr : Room k X.A) (hg : Gl X nm := by rfl) (hdb : (nm == ("__debug__" : Str)) = false := by decide) : DE X (.Call (.Name nm p) [] [] pos) (gFun g gNil) := let ⟨_, _, hm, hk, hb, F⟩ := h.ex; d_call0 F hr hg hm hk hb hdb
theorem d_hasT (h : Has X.prog X.w X.K X.mg X.base nm k ps g) (hr : Room k X.A) (he : DF X e ge) (hg : Gl X nm := by rfl) (hdb : (nm == ("__debug__" : Str)) = false := by decide) (hs : starEach [e] X.env = (false, eval e X.env) :: starEach [] X.env := by rfl) (hpl : (backTo pos (starEach [] X.env)).any (·.1) = false := by rfl) :
    DE X (.Call (.Name nm p) [e] [] pos) (gCallTub g ge) := let ⟨_, _, hm, hk, hb, F⟩ := h.ex; d_callTub F hr hg hm hk hb he hdb hs hpl
/-- an expression that is not reached -/
def gNo : GE := fun _ _ _ => False
theorem d_no : DE X e gNo := ⟨⟨fun _ _ _ _ _ _ ⟨_, _, _, _, _, _, hg, _⟩ => hg.elim⟩⟩
theorem b_len (T : Bt X.mg) (ha : DB X e ge) (hg : Gl X "len" := by rfl) (hs : starEach [e] X.env = (false, eval e X.env) :: starEach [] X.env := by rfl) (hpl : (backTo pos (starEach [] X.env)).any (·.1) = false := by rfl) : DE X (.Call (.Name "len" p) [e] [] pos) (gCall oLen (gCons ge gNil)) := d_callB c_len hg T.len (by rfl) (dab_cons ha dab_nil hs) (by decide) (by decide) hs hpl
theorem b_abs (T : Bt X.mg) (ha : DB X e ge) (hg : Gl X "abs" := by rfl) (hs : starEach [e] X.env = (false, eval e X.env) :: starEach [] X.env := by rfl) (hpl : (backTo pos (starEach [] X.env)).any (·.1) = false := by rfl) : DE X (.Call (.Name "abs" p) [e] [] pos) (gCall oAbs (gCons ge gNil)) := d_callB c_abs hg T.abs (by rfl) (dab_cons ha dab_nil hs) (by decide) (by decide) hs hpl
theorem b_int (T : Bt X.mg) (ha : DB X e ge) (hg : Gl X "int" := by rfl) (hs : starEach [e] X.env = (false, eval e X.env) :: starEach [] X.env := by rfl) (hpl : (backTo pos (starEach [] X.env)).any (·.1) = false := by rfl) : DE X (.Call (.Name "int" p) [e] [] pos) (gCall oInt (gCons ge gNil)) := d_callTy c_int hg T.int (by rfl) (dab_cons ha dab_nil hs) (by decide) (by decide) hs hpl
theorem b_all (T : Bt X.mg) (hc : X.calm = true) (ha : DB X e ge) (hg : Gl X "all" := by rfl) (hs : starEach [e] X.env = (false, eval e X.env) :: starEach [] X.env := by rfl) (hpl : (backTo pos (starEach [] X.env)).any (·.1) = false := by rfl) : DE X (.Call (.Name "all" p) [e] [] pos) (gCall oAll (gCons ge gNil)) := d_callB (c_all hc) hg T.all (by rfl) (dab_cons ha dab_nil hs) (by decide) (by decide) hs hpl
theorem b_max (T : Bt X.mg) (hc : X.calm = true) (ha : DB X e ge) (hg : Gl X "max" := by rfl) (hs : starEach [e] X.env = (false, eval e X.env) :: starEach [] X.env := by rfl) (hpl : (backTo pos (starEach [] X.env)).any (·.1) = false := by rfl) : DE X (.Call (.Name "max" p) [e] [] pos) (gCall oMax (gCons ge gNil)) := d_callB (c_max hc) hg T.max (by rfl) (dab_cons ha dab_nil hs) (by decide) (by decide) hs hpl
theorem b_min (T : Bt X.mg) (hc : X.calm = true) (ha : DB X e ge) (hg : Gl X "min" := by rfl) (hs : starEach [e] X.env = (false, eval e X.env) :: starEach [] X.env := by rfl) (hpl : (backTo pos (starEach [] X.env)).any (·.1) = false := by rfl) : DE X (.Call (.Name "min" p) [e] [] pos) (gCall oMin (gCons ge gNil)) := d_callB (c_min hc) hg T.min (by rfl) (dab_cons ha dab_nil hs) (by decide) (by decide) hs hpl
theorem b_min2 (T : Bt X.mg) (hc : X.calm = true) {gb : GE} (ha : DB X a ge) (hb : DB X b gb) (hg : Gl X "min" := by rfl) (hs : starEach [a, b] X.env = (false, eval a X.env) :: starEach [b] X.env := by rfl) (hs2 : starEach [b] X.env = (false, eval b X.env) :: starEach [] X.env := by rfl) (hpl : (backTo pos (starEach [b] X.env)).any (·.1) = false := by rfl) :
    DE X (.Call (.Name "min" p) [a, b] [] pos) (gCall oMin (gCons ge (gCons gb gNil))) := d_callB (c_min hc) hg T.min (by rfl) (dab_cons ha (dab_cons hb dab_nil hs2) hs) (by decide) (by decide) hs hpl
theorem b_tuple (T : Bt X.mg) (ha : DB X e ge) (hg : Gl X "tuple" := by rfl) (hs : starEach [e] X.env = (false, eval e X.env) :: starEach [] X.env := by rfl) (hpl : (backTo pos (starEach [] X.env)).any (·.1) = false := by rfl) : DE X (.Call (.Name "tuple" p) [e] [] pos) (gCall oTuple (gCons ge gNil)) := d_callTy c_tuple hg T.tuple (by rfl) (dab_cons ha dab_nil hs) (by decide) (by decide) hs hpl
theorem b_list (T : Bt X.mg) (ha : DB X e ge) (hg : Gl X "list" := by rfl) (hs : starEach [e] X.env = (false, eval e X.env) :: starEach [] X.env := by rfl) (hpl : (backTo pos (starEach [] X.env)).any (·.1) = false := by rfl) : DF X (.Call (.Name "list" p) [e] [] pos) (gCall oList (gCons ge gNil)) := f_callTy c_list hg T.list (by rfl) (dab_cons ha dab_nil hs) (by decide) (by decide) hs hpl
theorem b_dictD (T : Bt X.mg) (ha : DB X e ge) (hg : Gl X "dict" := by rfl) (hs : starEach [e] X.env = (false, eval e X.env) :: starEach [] X.env := by rfl) (hpl : (backTo pos (starEach [] X.env)).any (·.1) = false := by rfl) : DF X (.Call (.Name "dict" p) [e] [] pos) (gCall oDictD (gCons ge gNil)) := f_callTy c_dictD hg T.dict (by rfl) (dab_cons ha dab_nil hs) (by decide) (by decide) hs hpl
theorem b_dictP (T : Bt X.mg) (hc : X.calm = true) (ha : DB X e ge) (hg : Gl X "dict" := by rfl) (hs : starEach [e] X.env = (false, eval e X.env) :: starEach [] X.env := by rfl) (hpl : (backTo pos (starEach [] X.env)).any (·.1) = false := by rfl) : DF X (.Call (.Name "dict" p) [e] [] pos) (gCall oDictP (gCons ge gNil)) := f_callTy (c_dictP hc) hg T.dict (by rfl) (dab_cons ha dab_nil hs) (by decide) (by decide) hs hpl
theorem b_sorted (T : Bt X.mg) (hr : Room k X.A) (ha : DB X e ge) (hg : Gl X "sorted" := by rfl) (hs : starEach [e] X.env = (false, eval e X.env) :: starEach [] X.env := by rfl) (hpl : (backTo pos (starEach [] X.env)).any (·.1) = false := by rfl) : DF X (.Call (.Name "sorted" p) [e] [] pos) (gCall oSorted (gCons ge gNil)) := f_callB (c_sorted (rm66 hr)) hg T.sorted (by rfl) (dab_cons ha dab_nil hs) (by decide) (by decide) hs hpl
theorem b_sortSet (T : Bt X.mg) (hc : X.calm = true) (hr : Room k X.A) (h : DB X e ge) (g1 : Gl X "sorted" := by rfl) (g2 : Gl X "set" := by rfl)
    (hs : starEach [e] X.env = (false, eval e X.env) :: starEach [] X.env := by rfl) (hs2 : starEach [.Call (.Name "set" p2) [e] [] q] X.env = (false, eval (.Call (.Name "set" p2) [e] [] q) X.env) :: starEach [] X.env := by rfl)
    (hpl : (backTo pos (starEach [] X.env)).any (·.1) = false := by rfl) (hpl2 : (backTo q (starEach [] X.env)).any (·.1) = false := by rfl) : DF X (.Call (.Name "sorted" p) [.Call (.Name "set" p2) [e] [] q] [] pos) (gSortSet ge) := f_sortSet hc (rm66 hr) h g1 T.sorted g2 T.set hs hs2 hpl hpl2
theorem b_lenSet (T : Bt X.mg) (hc : X.calm = true) (h : DB X e ge) (g1 : Gl X "len" := by rfl) (g2 : Gl X "set" := by rfl)
    (hs : starEach [e] X.env = (false, eval e X.env) :: starEach [] X.env := by rfl) (hs2 : starEach [.Call (.Name "set" p2) [e] [] q] X.env = (false, eval (.Call (.Name "set" p2) [e] [] q) X.env) :: starEach [] X.env := by rfl)
    (hpl : (backTo pos (starEach [] X.env)).any (·.1) = false := by rfl) (hpl2 : (backTo q (starEach [] X.env)).any (·.1) = false := by rfl) : DE X (.Call (.Name "len" p) [.Call (.Name "set" p2) [e] [] q] [] pos) (gLenSet ge) := d_lenSet hc h g1 T.len g2 T.set hs hs2 hpl hpl2
theorem b_sortVals (T : Bt X.mg) (hc : X.calm = true) (hr : Room k X.A) (h : DB X e ge) (g1 : Gl X "sorted" := by rfl) (hb : attributeBase e "values" X.env (eval e X.env) = eval e X.env := by rfl) (hl : (apos.endLine == cpos.line) = true := by rfl)
    (hs : starEach [.Call (.Attribute e "values" apos) [] [] cpos] X.env = (false, eval (.Call (.Attribute e "values" apos) [] [] cpos) X.env) :: starEach [] X.env := by rfl) (hpl : (backTo pos (starEach [] X.env)).any (·.1) = false := by rfl) :
    DF X (.Call (.Name "sorted" p) [.Call (.Attribute e "values" apos) [] [] cpos] [] pos) (gVw oSortedV ge) := f_viewB (pe_values h.pe hb hl) (v_sorted hc (rm66 hr)) g1 T.sorted (by rfl) (by decide) (by decide) hs hpl
theorem b_sortItems (T : Bt X.mg) (hc : X.calm = true) (hr : Room k X.A) (h : DB X e ge) (g1 : Gl X "sorted" := by rfl) (hb : attributeBase e "items" X.env (eval e X.env) = eval e X.env := by rfl) (hl : (apos.endLine == cpos.line) = true := by rfl)
    (hs : starEach [.Call (.Attribute e "items" apos) [] [] cpos] X.env = (false, eval (.Call (.Attribute e "items" apos) [] [] cpos) X.env) :: starEach [] X.env := by rfl) (hpl : (backTo pos (starEach [] X.env)).any (·.1) = false := by rfl) :
    DF X (.Call (.Name "sorted" p) [.Call (.Attribute e "items" apos) [] [] cpos] [] pos) (gVw oSortedI ge) := f_viewB (pe_items h.pe hb hl) (v_sortedI hc (rm66 hr)) g1 T.sorted (by rfl) (by decide) (by decide) hs hpl
theorem b_listVals (T : Bt X.mg) (hc : X.calm = true) (h : DB X e ge) (g1 : Gl X "list" := by rfl) (hb : attributeBase e "values" X.env (eval e X.env) = eval e X.env := by rfl) (hl : (apos.endLine == cpos.line) = true := by rfl)
    (hs : starEach [.Call (.Attribute e "values" apos) [] [] cpos] X.env = (false, eval (.Call (.Attribute e "values" apos) [] [] cpos) X.env) :: starEach [] X.env := by rfl) (hpl : (backTo pos (starEach [] X.env)).any (·.1) = false := by rfl) :
    DF X (.Call (.Name "list" p) [.Call (.Attribute e "values" apos) [] [] cpos] [] pos) (gVw oListV ge) := f_viewT (pe_values h.pe hb hl) (v_list hc) g1 T.list (by rfl) (by decide) (by decide) hs hpl
theorem b_isi {y : Str} (U : String) (T : Bt X.mg) (h1 : X.mg y = none) (hU : U = "list" ∨ U = "tuple" ∨ U = "str" ∨ U = "int" ∨ U = "bool") (h2 : bootBuiltins y = some (.type U)) (he : DB X e ge) (g1 : Gl X "isinstance" := by rfl) (g2 : Gl X y := by rfl) (hn2 : y ≠ "__name__" := by decide) (hdb2 : (y == ("__debug__" : Str)) = false := by decide)
    (hs : starEach [e, .Name y q] X.env = (false, eval e X.env) :: starEach [.Name y q] X.env := by rfl) (hplain : (backTo pos (starEach [.Name y q] X.env)).any (·.1) = false := by rfl) (hs2 : starEach [.Name y q] X.env = (false, eval (.Name y q) X.env) :: starEach [] X.env := by rfl) :
    DE X (.Call (.Name "isinstance" p) [e, .Name y q] [] pos) (gIsi U ge) := d_isi hU g1 T.isi (by rfl) g2 h1 h2 he (by decide) (by decide) hn2 hdb2 hs hplain hs2
theorem b_get1 (hr : Room k X.A) (ho : DB X o go) (hx : DB X e ge) (m : M1 X o "get" apos e cpos := by exact ⟨by rfl, by rfl, by rfl, by rfl⟩) : DE X (.Call (.Attribute o "get" apos) [e] [] cpos) (gGet1 go ge) := DL.d_get1 (rm1 hr) m ho hx
theorem b_get2 {gy : GE} (hr : Room k X.A) (ho : DB X o go) (hx : DB X e ge) (hy : DE X b gy) (m : M2 X o "get" apos e b cpos := by exact ⟨by rfl, by rfl, by rfl, by rfl⟩) : DE X (.Call (.Attribute o "get" apos) [e, b] [] cpos) (gGet2 go ge gy) := DL.d_get2 (rm1 hr) m ho hx hy
end
end L2.DL
end

section
namespace M
open PySem PySem.Spec PySem.Calls PyProof.Rows L2 L2.DL
variable [TabsOf]
def top (i : Nat) : Stmt := PySem.Challenge.pw_masksmoved_k27_whole_right_shifts_settle.main.body.getD i (.Pass ⟨0, 0, 0, 0⟩)
abbrev cLETTERS : Str := "abcdefghijklmnopqrstuvwxyz"
abbrev cLONGEST : Int := 8
structure HasK (P : Program) (w : World) (K : PySem.W.Frag) (mg : Str → Option Value) (base : Heap) (nm : Str) (k : Nat) (ps : List Str) (g : GF) : Prop where
  ex : ∃ f fd ks, mg nm = some (.ref f) ∧ PySem.W.keepIn K (.ref f) = true ∧ ks = ps.reverse ∧ KBinds K fd ps ks gRev gRev ∧ FnOk P w K mg base CX0 k f fd ps (spD K g)
section
variable {P : Program} {w : World}
variable {K : PySem.W.Frag} {mg : Str → Option Value} {base : Heap}
theorem d_hasK {X : Cx} {nm : Str} {k : Nat} {ps : List Str} {g : GF} {kws : List Keyword} {ga : GA} {p pos : Pos} (h : HasK X.prog X.w X.K X.mg X.base nm k ps g) (hr : Room k X.A) (hkw : DKW X kws ga) (hg : Gl X nm := by rfl) (hall : (backToKw pos (keywordEach kws X.env)).all (·.1.isSome) = true := by rfl) (hks : (backToKw pos (keywordEach kws X.env)).filterMap (·.1) = ps.reverse := by rfl)
    (hdb : (nm == ("__debug__" : Str)) = false := by decide) (hpl : ((backTo pos (starEach [] X.env)).any (·.1) || (backToKw pos (keywordEach kws X.env)).any (·.1.isNone)) = false := by rfl) : DE X (.Call (.Name nm p) [] kws pos) (gFunK g ga) := by
  obtain ⟨f, fd, ks, hm, hk, rfl, hb, F⟩ := h.ex
  exact d_callK F hr hg hm hk hb hkw hall hks hdb hpl

/-! ### is_name -/
abbrev nm_is_name : List Str := ["value", "letter"]
theorem sc_is_name : FnScope nm_is_name ["value"] (defScope (top 5)) := ⟨rfl, rfl, rfl, by decide +kernel, rfl, by decide +kernel, by decide +kernel⟩
def gb_is_name : GS := (gSeq (gIfS (gOr (gNot (gTst (gIsi "str" (gVarB 0)))) (gNot (gTst (gChain oLe oLe (gC (.int 1)) (gCall oLen (gCons (gVarB 0) gNil)) (gC (.int cLONGEST)))))) (gRet (gC (.bool false))) gNext)
    (gRet (gCall oAll (gCons (gLc [1] (gStrI (gVarB 0)) (ggName 1) gYes (gBin oInS (gVarB 1) (gC (.str cLETTERS)))) gNil))))
theorem w_is_name (T : Bt mg) {tLONGEST : Tok} (hLONGEST : mg "LONGEST" = some (.int cLONGEST tLONGEST)) {tLETTERS : Tok} (hLETTERS : mg "LETTERS" = some (.str cLETTERS tLETTERS)) {f : Addr} {cdv : Value} {A : Around} {outer : List Env} {s : Shared} {H : Hp} {E : XK} (hr : Room 0 (A.deeper (envOfC "is_name" (defScope (top 5)) s.heap.objs.size f cdv))) :
    DSs (cxOf CX0 P w K mg base nm_is_name "is_name" (defScope (top 5)) f cdv A outer s H E).nox (defBody (top 5)) (gb_is_name) := by
  have nd := sc_is_name.nd
  exact (ss_cons (s_if (DW.dt (w_or (t_not (t_val (b_isi "str" T T.str (by simp) (by rfl) (bv 0)))) (w_or1 (t_not (t_chain p_le p_le (DE.db d_int) (DE.db (b_len T (bv 0))) (DE.db (d_globI (by rfl) hLONGEST))))))) (ss_one (s_ret d_bl)) ss_nil)
    (ss_one (s_ret (b_all T (by rfl) (DF.db (f_lc (by rfl) nd (i_str (bv 0)) (blkOk_by (N := nm_is_name) (sc := defScope (top 5)) (own := [("letter", 1)]) (by decide +kernel)) rfl (fun _ _ _ _ _ => (g_name nd (i := 1) (by rfl) (by first | exact Or.inl rfl | exact Or.inr rfl))) (fun _ _ _ _ _ => ts_nil) (fun _ _ _ _ _ => (d_cmp p_inS (bv 1) (DE.db (d_globS (by rfl) hLETTERS)) (by rfl)))))))))

/-! ### tupled -/
abbrev nm_tupled : List Str := ["value", "part"]
theorem sc_tupled : FnScope nm_tupled ["value"] (defScope (top 6)) := ⟨rfl, rfl, rfl, by decide +kernel, rfl, by decide +kernel, by decide +kernel⟩
def gb_tupled (g_tupled : GF) : GS := (gRet (gIf (gTst (gIsi2 "list" "tuple" (gVarB 0))) (gCall oTuple (gCons (gLc [1] (gSeqI (gVar 0)) (ggName 1) gYes (gFun g_tupled (gCons (gVar 1) gNil))) gNil)) (gVar 0)))
theorem w_tupled {g_tupled : GF} {k : Nat} (T : Bt mg) (h_tupled : Has P w K mg base "tupled" k ["value"] g_tupled) {f : Addr} {cdv : Value} {A : Around} {outer : List Env} {s : Shared} {H : Hp} {E : XK} (hr : Room k (A.deeper (envOfC "tupled" (defScope (top 6)) s.heap.objs.size f cdv))) :
    DSs (cxOf CX0 P w K mg base nm_tupled "tupled" (defScope (top 6)) f cdv A outer s H E).nox (defBody (top 6)) (gb_tupled g_tupled) := by
  have nd := sc_tupled.nd
  exact (ss_one (s_ret (d_if (t_val (d_isi2 (T := "list") (U := "tuple") (by simp) (by simp) (by rfl) T.isi (by rfl) (by rfl) T.list (by rfl) (by rfl) T.tuple (by rfl) (bv 0))) (b_tuple T (DF.db (f_lc (by rfl) nd (i_seq (dv 0)) (blkOk_by (N := nm_tupled) (sc := defScope (top 6)) (own := [("part", 1)]) (by decide +kernel)) rfl (fun _ _ _ _ _ => (g_name nd (i := 1) (by rfl) (by first | exact Or.inl rfl | exact Or.inr rfl))) (fun _ _ _ _ _ => ts_nil) (fun _ _ _ _ _ => (d_has h_tupled hr (da_cons (dv 1) da_nil)))))) (dv 0))))

/-! ### masks_table -/
abbrev nm_masks_table : List Str := ["book"]
theorem sc_masks_table : FnScope nm_masks_table ["book"] (defScope (top 8)) := ⟨rfl, rfl, rfl, by decide +kernel, rfl, by decide +kernel, by decide +kernel⟩
def gb_masks_table (g_tupled : GF) : GS := (gRet (gCall oDictP (gCons (gFun g_tupled (gCons (gBin oIx (gVarB 0) (gC (.int 1))) gNil)) gNil)))
theorem w_masks_table {g_tupled : GF} (T : Bt mg) (h_tupled : Has P w K mg base "tupled" 10 ["value"] g_tupled) {f : Addr} {cdv : Value} {A : Around} {outer : List Env} {s : Shared} {H : Hp} {E : XK} (hr : Room 10 (A.deeper (envOfC "masks_table" (defScope (top 8)) s.heap.objs.size f cdv))) :
    DSs (cxOf CX0 P w K mg base nm_masks_table "masks_table" (defScope (top 8)) f cdv A outer s H E).nox (defBody (top 8)) (gb_masks_table g_tupled) := by
  have nd := sc_masks_table.nd
  exact (ss_one (s_ret (DF.de (b_dictP T (by rfl) (DE.db (d_has h_tupled (hr.mono (by decide)) (da_cons (d_ix (bv 0) (DE.db d_int)) da_nil)))))))

/-! ### may_table -/
abbrev nm_may_table : List Str := ["book", "ready", "table", "task", "kind"]
theorem sc_may_table : FnScope nm_may_table ["book", "ready"] (defScope (top 10)) := ⟨rfl, rfl, rfl, by decide +kernel, rfl, by decide +kernel, by decide +kernel⟩
def gb_may_table (g_masks_table : GF) : GS := (gSeq (gSet 2 (gFun g_masks_table (gCons (gVar 0) gNil)))
    (gRet (gDc [3, 4] (gSeqI (gVar 1)) (ggPair 3 4) (gVar 3) (gDGet (gVarB 2) (gVarB 4)))))
theorem w_may_table {g_masks_table : GF} (T : Bt mg) (h_masks_table : Has P w K mg base "masks_table" 11 ["book"] g_masks_table) {f : Addr} {cdv : Value} {A : Around} {outer : List Env} {s : Shared} {H : Hp} {E : XK} (hr : Room 11 (A.deeper (envOfC "may_table" (defScope (top 10)) s.heap.objs.size f cdv))) :
    DSs (cxOf CX0 P w K mg base nm_may_table "may_table" (defScope (top 10)) f cdv A outer s H E).nox (defBody (top 10)) (gb_may_table g_masks_table) := by
  have nd := sc_may_table.nd
  exact (ss_cons (s_set nd (i := 2) (by rfl) (by first | exact Or.inl rfl | exact Or.inr rfl) (d_has h_masks_table (hr.mono (by decide)) (da_cons (dv 0) da_nil)))
    (ss_one (s_ret (DF.de (f_dc (by rfl) nd (i_seq (dv 1)) (blkOk_by (N := nm_may_table) (sc := defScope (top 10)) (own := [("task", 3), ("kind", 4)]) (by decide +kernel)) rfl (fun _ _ _ _ _ => (g_pair (by rfl) nd (i := 3) (by rfl) (by first | exact Or.inl rfl | exact Or.inr rfl) (j := 4) (by rfl) (by first | exact Or.inl rfl | exact Or.inr rfl))) (fun _ _ _ _ _ => (dv 3)) (fun _ _ _ _ _ => (d_dget (rm1 hr) (bv 2) (bv 4))))))))

/-! ### tasks_of -/
abbrev nm_tasks_of : List Str := ["ready", "task", "kind"]
theorem sc_tasks_of : FnScope nm_tasks_of ["ready"] (defScope (top 12)) := ⟨rfl, rfl, rfl, by decide +kernel, rfl, by decide +kernel, by decide +kernel⟩
def gb_tasks_of : GS := (gRet (gLc [1, 2] (gSeqI (gVar 0)) (ggPair 1 2) gYes (gVar 1)))
theorem w_tasks_of (T : Bt mg) {f : Addr} {cdv : Value} {A : Around} {outer : List Env} {s : Shared} {H : Hp} {E : XK} (hr : Room 0 (A.deeper (envOfC "tasks_of" (defScope (top 12)) s.heap.objs.size f cdv))) :
    DSs (cxOf CX0 P w K mg base nm_tasks_of "tasks_of" (defScope (top 12)) f cdv A outer s H E).nox (defBody (top 12)) (gb_tasks_of) := by
  have nd := sc_tasks_of.nd
  exact (ss_one (s_ret (DF.de (f_lc (by rfl) nd (i_seq (dv 0)) (blkOk_by (N := nm_tasks_of) (sc := defScope (top 12)) (own := [("task", 1), ("kind", 2)]) (by decide +kernel)) rfl (fun _ _ _ _ _ => (g_pair (by rfl) nd (i := 1) (by rfl) (by first | exact Or.inl rfl | exact Or.inr rfl) (j := 2) (by rfl) (by first | exact Or.inl rfl | exact Or.inr rfl))) (fun _ _ _ _ _ => ts_nil) (fun _ _ _ _ _ => (dv 1))))))

/-! ### check_task -/
abbrev nm_check_task : List Str := ["ready", "task"]
theorem sc_check_task : FnScope nm_check_task ["ready", "task"] (defScope (top 13)) := ⟨rfl, rfl, rfl, by decide +kernel, rfl, by decide +kernel, by decide +kernel⟩
def gb_check_task (g_tasks_of : GF) : GS := (gIfS (gTst (gBin oNotIn (gVarB 1) (gFun g_tasks_of (gCons (gVar 0) gNil)))) gNever gNext)
theorem w_check_task {g_tasks_of : GF} (T : Bt mg) (h_tasks_of : Has P w K mg base "tasks_of" 1 ["ready"] g_tasks_of) {f : Addr} {cdv : Value} {A : Around} {outer : List Env} {s : Shared} {H : Hp} {E : XK} (hr : Room 1 (A.deeper (envOfC "check_task" (defScope (top 13)) s.heap.objs.size f cdv))) :
    DSs (cxOf CX0 P w K mg base nm_check_task "check_task" (defScope (top 13)) f cdv A outer s H E).nox (defBody (top 13)) (gb_check_task g_tasks_of) := by
  have nd := sc_check_task.nd
  exact (ss_one (s_if (t_cmp (p_notin (rm65 hr)) (bv 1) (DE.db (d_has h_tasks_of (hr.mono (by decide)) (da_cons (dv 0) da_nil))) (by rfl)) (ss_one s_never) ss_nil))

/-! ### seat_more -/
abbrev nm_seat_more : List Str := ["table", "seats", "task", "ways", "seen", "mover", "way", "cpu", "longer", "found", "own", "mate"]
theorem sc_seat_more : FnScope nm_seat_more ["table", "seats", "task"] (defScope (top 14)) := ⟨rfl, rfl, rfl, by decide +kernel, rfl, by decide +kernel, by decide +kernel⟩
def gb_seat_more : GS := (gSeq (gPar [3, 4] [true, true] (gCons (gLst (gCons (gTup (gCons (gVar 2) (gCons (gTup gNil) gNil))) gNil)) (gCons (gLst gNil) gNil)))
    (gSeq (gWhile (gTst (gBin oGt (gCall oLen (gCons (gVarB 3) gNil)) (gC (.int 0)))) (gSeq (gAsg (gBin oIx (gVarB 3) (gC (.int 0))) (ggPair 5 6))
    (gSeq (gSetO 3 (gSl oSlL (gVarB 3) (gPart (gC (.int 1))) gNoP))
    (gFor (gSeqI (gCall oSorted (gCons (gDGet (gVarB 0) (gVarB 5)) gNil))) (ggName 7) (gIfS (gTst (gBin oNotIn (gVarB 7) (gVarB 4))) (gSeq (gApp 4 (gVar 7))
    (gSeq (gSet 8 (gTup (gStar (gVarB 6) (gCons (gTup (gCons (gVar 7) (gCons (gVar 5) gNil))) gNil))))
    (gSeq (gIfS (gTst (gDIn true (gVarB 7) (gVarB 1))) (gSeq (gSetO 9 (gCall oDictD (gCons (gVarB 1) gNil)))
    (gSeq (gFor (gSeqI (gVar 8)) (ggPair 10 11) (gPutD 9 (gVarB 10) (gVar 11)))
    (gRet (gVarB 9)))) gNext)
    (gApp 3 (gTup (gCons (gDGet (gVarB 1) (gVarB 7)) (gCons (gVar 8) gNil))))))) gNext)))))
    (gRet (gC .none))))
theorem w_seat_more (T : Bt mg) {f : Addr} {cdv : Value} {A : Around} {outer : List Env} {s : Shared} {H : Hp} {E : XK} (hr : Room 0 (A.deeper (envOfC "seat_more" (defScope (top 14)) s.heap.objs.size f cdv))) :
    DSs (cxOf CX0 P w K mg base nm_seat_more "seat_more" (defScope (top 14)) f cdv A outer s H E).nox (defBody (top 14)) (gb_seat_more) := by
  have nd := sc_seat_more.nd
  exact (ss_cons (s_par (i := 3) (j := 4) (by rfl) nd (by rfl) (by rfl) (by decide) (by rfl) (by rfl) (dk_own (f_lst (da_cons (d_tup (da_cons (dv 2) (da_cons (d_tup da_nil) da_nil))) da_nil)) (dk_own (f_lst da_nil) dk_nil)) rfl (by rfl))
    (ss_cons (s_while PassesOwn.never (t_cmp p_gt (DE.db (b_len T (bv 3))) (DE.db d_int) (by rfl)) (ss_cons (s_asg (d_ix (bv 3) (DE.db d_int)) (g_pair (by rfl) nd (i := 5) (by rfl) (by first | exact Or.inl rfl | exact Or.inr rfl) (j := 6) (by rfl) (by first | exact Or.inl rfl | exact Or.inr rfl)))
    (ss_cons (s_setO nd (i := 3) (by rfl) (by first | exact Or.inl rfl | exact Or.inr rfl) (f_slice (bv 3) (o_some (DE.db d_int)) o_none))
    (ss_one (s_for PassesOwn.never (by rfl) (i_seq (DF.de (b_sorted T hr (DE.db (d_dget (rm1 hr) (bv 0) (bv 5)))))) (g_name nd (i := 7) (by rfl) (by first | exact Or.inl rfl | exact Or.inr rfl)) (ss_one (s_if (t_cmp (p_notin (rm65 hr)) (bv 7) (bv 4) (by rfl)) (ss_cons (s_app (i := 4) (pvv 4) (dv 7))
    (ss_cons (s_set nd (i := 8) (by rfl) (by first | exact Or.inl rfl | exact Or.inr rfl) (d_tup (da_star (bv 6) (da_cons (d_tup (da_cons (dv 7) (da_cons (dv 5) da_nil))) da_nil))))
    (ss_cons (s_if (t_dnotin (rm1 hr) (bv 7) (bv 1) (by rfl)) (ss_cons (s_setO nd (i := 9) (by rfl) (by first | exact Or.inl rfl | exact Or.inr rfl) (b_dictD T (bv 1)))
    (ss_cons (s_for PassesOwn.never (by rfl) (i_seq (dv 8)) (g_pair (by rfl) nd (i := 10) (by rfl) (by first | exact Or.inl rfl | exact Or.inr rfl) (j := 11) (by rfl) (by first | exact Or.inl rfl | exact Or.inr rfl)) (ss_one (s_putD (i := 9) (rm1 hr) (pvv 9) (bv 10) (dv 11))))
    (ss_one (s_retv (i := 9) (pvv 9))))) ss_nil)
    (ss_one (s_app (i := 3) (pvv 3) (d_tup (da_cons (d_dget (rm1 hr) (bv 1) (bv 7)) (da_cons (dv 8) da_nil)))))))) ss_nil)))))))
    (ss_one (s_ret d_non))))

/-! ### seat_all -/
abbrev nm_seat_all : List Str := ["book", "ready", "table", "seats", "task", "more"]
theorem sc_seat_all : FnScope nm_seat_all ["book", "ready"] (defScope (top 15)) := ⟨rfl, rfl, rfl, by decide +kernel, rfl, by decide +kernel, by decide +kernel⟩
def gb_seat_all (g_may_table g_tasks_of g_seat_more : GF) : GS := (gSeq (gPar [2, 3] [false, false] (gCons (gFun g_may_table (gCons (gVar 0) (gCons (gVar 1) gNil))) (gCons (gC (.dict [])) gNil)))
    (gSeq (gFor (gSeqI (gFun g_tasks_of (gCons (gVar 1) gNil))) (ggName 4) (gSeq (gSet 5 (gFun g_seat_more (gCons (gVar 2) (gCons (gVar 3) (gCons (gVar 4) gNil)))))
    (gIfS (gTst (gBin oIsNot (gVarB 5) (gC .none))) (gSet 3 (gVar 5)) gNext)))
    (gRet (gVar 3))))
theorem w_seat_all {g_may_table g_tasks_of g_seat_more : GF} (T : Bt mg) (h_may_table : Has P w K mg base "may_table" 12 ["book", "ready"] g_may_table) (h_tasks_of : Has P w K mg base "tasks_of" 1 ["ready"] g_tasks_of) (h_seat_more : Has P w K mg base "seat_more" 1 ["table", "seats", "task"] g_seat_more) {f : Addr} {cdv : Value} {A : Around} {outer : List Env} {s : Shared} {H : Hp} {E : XK} (hr : Room 12 (A.deeper (envOfC "seat_all" (defScope (top 15)) s.heap.objs.size f cdv))) :
    DSs (cxOf CX0 P w K mg base nm_seat_all "seat_all" (defScope (top 15)) f cdv A outer s H E).nox (defBody (top 15)) (gb_seat_all g_may_table g_tasks_of g_seat_more) := by
  have nd := sc_seat_all.nd
  exact (ss_cons (s_par (i := 2) (j := 3) (by rfl) nd (by rfl) (by rfl) (by decide) (by rfl) (by rfl) (dk_dat (d_has h_may_table (hr.mono (by decide)) (da_cons (dv 0) (da_cons (dv 1) da_nil))) (dk_dat (DF.de f_dict0) dk_nil)) rfl (by rfl))
    (ss_cons (s_for PassesOwn.never (by rfl) (i_seq (d_has h_tasks_of (hr.mono (by decide)) (da_cons (dv 1) da_nil))) (g_name nd (i := 4) (by rfl) (by first | exact Or.inl rfl | exact Or.inr rfl)) (ss_cons (s_set nd (i := 5) (by rfl) (by first | exact Or.inl rfl | exact Or.inr rfl) (d_has h_seat_more (hr.mono (by decide)) (da_cons (dv 2) (da_cons (dv 3) (da_cons (dv 4) da_nil)))))
    (ss_one (s_if (t_cmp p_isnot (bv 5) (DE.db d_non) (by rfl)) (ss_one (s_set nd (i := 3) (by rfl) (by first | exact Or.inl rfl | exact Or.inr rfl) (dv 5))) ss_nil))))
    (ss_one (s_ret (dv 3)))))

/-! ### ideal -/
abbrev nm_ideal : List Str := ["book", "ready"]
theorem sc_ideal : FnScope nm_ideal ["book", "ready"] (defScope (top 16)) := ⟨rfl, rfl, rfl, by decide +kernel, rfl, by decide +kernel, by decide +kernel⟩
def gb_ideal (g_seat_all : GF) : GS := (gRet (gCall oTuple (gCons (gVw oSortedV (gFun g_seat_all (gCons (gVar 0) (gCons (gVar 1) gNil)))) gNil)))
theorem w_ideal {g_seat_all : GF} (T : Bt mg) (h_seat_all : Has P w K mg base "seat_all" 13 ["book", "ready"] g_seat_all) {f : Addr} {cdv : Value} {A : Around} {outer : List Env} {s : Shared} {H : Hp} {E : XK} (hr : Room 13 (A.deeper (envOfC "ideal" (defScope (top 16)) s.heap.objs.size f cdv))) :
    DSs (cxOf CX0 P w K mg base nm_ideal "ideal" (defScope (top 16)) f cdv A outer s H E).nox (defBody (top 16)) (gb_ideal g_seat_all) := by
  have nd := sc_ideal.nd
  exact (ss_one (s_ret (b_tuple T (DF.db (b_sortVals T (by rfl) hr (DE.db (d_has h_seat_all (hr.mono (by decide)) (da_cons (dv 0) (da_cons (dv 1) da_nil)))))))))

/-! ### seats_of -/
abbrev nm_seats_of : List Str := ["seating"]
theorem sc_seats_of : FnScope nm_seats_of ["seating"] (defScope (top 18)) := ⟨rfl, rfl, rfl, by decide +kernel, rfl, by decide +kernel, by decide +kernel⟩
def gb_seats_of (g_tupled : GF) : GS := (gRetF (gCall oDictP (gCons (gFun g_tupled (gCons (gVar 0) gNil)) gNil)))
theorem w_seats_of {g_tupled : GF} (T : Bt mg) (h_tupled : Has P w K mg base "tupled" 10 ["value"] g_tupled) {f : Addr} {cdv : Value} {A : Around} {outer : List Env} {s : Shared} {H : Hp} {E : XK} (hr : Room 10 (A.deeper (envOfC "seats_of" (defScope (top 18)) s.heap.objs.size f cdv))) :
    DSs (cxOf CX0 P w K mg base nm_seats_of "seats_of" (defScope (top 18)) f cdv A outer s H E).nox (defBody (top 18)) (gb_seats_of g_tupled) := by
  have nd := sc_seats_of.nd
  exact (ss_one (s_retF (b_dictP T (by rfl) (DE.db (d_has h_tupled (hr.mono (by decide)) (da_cons (dv 0) da_nil))))))

/-! ### does_wait -/
abbrev nm_does_wait : List Str := ["seats", "task"]
theorem sc_does_wait : FnScope nm_does_wait ["seats", "task"] (defScope (top 19)) := ⟨rfl, rfl, rfl, by decide +kernel, rfl, by decide +kernel, by decide +kernel⟩
def gb_does_wait : GS := (gRet (gBin oNotIn (gVarB 1) (gVw oListV (gVarB 0))))
theorem w_does_wait (T : Bt mg) {f : Addr} {cdv : Value} {A : Around} {outer : List Env} {s : Shared} {H : Hp} {E : XK} (hr : Room 0 (A.deeper (envOfC "does_wait" (defScope (top 19)) s.heap.objs.size f cdv))) :
    DSs (cxOf CX0 P w K mg base nm_does_wait "does_wait" (defScope (top 19)) f cdv A outer s H E).nox (defBody (top 19)) (gb_does_wait) := by
  have nd := sc_does_wait.nd
  exact (ss_one (s_ret (d_cmp (p_notin (rm65 hr)) (bv 1) (DF.db (b_listVals T (by rfl) (bv 0))) (by rfl))))

/-! ### reach -/
abbrev nm_reach : List Str := ["table", "seats", "task", "found", "movers", "mover", "cpu"]
theorem sc_reach : FnScope nm_reach ["table", "seats", "task"] (defScope (top 20)) := ⟨rfl, rfl, rfl, by decide +kernel, rfl, by decide +kernel, by decide +kernel⟩
def gb_reach : GS := (gSeq (gPar [3, 4] [true, false] (gCons (gLst gNil) (gCons (gLst (gCons (gVar 2) gNil)) gNil)))
    (gSeq (gWhile (gTst (gBin oGt (gCall oLen (gCons (gVarB 4) gNil)) (gC (.int 0)))) (gSeq (gPar [5, 4] [false, false] (gCons (gBin oIx (gVarB 4) (gC (.int 0))) (gCons (gSl oSlL (gVarB 4) (gPart (gC (.int 1))) gNoP) gNil)))
    (gFor (gSeqI (gCall oSorted (gCons (gDGet (gVarB 0) (gVarB 5)) gNil))) (ggName 6) (gIfS (gTst (gBin oNotIn (gVarB 6) (gVarB 3))) (gSeq (gApp 3 (gVar 6))
    (gIfS (gTst (gDIn false (gVarB 6) (gVarB 1))) (gSet 4 (gLst (gStar (gVarB 4) (gCons (gDGet (gVarB 1) (gVarB 6)) gNil)))) gNext)) gNext))))
    (gRet (gVarB 3))))
theorem w_reach (T : Bt mg) {f : Addr} {cdv : Value} {A : Around} {outer : List Env} {s : Shared} {H : Hp} {E : XK} (hr : Room 0 (A.deeper (envOfC "reach" (defScope (top 20)) s.heap.objs.size f cdv))) :
    DSs (cxOf CX0 P w K mg base nm_reach "reach" (defScope (top 20)) f cdv A outer s H E).nox (defBody (top 20)) (gb_reach) := by
  have nd := sc_reach.nd
  exact (ss_cons (s_par (i := 3) (j := 4) (by rfl) nd (by rfl) (by rfl) (by decide) (by rfl) (by rfl) (dk_own (f_lst da_nil) (dk_dat (DF.de (f_lst (da_cons (dv 2) da_nil))) dk_nil)) rfl (by rfl))
    (ss_cons (s_while PassesOwn.never (t_cmp p_gt (DE.db (b_len T (bv 4))) (DE.db d_int) (by rfl)) (ss_cons (s_par (i := 5) (j := 4) (by rfl) nd (by rfl) (by rfl) (by decide) (by rfl) (by rfl) (dk_dat (d_ix (bv 4) (DE.db d_int)) (dk_dat (DF.de (f_slice (bv 4) (o_some (DE.db d_int)) o_none)) dk_nil)) rfl (by rfl))
    (ss_one (s_for PassesOwn.never (by rfl) (i_seq (DF.de (b_sorted T hr (DE.db (d_dget (rm1 hr) (bv 0) (bv 5)))))) (g_name nd (i := 6) (by rfl) (by first | exact Or.inl rfl | exact Or.inr rfl)) (ss_one (s_if (t_cmp (p_notin (rm65 hr)) (bv 6) (bv 3) (by rfl)) (ss_cons (s_app (i := 3) (pvv 3) (dv 6))
    (ss_one (s_if (t_din (rm1 hr) (bv 6) (bv 1) (by rfl)) (ss_one (s_set nd (i := 4) (by rfl) (by first | exact Or.inl rfl | exact Or.inr rfl) (DF.de (f_lst (da_star (bv 4) (da_cons (d_dget (rm1 hr) (bv 1) (bv 6)) da_nil)))))) ss_nil))) ss_nil))))))
    (ss_one (s_retv (i := 3) (pvv 3)))))

/-! ### is_end -/
abbrev nm_is_end : List Str := ["names", "seats", "task", "cpu"]
theorem sc_is_end : FnScope nm_is_end ["names", "seats", "task", "cpu"] (defScope (top 21)) := ⟨rfl, rfl, rfl, by decide +kernel, rfl, by decide +kernel, by decide +kernel⟩
def gb_is_end : GS := (gRet ((gOrV (gDIn true (gVarB 3) (gVarB 1)) (gBin oGt (gIndex (gVarB 0) (gDGet (gVarB 1) (gVarB 3))) (gIndex (gVarB 0) (gVarB 2))))))
theorem w_is_end (T : Bt mg) {f : Addr} {cdv : Value} {A : Around} {outer : List Env} {s : Shared} {H : Hp} {E : XK} (hr : Room 0 (A.deeper (envOfC "is_end" (defScope (top 21)) s.heap.objs.size f cdv))) :
    DSs (cxOf CX0 P w K mg base nm_is_end "is_end" (defScope (top 21)) f cdv A outer s H E).nox (defBody (top 21)) (gb_is_end) := by
  have nd := sc_is_end.nd
  exact (ss_one (s_ret ((d_or (d_dnotin (rm1 hr) (bv 3) (bv 1) (by rfl)) (d_one (d_cmp p_gt (DE.db (d_index (rm65 hr) (bv 0) (DE.db (d_dget (rm1 hr) (bv 1) (bv 3))))) (DE.db (d_index (rm65 hr) (bv 0) (bv 2))) (by rfl)))))))

/-! ### is_row_of -/
abbrev nm_is_row_of : List Str := ["table", "seats", "row", "movers", "places", "mover", "cpu"]
theorem sc_is_row_of : FnScope nm_is_row_of ["table", "seats", "row"] (defScope (top 22)) := ⟨rfl, rfl, rfl, by decide +kernel, rfl, by decide +kernel, by decide +kernel⟩
def gb_is_row_of (g_does_wait : GF) : GS := (gSeq (gPar [3, 4] [false, false] (gCons (gStep 0 (gVarB 2)) (gCons (gStep 1 (gVarB 2)) gNil)))
    (gSeq (gIfS (gOr (gTst (gBin oNe (gLenSet (gVarB 3)) (gCall oLen (gCons (gVarB 3) gNil)))) (gOr (gTst (gBin oNe (gLenSet (gVarB 4)) (gCall oLen (gCons (gVarB 4) gNil)))) (gNot (gTst (gFun g_does_wait (gCons (gVar 1) (gCons (gBin oIx (gVarB 3) (gC (.int 0))) gNil))))))) (gRet (gC (.bool false))) gNext)
    (gSeq (gIfS (gNot (gTst (gCall oAll (gCons (gLc [5, 6] (gZip (gCons (gVar 3) (gCons (gVar 4) gNil))) (ggPair 5 6) gYes (gBin oIn (gVarB 6) (gDGet (gVarB 0) (gVarB 5)))) gNil)))) (gRet (gC (.bool false))) gNext)
    (gRet (gCall oAll (gCons (gLc [5, 6] (gZip (gCons (gSl oSlT (gVar 3) (gPart (gC (.int 1))) gNoP) (gCons (gVar 4) gNil))) (ggPair 5 6) gYes (gBin oEq (gGet2 (gVarB 1) (gVarB 6) (gC (.str ""))) (gVarB 5))) gNil))))))
theorem w_is_row_of {g_does_wait : GF} (T : Bt mg) (h_does_wait : Has P w K mg base "does_wait" 1 ["seats", "task"] g_does_wait) {f : Addr} {cdv : Value} {A : Around} {outer : List Env} {s : Shared} {H : Hp} {E : XK} (hr : Room 1 (A.deeper (envOfC "is_row_of" (defScope (top 22)) s.heap.objs.size f cdv))) :
    DSs (cxOf CX0 P w K mg base nm_is_row_of "is_row_of" (defScope (top 22)) f cdv A outer s H E).nox (defBody (top 22)) (gb_is_row_of g_does_wait) := by
  have nd := sc_is_row_of.nd
  exact (ss_cons (s_par (i := 3) (j := 4) (by rfl) nd (by rfl) (by rfl) (by decide) (by rfl) (by rfl) (dk_dat (d_step0 (bv 2)) (dk_dat (d_step1 (bv 2)) dk_nil)) rfl (by rfl))
    (ss_cons (s_if (DW.dt (w_or (t_cmp (p_ne (rm64 hr)) (DE.db (b_lenSet T (by rfl) (bv 3))) (DE.db (b_len T (bv 3))) (by rfl)) (w_or (t_cmp (p_ne (rm64 hr)) (DE.db (b_lenSet T (by rfl) (bv 4))) (DE.db (b_len T (bv 4))) (by rfl)) (w_or1 (t_not (t_val (d_has h_does_wait (hr.mono (by decide)) (da_cons (dv 1) (da_cons (d_ix (bv 3) (DE.db d_int)) da_nil))))))))) (ss_one (s_ret d_bl)) ss_nil)
    (ss_cons (s_if (t_not (t_val (b_all T (by rfl) (DF.db (f_lc (by rfl) nd (i_zip (by rfl) T.zip (da_cons (dv 3) (da_cons (dv 4) da_nil))) (blkOk_by (N := nm_is_row_of) (sc := defScope (top 22)) (own := [("mover", 5), ("cpu", 6)]) (by decide +kernel)) rfl (fun _ _ _ _ _ => (g_pair (by rfl) nd (i := 5) (by rfl) (by first | exact Or.inl rfl | exact Or.inr rfl) (j := 6) (by rfl) (by first | exact Or.inl rfl | exact Or.inr rfl))) (fun _ _ _ _ _ => ts_nil) (fun _ _ _ _ _ => (d_cmp (p_in (rm65 hr)) (bv 6) (DE.db (d_dget (rm1 hr) (bv 0) (bv 5))) (by rfl)))))))) (ss_one (s_ret d_bl)) ss_nil)
    (ss_one (s_ret (b_all T (by rfl) (DF.db (f_lc (by rfl) nd (i_zip (by rfl) T.zip (da_cons (d_sliceT (dv 3) (o_some (DE.db d_int)) o_none) (da_cons (dv 4) da_nil))) (blkOk_by (N := nm_is_row_of) (sc := defScope (top 22)) (own := [("mover", 5), ("cpu", 6)]) (by decide +kernel)) rfl (fun _ _ _ _ _ => (g_pair (by rfl) nd (i := 5) (by rfl) (by first | exact Or.inl rfl | exact Or.inr rfl) (j := 6) (by rfl) (by first | exact Or.inl rfl | exact Or.inr rfl))) (fun _ _ _ _ _ => ts_nil) (fun _ _ _ _ _ => (d_cmp (p_eq (rm64 hr)) (DE.db (b_get2 hr (bv 1) (bv 6) d_str)) (bv 5) (by rfl)))))))))))

/-! ### is_shift -/
abbrev nm_is_shift : List Str := ["book", "ready", "seating", "thing", "table", "seats", "names", "own", "mover"]
theorem sc_is_shift : FnScope nm_is_shift ["book", "ready", "seating", "thing"] (defScope (top 23)) := ⟨rfl, rfl, rfl, by decide +kernel, rfl, by decide +kernel, by decide +kernel⟩
def gb_is_shift (g_is_name g_tasks_of g_seats_of g_may_table g_is_row_of g_is_end : GF) : GS := (gSeq (gIfS (gOr (gNot (gTst (gIsi "tuple" (gVarB 3)))) (gOr (gTst (gBin oEq (gCall oLen (gCons (gVarB 3) gNil)) (gC (.int 0)))) (gTst (gBin oNe (gBin oMod (gCall oLen (gCons (gVarB 3) gNil)) (gC (.int 2))) (gC (.int 0)))))) (gRet (gC (.bool false))) gNext)
    (gSeq (gIfS (gNot (gTst (gCall oAll (gCons (gLc [7] (gSeqI (gVar 3)) (ggName 7) gYes (gFun g_is_name (gCons (gVar 7) gNil))) gNil)))) (gRet (gC (.bool false))) gNext)
    (gSeq (gPar [4, 5, 6] [false, false, false] (gCons (gFun g_may_table (gCons (gVar 0) (gCons (gVar 1) gNil))) (gCons (gFun g_seats_of (gCons (gVar 2) gNil)) (gCons (gFun g_tasks_of (gCons (gVar 1) gNil)) gNil))))
    (gSeq (gIfS (gOr (gNot (gTst (gCall oAll (gCons (gLc [8] (gSeqI (gStep 0 (gVarB 3))) (ggName 8) gYes (gBin oIn (gVarB 8) (gVarB 6))) gNil)))) (gNot (gTst (gFun g_is_row_of (gCons (gVar 4) (gCons (gVar 5) (gCons (gVar 3) gNil))))))) (gRet (gC (.bool false))) gNext)
    (gRet (gFun g_is_end (gCons (gVar 6) (gCons (gVar 5) (gCons (gBin oIx (gVarB 3) (gC (.int 0))) (gCons (gBin oIx (gVarB 3) (gNeg (gC (.int 1)))) gNil))))))))))
theorem w_is_shift {g_is_name g_tasks_of g_seats_of g_may_table g_is_row_of g_is_end : GF} (T : Bt mg) (h_is_name : Has P w K mg base "is_name" 1 ["value"] g_is_name) (h_tasks_of : Has P w K mg base "tasks_of" 1 ["ready"] g_tasks_of) (h_seats_of : HasF P w K mg base "seats_of" 11 ["seating"] g_seats_of) (h_may_table : Has P w K mg base "may_table" 12 ["book", "ready"] g_may_table) (h_is_row_of : Has P w K mg base "is_row_of" 2 ["table", "seats", "row"] g_is_row_of) (h_is_end : Has P w K mg base "is_end" 1 ["names", "seats", "task", "cpu"] g_is_end) {f : Addr} {cdv : Value} {A : Around} {outer : List Env} {s : Shared} {H : Hp} {E : XK} (hr : Room 12 (A.deeper (envOfC "is_shift" (defScope (top 23)) s.heap.objs.size f cdv))) :
    DSs (cxOf CX0 P w K mg base nm_is_shift "is_shift" (defScope (top 23)) f cdv A outer s H E).nox (defBody (top 23)) (gb_is_shift g_is_name g_tasks_of g_seats_of g_may_table g_is_row_of g_is_end) := by
  have nd := sc_is_shift.nd
  exact (ss_cons (s_if (DW.dt (w_or (t_not (t_val (b_isi "tuple" T T.tuple (by simp) (by rfl) (bv 3)))) (w_or (t_cmp (p_eq (rm64 hr)) (DE.db (b_len T (bv 3))) (DE.db d_int) (by rfl)) (w_or1 (t_cmp (p_ne (rm64 hr)) (DE.db (d_bin p_mod (DE.db (b_len T (bv 3))) (DE.db d_int))) (DE.db d_int) (by rfl)))))) (ss_one (s_ret d_bl)) ss_nil)
    (ss_cons (s_if (t_not (t_val (b_all T (by rfl) (DF.db (f_lc (by rfl) nd (i_seq (dv 3)) (blkOk_by (N := nm_is_shift) (sc := defScope (top 23)) (own := [("own", 7)]) (by decide +kernel)) rfl (fun _ _ _ _ _ => (g_name nd (i := 7) (by rfl) (by first | exact Or.inl rfl | exact Or.inr rfl))) (fun _ _ _ _ _ => ts_nil) (fun _ _ _ _ _ => (d_has h_is_name (hr.mono (by decide)) (da_cons (dv 7) da_nil)))))))) (ss_one (s_ret d_bl)) ss_nil)
    (ss_cons (s_tup3 (i := 4) (j := 5) (l := 6) (by rfl) nd (by rfl) (by rfl) (by rfl) (by first | exact Or.inl rfl | exact Or.inr rfl) (by first | exact Or.inl rfl | exact Or.inr rfl) (by first | exact Or.inl rfl | exact Or.inr rfl) (dk_dat (d_has h_may_table (hr.mono (by decide)) (da_cons (dv 0) (da_cons (dv 1) da_nil))) (dk_dat (DF.de (f_has h_seats_of (hr.mono (by decide)) (da_cons (dv 2) da_nil))) (dk_dat (d_has h_tasks_of (hr.mono (by decide)) (da_cons (dv 1) da_nil)) dk_nil))) rfl (by rfl))
    (ss_cons (s_if (DW.dt (w_or (t_not (t_val (b_all T (by rfl) (DF.db (f_lc (by rfl) nd (i_seq (d_step0 (bv 3))) (blkOk_by (N := nm_is_shift) (sc := defScope (top 23)) (own := [("mover", 8)]) (by decide +kernel)) rfl (fun _ _ _ _ _ => (g_name nd (i := 8) (by rfl) (by first | exact Or.inl rfl | exact Or.inr rfl))) (fun _ _ _ _ _ => ts_nil) (fun _ _ _ _ _ => (d_cmp (p_in (rm65 hr)) (bv 8) (bv 6) (by rfl)))))))) (w_or1 (t_not (t_val (d_has h_is_row_of (hr.mono (by decide)) (da_cons (dv 4) (da_cons (dv 5) (da_cons (dv 3) da_nil))))))))) (ss_one (s_ret d_bl)) ss_nil)
    (ss_one (s_ret (d_has h_is_end (hr.mono (by decide)) (da_cons (dv 6) (da_cons (dv 5) (da_cons (d_ix (bv 3) (DE.db d_int)) (da_cons (d_ix (bv 3) (DE.db (d_neg (DE.db d_int)))) da_nil)))))))))))

/-! ### ways_on -/
abbrev nm_ways_on : List Str := ["table", "seats", "way", "mover", "cpu"]
theorem sc_ways_on : FnScope nm_ways_on ["table", "seats", "way"] (defScope (top 24)) := ⟨rfl, rfl, rfl, by decide +kernel, rfl, by decide +kernel, by decide +kernel⟩
def gb_ways_on : GS := (gSeq (gIfS (gTst (gDIn true (gBin oIx (gVarB 2) (gNeg (gC (.int 1)))) (gVarB 1))) (gRet (gLst gNil)) gNext)
    (gSeq (gSet 3 (gDGet (gVarB 1) (gBin oIx (gVarB 2) (gNeg (gC (.int 1))))))
    (gRet (gLc [4] (gSeqI (gCall oSorted (gCons (gDGet (gVarB 0) (gVarB 3)) gNil))) (ggName 4) (gTst (gBin oNotIn (gVarB 4) (gStep 1 (gVarB 2)))) (gTup (gStar (gVarB 2) (gCons (gVar 3) (gCons (gVar 4) gNil))))))))
theorem w_ways_on (T : Bt mg) {f : Addr} {cdv : Value} {A : Around} {outer : List Env} {s : Shared} {H : Hp} {E : XK} (hr : Room 0 (A.deeper (envOfC "ways_on" (defScope (top 24)) s.heap.objs.size f cdv))) :
    DSs (cxOf CX0 P w K mg base nm_ways_on "ways_on" (defScope (top 24)) f cdv A outer s H E).nox (defBody (top 24)) (gb_ways_on) := by
  have nd := sc_ways_on.nd
  exact (ss_cons (s_if (t_dnotin (rm1 hr) (DE.db (d_ix (bv 2) (DE.db (d_neg (DE.db d_int))))) (bv 1) (by rfl)) (ss_one (s_ret (DF.de (f_lst da_nil)))) ss_nil)
    (ss_cons (s_set nd (i := 3) (by rfl) (by first | exact Or.inl rfl | exact Or.inr rfl) (d_dget (rm1 hr) (bv 1) (DE.db (d_ix (bv 2) (DE.db (d_neg (DE.db d_int)))))))
    (ss_one (s_ret (DF.de (f_lc (by rfl) nd (i_seq (DF.de (b_sorted T hr (DE.db (d_dget (rm1 hr) (bv 0) (bv 3)))))) (blkOk_by (N := nm_ways_on) (sc := defScope (top 24)) (own := [("cpu", 4)]) (by decide +kernel)) rfl (fun _ _ _ _ _ => (g_name nd (i := 4) (by rfl) (by first | exact Or.inl rfl | exact Or.inr rfl))) (fun _ _ _ _ _ => (ts_one (t_cmp (p_notin (rm65 hr)) (bv 4) (DE.db (d_step1 (bv 2))) (by rfl)))) (fun _ _ _ _ _ => (d_tup (da_star (bv 2) (da_cons (dv 3) (da_cons (dv 4) da_nil)))))))))))

/-! ### shortest -/
abbrev nm_shortest : List Str := ["table", "seats", "task", "goals", "ways", "seen", "way", "cpu"]
theorem sc_shortest : FnScope nm_shortest ["table", "seats", "task", "goals"] (defScope (top 25)) := ⟨rfl, rfl, rfl, by decide +kernel, rfl, by decide +kernel, by decide +kernel⟩
def gb_shortest (g_ways_on : GF) : GS := (gSeq (gPar [4, 5] [false, true] (gCons (gLc [7] (gSeqI (gCall oSorted (gCons (gDGet (gVarB 0) (gVarB 2)) gNil))) (ggName 7) gYes (gTup (gCons (gVar 2) (gCons (gVar 7) gNil)))) (gCons (gLst gNil) gNil)))
    (gSeq (gWhile (gTst (gBin oGt (gCall oLen (gCons (gVarB 4) gNil)) (gC (.int 0)))) (gSeq (gPar [6, 4] [false, false] (gCons (gBin oIx (gVarB 4) (gC (.int 0))) (gCons (gSl oSlL (gVarB 4) (gPart (gC (.int 1))) gNoP) gNil)))
    (gSeq (gIfS (gTst (gBin oIn (gBin oIx (gVarB 6) (gNeg (gC (.int 1)))) (gVarB 3))) (gRet (gVar 6)) gNext)
    (gIfS (gTst (gBin oNotIn (gBin oIx (gVarB 6) (gNeg (gC (.int 1)))) (gVarB 5))) (gSeq (gApp 5 (gBin oIx (gVarB 6) (gNeg (gC (.int 1)))))
    (gSet 4 (gBin oAdd (gVarB 4) (gFun g_ways_on (gCons (gVar 0) (gCons (gVar 1) (gCons (gVar 6) gNil))))))) gNext))))
    (gRet (gC .none))))
theorem w_shortest {g_ways_on : GF} (T : Bt mg) (h_ways_on : Has P w K mg base "ways_on" 1 ["table", "seats", "way"] g_ways_on) {f : Addr} {cdv : Value} {A : Around} {outer : List Env} {s : Shared} {H : Hp} {E : XK} (hr : Room 1 (A.deeper (envOfC "shortest" (defScope (top 25)) s.heap.objs.size f cdv))) :
    DSs (cxOf CX0 P w K mg base nm_shortest "shortest" (defScope (top 25)) f cdv A outer s H E).nox (defBody (top 25)) (gb_shortest g_ways_on) := by
  have nd := sc_shortest.nd
  exact (ss_cons (s_par (i := 4) (j := 5) (by rfl) nd (by rfl) (by rfl) (by decide) (by rfl) (by rfl) (dk_dat (DF.de (f_lc (by rfl) nd (i_seq (DF.de (b_sorted T hr (DE.db (d_dget (rm1 hr) (bv 0) (bv 2)))))) (blkOk_by (N := nm_shortest) (sc := defScope (top 25)) (own := [("cpu", 7)]) (by decide +kernel)) rfl (fun _ _ _ _ _ => (g_name nd (i := 7) (by rfl) (by first | exact Or.inl rfl | exact Or.inr rfl))) (fun _ _ _ _ _ => ts_nil) (fun _ _ _ _ _ => (d_tup (da_cons (dv 2) (da_cons (dv 7) da_nil)))))) (dk_own (f_lst da_nil) dk_nil)) rfl (by rfl))
    (ss_cons (s_while PassesOwn.never (t_cmp p_gt (DE.db (b_len T (bv 4))) (DE.db d_int) (by rfl)) (ss_cons (s_par (i := 6) (j := 4) (by rfl) nd (by rfl) (by rfl) (by decide) (by rfl) (by rfl) (dk_dat (d_ix (bv 4) (DE.db d_int)) (dk_dat (DF.de (f_slice (bv 4) (o_some (DE.db d_int)) o_none)) dk_nil)) rfl (by rfl))
    (ss_cons (s_if (t_cmp (p_in (rm65 hr)) (DE.db (d_ix (bv 6) (DE.db (d_neg (DE.db d_int))))) (bv 3) (by rfl)) (ss_one (s_ret (dv 6))) ss_nil)
    (ss_one (s_if (t_cmp (p_notin (rm65 hr)) (DE.db (d_ix (bv 6) (DE.db (d_neg (DE.db d_int))))) (bv 5) (by rfl)) (ss_cons (s_app (i := 5) (pvv 5) (d_ix (bv 6) (DE.db (d_neg (DE.db d_int)))))
    (ss_one (s_set nd (i := 4) (by rfl) (by first | exact Or.inl rfl | exact Or.inr rfl) (d_bin p_add (bv 4) (DE.db (d_has h_ways_on (hr.mono (by decide)) (da_cons (dv 0) (da_cons (dv 1) (da_cons (dv 6) da_nil))))))))) ss_nil)))))
    (ss_one (s_ret d_non))))

/-! ### ends_of -/
abbrev nm_ends_of : List Str := ["table", "seats", "names", "task", "cpu"]
theorem sc_ends_of : FnScope nm_ends_of ["table", "seats", "names", "task"] (defScope (top 26)) := ⟨rfl, rfl, rfl, by decide +kernel, rfl, by decide +kernel, by decide +kernel⟩
def gb_ends_of (g_reach g_is_end : GF) : GS := (gRet (gLc [4] (gSeqI (gFun g_reach (gCons (gVar 0) (gCons (gVar 1) (gCons (gVar 3) gNil))))) (ggName 4) (gTst (gFun g_is_end (gCons (gVar 2) (gCons (gVar 1) (gCons (gVar 3) (gCons (gVar 4) gNil)))))) (gVar 4)))
theorem w_ends_of {g_reach g_is_end : GF} (T : Bt mg) (h_reach : Has P w K mg base "reach" 1 ["table", "seats", "task"] g_reach) (h_is_end : Has P w K mg base "is_end" 1 ["names", "seats", "task", "cpu"] g_is_end) {f : Addr} {cdv : Value} {A : Around} {outer : List Env} {s : Shared} {H : Hp} {E : XK} (hr : Room 1 (A.deeper (envOfC "ends_of" (defScope (top 26)) s.heap.objs.size f cdv))) :
    DSs (cxOf CX0 P w K mg base nm_ends_of "ends_of" (defScope (top 26)) f cdv A outer s H E).nox (defBody (top 26)) (gb_ends_of g_reach g_is_end) := by
  have nd := sc_ends_of.nd
  exact (ss_one (s_ret (DF.de (f_lc (by rfl) nd (i_seq (d_has h_reach (hr.mono (by decide)) (da_cons (dv 0) (da_cons (dv 1) (da_cons (dv 3) da_nil))))) (blkOk_by (N := nm_ends_of) (sc := defScope (top 26)) (own := [("cpu", 4)]) (by decide +kernel)) rfl (fun _ _ _ _ _ => (g_name nd (i := 4) (by rfl) (by first | exact Or.inl rfl | exact Or.inr rfl))) (fun _ _ _ _ _ => (ts_one (t_val (d_has h_is_end (hr.mono (by decide)) (da_cons (dv 2) (da_cons (dv 1) (da_cons (dv 3) (da_cons (dv 4) da_nil)))))))) (fun _ _ _ _ _ => (dv 4))))))

/-! ### right_ends_of -/
abbrev nm_right_ends_of : List Str := ["table", "seats", "names", "task", "every", "free", "worst", "cpu"]
theorem sc_right_ends_of : FnScope nm_right_ends_of ["table", "seats", "names", "task"] (defScope (top 27)) := ⟨rfl, rfl, rfl, by decide +kernel, rfl, by decide +kernel, by decide +kernel⟩
def gb_right_ends_of (g_reach g_is_end : GF) : GS := (gSeq (gSet 4 (gFun g_reach (gCons (gVar 0) (gCons (gVar 1) (gCons (gVar 3) gNil)))))
    (gSeq (gSet 5 (gLc [7] (gSeqI (gVar 4)) (ggName 7) (gTst (gDIn true (gVarB 7) (gVarB 1))) (gVar 7)))
    (gSeq (gIfS (gTst (gBin oGt (gCall oLen (gCons (gVarB 5) gNil)) (gC (.int 0)))) (gRet (gVar 5)) gNext)
    (gSeq (gSet 6 (gMaxK 7 (gVar 4) (gIndex (gVarB 2) (gDGet (gVarB 1) (gVarB 7)))))
    (gRet (gIf (gTst (gFun g_is_end (gCons (gVar 2) (gCons (gVar 1) (gCons (gVar 3) (gCons (gVar 6) gNil)))))) (gLst (gCons (gVar 6) gNil)) (gLst gNil)))))))
theorem w_right_ends_of {g_reach g_is_end : GF} (T : Bt mg) (h_reach : Has P w K mg base "reach" 1 ["table", "seats", "task"] g_reach) (h_is_end : Has P w K mg base "is_end" 1 ["names", "seats", "task", "cpu"] g_is_end) {f : Addr} {c P0 : Addr} (TB : LamX.TabB base mg c P0) (hP : (P0, ("right_ends_of.<locals>." : Str) ++ "<lambda>") ∈ TabsOf.tt) (hU : ∀ p : Addr × Str, p ∈ TabsOf.tt → p.1 = P0 → p.2 = ("right_ends_of.<locals>." : Str) ++ "<lambda>") {A : Around} {outer : List Env} {s : Shared} {H : Hp} {E : XK} (hr : Room 2 (A.deeper (envOfC "right_ends_of" (defScope (top 27)) s.heap.objs.size f (.ref c)))) :
    DSs (cxOf CX0 P w K mg base nm_right_ends_of "right_ends_of" (defScope (top 27)) f (.ref c) A outer s H E).nox (defBody (top 27)) (gb_right_ends_of g_reach g_is_end) := by
  have nd := sc_right_ends_of.nd
  exact (ss_cons (s_set nd (i := 4) (by rfl) (by first | exact Or.inl rfl | exact Or.inr rfl) (d_has h_reach (hr.mono (by decide)) (da_cons (dv 0) (da_cons (dv 1) (da_cons (dv 3) da_nil)))))
    (ss_cons (s_setLc (i := 5) (by rfl) nd (by rfl) (by rfl) (by rfl) (i_seq (dv 4)) (blkOk_by (N := nm_right_ends_of) (sc := defScope (top 27)) (own := [("cpu", 7)]) (by decide +kernel)) rfl (fun _ _ _ _ _ => (g_name nd (i := 7) (by rfl) (by first | exact Or.inl rfl | exact Or.inr rfl))) (fun _ _ _ _ _ => (ts_one (t_dnotin (rm1 hr) (bv 7) (bv 1) (by rfl)))) (fun _ _ _ _ _ => (dv 7)))
    (ss_cons (s_if (t_cmp p_gt (DE.db (b_len T (bv 5))) (DE.db d_int) (by rfl)) (ss_one (s_ret (dv 5))) ss_nil)
    (ss_cons (s_set nd (i := 6) (by rfl) (by first | exact Or.inl rfl | exact Or.inr rfl) (d_maxlam (k := 0) (by rfl) hr nd (j := 7) (by rfl) (lamP_by (sc := defScope (top 27)) (by decide +kernel)) TB rfl hP hU (by rfl) (fun _ _ _ _ _ _ => by rfl) (by rfl) T.max (by rfl) (dv 4) (fun _ _ _ _ _ hr => (d_index (rm65 hr) (bv 2) (DE.db (d_dget (rm1 hr) (bv 1) (bv 7)))))))
    (ss_one (s_ret (d_if (t_val (d_has h_is_end (hr.mono (by decide)) (da_cons (dv 2) (da_cons (dv 1) (da_cons (dv 3) (da_cons (dv 6) da_nil)))))) (DF.de (f_lst (da_cons (dv 6) da_nil))) (DF.de (f_lst da_nil)))))))))

/-! ### best_way -/
abbrev nm_best_way : List Str := ["book", "ready", "seating", "task", "right", "table", "seats", "names", "goals"]
theorem sc_best_way : FnScope nm_best_way ["book", "ready", "seating", "task", "right"] (defScope (top 28)) := ⟨rfl, rfl, rfl, by decide +kernel, rfl, by decide +kernel, by decide +kernel⟩
def gb_best_way (g_check_task g_tasks_of g_seats_of g_may_table g_does_wait g_right_ends_of g_shortest : GF) : GS := (gSeq (gDrop (gFun g_check_task (gCons (gVar 1) (gCons (gVar 3) gNil))))
    (gSeq (gPar [5, 6, 7] [false, false, false] (gCons (gFun g_may_table (gCons (gVar 0) (gCons (gVar 1) gNil))) (gCons (gFun g_seats_of (gCons (gVar 2) gNil)) (gCons (gFun g_tasks_of (gCons (gVar 1) gNil)) gNil))))
    (gSeq (gIfS (gNot (gTst (gFun g_does_wait (gCons (gVar 6) (gCons (gVar 3) gNil))))) (gRet (gC .none)) gNext)
    (gSeq (gSet 8 (gIf (gTst (gVar 4)) (gFun g_right_ends_of (gCons (gVar 5) (gCons (gVar 6) (gCons (gVar 7) (gCons (gVar 3) gNil))))) gNo))
    (gRet (gFun g_shortest (gCons (gVar 5) (gCons (gVar 6) (gCons (gVar 3) (gCons (gVar 8) gNil))))))))))
theorem w_best_way {g_check_task g_tasks_of g_seats_of g_may_table g_does_wait g_right_ends_of g_shortest : GF} (T : Bt mg) (h_check_task : Has P w K mg base "check_task" 2 ["ready", "task"] g_check_task) (h_tasks_of : Has P w K mg base "tasks_of" 1 ["ready"] g_tasks_of) (h_seats_of : HasF P w K mg base "seats_of" 11 ["seating"] g_seats_of) (h_may_table : Has P w K mg base "may_table" 12 ["book", "ready"] g_may_table) (h_does_wait : Has P w K mg base "does_wait" 1 ["seats", "task"] g_does_wait) (h_right_ends_of : Has P w K mg base "right_ends_of" 3 ["table", "seats", "names", "task"] g_right_ends_of) (h_shortest : Has P w K mg base "shortest" 2 ["table", "seats", "task", "goals"] g_shortest) {f : Addr} {cdv : Value} {A : Around} {outer : List Env} {s : Shared} {H : Hp} {E : XK} (hr : Room 12 (A.deeper (envOfC "best_way" (defScope (top 28)) s.heap.objs.size f cdv))) :
    DSs (cxOf CX0 P w K mg base nm_best_way "best_way" (defScope (top 28)) f cdv A outer s H E).nox (defBody (top 28)) (gb_best_way g_check_task g_tasks_of g_seats_of g_may_table g_does_wait g_right_ends_of g_shortest) := by
  have nd := sc_best_way.nd
  exact (ss_cons (s_expr (d_has h_check_task (hr.mono (by decide)) (da_cons (dv 1) (da_cons (dv 3) da_nil))))
    (ss_cons (s_par3 (i := 5) (j := 6) (l := 7) (by rfl) nd (by rfl) (by rfl) (by rfl) (by decide) (by decide) (by decide) (by rfl) (by rfl) (by rfl) (dk_dat (d_has h_may_table (hr.mono (by decide)) (da_cons (dv 0) (da_cons (dv 1) da_nil))) (dk_dat (DF.de (f_has h_seats_of (hr.mono (by decide)) (da_cons (dv 2) da_nil))) (dk_dat (d_has h_tasks_of (hr.mono (by decide)) (da_cons (dv 1) da_nil)) dk_nil))) rfl (by rfl))
    (ss_cons (s_if (t_not (t_val (d_has h_does_wait (hr.mono (by decide)) (da_cons (dv 6) (da_cons (dv 3) da_nil))))) (ss_one (s_ret d_non)) ss_nil)
    (ss_cons (s_set nd (i := 8) (by rfl) (by first | exact Or.inl rfl | exact Or.inr rfl) (d_if (t_val (dv 4)) (d_has h_right_ends_of (hr.mono (by decide)) (da_cons (dv 5) (da_cons (dv 6) (da_cons (dv 7) (da_cons (dv 3) da_nil))))) d_no))
    (ss_one (s_ret (d_has h_shortest (hr.mono (by decide)) (da_cons (dv 5) (da_cons (dv 6) (da_cons (dv 3) (da_cons (dv 8) da_nil)))))))))))

/-! ### moves_of -/
abbrev nm_moves_of : List Str := ["way"]
theorem sc_moves_of : FnScope nm_moves_of ["way"] (defScope (top 29)) := ⟨rfl, rfl, rfl, by decide +kernel, rfl, by decide +kernel, by decide +kernel⟩
def gb_moves_of : GS := (gRet (gIf (gTst (gBin oIs (gVarB 0) (gC .none))) (gC .none) (gBin oSub (gBin oDiv (gCall oLen (gCons (gVarB 0) gNil)) (gC (.int 2))) (gC (.int 1)))))
theorem w_moves_of (T : Bt mg) {f : Addr} {cdv : Value} {A : Around} {outer : List Env} {s : Shared} {H : Hp} {E : XK} (hr : Room 0 (A.deeper (envOfC "moves_of" (defScope (top 29)) s.heap.objs.size f cdv))) :
    DSs (cxOf CX0 P w K mg base nm_moves_of "moves_of" (defScope (top 29)) f cdv A outer s H E).nox (defBody (top 29)) (gb_moves_of) := by
  have nd := sc_moves_of.nd
  exact (ss_one (s_ret (d_if (t_cmp p_is (bv 0) (DE.db d_non) (by rfl)) d_non (d_bin p_sub (DE.db (d_bin p_div (DE.db (b_len T (bv 0))) (DE.db d_int))) (DE.db d_int)))))

/-! ### a_right_shift -/
abbrev nm_a_right_shift : List Str := ["book", "ready", "seating", "task"]
theorem sc_a_right_shift : FnScope nm_a_right_shift ["book", "ready", "seating", "task"] (defScope (top 30)) := ⟨rfl, rfl, rfl, by decide +kernel, rfl, by decide +kernel, by decide +kernel⟩
def gb_a_right_shift (g_best_way : GF) : GS := (gRet (gFun g_best_way (gCons (gVar 0) (gCons (gVar 1) (gCons (gVar 2) (gCons (gVar 3) (gCons (gC (.bool true)) gNil)))))))
theorem w_a_right_shift {g_best_way : GF} (T : Bt mg) (h_best_way : Has P w K mg base "best_way" 13 ["book", "ready", "seating", "task", "right"] g_best_way) {f : Addr} {cdv : Value} {A : Around} {outer : List Env} {s : Shared} {H : Hp} {E : XK} (hr : Room 13 (A.deeper (envOfC "a_right_shift" (defScope (top 30)) s.heap.objs.size f cdv))) :
    DSs (cxOf CX0 P w K mg base nm_a_right_shift "a_right_shift" (defScope (top 30)) f cdv A outer s H E).nox (defBody (top 30)) (gb_a_right_shift g_best_way) := by
  have nd := sc_a_right_shift.nd
  exact (ss_one (s_ret (d_has h_best_way (hr.mono (by decide)) (da_cons (dv 0) (da_cons (dv 1) (da_cons (dv 2) (da_cons (dv 3) (da_cons d_bl da_nil))))))))

/-! ### right_moves -/
abbrev nm_right_moves : List Str := ["book", "ready", "seating", "task"]
theorem sc_right_moves : FnScope nm_right_moves ["book", "ready", "seating", "task"] (defScope (top 31)) := ⟨rfl, rfl, rfl, by decide +kernel, rfl, by decide +kernel, by decide +kernel⟩
def gb_right_moves (g_moves_of g_best_way : GF) : GS := (gRet (gFun g_moves_of (gCons (gFun g_best_way (gCons (gVar 0) (gCons (gVar 1) (gCons (gVar 2) (gCons (gVar 3) (gCons (gC (.bool true)) gNil)))))) gNil)))
theorem w_right_moves {g_moves_of g_best_way : GF} (T : Bt mg) (h_moves_of : Has P w K mg base "moves_of" 1 ["way"] g_moves_of) (h_best_way : Has P w K mg base "best_way" 13 ["book", "ready", "seating", "task", "right"] g_best_way) {f : Addr} {cdv : Value} {A : Around} {outer : List Env} {s : Shared} {H : Hp} {E : XK} (hr : Room 13 (A.deeper (envOfC "right_moves" (defScope (top 31)) s.heap.objs.size f cdv))) :
    DSs (cxOf CX0 P w K mg base nm_right_moves "right_moves" (defScope (top 31)) f cdv A outer s H E).nox (defBody (top 31)) (gb_right_moves g_moves_of g_best_way) := by
  have nd := sc_right_moves.nd
  exact (ss_one (s_ret (d_has h_moves_of (hr.mono (by decide)) (da_cons (d_has h_best_way (hr.mono (by decide)) (da_cons (dv 0) (da_cons (dv 1) (da_cons (dv 2) (da_cons (dv 3) (da_cons d_bl da_nil)))))) da_nil))))

/-! ### is_right -/
abbrev nm_is_right : List Str := ["book", "ready", "seating", "thing"]
theorem sc_is_right : FnScope nm_is_right ["book", "ready", "seating", "thing"] (defScope (top 32)) := ⟨rfl, rfl, rfl, by decide +kernel, rfl, by decide +kernel, by decide +kernel⟩
def gb_is_right (g_is_shift g_right_ends_of g_may_table g_seats_of g_tasks_of : GF) : GS := (gSeq (gIfS (gNot (gTst (gFun g_is_shift (gCons (gVar 0) (gCons (gVar 1) (gCons (gVar 2) (gCons (gVar 3) gNil))))))) (gRet (gC (.bool false))) gNext)
    (gRet (gBin oIn (gBin oIx (gVarB 3) (gNeg (gC (.int 1)))) (gFun g_right_ends_of (gCons (gFun g_may_table (gCons (gVar 0) (gCons (gVar 1) gNil))) (gCons (gFun g_seats_of (gCons (gVar 2) gNil)) (gCons (gFun g_tasks_of (gCons (gVar 1) gNil)) (gCons (gBin oIx (gVarB 3) (gC (.int 0))) gNil))))))))
theorem w_is_right {g_is_shift g_right_ends_of g_may_table g_seats_of g_tasks_of : GF} (T : Bt mg) (h_is_shift : Has P w K mg base "is_shift" 13 ["book", "ready", "seating", "thing"] g_is_shift) (h_right_ends_of : Has P w K mg base "right_ends_of" 3 ["table", "seats", "names", "task"] g_right_ends_of) (h_may_table : Has P w K mg base "may_table" 12 ["book", "ready"] g_may_table) (h_seats_of : HasF P w K mg base "seats_of" 11 ["seating"] g_seats_of) (h_tasks_of : Has P w K mg base "tasks_of" 1 ["ready"] g_tasks_of) {f : Addr} {cdv : Value} {A : Around} {outer : List Env} {s : Shared} {H : Hp} {E : XK} (hr : Room 13 (A.deeper (envOfC "is_right" (defScope (top 32)) s.heap.objs.size f cdv))) :
    DSs (cxOf CX0 P w K mg base nm_is_right "is_right" (defScope (top 32)) f cdv A outer s H E).nox (defBody (top 32)) (gb_is_right g_is_shift g_right_ends_of g_may_table g_seats_of g_tasks_of) := by
  have nd := sc_is_right.nd
  exact (ss_cons (s_if (t_not (t_val (d_has h_is_shift (hr.mono (by decide)) (da_cons (dv 0) (da_cons (dv 1) (da_cons (dv 2) (da_cons (dv 3) da_nil))))))) (ss_one (s_ret d_bl)) ss_nil)
    (ss_one (s_ret (d_cmp (p_in (rm65 hr)) (DE.db (d_ix (bv 3) (DE.db (d_neg (DE.db d_int))))) (DE.db (d_has h_right_ends_of (hr.mono (by decide)) (da_cons (d_has h_may_table (hr.mono (by decide)) (da_cons (dv 0) (da_cons (dv 1) da_nil))) (da_cons (DF.de (f_has h_seats_of (hr.mono (by decide)) (da_cons (dv 2) da_nil))) (da_cons (d_has h_tasks_of (hr.mono (by decide)) (da_cons (dv 1) da_nil)) (da_cons (d_ix (bv 3) (DE.db d_int)) da_nil)))))) (by rfl)))))

/-! ### shifted -/
abbrev nm_shifted : List Str := ["seating", "shift", "seats", "mover", "cpu"]
theorem sc_shifted : FnScope nm_shifted ["seating", "shift"] (defScope (top 33)) := ⟨rfl, rfl, rfl, by decide +kernel, rfl, by decide +kernel, by decide +kernel⟩
def gb_shifted (g_seats_of : GF) : GS := (gSeq (gSetO 2 (gFun g_seats_of (gCons (gVar 0) gNil)))
    (gSeq (gFor (gZip (gCons (gStep 0 (gVarB 1)) (gCons (gStep 1 (gVarB 1)) gNil))) (ggPair 3 4) (gPutD 2 (gVarB 4) (gVar 3)))
    (gRet (gCall oTuple (gCons (gVw oSortedI (gVarB 2)) gNil)))))
theorem w_shifted {g_seats_of : GF} (T : Bt mg) (h_seats_of : HasF P w K mg base "seats_of" 11 ["seating"] g_seats_of) {f : Addr} {cdv : Value} {A : Around} {outer : List Env} {s : Shared} {H : Hp} {E : XK} (hr : Room 11 (A.deeper (envOfC "shifted" (defScope (top 33)) s.heap.objs.size f cdv))) :
    DSs (cxOf CX0 P w K mg base nm_shifted "shifted" (defScope (top 33)) f cdv A outer s H E).nox (defBody (top 33)) (gb_shifted g_seats_of) := by
  have nd := sc_shifted.nd
  exact (ss_cons (s_setO nd (i := 2) (by rfl) (by first | exact Or.inl rfl | exact Or.inr rfl) (f_has h_seats_of (hr.mono (by decide)) (da_cons (dv 0) da_nil)))
    (ss_cons (s_for PassesOwn.never (by rfl) (i_zip (by rfl) T.zip (da_cons (d_step0 (bv 1)) (da_cons (d_step1 (bv 1)) da_nil))) (g_pair (by rfl) nd (i := 3) (by rfl) (by first | exact Or.inl rfl | exact Or.inr rfl) (j := 4) (by rfl) (by first | exact Or.inl rfl | exact Or.inr rfl)) (ss_one (s_putD (i := 2) (rm1 hr) (pvv 2) (bv 4) (dv 3))))
    (ss_one (s_ret (b_tuple T (DF.db (b_sortItems T (by rfl) hr (bv 2))))))))

/-! ### next_shift -/
abbrev nm_next_shift : List Str := ["book", "ready", "seating", "task", "way"]
theorem sc_next_shift : FnScope nm_next_shift ["book", "ready", "seating"] (defScope (top 34)) := ⟨rfl, rfl, rfl, by decide +kernel, rfl, by decide +kernel, by decide +kernel⟩
def gb_next_shift (g_tasks_of g_a_right_shift : GF) : GS := (gSeq (gFor (gSeqI (gFun g_tasks_of (gCons (gVar 1) gNil))) (ggName 3) (gSeq (gSet 4 (gFun g_a_right_shift (gCons (gVar 0) (gCons (gVar 1) (gCons (gVar 2) (gCons (gVar 3) gNil))))))
    (gIfS (gTst (gBin oIsNot (gVarB 4) (gC .none))) (gRet (gVar 4)) gNext)))
    (gRet (gC .none)))
theorem w_next_shift {g_tasks_of g_a_right_shift : GF} (T : Bt mg) (h_tasks_of : Has P w K mg base "tasks_of" 1 ["ready"] g_tasks_of) (h_a_right_shift : Has P w K mg base "a_right_shift" 14 ["book", "ready", "seating", "task"] g_a_right_shift) {f : Addr} {cdv : Value} {A : Around} {outer : List Env} {s : Shared} {H : Hp} {E : XK} (hr : Room 14 (A.deeper (envOfC "next_shift" (defScope (top 34)) s.heap.objs.size f cdv))) :
    DSs (cxOf CX0 P w K mg base nm_next_shift "next_shift" (defScope (top 34)) f cdv A outer s H E).nox (defBody (top 34)) (gb_next_shift g_tasks_of g_a_right_shift) := by
  have nd := sc_next_shift.nd
  exact (ss_cons (s_for PassesOwn.never (by rfl) (i_seq (d_has h_tasks_of (hr.mono (by decide)) (da_cons (dv 1) da_nil))) (g_name nd (i := 3) (by rfl) (by first | exact Or.inl rfl | exact Or.inr rfl)) (ss_cons (s_set nd (i := 4) (by rfl) (by first | exact Or.inl rfl | exact Or.inr rfl) (d_has h_a_right_shift (hr.mono (by decide)) (da_cons (dv 0) (da_cons (dv 1) (da_cons (dv 2) (da_cons (dv 3) da_nil))))))
    (ss_one (s_if (t_cmp p_isnot (bv 4) (DE.db d_non) (by rfl)) (ss_one (s_ret (dv 4))) ss_nil))))
    (ss_one (s_ret d_non)))

/-! ### is_settled -/
abbrev nm_is_settled : List Str := ["book", "ready", "seating"]
theorem sc_is_settled : FnScope nm_is_settled ["book", "ready", "seating"] (defScope (top 35)) := ⟨rfl, rfl, rfl, by decide +kernel, rfl, by decide +kernel, by decide +kernel⟩
def gb_is_settled (g_next_shift : GF) : GS := (gRet (gBin oIs (gFun g_next_shift (gCons (gVar 0) (gCons (gVar 1) (gCons (gVar 2) gNil)))) (gC .none)))
theorem w_is_settled {g_next_shift : GF} (T : Bt mg) (h_next_shift : Has P w K mg base "next_shift" 15 ["book", "ready", "seating"] g_next_shift) {f : Addr} {cdv : Value} {A : Around} {outer : List Env} {s : Shared} {H : Hp} {E : XK} (hr : Room 15 (A.deeper (envOfC "is_settled" (defScope (top 35)) s.heap.objs.size f cdv))) :
    DSs (cxOf CX0 P w K mg base nm_is_settled "is_settled" (defScope (top 35)) f cdv A outer s H E).nox (defBody (top 35)) (gb_is_settled g_next_shift) := by
  have nd := sc_is_settled.nd
  exact (ss_one (s_ret (d_cmp p_is (DE.db (d_has h_next_shift (hr.mono (by decide)) (da_cons (dv 0) (da_cons (dv 1) (da_cons (dv 2) da_nil))))) (DE.db d_non) (by rfl))))

/-! ### _law_box -/
abbrev nm__law_box : List Str := ["_law_script", "_law_k", "_law_cell"]
theorem sc__law_box : FnScope nm__law_box ["_law_script", "_law_k"] (defScope (top 37)) := ⟨rfl, rfl, rfl, by decide +kernel, rfl, by decide +kernel, by decide +kernel⟩
def gb__law_box : GS := (gSeq (gSet 2 (gIf (gTst (gBin oLt (gVarB 1) (gCall oLen (gCons (gVarB 0) gNil)))) (gBin oIx (gVarB 0) (gVarB 1)) (gC (.int 0))))
    (gRetF (gLst (gCons (gBin oMul (gCall oAbs (gCons (gVarB 2) gNil)) (gCall oInt (gCons (gBin oGe (gCall oAbs (gCons (gVarB 2) gNil)) (gBin oPow (gC (.int 10)) (gC (.int 18)))) gNil))) (gCons (gBin oAdd (gBin oAdd (gBin oMod (gCall oInt (gCons (gVarB 2) gNil)) (gC (.int 2305843009213693951))) (gBin oMul (gC (.int 39373)) (gVarB 1))) (gC (.int 1190827))) (gCons (gC (.int 0)) gNil))))))
theorem w__law_box (T : Bt mg) {f : Addr} {cdv : Value} {A : Around} {outer : List Env} {s : Shared} {H : Hp} {E : XK} (hr : Room 0 (A.deeper (envOfC "_law_box" (defScope (top 37)) s.heap.objs.size f cdv))) :
    DSs (cxOf CX0 P w K mg base nm__law_box "_law_box" (defScope (top 37)) f cdv A outer s H E).nox (defBody (top 37)) (gb__law_box) := by
  have nd := sc__law_box.nd
  exact (ss_cons (s_set nd (i := 2) (by rfl) (by first | exact Or.inl rfl | exact Or.inr rfl) (d_if (t_cmp p_lt (bv 1) (DE.db (b_len T (bv 0))) (by rfl)) (d_ix (bv 0) (bv 1)) d_int))
    (ss_one (s_retF (f_lst (da_cons (d_bin p_mul (DE.db (b_abs T (bv 2))) (DE.db (b_int T (DE.db (d_cmp p_ge (DE.db (b_abs T (bv 2))) (DE.db (d_bin p_pow (DE.db d_int) (DE.db d_int))) (by rfl)))))) (da_cons (d_bin p_add (DE.db (d_bin p_add (DE.db (d_bin p_mod (DE.db (b_int T (bv 2))) (DE.db d_int))) (DE.db (d_bin p_mul (DE.db d_int) (bv 1))))) (DE.db d_int)) (da_cons d_int da_nil)))))))

/-! ### _law_take -/
abbrev nm__law_take : List Str := ["_law_tub", "_law_top_to", "_law_drawn", "_law_once", "_law_odd", "_law_twice"]
theorem sc__law_take : FnScope nm__law_take ["_law_tub", "_law_top_to"] (defScope (top 38)) := ⟨rfl, rfl, rfl, by decide +kernel, rfl, by decide +kernel, by decide +kernel⟩
def gb__law_take : GS := (gSeq (gIfS (gTst (gBin oGt (gTub 0 0) (gC (.int 0)))) (gSeq (gSet 2 (gBin oMod (gCall oInt (gCons (gTub 0 0) gNil)) (gVarB 1)))
    (gSeq (gTubSet 0 0 (gBin oDiv (gTub 0 0) (gVarB 1)))
    (gRet (gVar 2)))) gNext)
    (gSeq (gTubSet 0 2 (gBin oAdd (gTub 0 2) (gC (.int 1))))
    (gSeq (gSet 3 (gBin oMod (gCall oInt (gCons (gBin oMul (gBin oAdd (gTub 0 1) (gBin oMul (gC (.int 48271)) (gTub 0 2))) (gBin oAdd (gC (.int 39373)) (gTub 0 2))) gNil)) (gC (.int 2147483647))))
    (gSeq (gSet 4 (gBin oAdd (gBin oMod (gCall oInt (gCons (gVarB 3) gNil)) (gC (.int 40009))) (gC (.int 7))))
    (gSeq (gSet 5 (gBin oMod (gCall oInt (gCons (gBin oMul (gBin oAdd (gBin oAdd (gVarB 3) (gTub 0 2)) (gBin oDiv (gTub 0 1) (gC (.int 1000003)))) (gVarB 4)) gNil)) (gC (.int 2147483629))))
    (gRet (gBin oMod (gCall oInt (gCons (gBin oDiv (gBin oMod (gCall oInt (gCons (gBin oAdd (gBin oMul (gVarB 5) (gC (.int 48271))) (gVarB 3)) gNil)) (gC (.int 2147483587))) (gC (.int 64))) gNil)) (gVarB 1))))))))
theorem w__law_take (T : Bt mg) {f : Addr} {cdv : Value} {A : Around} {outer : List Env} {s : Shared} {H : Hp} {E : XK} (hr : Room 0 (A.deeper (envOfC "_law_take" (defScope (top 38)) s.heap.objs.size f cdv))) :
    DSs (cxOf CX0 P w K mg base nm__law_take "_law_take" (defScope (top 38)) f cdv A outer s H E).nox (defBody (top 38)) (gb__law_take) := by
  have nd := sc__law_take.nd
  exact (ss_cons (s_if (t_cmp p_gt (DE.db (d_tub 0 (kk := 0) (pvv 0))) (DE.db d_int) (by rfl)) (ss_cons (s_set nd (i := 2) (by rfl) (by first | exact Or.inl rfl | exact Or.inr rfl) (d_bin p_mod (DE.db (b_int T (DE.db (d_tub 0 (kk := 0) (pvv 0))))) (bv 1)))
    (ss_cons (s_tubset 0 (kk := 0) (pvv 0) (d_bin p_div (DE.db (d_tub 0 (kk := 0) (pvv 0))) (bv 1)))
    (ss_one (s_ret (dv 2))))) ss_nil)
    (ss_cons (s_tubset 0 (kk := 2) (pvv 0) (d_bin p_add (DE.db (d_tub 0 (kk := 2) (pvv 0))) (DE.db d_int)))
    (ss_cons (s_set nd (i := 3) (by rfl) (by first | exact Or.inl rfl | exact Or.inr rfl) (d_bin p_mod (DE.db (b_int T (DE.db (d_bin p_mul (DE.db (d_bin p_add (DE.db (d_tub 0 (kk := 1) (pvv 0))) (DE.db (d_bin p_mul (DE.db d_int) (DE.db (d_tub 0 (kk := 2) (pvv 0))))))) (DE.db (d_bin p_add (DE.db d_int) (DE.db (d_tub 0 (kk := 2) (pvv 0))))))))) (DE.db d_int)))
    (ss_cons (s_set nd (i := 4) (by rfl) (by first | exact Or.inl rfl | exact Or.inr rfl) (d_bin p_add (DE.db (d_bin p_mod (DE.db (b_int T (bv 3))) (DE.db d_int))) (DE.db d_int)))
    (ss_cons (s_set nd (i := 5) (by rfl) (by first | exact Or.inl rfl | exact Or.inr rfl) (d_bin p_mod (DE.db (b_int T (DE.db (d_bin p_mul (DE.db (d_bin p_add (DE.db (d_bin p_add (bv 3) (DE.db (d_tub 0 (kk := 2) (pvv 0))))) (DE.db (d_bin p_div (DE.db (d_tub 0 (kk := 1) (pvv 0))) (DE.db d_int))))) (bv 4))))) (DE.db d_int)))
    (ss_one (s_ret (d_bin p_mod (DE.db (b_int T (DE.db (d_bin p_div (DE.db (d_bin p_mod (DE.db (b_int T (DE.db (d_bin p_add (DE.db (d_bin p_mul (bv 5) (DE.db d_int))) (bv 3))))) (DE.db d_int))) (DE.db d_int))))) (bv 1)))))))))

/-! ### _law_cells -/
abbrev nm__law_cells : List Str := ["_law_script", "_law_most_so", "_law_cells_so", "_law_k", "_law_far_so", "_law_spot_so"]
theorem sc__law_cells : FnScope nm__law_cells ["_law_script", "_law_most_so"] (defScope (top 39)) := ⟨rfl, rfl, rfl, by decide +kernel, rfl, by decide +kernel, by decide +kernel⟩
def gb__law_cells : GS := (gSeq (gSetO 2 (gOrL (gCall oList (gCons (gSl oSlL (gVarB 0) gNoP (gPart (gVarB 1))) gNil)) (gLst (gCons (gC (.int 0)) gNil))))
    (gSeq (gFor (gEnum (gSl oSlL (gVarB 0) (gPart (gVarB 1)) (gPart (gC (.int 63))))) (ggPair 3 4) (gSeq (gSet 5 (gBin oMod (gCall oInt (gCons (gVarB 3) gNil)) (gVarB 1)))
    (gPutL 2 (gVarB 5) (gBin oAdd (gBin oIx (gVarB 2) (gVarB 5)) (gBin oMul (gVarB 4) (gBin oAdd (gVarB 3) (gC (.int 2))))))))
    (gRet (gVarB 2))))
theorem w__law_cells (T : Bt mg) {f : Addr} {cdv : Value} {A : Around} {outer : List Env} {s : Shared} {H : Hp} {E : XK} (hr : Room 0 (A.deeper (envOfC "_law_cells" (defScope (top 39)) s.heap.objs.size f cdv))) :
    DSs (cxOf CX0 P w K mg base nm__law_cells "_law_cells" (defScope (top 39)) f cdv A outer s H E).nox (defBody (top 39)) (gb__law_cells) := by
  have nd := sc__law_cells.nd
  exact (ss_cons (s_setO nd (i := 2) (by rfl) (by first | exact Or.inl rfl | exact Or.inr rfl) (f_orL (b_list T (DF.db (f_slice (bv 0) o_none (o_some (bv 1))))) (f_lst (da_cons d_int da_nil))))
    (ss_cons (s_for PassesOwn.never (by rfl) (i_enum (by rfl) T.enum (DF.de (f_slice (bv 0) (o_some (bv 1)) (o_some (DE.db d_int))))) (g_pair (by rfl) nd (i := 3) (by rfl) (by first | exact Or.inl rfl | exact Or.inr rfl) (j := 4) (by rfl) (by first | exact Or.inl rfl | exact Or.inr rfl)) (ss_cons (s_set nd (i := 5) (by rfl) (by first | exact Or.inl rfl | exact Or.inr rfl) (d_bin p_mod (DE.db (b_int T (bv 3))) (bv 1)))
    (ss_one (s_putL (i := 2) (pvv 2) (bv 5) (d_bin p_add (DE.db (d_ix (bv 2) (bv 5))) (DE.db (d_bin p_mul (bv 4) (DE.db (d_bin p_add (bv 3) (DE.db d_int))))))))))
    (ss_one (s_retv (i := 2) (pvv 2)))))

/-! ### _law_of -/
abbrev nm__law_of : List Str := ["_law_tub", "_law_few_so"]
theorem sc__law_of : FnScope nm__law_of ["_law_tub", "_law_few_so"] (defScope (top 40)) := ⟨rfl, rfl, rfl, by decide +kernel, rfl, by decide +kernel, by decide +kernel⟩
def gb__law_of (g__law_take : GF) : GS := (gRet (gBin oIx (gVarB 1) (gFun g__law_take (gCons (gVar 0) (gCons (gCall oLen (gCons (gVarB 1) gNil)) gNil)))))
theorem w__law_of {g__law_take : GF} (T : Bt mg) (h__law_take : Has P w K mg base "_law_take" 1 ["_law_tub", "_law_top_to"] g__law_take) {f : Addr} {cdv : Value} {A : Around} {outer : List Env} {s : Shared} {H : Hp} {E : XK} (hr : Room 1 (A.deeper (envOfC "_law_of" (defScope (top 40)) s.heap.objs.size f cdv))) :
    DSs (cxOf CX0 P w K mg base nm__law_of "_law_of" (defScope (top 40)) f cdv A outer s H E).nox (defBody (top 40)) (gb__law_of g__law_take) := by
  have nd := sc__law_of.nd
  exact (ss_one (s_ret (d_ix (bv 1) (DE.db (d_has h__law_take (hr.mono (by decide)) (da_cons (dv 0) (da_cons (b_len T (bv 1)) da_nil)))))))

/-! ### _law_pick -/
abbrev nm__law_pick : List Str := ["_law_tub", "_law_few_so", "_law_much_so", "_law_left", "_law_found", "_law_turn"]
theorem sc__law_pick : FnScope nm__law_pick ["_law_tub", "_law_few_so", "_law_much_so"] (defScope (top 41)) := ⟨rfl, rfl, rfl, by decide +kernel, rfl, by decide +kernel, by decide +kernel⟩
def gb__law_pick (g__law_take : GF) : GS := (gSeq (gPar [3, 4] [true, true] (gCons (gCall oList (gCons (gVarB 1) gNil)) (gCons (gLst gNil) gNil)))
    (gSeq (gFor (gRng1 (gCall oMin (gCons (gVarB 2) (gCons (gCall oLen (gCons (gVarB 3) gNil)) gNil)))) (ggName 5) (gAppPop 4 3 (gFun g__law_take (gCons (gVar 0) (gCons (gCall oLen (gCons (gVarB 3) gNil)) gNil)))))
    (gRet (gVarB 4))))
theorem w__law_pick {g__law_take : GF} (T : Bt mg) (h__law_take : Has P w K mg base "_law_take" 1 ["_law_tub", "_law_top_to"] g__law_take) {f : Addr} {cdv : Value} {A : Around} {outer : List Env} {s : Shared} {H : Hp} {E : XK} (hr : Room 1 (A.deeper (envOfC "_law_pick" (defScope (top 41)) s.heap.objs.size f cdv))) :
    DSs (cxOf CX0 P w K mg base nm__law_pick "_law_pick" (defScope (top 41)) f cdv A outer s H E).nox (defBody (top 41)) (gb__law_pick g__law_take) := by
  have nd := sc__law_pick.nd
  exact (ss_cons (s_par (i := 3) (j := 4) (by rfl) nd (by rfl) (by rfl) (by decide) (by rfl) (by rfl) (dk_own (b_list T (bv 1)) (dk_own (f_lst da_nil) dk_nil)) rfl (by rfl))
    (ss_cons (s_for PassesOwn.never (by rfl) (i_rng1 (by rfl) T.range (DE.db (b_min2 T (by rfl) (bv 2) (DE.db (b_len T (bv 3)))))) (g_name nd (i := 5) (by rfl) (by first | exact Or.inl rfl | exact Or.inr rfl)) (ss_one (s_appPop (i := 4) (j := 3) (pvv 4) (pvv 3) (DE.db (d_has h__law_take (hr.mono (by decide)) (da_cons (dv 0) (da_cons (b_len T (bv 3)) da_nil)))))))
    (ss_one (s_retv (i := 4) (pvv 4)))))

/-! ### _law_same -/
abbrev nm__law_same : List Str := ["_law_got", "_law_due", "_law_like", "_law_mine", "_law_its"]
theorem sc__law_same : FnScope nm__law_same ["_law_got", "_law_due"] (defScope (top 42)) := ⟨rfl, rfl, rfl, by decide +kernel, rfl, by decide +kernel, by decide +kernel⟩
def gb__law_same (g__law_same : GF) : GS := (gSeq (gIfS (gTst (gIsi2 "list" "tuple" (gVarB 1))) (gSeq (gIfS (gTst (gBin oNe (gIsi "list" (gVarB 0)) (gIsi "list" (gVarB 1)))) (gRet (gC (.bool false))) gNext)
    (gSeq (gIfS (gTst (gBin oNe (gIsi "tuple" (gVarB 0)) (gIsi "tuple" (gVarB 1)))) (gRet (gC (.bool false))) gNext)
    (gRet ((gAndV (gBin oEq (gCall oLen (gCons (gVarB 0) gNil)) (gCall oLen (gCons (gVarB 1) gNil))) (gCall oAll (gCons (gLc [3, 4] (gZip (gCons (gVar 0) (gCons (gVar 1) gNil))) (ggPair 3 4) gYes (gFun g__law_same (gCons (gVar 3) (gCons (gVar 4) gNil)))) gNil))))))) gNext)
    (gSeq (gIfS (gOr (gTst (gBin oIs (gVarB 1) (gC .none))) (gTst (gIsi2 "bool" "str" (gVarB 1)))) (gSeq (gSet 2 ((gAndV (gBin oEq (gIsi "bool" (gVarB 0)) (gIsi "bool" (gVarB 1))) (gBin oEq (gBin oIs (gVarB 0) (gC .none)) (gBin oIs (gVarB 1) (gC .none))))))
    (gRet ((gAndV (gVar 2) (gBin oEq (gVarB 0) (gVarB 1)))))) gNext)
    (gRet ((gAndV (gIsi "int" (gVarB 0)) (gAndV (gNotV (gIsi "bool" (gVarB 0))) (gBin oEq (gVarB 0) (gVarB 1))))))))
theorem w__law_same {g__law_same : GF} {k : Nat} (T : Bt mg) (h__law_same : Has P w K mg base "_law_same" k ["_law_got", "_law_due"] g__law_same) {f : Addr} {cdv : Value} {A : Around} {outer : List Env} {s : Shared} {H : Hp} {E : XK} (hr : Room k (A.deeper (envOfC "_law_same" (defScope (top 42)) s.heap.objs.size f cdv))) :
    DSs (cxOf CX0 P w K mg base nm__law_same "_law_same" (defScope (top 42)) f cdv A outer s H E).nox (defBody (top 42)) (gb__law_same g__law_same) := by
  have nd := sc__law_same.nd
  exact (ss_cons (s_if (t_val (d_isi2 (T := "list") (U := "tuple") (by simp) (by simp) (by rfl) T.isi (by rfl) (by rfl) T.list (by rfl) (by rfl) T.tuple (by rfl) (bv 1))) (ss_cons (s_if (t_cmp (p_ne (rm64 hr)) (DE.db (b_isi "list" T T.list (by simp) (by rfl) (bv 0))) (DE.db (b_isi "list" T T.list (by simp) (by rfl) (bv 1))) (by rfl)) (ss_one (s_ret d_bl)) ss_nil)
    (ss_cons (s_if (t_cmp (p_ne (rm64 hr)) (DE.db (b_isi "tuple" T T.tuple (by simp) (by rfl) (bv 0))) (DE.db (b_isi "tuple" T T.tuple (by simp) (by rfl) (bv 1))) (by rfl)) (ss_one (s_ret d_bl)) ss_nil)
    (ss_one (s_ret ((d_and (d_cmp (p_eq (rm64 hr)) (DE.db (b_len T (bv 0))) (DE.db (b_len T (bv 1))) (by rfl)) (d_one (b_all T (by rfl) (DF.db (f_lc (by rfl) nd (i_zip (by rfl) T.zip (da_cons (dv 0) (da_cons (dv 1) da_nil))) (blkOk_by (N := nm__law_same) (sc := defScope (top 42)) (own := [("_law_mine", 3), ("_law_its", 4)]) (by decide +kernel)) rfl (fun _ _ _ _ _ => (g_pair (by rfl) nd (i := 3) (by rfl) (by first | exact Or.inl rfl | exact Or.inr rfl) (j := 4) (by rfl) (by first | exact Or.inl rfl | exact Or.inr rfl))) (fun _ _ _ _ _ => ts_nil) (fun _ _ _ _ _ => (d_has h__law_same hr (da_cons (dv 3) (da_cons (dv 4) da_nil)))))))))))))) ss_nil)
    (ss_cons (s_if (DW.dt (w_or (t_cmp p_is (bv 1) (DE.db d_non) (by rfl)) (w_or1 (t_val (d_isi2 (T := "bool") (U := "str") (by simp) (by simp) (by rfl) T.isi (by rfl) (by rfl) T.bool (by rfl) (by rfl) T.str (by rfl) (bv 1)))))) (ss_cons (s_set nd (i := 2) (by rfl) (by first | exact Or.inl rfl | exact Or.inr rfl) ((d_and (d_cmp (p_eq (rm64 hr)) (DE.db (b_isi "bool" T T.bool (by simp) (by rfl) (bv 0))) (DE.db (b_isi "bool" T T.bool (by simp) (by rfl) (bv 1))) (by rfl)) (d_one (d_cmp (p_eq (rm64 hr)) (DE.db (d_cmp p_is (bv 0) (DE.db d_non) (by rfl))) (DE.db (d_cmp p_is (bv 1) (DE.db d_non) (by rfl))) (by rfl))))))
    (ss_one (s_ret ((d_and (dv 2) (d_one (d_cmp (p_eq (rm64 hr)) (bv 0) (bv 1) (by rfl)))))))) ss_nil)
    (ss_one (s_ret ((d_and (b_isi "int" T T.int (by simp) (by rfl) (bv 0)) (d_and (d_not (b_isi "bool" T T.bool (by simp) (by rfl) (bv 0))) (d_one (d_cmp (p_eq (rm64 hr)) (bv 0) (bv 1) (by rfl))))))))))

/-! ### _law_lists -/
abbrev nm__law_lists : List Str := ["_law_matter", "_law_bit"]
theorem sc__law_lists : FnScope nm__law_lists ["_law_matter"] (defScope (top 43)) := ⟨rfl, rfl, rfl, by decide +kernel, rfl, by decide +kernel, by decide +kernel⟩
def gb__law_lists (g__law_lists : GF) : GS := (gRet (gIf (gTst (gIsi2 "list" "tuple" (gVarB 0))) (gLc [1] (gSeqI (gVar 0)) (ggName 1) gYes (gFun g__law_lists (gCons (gVar 1) gNil))) (gVar 0)))
theorem w__law_lists {g__law_lists : GF} {k : Nat} (T : Bt mg) (h__law_lists : Has P w K mg base "_law_lists" k ["_law_matter"] g__law_lists) {f : Addr} {cdv : Value} {A : Around} {outer : List Env} {s : Shared} {H : Hp} {E : XK} (hr : Room k (A.deeper (envOfC "_law_lists" (defScope (top 43)) s.heap.objs.size f cdv))) :
    DSs (cxOf CX0 P w K mg base nm__law_lists "_law_lists" (defScope (top 43)) f cdv A outer s H E).nox (defBody (top 43)) (gb__law_lists g__law_lists) := by
  have nd := sc__law_lists.nd
  exact (ss_one (s_ret (d_if (t_val (d_isi2 (T := "list") (U := "tuple") (by simp) (by simp) (by rfl) T.isi (by rfl) (by rfl) T.list (by rfl) (by rfl) T.tuple (by rfl) (bv 0))) (DF.de (f_lc (by rfl) nd (i_seq (dv 0)) (blkOk_by (N := nm__law_lists) (sc := defScope (top 43)) (own := [("_law_bit", 1)]) (by decide +kernel)) rfl (fun _ _ _ _ _ => (g_name nd (i := 1) (by rfl) (by first | exact Or.inl rfl | exact Or.inr rfl))) (fun _ _ _ _ _ => ts_nil) (fun _ _ _ _ _ => (d_has h__law_lists hr (da_cons (dv 1) da_nil))))) (dv 0))))

/-! ### _law_half -/
abbrev nm__law_half : List Str := ["_law_matter", "_law_bit"]
theorem sc__law_half : FnScope nm__law_half ["_law_matter"] (defScope (top 44)) := ⟨rfl, rfl, rfl, by decide +kernel, rfl, by decide +kernel, by decide +kernel⟩
def gb__law_half (g__law_lists : GF) : GS := (gRet (gCall oTuple (gCons (gLc [1] (gSeqI (gVar 0)) (ggName 1) gYes (gFun g__law_lists (gCons (gVar 1) gNil))) gNil)))
theorem w__law_half {g__law_lists : GF} (T : Bt mg) (h__law_lists : Has P w K mg base "_law_lists" 10 ["_law_matter"] g__law_lists) {f : Addr} {cdv : Value} {A : Around} {outer : List Env} {s : Shared} {H : Hp} {E : XK} (hr : Room 10 (A.deeper (envOfC "_law_half" (defScope (top 44)) s.heap.objs.size f cdv))) :
    DSs (cxOf CX0 P w K mg base nm__law_half "_law_half" (defScope (top 44)) f cdv A outer s H E).nox (defBody (top 44)) (gb__law_half g__law_lists) := by
  have nd := sc__law_half.nd
  exact (ss_one (s_ret (b_tuple T (DF.db (f_lc (by rfl) nd (i_seq (dv 0)) (blkOk_by (N := nm__law_half) (sc := defScope (top 44)) (own := [("_law_bit", 1)]) (by decide +kernel)) rfl (fun _ _ _ _ _ => (g_name nd (i := 1) (by rfl) (by first | exact Or.inl rfl | exact Or.inr rfl))) (fun _ _ _ _ _ => ts_nil) (fun _ _ _ _ _ => (d_has h__law_lists (hr.mono (by decide)) (da_cons (dv 1) da_nil))))))))

/-! ### _law_web -/
abbrev nm__law_web : List Str := ["_law_tub", "_law_wide_so", "_law_many_so", "_law_tags", "_law_found", "_law_tag"]
theorem sc__law_web : FnScope nm__law_web ["_law_tub", "_law_wide_so", "_law_many_so"] (defScope (top 45)) := ⟨rfl, rfl, rfl, by decide +kernel, rfl, by decide +kernel, by decide +kernel⟩
def gb__law_web (g__law_take g__law_pick : GF) : GS := (gSeq (gSet 3 (gSl oSlL (gLst (gCons (gC (.str "c")) (gCons (gC (.str "d")) (gCons (gC (.str "p")) (gCons (gC (.str "q")) (gCons (gC (.str "r")) (gCons (gC (.str "zzzzzzzz")) gNil))))))) gNoP (gPart (gBin oAdd (gC (.int 1)) (gFun g__law_take (gCons (gVar 0) (gCons (gVar 1) gNil)))))))
    (gSeq (gSetO 4 (gLst gNil))
    (gSeq (gFor (gSeqI (gSl oSlL (gLst (gCons (gC (.str "a")) (gCons (gC (.str "b")) (gCons (gC (.str "k")) (gCons (gC (.str "m")) (gCons (gC (.str "x")) (gCons (gC (.str "y")) gNil))))))) gNoP (gPart (gBin oAdd (gC (.int 1)) (gFun g__law_take (gCons (gVar 0) (gCons (gVar 2) gNil))))))) (ggName 5) (gApp 4 (gTup (gCons (gVar 5) (gCons (gCall oTuple (gCons (gCall oSorted (gCons (gFun g__law_pick (gCons (gVar 0) (gCons (gVar 3) (gCons (gBin oAdd (gC (.int 1)) (gFun g__law_take (gCons (gVar 0) (gCons (gCall oLen (gCons (gVarB 3) gNil)) gNil)))) gNil)))) gNil)) gNil)) gNil)))))
    (gRet (gTup (gCons (gCall oTuple (gCons (gVarB 3) gNil)) (gCons (gCall oTuple (gCons (gVarB 4) gNil)) gNil)))))))
theorem w__law_web {g__law_take g__law_pick : GF} (T : Bt mg) (h__law_take : Has P w K mg base "_law_take" 1 ["_law_tub", "_law_top_to"] g__law_take) (h__law_pick : Has P w K mg base "_law_pick" 2 ["_law_tub", "_law_few_so", "_law_much_so"] g__law_pick) {f : Addr} {cdv : Value} {A : Around} {outer : List Env} {s : Shared} {H : Hp} {E : XK} (hr : Room 2 (A.deeper (envOfC "_law_web" (defScope (top 45)) s.heap.objs.size f cdv))) :
    DSs (cxOf CX0 P w K mg base nm__law_web "_law_web" (defScope (top 45)) f cdv A outer s H E).nox (defBody (top 45)) (gb__law_web g__law_take g__law_pick) := by
  have nd := sc__law_web.nd
  exact (ss_cons (s_set nd (i := 3) (by rfl) (by first | exact Or.inl rfl | exact Or.inr rfl) (DF.de (f_slice (DF.db (f_lst (da_cons d_str (da_cons d_str (da_cons d_str (da_cons d_str (da_cons d_str (da_cons d_str da_nil)))))))) o_none (o_some (DE.db (d_bin p_add (DE.db d_int) (DE.db (d_has h__law_take (hr.mono (by decide)) (da_cons (dv 0) (da_cons (dv 1) da_nil))))))))))
    (ss_cons (s_setO nd (i := 4) (by rfl) (by first | exact Or.inl rfl | exact Or.inr rfl) (f_lst da_nil))
    (ss_cons (s_for PassesOwn.never (by rfl) (i_seq (DF.de (f_slice (DF.db (f_lst (da_cons d_str (da_cons d_str (da_cons d_str (da_cons d_str (da_cons d_str (da_cons d_str da_nil)))))))) o_none (o_some (DE.db (d_bin p_add (DE.db d_int) (DE.db (d_has h__law_take (hr.mono (by decide)) (da_cons (dv 0) (da_cons (dv 2) da_nil)))))))))) (g_name nd (i := 5) (by rfl) (by first | exact Or.inl rfl | exact Or.inr rfl)) (ss_one (s_app (i := 4) (pvv 4) (d_tup (da_cons (dv 5) (da_cons (b_tuple T (DF.db (b_sorted T hr (DE.db (d_has h__law_pick (hr.mono (by decide)) (da_cons (dv 0) (da_cons (dv 3) (da_cons (d_bin p_add (DE.db d_int) (DE.db (d_has h__law_take (hr.mono (by decide)) (da_cons (dv 0) (da_cons (b_len T (bv 3)) da_nil))))) da_nil)))))))) da_nil))))))
    (ss_one (s_ret (d_tup (da_cons (b_tuple T (bv 3)) (da_cons (b_tuple T (bv 4)) da_nil))))))))

/-! ### _law_row -/
abbrev nm__law_row : List Str := ["_law_tub", "_law_web_here", "_law_most_so", "_law_names_so", "_law_tag"]
theorem sc__law_row : FnScope nm__law_row ["_law_tub", "_law_web_here", "_law_most_so"] (defScope (top 46)) := ⟨rfl, rfl, rfl, by decide +kernel, rfl, by decide +kernel, by decide +kernel⟩
def gb__law_row (g__law_pick g__law_take g__law_of : GF) : GS := (gSeq (gSet 3 (gFun g__law_pick (gCons (gVar 0) (gCons (gLst (gCons (gC (.str "t")) (gCons (gC (.str "u")) (gCons (gC (.str "v")) (gCons (gC (.str "w")) (gCons (gC (.str "a")) (gCons (gC (.str "p")) (gCons (gC (.str "ta")) (gCons (gC (.str "b")) gNil))))))))) (gCons (gFun g__law_take (gCons (gVar 0) (gCons (gBin oAdd (gVarB 2) (gC (.int 1))) gNil))) gNil)))))
    (gRet (gCall oTuple (gCons (gLc [4] (gSeqI (gVar 3)) (ggName 4) gYes (gTup (gCons (gVar 4) (gCons (gBin oIx (gFun g__law_of (gCons (gVar 0) (gCons (gBin oIx (gVarB 1) (gC (.int 1))) gNil))) (gC (.int 0))) gNil)))) gNil))))
theorem w__law_row {g__law_pick g__law_take g__law_of : GF} (T : Bt mg) (h__law_pick : Has P w K mg base "_law_pick" 2 ["_law_tub", "_law_few_so", "_law_much_so"] g__law_pick) (h__law_take : Has P w K mg base "_law_take" 1 ["_law_tub", "_law_top_to"] g__law_take) (h__law_of : Has P w K mg base "_law_of" 2 ["_law_tub", "_law_few_so"] g__law_of) {f : Addr} {cdv : Value} {A : Around} {outer : List Env} {s : Shared} {H : Hp} {E : XK} (hr : Room 2 (A.deeper (envOfC "_law_row" (defScope (top 46)) s.heap.objs.size f cdv))) :
    DSs (cxOf CX0 P w K mg base nm__law_row "_law_row" (defScope (top 46)) f cdv A outer s H E).nox (defBody (top 46)) (gb__law_row g__law_pick g__law_take g__law_of) := by
  have nd := sc__law_row.nd
  exact (ss_cons (s_set nd (i := 3) (by rfl) (by first | exact Or.inl rfl | exact Or.inr rfl) (d_has h__law_pick (hr.mono (by decide)) (da_cons (dv 0) (da_cons (DF.de (f_lst (da_cons d_str (da_cons d_str (da_cons d_str (da_cons d_str (da_cons d_str (da_cons d_str (da_cons d_str (da_cons d_str da_nil)))))))))) (da_cons (d_has h__law_take (hr.mono (by decide)) (da_cons (dv 0) (da_cons (d_bin p_add (bv 2) (DE.db d_int)) da_nil))) da_nil)))))
    (ss_one (s_ret (b_tuple T (DF.db (f_lc (by rfl) nd (i_seq (dv 3)) (blkOk_by (N := nm__law_row) (sc := defScope (top 46)) (own := [("_law_tag", 4)]) (by decide +kernel)) rfl (fun _ _ _ _ _ => (g_name nd (i := 4) (by rfl) (by first | exact Or.inl rfl | exact Or.inr rfl))) (fun _ _ _ _ _ => ts_nil) (fun _ _ _ _ _ => (d_tup (da_cons (dv 4) (da_cons (d_ix (DE.db (d_has h__law_of (hr.mono (by decide)) (da_cons (dv 0) (da_cons (d_ix (bv 1) (DE.db d_int)) da_nil)))) (DE.db d_int)) da_nil))))))))))

/-! ### _law_may -/
abbrev nm__law_may : List Str := ["_law_web_here", "_law_row_so", "_law_tag", "_law_own"]
theorem sc__law_may : FnScope nm__law_may ["_law_web_here", "_law_row_so"] (defScope (top 47)) := ⟨rfl, rfl, rfl, by decide +kernel, rfl, by decide +kernel, by decide +kernel⟩
def gb__law_may : GS := (gRet (gCall oDictP (gCons (gLc [2, 3] (gSeqI (gVar 1)) (ggPair 2 3) gYes (gTup (gCons (gVar 2) (gCons (gDGet (gCall oDictP (gCons (gBin oIx (gVarB 0) (gC (.int 1))) gNil)) (gVarB 3)) gNil)))) gNil)))
theorem w__law_may (T : Bt mg) {f : Addr} {cdv : Value} {A : Around} {outer : List Env} {s : Shared} {H : Hp} {E : XK} (hr : Room 0 (A.deeper (envOfC "_law_may" (defScope (top 47)) s.heap.objs.size f cdv))) :
    DSs (cxOf CX0 P w K mg base nm__law_may "_law_may" (defScope (top 47)) f cdv A outer s H E).nox (defBody (top 47)) (gb__law_may) := by
  have nd := sc__law_may.nd
  exact (ss_one (s_ret (DF.de (b_dictP T (by rfl) (DF.db (f_lc (by rfl) nd (i_seq (dv 1)) (blkOk_by (N := nm__law_may) (sc := defScope (top 47)) (own := [("_law_tag", 2), ("_law_own", 3)]) (by decide +kernel)) rfl (fun _ _ _ _ _ => (g_pair (by rfl) nd (i := 2) (by rfl) (by first | exact Or.inl rfl | exact Or.inr rfl) (j := 3) (by rfl) (by first | exact Or.inl rfl | exact Or.inr rfl))) (fun _ _ _ _ _ => ts_nil) (fun _ _ _ _ _ => (d_tup (da_cons (dv 2) (da_cons (d_dget (rm1 hr) (DF.db (b_dictP T (by rfl) (DE.db (d_ix (bv 0) (DE.db d_int))))) (bv 3)) da_nil))))))))))

/-! ### _law_ways -/
abbrev nm__law_ways : List Str := ["_law_may_so", "_law_some_so", "_law_found", "_law_tag", "_law_wider_so", "_law_own", "_law_far"]
theorem sc__law_ways : FnScope nm__law_ways ["_law_may_so", "_law_some_so"] (defScope (top 48)) := ⟨rfl, rfl, rfl, by decide +kernel, rfl, by decide +kernel, by decide +kernel⟩
def gb__law_ways : GS := (gSeq (gSet 2 (gLst (gCons (gTup gNil) gNil)))
    (gSeq (gFor (gSeqI (gVar 1)) (ggName 3) (gSeq (gSet 4 (gLst gNil))
    (gSeq (gFor (gSeqI (gVar 2)) (ggName 5) (gSet 4 (gBin oAdd (gVarB 4) (gLc [6] (gSeqI (gDGet (gVarB 0) (gVarB 3))) (ggName 6) (gTst (gDIn true (gVarB 6) (gCall oDictP (gCons (gVarB 5) gNil)))) (gBin oAdd (gVarB 5) (gTup (gCons (gTup (gCons (gVar 6) (gCons (gVar 3) gNil))) gNil)))))))
    (gSet 2 (gVar 4)))))
    (gRet (gLc [5] (gSeqI (gVar 2)) (ggName 5) gYes (gCall oTuple (gCons (gCall oSorted (gCons (gVarB 5) gNil)) gNil))))))
theorem w__law_ways (T : Bt mg) {f : Addr} {cdv : Value} {A : Around} {outer : List Env} {s : Shared} {H : Hp} {E : XK} (hr : Room 0 (A.deeper (envOfC "_law_ways" (defScope (top 48)) s.heap.objs.size f cdv))) :
    DSs (cxOf CX0 P w K mg base nm__law_ways "_law_ways" (defScope (top 48)) f cdv A outer s H E).nox (defBody (top 48)) (gb__law_ways) := by
  have nd := sc__law_ways.nd
  exact (ss_cons (s_set nd (i := 2) (by rfl) (by first | exact Or.inl rfl | exact Or.inr rfl) (DF.de (f_lst (da_cons (d_tup da_nil) da_nil))))
    (ss_cons (s_for PassesOwn.never (by rfl) (i_seq (dv 1)) (g_name nd (i := 3) (by rfl) (by first | exact Or.inl rfl | exact Or.inr rfl)) (ss_cons (s_set nd (i := 4) (by rfl) (by first | exact Or.inl rfl | exact Or.inr rfl) (DF.de (f_lst da_nil)))
    (ss_cons (s_for PassesOwn.never (by rfl) (i_seq (dv 2)) (g_name nd (i := 5) (by rfl) (by first | exact Or.inl rfl | exact Or.inr rfl)) (ss_one (s_set nd (i := 4) (by rfl) (by first | exact Or.inl rfl | exact Or.inr rfl) (d_bin p_add (bv 4) (DF.db (f_lc (by rfl) nd (i_seq (d_dget (rm1 hr) (bv 0) (bv 3))) (blkOk_by (N := nm__law_ways) (sc := defScope (top 48)) (own := [("_law_far", 6)]) (by decide +kernel)) rfl (fun _ _ _ _ _ => (g_name nd (i := 6) (by rfl) (by first | exact Or.inl rfl | exact Or.inr rfl))) (fun _ _ _ _ _ => (ts_one (t_dnotin (rm1 hr) (bv 6) (DF.db (b_dictP T (by rfl) (bv 5))) (by rfl)))) (fun _ _ _ _ _ => (d_bin p_add (bv 5) (DE.db (d_tup (da_cons (d_tup (da_cons (dv 6) (da_cons (dv 3) da_nil))) da_nil)))))))))))
    (ss_one (s_set nd (i := 2) (by rfl) (by first | exact Or.inl rfl | exact Or.inr rfl) (dv 4))))))
    (ss_one (s_ret (DF.de (f_lc (by rfl) nd (i_seq (dv 2)) (blkOk_by (N := nm__law_ways) (sc := defScope (top 48)) (own := [("_law_own", 5)]) (by decide +kernel)) rfl (fun _ _ _ _ _ => (g_name nd (i := 5) (by rfl) (by first | exact Or.inl rfl | exact Or.inr rfl))) (fun _ _ _ _ _ => ts_nil) (fun _ _ _ _ _ => (b_tuple T (DF.db (b_sorted T hr (bv 5)))))))))))

/-! ### _law_best -/
abbrev nm__law_best : List Str := ["_law_web_here", "_law_row_so", "_law_may_so", "_law_found", "_law_tag", "_law_own"]
theorem sc__law_best : FnScope nm__law_best ["_law_web_here", "_law_row_so"] (defScope (top 49)) := ⟨rfl, rfl, rfl, by decide +kernel, rfl, by decide +kernel, by decide +kernel⟩
def gb__law_best (g__law_may g__law_ways : GF) : GS := (gSeq (gPar [2, 3] [false, true] (gCons (gFun g__law_may (gCons (gVar 0) (gCons (gVar 1) gNil))) (gCons (gLst gNil) gNil)))
    (gSeq (gFor (gSeqI (gVar 1)) (ggPair 4 5) (gIfS (gTst (gBin oNe (gFun g__law_ways (gCons (gVar 2) (gCons (gBin oAdd (gVarB 3) (gLst (gCons (gVar 4) gNil))) gNil))) (gLst gNil))) (gApp 3 (gVar 4)) gNext))
    (gRet (gCall oTuple (gCons (gCall oSorted (gCons (gVarB 3) gNil)) gNil)))))
theorem w__law_best {g__law_may g__law_ways : GF} (T : Bt mg) (h__law_may : Has P w K mg base "_law_may" 1 ["_law_web_here", "_law_row_so"] g__law_may) (h__law_ways : Has P w K mg base "_law_ways" 1 ["_law_may_so", "_law_some_so"] g__law_ways) {f : Addr} {cdv : Value} {A : Around} {outer : List Env} {s : Shared} {H : Hp} {E : XK} (hr : Room 1 (A.deeper (envOfC "_law_best" (defScope (top 49)) s.heap.objs.size f cdv))) :
    DSs (cxOf CX0 P w K mg base nm__law_best "_law_best" (defScope (top 49)) f cdv A outer s H E).nox (defBody (top 49)) (gb__law_best g__law_may g__law_ways) := by
  have nd := sc__law_best.nd
  exact (ss_cons (s_par (i := 2) (j := 3) (by rfl) nd (by rfl) (by rfl) (by decide) (by rfl) (by rfl) (dk_dat (d_has h__law_may (hr.mono (by decide)) (da_cons (dv 0) (da_cons (dv 1) da_nil))) (dk_own (f_lst da_nil) dk_nil)) rfl (by rfl))
    (ss_cons (s_for PassesOwn.never (by rfl) (i_seq (dv 1)) (g_pair (by rfl) nd (i := 4) (by rfl) (by first | exact Or.inl rfl | exact Or.inr rfl) (j := 5) (by rfl) (by first | exact Or.inl rfl | exact Or.inr rfl)) (ss_one (s_if (t_cmp (p_ne (rm64 hr)) (DE.db (d_has h__law_ways (hr.mono (by decide)) (da_cons (dv 2) (da_cons (d_bin p_add (bv 3) (DF.db (f_lst (da_cons (dv 4) da_nil)))) da_nil)))) (DF.db (f_lst da_nil)) (by rfl)) (ss_one (s_app (i := 3) (pvv 3) (dv 4))) ss_nil)))
    (ss_one (s_ret (b_tuple T (DF.db (b_sorted T hr (bv 3))))))))

/-! ### _law_seats -/
abbrev nm__law_seats : List Str := ["_law_tub", "_law_web_here", "_law_row_so", "_law_may_so", "_law_found", "_law_tag", "_law_free_so", "_law_own", "_law_far"]
theorem sc__law_seats : FnScope nm__law_seats ["_law_tub", "_law_web_here", "_law_row_so"] (defScope (top 50)) := ⟨rfl, rfl, rfl, by decide +kernel, rfl, by decide +kernel, by decide +kernel⟩
def gb__law_seats (g__law_may g__law_pick g__law_take g__law_of : GF) : GS := (gSeq (gPar [3, 4] [false, true] (gCons (gFun g__law_may (gCons (gVar 1) (gCons (gVar 2) gNil))) (gCons (gLst gNil) gNil)))
    (gSeq (gFor (gSeqI (gFun g__law_pick (gCons (gVar 0) (gCons (gLc [7] (gSeqI (gVar 2)) (ggName 7) gYes (gBin oIx (gVarB 7) (gC (.int 0)))) (gCons (gCall oLen (gCons (gVarB 2) gNil)) gNil))))) (ggName 5) (gSeq (gSet 6 (gLc [8] (gSeqI (gDGet (gVarB 3) (gVarB 5))) (ggName 8) (gTst (gDIn true (gVarB 8) (gCall oDictP (gCons (gVarB 4) gNil)))) (gVar 8)))
    (gIfS (gAnd (gTst (gBin oNe (gVarB 6) (gLst gNil))) (gTst (gBin oGt (gFun g__law_take (gCons (gVar 0) (gCons (gC (.int 4)) gNil))) (gC (.int 0))))) (gApp 4 (gTup (gCons (gFun g__law_of (gCons (gVar 0) (gCons (gVar 6) gNil))) (gCons (gVar 5) gNil)))) gNext)))
    (gRet (gCall oTuple (gCons (gCall oSorted (gCons (gVarB 4) gNil)) gNil)))))
theorem w__law_seats {g__law_may g__law_pick g__law_take g__law_of : GF} (T : Bt mg) (h__law_may : Has P w K mg base "_law_may" 1 ["_law_web_here", "_law_row_so"] g__law_may) (h__law_pick : Has P w K mg base "_law_pick" 2 ["_law_tub", "_law_few_so", "_law_much_so"] g__law_pick) (h__law_take : Has P w K mg base "_law_take" 1 ["_law_tub", "_law_top_to"] g__law_take) (h__law_of : Has P w K mg base "_law_of" 2 ["_law_tub", "_law_few_so"] g__law_of) {f : Addr} {cdv : Value} {A : Around} {outer : List Env} {s : Shared} {H : Hp} {E : XK} (hr : Room 2 (A.deeper (envOfC "_law_seats" (defScope (top 50)) s.heap.objs.size f cdv))) :
    DSs (cxOf CX0 P w K mg base nm__law_seats "_law_seats" (defScope (top 50)) f cdv A outer s H E).nox (defBody (top 50)) (gb__law_seats g__law_may g__law_pick g__law_take g__law_of) := by
  have nd := sc__law_seats.nd
  exact (ss_cons (s_tup2 (i := 3) (j := 4) (by rfl) nd (by rfl) (by rfl) (by first | exact Or.inl rfl | exact Or.inr rfl) (by first | exact Or.inl rfl | exact Or.inr rfl) (dk_dat (d_has h__law_may (hr.mono (by decide)) (da_cons (dv 1) (da_cons (dv 2) da_nil))) (dk_own (f_lst da_nil) dk_nil)) rfl (by rfl))
    (ss_cons (s_for PassesOwn.never (by rfl) (i_seq (d_has h__law_pick (hr.mono (by decide)) (da_cons (dv 0) (da_cons (DF.de (f_lc (by rfl) nd (i_seq (dv 2)) (blkOk_by (N := nm__law_seats) (sc := defScope (top 50)) (own := [("_law_own", 7)]) (by decide +kernel)) rfl (fun _ _ _ _ _ => (g_name nd (i := 7) (by rfl) (by first | exact Or.inl rfl | exact Or.inr rfl))) (fun _ _ _ _ _ => ts_nil) (fun _ _ _ _ _ => (d_ix (bv 7) (DE.db d_int))))) (da_cons (b_len T (bv 2)) da_nil))))) (g_name nd (i := 5) (by rfl) (by first | exact Or.inl rfl | exact Or.inr rfl)) (ss_cons (s_setLc (i := 6) (by rfl) nd (by rfl) (by rfl) (by rfl) (i_seq (d_dget (rm1 hr) (bv 3) (bv 5))) (blkOk_by (N := nm__law_seats) (sc := defScope (top 50)) (own := [("_law_far", 8)]) (by decide +kernel)) rfl (fun _ _ _ _ _ => (g_name nd (i := 8) (by rfl) (by first | exact Or.inl rfl | exact Or.inr rfl))) (fun _ _ _ _ _ => (ts_one (t_dnotin (rm1 hr) (bv 8) (DF.db (b_dictP T (by rfl) (bv 4))) (by rfl)))) (fun _ _ _ _ _ => (dv 8)))
    (ss_one (s_if (DW.dt (w_and (t_cmp (p_ne (rm64 hr)) (bv 6) (DF.db (f_lst da_nil)) (by rfl)) (w_and1 (t_cmp p_gt (DE.db (d_has h__law_take (hr.mono (by decide)) (da_cons (dv 0) (da_cons d_int da_nil)))) (DE.db d_int) (by rfl))))) (ss_one (s_app (i := 4) (pvv 4) (d_tup (da_cons (d_has h__law_of (hr.mono (by decide)) (da_cons (dv 0) (da_cons (dv 6) da_nil))) (da_cons (dv 5) da_nil))))) ss_nil))))
    (ss_one (s_ret (b_tuple T (DF.db (b_sorted T hr (bv 4))))))))

/-! ### _law_goes -/
abbrev nm__law_goes : List Str := ["_law_may_so", "_law_seats_so", "_law_tag", "_law_here_so", "_law_found", "_law_new_so", "_law_later_so", "_law_far"]
theorem sc__law_goes : FnScope nm__law_goes ["_law_may_so", "_law_seats_so", "_law_tag"] (defScope (top 51)) := ⟨rfl, rfl, rfl, by decide +kernel, rfl, by decide +kernel, by decide +kernel⟩
def gb__law_goes : GS := (gSeq (gPar [3, 4, 5] [false, false, false] (gCons (gCall oDictP (gCons (gVarB 1) gNil)) (gCons (gLst gNil) (gCons (gCall oList (gCons (gDGet (gVarB 0) (gVarB 2)) gNil)) gNil))))
    (gSeq (gWhile (gTst (gBin oNe (gVarB 5) (gLst gNil))) (gSeq (gPar [4, 6] [false, false] (gCons (gBin oAdd (gVarB 4) (gVarB 5)) (gCons (gLst gNil) gNil)))
    (gSeq (gFor (gSeqI (gVar 5)) (ggName 7) (gIfS (gTst (gDIn false (gVarB 7) (gVarB 3))) (gSet 6 (gBin oAdd (gVarB 6) (gCall oList (gCons (gDGet (gVarB 0) (gDGet (gVarB 3) (gVarB 7))) gNil)))) gNext))
    (gSet 5 (gSortSet (gLc [7] (gSeqI (gVar 6)) (ggName 7) (gTst (gBin oNotIn (gVarB 7) (gVarB 4))) (gVar 7)))))))
    (gRet (gSortSet (gVarB 4)))))
theorem w__law_goes (T : Bt mg) {f : Addr} {cdv : Value} {A : Around} {outer : List Env} {s : Shared} {H : Hp} {E : XK} (hr : Room 0 (A.deeper (envOfC "_law_goes" (defScope (top 51)) s.heap.objs.size f cdv))) :
    DSs (cxOf CX0 P w K mg base nm__law_goes "_law_goes" (defScope (top 51)) f cdv A outer s H E).nox (defBody (top 51)) (gb__law_goes) := by
  have nd := sc__law_goes.nd
  exact (ss_cons (s_tup3 (i := 3) (j := 4) (l := 5) (by rfl) nd (by rfl) (by rfl) (by rfl) (by first | exact Or.inl rfl | exact Or.inr rfl) (by first | exact Or.inl rfl | exact Or.inr rfl) (by first | exact Or.inl rfl | exact Or.inr rfl) (dk_dat (DF.de (b_dictP T (by rfl) (bv 1))) (dk_dat (DF.de (f_lst da_nil)) (dk_dat (DF.de (b_list T (DE.db (d_dget (rm1 hr) (bv 0) (bv 2))))) dk_nil))) rfl (by rfl))
    (ss_cons (s_while PassesOwn.never (t_cmp (p_ne (rm64 hr)) (bv 5) (DF.db (f_lst da_nil)) (by rfl)) (ss_cons (s_tup2 (i := 4) (j := 6) (by rfl) nd (by rfl) (by rfl) (by first | exact Or.inl rfl | exact Or.inr rfl) (by first | exact Or.inl rfl | exact Or.inr rfl) (dk_dat (d_bin p_add (bv 4) (bv 5)) (dk_dat (DF.de (f_lst da_nil)) dk_nil)) rfl (by rfl))
    (ss_cons (s_for PassesOwn.never (by rfl) (i_seq (dv 5)) (g_name nd (i := 7) (by rfl) (by first | exact Or.inl rfl | exact Or.inr rfl)) (ss_one (s_if (t_din (rm1 hr) (bv 7) (bv 3) (by rfl)) (ss_one (s_set nd (i := 6) (by rfl) (by first | exact Or.inl rfl | exact Or.inr rfl) (d_bin p_add (bv 6) (DF.db (b_list T (DE.db (d_dget (rm1 hr) (bv 0) (DE.db (d_dget (rm1 hr) (bv 3) (bv 7)))))))))) ss_nil)))
    (ss_one (s_set nd (i := 5) (by rfl) (by first | exact Or.inl rfl | exact Or.inr rfl) (DF.de (b_sortSet T (by rfl) hr (DF.db (f_lc (by rfl) nd (i_seq (dv 6)) (blkOk_by (N := nm__law_goes) (sc := defScope (top 51)) (own := [("_law_far", 7)]) (by decide +kernel)) rfl (fun _ _ _ _ _ => (g_name nd (i := 7) (by rfl) (by first | exact Or.inl rfl | exact Or.inr rfl))) (fun _ _ _ _ _ => (ts_one (t_cmp (p_notin (rm65 hr)) (bv 7) (bv 4) (by rfl)))) (fun _ _ _ _ _ => (dv 7)))))))))))
    (ss_one (s_ret (DF.de (b_sortSet T (by rfl) hr (bv 4)))))))

/-! ### _law_shifts -/
abbrev nm__law_shifts : List Str := ["_law_row_so", "_law_may_so", "_law_seats_so", "_law_tag", "_law_here_so", "_law_found", "_law_new_so", "_law_names_so", "_law_later_so", "_law_way_so", "_law_there_so", "_law_far", "_law_own"]
theorem sc__law_shifts : FnScope nm__law_shifts ["_law_row_so", "_law_may_so", "_law_seats_so", "_law_tag"] (defScope (top 52)) := ⟨rfl, rfl, rfl, by decide +kernel, rfl, by decide +kernel, by decide +kernel⟩
def gb__law_shifts : GS := (gSeq (gPar [4, 5, 6] [false, true, false] (gCons (gCall oDictP (gCons (gVarB 2) gNil)) (gCons (gLst gNil) (gCons (gLc [11] (gSeqI (gDGet (gVarB 1) (gVarB 3))) (ggName 11) gYes (gTup (gCons (gVar 3) (gCons (gVar 11) gNil)))) gNil))))
    (gSeq (gSet 7 (gLc [12] (gSeqI (gVar 0)) (ggName 12) gYes (gBin oIx (gVarB 12) (gC (.int 0)))))
    (gSeq (gIfS (gTst (gBin oIn (gVarB 3) (gVw oListV (gVarB 4)))) (gRet (gLst gNil)) gNext)
    (gSeq (gWhile (gTst (gBin oNe (gVarB 6) (gLst gNil))) (gSeq (gSet 8 (gLst gNil))
    (gSeq (gFor (gSeqI (gVar 6)) (ggName 9) (gSeq (gSet 10 (gGet1 (gVarB 4) (gBin oIx (gVarB 9) (gNeg (gC (.int 1))))))
    (gSeq (gIfS (gOr (gTst (gBin oIs (gVarB 10) (gC .none))) (gTst (gBin oGt (gIndex (gVarB 7) (gVarB 10)) (gIndex (gVarB 7) (gVarB 3))))) (gApp 5 (gVar 9)) gNext)
    (gIfS (gTst (gBin oIsNot (gVarB 10) (gC .none))) (gSet 8 (gBin oAdd (gVarB 8) (gLc [11] (gSeqI (gDGet (gVarB 1) (gVarB 10))) (ggName 11) (gTst (gBin oNotIn (gVarB 11) (gStep 1 (gVarB 9)))) (gBin oAdd (gVarB 9) (gTup (gCons (gVar 10) (gCons (gVar 11) gNil))))))) gNext))))
    (gSet 6 (gVar 8)))))
    (gRet (gCall oSorted (gCons (gVarB 5) gNil)))))))
theorem w__law_shifts (T : Bt mg) {f : Addr} {cdv : Value} {A : Around} {outer : List Env} {s : Shared} {H : Hp} {E : XK} (hr : Room 0 (A.deeper (envOfC "_law_shifts" (defScope (top 52)) s.heap.objs.size f cdv))) :
    DSs (cxOf CX0 P w K mg base nm__law_shifts "_law_shifts" (defScope (top 52)) f cdv A outer s H E).nox (defBody (top 52)) (gb__law_shifts) := by
  have nd := sc__law_shifts.nd
  exact (ss_cons (s_par3 (i := 4) (j := 5) (l := 6) (by rfl) nd (by rfl) (by rfl) (by rfl) (by decide) (by decide) (by decide) (by rfl) (by rfl) (by rfl) (dk_dat (DF.de (b_dictP T (by rfl) (bv 2))) (dk_own (f_lst da_nil) (dk_dat (DF.de (f_lc (by rfl) nd (i_seq (d_dget (rm1 hr) (bv 1) (bv 3))) (blkOk_by (N := nm__law_shifts) (sc := defScope (top 52)) (own := [("_law_far", 11)]) (by decide +kernel)) rfl (fun _ _ _ _ _ => (g_name nd (i := 11) (by rfl) (by first | exact Or.inl rfl | exact Or.inr rfl))) (fun _ _ _ _ _ => ts_nil) (fun _ _ _ _ _ => (d_tup (da_cons (dv 3) (da_cons (dv 11) da_nil)))))) dk_nil))) rfl (by rfl))
    (ss_cons (s_setLc (i := 7) (by rfl) nd (by rfl) (by rfl) (by rfl) (i_seq (dv 0)) (blkOk_by (N := nm__law_shifts) (sc := defScope (top 52)) (own := [("_law_own", 12)]) (by decide +kernel)) rfl (fun _ _ _ _ _ => (g_name nd (i := 12) (by rfl) (by first | exact Or.inl rfl | exact Or.inr rfl))) (fun _ _ _ _ _ => ts_nil) (fun _ _ _ _ _ => (d_ix (bv 12) (DE.db d_int))))
    (ss_cons (s_if (t_cmp (p_in (rm65 hr)) (bv 3) (DF.db (b_listVals T (by rfl) (bv 4))) (by rfl)) (ss_one (s_ret (DF.de (f_lst da_nil)))) ss_nil)
    (ss_cons (s_while PassesOwn.never (t_cmp (p_ne (rm64 hr)) (bv 6) (DF.db (f_lst da_nil)) (by rfl)) (ss_cons (s_set nd (i := 8) (by rfl) (by first | exact Or.inl rfl | exact Or.inr rfl) (DF.de (f_lst da_nil)))
    (ss_cons (s_for PassesOwn.never (by rfl) (i_seq (dv 6)) (g_name nd (i := 9) (by rfl) (by first | exact Or.inl rfl | exact Or.inr rfl)) (ss_cons (s_set nd (i := 10) (by rfl) (by first | exact Or.inl rfl | exact Or.inr rfl) (b_get1 hr (bv 4) (DE.db (d_ix (bv 9) (DE.db (d_neg (DE.db d_int)))))))
    (ss_cons (s_if (DW.dt (w_or (t_cmp p_is (bv 10) (DE.db d_non) (by rfl)) (w_or1 (t_cmp p_gt (DE.db (d_index (rm65 hr) (bv 7) (bv 10))) (DE.db (d_index (rm65 hr) (bv 7) (bv 3))) (by rfl))))) (ss_one (s_app (i := 5) (pvv 5) (dv 9))) ss_nil)
    (ss_one (s_if (t_cmp p_isnot (bv 10) (DE.db d_non) (by rfl)) (ss_one (s_set nd (i := 8) (by rfl) (by first | exact Or.inl rfl | exact Or.inr rfl) (d_bin p_add (bv 8) (DF.db (f_lc (by rfl) nd (i_seq (d_dget (rm1 hr) (bv 1) (bv 10))) (blkOk_by (N := nm__law_shifts) (sc := defScope (top 52)) (own := [("_law_far", 11)]) (by decide +kernel)) rfl (fun _ _ _ _ _ => (g_name nd (i := 11) (by rfl) (by first | exact Or.inl rfl | exact Or.inr rfl))) (fun _ _ _ _ _ => (ts_one (t_cmp (p_notin (rm65 hr)) (bv 11) (DE.db (d_step1 (bv 9))) (by rfl)))) (fun _ _ _ _ _ => (d_bin p_add (bv 9) (DE.db (d_tup (da_cons (dv 10) (da_cons (dv 11) da_nil))))))))))) ss_nil)))))
    (ss_one (s_set nd (i := 6) (by rfl) (by first | exact Or.inl rfl | exact Or.inr rfl) (dv 8))))))
    (ss_one (s_ret (DF.de (b_sorted T hr (bv 5)))))))))

/-! ### _law_kit -/
abbrev nm__law_kit : List Str := []
theorem sc__law_kit : FnScope nm__law_kit [] (defScope (top 53)) := ⟨rfl, rfl, rfl, by decide +kernel, rfl, by decide +kernel, by decide +kernel⟩
def gb__law_kit : GS := (gRet (gTup (gCons (gTup (gCons (gC (.str "p")) (gCons (gC (.str "q")) gNil))) (gCons (gTup (gCons (gTup (gCons (gC (.str "a")) (gCons (gTup (gCons (gC (.str "p")) gNil)) gNil))) (gCons (gTup (gCons (gC (.str "b")) (gCons (gTup (gCons (gC (.str "p")) (gCons (gC (.str "q")) gNil))) gNil))) gNil))) gNil))))
theorem w__law_kit (T : Bt mg) {f : Addr} {cdv : Value} {A : Around} {outer : List Env} {s : Shared} {H : Hp} {E : XK} (hr : Room 0 (A.deeper (envOfC "_law_kit" (defScope (top 53)) s.heap.objs.size f cdv))) :
    DSs (cxOf CX0 P w K mg base nm__law_kit "_law_kit" (defScope (top 53)) f cdv A outer s H E).nox (defBody (top 53)) (gb__law_kit) := by
  have nd := sc__law_kit.nd
  exact (ss_one (s_ret (d_tup (da_cons (d_tup (da_cons d_str (da_cons d_str da_nil))) (da_cons (d_tup (da_cons (d_tup (da_cons d_str (da_cons (d_tup (da_cons d_str da_nil)) da_nil))) (da_cons (d_tup (da_cons d_str (da_cons (d_tup (da_cons d_str (da_cons d_str da_nil))) da_nil))) da_nil))) da_nil)))))

/-! ### _law_ends -/
abbrev nm__law_ends : List Str := ["_law_row_so", "_law_may_so", "_law_seats_so", "_law_tag", "_law_here_so", "_law_names_so", "_law_goals_so", "_law_free_so", "_law_worst_so", "_law_own", "_law_far"]
theorem sc__law_ends : FnScope nm__law_ends ["_law_row_so", "_law_may_so", "_law_seats_so", "_law_tag"] (defScope (top 54)) := ⟨rfl, rfl, rfl, by decide +kernel, rfl, by decide +kernel, by decide +kernel⟩
def gb__law_ends (g__law_goes : GF) : GS := (gSeq (gPar [4, 5] [false, false] (gCons (gCall oDictP (gCons (gVarB 2) gNil)) (gCons (gLc [9] (gSeqI (gVar 0)) (ggName 9) gYes (gBin oIx (gVarB 9) (gC (.int 0)))) gNil)))
    (gSeq (gSet 6 (gFun g__law_goes (gCons (gVar 1) (gCons (gVar 2) (gCons (gVar 3) gNil)))))
    (gSeq (gSet 7 (gLc [10] (gSeqI (gVar 6)) (ggName 10) (gTst (gDIn true (gVarB 10) (gVarB 4))) (gVar 10)))
    (gSeq (gIfS (gTst (gBin oNe (gVarB 7) (gLst gNil))) (gRet (gVar 7)) gNext)
    (gSeq (gSet 8 (gCall oMax (gCons (gLc [10] (gSeqI (gVar 6)) (ggName 10) gYes (gIndex (gVarB 5) (gDGet (gVarB 4) (gVarB 10)))) gNil)))
    (gRet (gLc [10] (gSeqI (gVar 6)) (ggName 10) (gTst (gBin oEq (gIndex (gVarB 5) (gDGet (gVarB 4) (gVarB 10))) (gVarB 8))) (gVar 10))))))))
theorem w__law_ends {g__law_goes : GF} (T : Bt mg) (h__law_goes : Has P w K mg base "_law_goes" 1 ["_law_may_so", "_law_seats_so", "_law_tag"] g__law_goes) {f : Addr} {cdv : Value} {A : Around} {outer : List Env} {s : Shared} {H : Hp} {E : XK} (hr : Room 1 (A.deeper (envOfC "_law_ends" (defScope (top 54)) s.heap.objs.size f cdv))) :
    DSs (cxOf CX0 P w K mg base nm__law_ends "_law_ends" (defScope (top 54)) f cdv A outer s H E).nox (defBody (top 54)) (gb__law_ends g__law_goes) := by
  have nd := sc__law_ends.nd
  exact (ss_cons (s_tup2 (i := 4) (j := 5) (by rfl) nd (by rfl) (by rfl) (by first | exact Or.inl rfl | exact Or.inr rfl) (by first | exact Or.inl rfl | exact Or.inr rfl) (dk_dat (DF.de (b_dictP T (by rfl) (bv 2))) (dk_dat (DF.de (f_lc (by rfl) nd (i_seq (dv 0)) (blkOk_by (N := nm__law_ends) (sc := defScope (top 54)) (own := [("_law_own", 9)]) (by decide +kernel)) rfl (fun _ _ _ _ _ => (g_name nd (i := 9) (by rfl) (by first | exact Or.inl rfl | exact Or.inr rfl))) (fun _ _ _ _ _ => ts_nil) (fun _ _ _ _ _ => (d_ix (bv 9) (DE.db d_int))))) dk_nil)) rfl (by rfl))
    (ss_cons (s_set nd (i := 6) (by rfl) (by first | exact Or.inl rfl | exact Or.inr rfl) (d_has h__law_goes (hr.mono (by decide)) (da_cons (dv 1) (da_cons (dv 2) (da_cons (dv 3) da_nil)))))
    (ss_cons (s_setLc (i := 7) (by rfl) nd (by rfl) (by rfl) (by rfl) (i_seq (dv 6)) (blkOk_by (N := nm__law_ends) (sc := defScope (top 54)) (own := [("_law_far", 10)]) (by decide +kernel)) rfl (fun _ _ _ _ _ => (g_name nd (i := 10) (by rfl) (by first | exact Or.inl rfl | exact Or.inr rfl))) (fun _ _ _ _ _ => (ts_one (t_dnotin (rm1 hr) (bv 10) (bv 4) (by rfl)))) (fun _ _ _ _ _ => (dv 10)))
    (ss_cons (s_if (t_cmp (p_ne (rm64 hr)) (bv 7) (DF.db (f_lst da_nil)) (by rfl)) (ss_one (s_ret (dv 7))) ss_nil)
    (ss_cons (s_set nd (i := 8) (by rfl) (by first | exact Or.inl rfl | exact Or.inr rfl) (b_max T (by rfl) (DF.db (f_lc (by rfl) nd (i_seq (dv 6)) (blkOk_by (N := nm__law_ends) (sc := defScope (top 54)) (own := [("_law_far", 10)]) (by decide +kernel)) rfl (fun _ _ _ _ _ => (g_name nd (i := 10) (by rfl) (by first | exact Or.inl rfl | exact Or.inr rfl))) (fun _ _ _ _ _ => ts_nil) (fun _ _ _ _ _ => (d_index (rm65 hr) (bv 5) (DE.db (d_dget (rm1 hr) (bv 4) (bv 10)))))))))
    (ss_one (s_ret (DF.de (f_lc (by rfl) nd (i_seq (dv 6)) (blkOk_by (N := nm__law_ends) (sc := defScope (top 54)) (own := [("_law_far", 10)]) (by decide +kernel)) rfl (fun _ _ _ _ _ => (g_name nd (i := 10) (by rfl) (by first | exact Or.inl rfl | exact Or.inr rfl))) (fun _ _ _ _ _ => (ts_one (t_cmp (p_eq (rm64 hr)) (DE.db (d_index (rm65 hr) (bv 5) (DE.db (d_dget (rm1 hr) (bv 4) (bv 10))))) (bv 8) (by rfl)))) (fun _ _ _ _ _ => (dv 10)))))))))))

/-! ### _law_moved -/
abbrev nm__law_moved : List Str := ["_law_seats_so", "_law_way_so", "_law_here_so", "_law_k", "_law_far"]
theorem sc__law_moved : FnScope nm__law_moved ["_law_seats_so", "_law_way_so"] (defScope (top 55)) := ⟨rfl, rfl, rfl, by decide +kernel, rfl, by decide +kernel, by decide +kernel⟩
def gb__law_moved : GS := (gSeq (gSetO 2 (gCall oDictP (gCons (gVarB 0) gNil)))
    (gSeq (gFor (gRng3 (gCons (gC (.int 0)) (gCons (gCall oLen (gCons (gVarB 1) gNil)) (gCons (gC (.int 2)) gNil)))) (ggName 3) (gPutD 2 (gBin oIx (gVarB 1) (gBin oAdd (gVarB 3) (gC (.int 1)))) (gBin oIx (gVarB 1) (gVarB 3))))
    (gRet (gCall oTuple (gCons (gCall oSorted (gCons (gSelf 2 4) gNil)) gNil)))))
theorem w__law_moved (T : Bt mg) {f : Addr} {cdv : Value} {A : Around} {outer : List Env} {s : Shared} {H : Hp} {E : XK} (hr : Room 0 (A.deeper (envOfC "_law_moved" (defScope (top 55)) s.heap.objs.size f cdv))) :
    DSs (cxOf CX0 P w K mg base nm__law_moved "_law_moved" (defScope (top 55)) f cdv A outer s H E).nox (defBody (top 55)) (gb__law_moved) := by
  have nd := sc__law_moved.nd
  exact (ss_cons (s_setO nd (i := 2) (by rfl) (by first | exact Or.inl rfl | exact Or.inr rfl) (b_dictP T (by rfl) (bv 0)))
    (ss_cons (s_for PassesOwn.never (by rfl) (i_rng3 (by rfl) T.range (dab_cons (DE.db d_int) (dab_cons (DE.db (b_len T (bv 1))) (dab_cons (DE.db d_int) dab_nil)))) (g_name nd (i := 3) (by rfl) (by first | exact Or.inl rfl | exact Or.inr rfl)) (ss_one (s_putD (i := 2) (rm1 hr) (pvv 2) (DE.db (d_ix (bv 1) (DE.db (d_bin p_add (bv 3) (DE.db d_int))))) (d_ix (bv 1) (bv 3)))))
    (ss_one (s_ret (b_tuple T (DF.db (b_sorted T hr (DF.db (f_self (i := 2) (j := 4) (by rfl) (rm1 hr) nd (by rfl) (by rfl) (by first | exact Or.inl rfl | exact Or.inr (Or.inl rfl) | exact Or.inr (Or.inr rfl)) (blkOk_by (N := nm__law_moved) (sc := defScope (top 55)) (by decide +kernel)) (fun _ _ _ _ _ => (by first | exact Or.inl rfl | exact Or.inr (Or.inl rfl) | exact Or.inr (Or.inr rfl))) (fun _ _ _ _ _ => by rfl) (by decide) (by decide) (by decide) (by decide))))))))))

/-! ### _law_case_right -/
abbrev nm__law_case_right : List Str := ["_law_web_here", "_law_row_so", "_law_seats_so", "_law_may_so", "_law_tag", "_law_own", "_law_every", "_law_ends_so", "_law_fine", "_law_few_so", "_law_said_so", "_law_far"]
theorem sc__law_case_right : FnScope nm__law_case_right ["_law_web_here", "_law_row_so", "_law_seats_so"] (defScope (top 57)) := ⟨rfl, rfl, rfl, by decide +kernel, rfl, by decide +kernel, by decide +kernel⟩
def gb__law_case_right (g__law_may g__law_ends g__law_shifts g_a_right_shift g__law_same g_right_moves g_is_right g__law_lists : GF) : GS := (gSeq (gSet 3 (gFun g__law_may (gCons (gVar 0) (gCons (gVar 1) gNil))))
    (gSeq (gFor (gSeqI (gVar 1)) (ggPair 4 5) (gSeq (gPar [6, 7] [false, false] (gCons (gFun g__law_shifts (gCons (gVar 1) (gCons (gVar 3) (gCons (gVar 2) (gCons (gVar 4) gNil))))) (gCons (gFun g__law_ends (gCons (gVar 1) (gCons (gVar 3) (gCons (gVar 2) (gCons (gVar 4) gNil))))) gNil)))
    (gSeq (gSet 8 (gLc [11] (gSeqI (gVar 6)) (ggName 11) (gTst (gBin oIn (gBin oIx (gVarB 11) (gNeg (gC (.int 1)))) (gVarB 7))) (gVar 11)))
    (gSeq (gSet 9 (gIf (gTst (gBin oNe (gVarB 8) (gLst gNil))) (gCall oMin (gCons (gLc [11] (gSeqI (gVar 8)) (ggName 11) gYes (gBin oSub (gBin oDiv (gCall oLen (gCons (gVarB 11) gNil)) (gC (.int 2))) (gC (.int 1)))) gNil)) (gC .none)))
    (gSeq (gSet 10 (gFun g_a_right_shift (gCons (gVar 0) (gCons (gVar 1) (gCons (gVar 2) (gCons (gVar 4) gNil))))))
    (gSeq (gIfS (gNot (gTst (gFun g__law_same (gCons (gLst (gCons (gFun g_right_moves (gCons (gVar 0) (gCons (gVar 1) (gCons (gVar 2) (gCons (gVar 4) gNil))))) (gCons (gBin oIs (gVarB 10) (gC .none)) (gCons (gBin oEq (gVarB 8) (gLst gNil)) gNil)))) (gCons (gLst (gCons (gVar 9) (gCons (gBin oIs (gVarB 9) (gC .none)) (gCons (gBin oEq (gVarB 6) (gLst gNil)) gNil)))) gNil))))) (gRet (gC (.bool false))) gNext)
    (gSeq (gIfS (gTst (gBin oIsNot (gVarB 10) (gC .none))) (gSeq (gIfS (gTst (gBin oNotIn (gVarB 10) (gVarB 8))) (gRet (gC (.bool false))) gNext)
    (gSeq (gIfS (gTst (gBin oNe (gCall oLen (gCons (gVarB 10) gNil)) (gBin oAdd (gBin oMul (gC (.int 2)) (gVarB 9)) (gC (.int 2))))) (gRet (gC (.bool false))) gNext)
    (gIfS (gNot (gTst (gFun g_is_right (gCons (gVar 0) (gCons (gVar 1) (gCons (gVar 2) (gCons (gVar 10) gNil))))))) (gRet (gC (.bool false))) gNext))) gNext)
    (gIfS (gTst (gBin oNe (gFunK g_a_right_shift (gCons (gVar 4) (gCons (gFun g__law_lists (gCons (gVar 2) gNil)) (gCons (gFun g__law_lists (gCons (gVar 1) gNil)) (gCons (gFun g__law_lists (gCons (gVar 0) gNil)) gNil))))) (gVarB 10))) (gRet (gC (.bool false))) gNext))))))))
    (gRet (gC (.bool true)))))
theorem w__law_case_right {g__law_may g__law_ends g__law_shifts g_a_right_shift g__law_same g_right_moves g_is_right g__law_lists : GF} (T : Bt mg) (h__law_may : Has P w K mg base "_law_may" 1 ["_law_web_here", "_law_row_so"] g__law_may) (h__law_ends : Has P w K mg base "_law_ends" 2 ["_law_row_so", "_law_may_so", "_law_seats_so", "_law_tag"] g__law_ends) (h__law_shifts : Has P w K mg base "_law_shifts" 1 ["_law_row_so", "_law_may_so", "_law_seats_so", "_law_tag"] g__law_shifts) (h_a_right_shift : Has P w K mg base "a_right_shift" 14 ["book", "ready", "seating", "task"] g_a_right_shift) (h__law_same : Has P w K mg base "_law_same" 10 ["_law_got", "_law_due"] g__law_same) (h_right_moves : Has P w K mg base "right_moves" 14 ["book", "ready", "seating", "task"] g_right_moves) (h_is_right : Has P w K mg base "is_right" 14 ["book", "ready", "seating", "thing"] g_is_right) (h__law_lists : Has P w K mg base "_law_lists" 10 ["_law_matter"] g__law_lists) (hK_a_right_shift : HasK P w K mg base "a_right_shift" 14 ["book", "ready", "seating", "task"] g_a_right_shift) {f : Addr} {cdv : Value} {A : Around} {outer : List Env} {s : Shared} {H : Hp} {E : XK} (hr : Room 14 (A.deeper (envOfC "_law_case_right" (defScope (top 57)) s.heap.objs.size f cdv))) :
    DSs (cxOf CX0 P w K mg base nm__law_case_right "_law_case_right" (defScope (top 57)) f cdv A outer s H E).nox (defBody (top 57)) (gb__law_case_right g__law_may g__law_ends g__law_shifts g_a_right_shift g__law_same g_right_moves g_is_right g__law_lists) := by
  have nd := sc__law_case_right.nd
  exact (ss_cons (s_set nd (i := 3) (by rfl) (by first | exact Or.inl rfl | exact Or.inr rfl) (d_has h__law_may (hr.mono (by decide)) (da_cons (dv 0) (da_cons (dv 1) da_nil))))
    (ss_cons (s_for PassesOwn.never (by rfl) (i_seq (dv 1)) (g_pair (by rfl) nd (i := 4) (by rfl) (by first | exact Or.inl rfl | exact Or.inr rfl) (j := 5) (by rfl) (by first | exact Or.inl rfl | exact Or.inr rfl)) (ss_cons (s_tup2 (i := 6) (j := 7) (by rfl) nd (by rfl) (by rfl) (by first | exact Or.inl rfl | exact Or.inr rfl) (by first | exact Or.inl rfl | exact Or.inr rfl) (dk_dat (d_has h__law_shifts (hr.mono (by decide)) (da_cons (dv 1) (da_cons (dv 3) (da_cons (dv 2) (da_cons (dv 4) da_nil))))) (dk_dat (d_has h__law_ends (hr.mono (by decide)) (da_cons (dv 1) (da_cons (dv 3) (da_cons (dv 2) (da_cons (dv 4) da_nil))))) dk_nil)) rfl (by rfl))
    (ss_cons (s_setLc (i := 8) (by rfl) nd (by rfl) (by rfl) (by rfl) (i_seq (dv 6)) (blkOk_by (N := nm__law_case_right) (sc := defScope (top 57)) (own := [("_law_far", 11)]) (by decide +kernel)) rfl (fun _ _ _ _ _ => (g_name nd (i := 11) (by rfl) (by first | exact Or.inl rfl | exact Or.inr rfl))) (fun _ _ _ _ _ => (ts_one (t_cmp (p_in (rm65 hr)) (DE.db (d_ix (bv 11) (DE.db (d_neg (DE.db d_int))))) (bv 7) (by rfl)))) (fun _ _ _ _ _ => (dv 11)))
    (ss_cons (s_set nd (i := 9) (by rfl) (by first | exact Or.inl rfl | exact Or.inr rfl) (d_if (t_cmp (p_ne (rm64 hr)) (bv 8) (DF.db (f_lst da_nil)) (by rfl)) (b_min T (by rfl) (DF.db (f_lc (by rfl) nd (i_seq (dv 8)) (blkOk_by (N := nm__law_case_right) (sc := defScope (top 57)) (own := [("_law_far", 11)]) (by decide +kernel)) rfl (fun _ _ _ _ _ => (g_name nd (i := 11) (by rfl) (by first | exact Or.inl rfl | exact Or.inr rfl))) (fun _ _ _ _ _ => ts_nil) (fun _ _ _ _ _ => (d_bin p_sub (DE.db (d_bin p_div (DE.db (b_len T (bv 11))) (DE.db d_int))) (DE.db d_int)))))) d_non))
    (ss_cons (s_set nd (i := 10) (by rfl) (by first | exact Or.inl rfl | exact Or.inr rfl) (d_has h_a_right_shift (hr.mono (by decide)) (da_cons (dv 0) (da_cons (dv 1) (da_cons (dv 2) (da_cons (dv 4) da_nil))))))
    (ss_cons (s_if (t_not (t_val (d_has h__law_same (hr.mono (by decide)) (da_cons (DF.de (f_lst (da_cons (d_has h_right_moves (hr.mono (by decide)) (da_cons (dv 0) (da_cons (dv 1) (da_cons (dv 2) (da_cons (dv 4) da_nil))))) (da_cons (d_cmp p_is (bv 10) (DE.db d_non) (by rfl)) (da_cons (d_cmp (p_eq (rm64 hr)) (bv 8) (DF.db (f_lst da_nil)) (by rfl)) da_nil))))) (da_cons (DF.de (f_lst (da_cons (dv 9) (da_cons (d_cmp p_is (bv 9) (DE.db d_non) (by rfl)) (da_cons (d_cmp (p_eq (rm64 hr)) (bv 6) (DF.db (f_lst da_nil)) (by rfl)) da_nil))))) da_nil))))) (ss_one (s_ret d_bl)) ss_nil)
    (ss_cons (s_if (t_cmp p_isnot (bv 10) (DE.db d_non) (by rfl)) (ss_cons (s_if (t_cmp (p_notin (rm65 hr)) (bv 10) (bv 8) (by rfl)) (ss_one (s_ret d_bl)) ss_nil)
    (ss_cons (s_if (t_cmp (p_ne (rm64 hr)) (DE.db (b_len T (bv 10))) (DE.db (d_bin p_add (DE.db (d_bin p_mul (DE.db d_int) (bv 9))) (DE.db d_int))) (by rfl)) (ss_one (s_ret d_bl)) ss_nil)
    (ss_one (s_if (t_not (t_val (d_has h_is_right (hr.mono (by decide)) (da_cons (dv 0) (da_cons (dv 1) (da_cons (dv 2) (da_cons (dv 10) da_nil))))))) (ss_one (s_ret d_bl)) ss_nil)))) ss_nil)
    (ss_one (s_if (t_cmp (p_ne (rm64 hr)) (DE.db (d_hasK hK_a_right_shift (hr.mono (by decide)) (kw_cons (dv 4) (kw_cons (d_has h__law_lists (hr.mono (by decide)) (da_cons (dv 2) da_nil)) (kw_cons (d_has h__law_lists (hr.mono (by decide)) (da_cons (dv 1) da_nil)) (kw_cons (d_has h__law_lists (hr.mono (by decide)) (da_cons (dv 0) da_nil)) kw_nil)))))) (bv 10) (by rfl)) (ss_one (s_ret d_bl)) ss_nil)))))))))
    (ss_one (s_ret d_bl))))

/-! ### _law_alone_right -/
abbrev nm__law_alone_right : List Str := ["_law_web_here", "_law_row_so", "_law_tag", "_law_may_so", "_law_less_so", "_law_seats_so", "_law_best_so", "_law_mate", "_law_own", "_law_way_so", "_law_there_so", "_law_fine", "_law_got"]
theorem sc__law_alone_right : FnScope nm__law_alone_right ["_law_web_here", "_law_row_so", "_law_tag"] (defScope (top 58)) := ⟨rfl, rfl, rfl, by decide +kernel, rfl, by decide +kernel, by decide +kernel⟩
def gb__law_alone_right (g__law_may g__law_best g__law_ways g__law_shifts g__law_moved g_shifted g_is_right g_is_settled g__law_same : GF) : GS := (gSeq (gSet 3 (gFun g__law_may (gCons (gVar 0) (gCons (gVar 1) gNil))))
    (gSeq (gSet 4 (gFun g__law_best (gCons (gVar 0) (gCons (gCall oTuple (gCons (gLc [8] (gSeqI (gVar 1)) (ggName 8) (gTst (gBin oNe (gBin oIx (gVarB 8) (gC (.int 0))) (gVarB 2))) (gVar 8)) gNil)) gNil))))
    (gSeq (gFor (gSeqI (gSl oSlL (gFun g__law_ways (gCons (gVar 3) (gCons (gVar 4) gNil))) gNoP (gPart (gC (.int 6))))) (ggName 5) (gSeq (gSet 6 (gFun g__law_best (gCons (gVar 0) (gCons (gVar 1) gNil))))
    (gSeq (gFor (gSeqI (gVar 1)) (ggPair 7 8) (gIfS (gAnd (gTst (gBin oNe (gVarB 7) (gVarB 2))) (gTst (gBin oNe (gFun g__law_shifts (gCons (gVar 1) (gCons (gVar 3) (gCons (gVar 5) (gCons (gVar 7) gNil))))) (gLst gNil)))) (gRet (gC (.bool false))) gNext))
    (gFor (gSeqI (gFun g__law_shifts (gCons (gVar 1) (gCons (gVar 3) (gCons (gVar 5) (gCons (gVar 2) gNil)))))) (ggName 9) (gSeq (gSet 10 (gFun g__law_moved (gCons (gVar 5) (gCons (gVar 9) gNil))))
    (gSeq (gSet 11 (gBin oEq (gCall oTuple (gCons (gCall oSorted (gCons (gLc [8] (gSeqI (gVar 10)) (ggName 8) gYes (gBin oIx (gVarB 8) (gC (.int 1)))) gNil)) gNil)) (gVarB 6)))
    (gSeq (gSet 12 (gLst (gCons (gFun g_shifted (gCons (gVar 5) (gCons (gVar 9) gNil))) gNil)))
    (gSeq (gSet 12 (gBin oAdd (gVarB 12) (gLst (gCons (gFun g_is_right (gCons (gVar 0) (gCons (gVar 1) (gCons (gVar 5) (gCons (gVar 9) gNil))))) gNil))))
    (gSeq (gSet 12 (gBin oAdd (gVarB 12) (gLst (gCons (gFun g_is_settled (gCons (gVar 0) (gCons (gVar 1) (gCons (gVar 10) gNil)))) gNil))))
    (gIfS (gNot (gTst (gFun g__law_same (gCons (gVar 12) (gCons (gLst (gCons (gVar 10) (gCons (gVar 11) (gCons (gVar 11) gNil)))) gNil))))) (gRet (gC (.bool false))) gNext))))))))))
    (gRet (gC (.bool true))))))
theorem w__law_alone_right {g__law_may g__law_best g__law_ways g__law_shifts g__law_moved g_shifted g_is_right g_is_settled g__law_same : GF} (T : Bt mg) (h__law_may : Has P w K mg base "_law_may" 1 ["_law_web_here", "_law_row_so"] g__law_may) (h__law_best : Has P w K mg base "_law_best" 2 ["_law_web_here", "_law_row_so"] g__law_best) (h__law_ways : Has P w K mg base "_law_ways" 1 ["_law_may_so", "_law_some_so"] g__law_ways) (h__law_shifts : Has P w K mg base "_law_shifts" 1 ["_law_row_so", "_law_may_so", "_law_seats_so", "_law_tag"] g__law_shifts) (h__law_moved : Has P w K mg base "_law_moved" 1 ["_law_seats_so", "_law_way_so"] g__law_moved) (h_shifted : Has P w K mg base "shifted" 12 ["seating", "shift"] g_shifted) (h_is_right : Has P w K mg base "is_right" 14 ["book", "ready", "seating", "thing"] g_is_right) (h_is_settled : Has P w K mg base "is_settled" 16 ["book", "ready", "seating"] g_is_settled) (h__law_same : Has P w K mg base "_law_same" 10 ["_law_got", "_law_due"] g__law_same) {f : Addr} {cdv : Value} {A : Around} {outer : List Env} {s : Shared} {H : Hp} {E : XK} (hr : Room 16 (A.deeper (envOfC "_law_alone_right" (defScope (top 58)) s.heap.objs.size f cdv))) :
    DSs (cxOf CX0 P w K mg base nm__law_alone_right "_law_alone_right" (defScope (top 58)) f cdv A outer s H E).nox (defBody (top 58)) (gb__law_alone_right g__law_may g__law_best g__law_ways g__law_shifts g__law_moved g_shifted g_is_right g_is_settled g__law_same) := by
  have nd := sc__law_alone_right.nd
  exact (ss_cons (s_set nd (i := 3) (by rfl) (by first | exact Or.inl rfl | exact Or.inr rfl) (d_has h__law_may (hr.mono (by decide)) (da_cons (dv 0) (da_cons (dv 1) da_nil))))
    (ss_cons (s_set nd (i := 4) (by rfl) (by first | exact Or.inl rfl | exact Or.inr rfl) (d_has h__law_best (hr.mono (by decide)) (da_cons (dv 0) (da_cons (b_tuple T (DF.db (f_lc (by rfl) nd (i_seq (dv 1)) (blkOk_by (N := nm__law_alone_right) (sc := defScope (top 58)) (own := [("_law_own", 8)]) (by decide +kernel)) rfl (fun _ _ _ _ _ => (g_name nd (i := 8) (by rfl) (by first | exact Or.inl rfl | exact Or.inr rfl))) (fun _ _ _ _ _ => (ts_one (t_cmp (p_ne (rm64 hr)) (DE.db (d_ix (bv 8) (DE.db d_int))) (bv 2) (by rfl)))) (fun _ _ _ _ _ => (dv 8))))) da_nil))))
    (ss_cons (s_for PassesOwn.never (by rfl) (i_seq (DF.de (f_slice (DE.db (d_has h__law_ways (hr.mono (by decide)) (da_cons (dv 3) (da_cons (dv 4) da_nil)))) o_none (o_some (DE.db d_int))))) (g_name nd (i := 5) (by rfl) (by first | exact Or.inl rfl | exact Or.inr rfl)) (ss_cons (s_set nd (i := 6) (by rfl) (by first | exact Or.inl rfl | exact Or.inr rfl) (d_has h__law_best (hr.mono (by decide)) (da_cons (dv 0) (da_cons (dv 1) da_nil))))
    (ss_cons (s_for PassesOwn.never (by rfl) (i_seq (dv 1)) (g_pair (by rfl) nd (i := 7) (by rfl) (by first | exact Or.inl rfl | exact Or.inr rfl) (j := 8) (by rfl) (by first | exact Or.inl rfl | exact Or.inr rfl)) (ss_one (s_if (DW.dt (w_and (t_cmp (p_ne (rm64 hr)) (bv 7) (bv 2) (by rfl)) (w_and1 (t_cmp (p_ne (rm64 hr)) (DE.db (d_has h__law_shifts (hr.mono (by decide)) (da_cons (dv 1) (da_cons (dv 3) (da_cons (dv 5) (da_cons (dv 7) da_nil)))))) (DF.db (f_lst da_nil)) (by rfl))))) (ss_one (s_ret d_bl)) ss_nil)))
    (ss_one (s_for PassesOwn.never (by rfl) (i_seq (d_has h__law_shifts (hr.mono (by decide)) (da_cons (dv 1) (da_cons (dv 3) (da_cons (dv 5) (da_cons (dv 2) da_nil)))))) (g_name nd (i := 9) (by rfl) (by first | exact Or.inl rfl | exact Or.inr rfl)) (ss_cons (s_set nd (i := 10) (by rfl) (by first | exact Or.inl rfl | exact Or.inr rfl) (d_has h__law_moved (hr.mono (by decide)) (da_cons (dv 5) (da_cons (dv 9) da_nil))))
    (ss_cons (s_set nd (i := 11) (by rfl) (by first | exact Or.inl rfl | exact Or.inr rfl) (d_cmp (p_eq (rm64 hr)) (DE.db (b_tuple T (DF.db (b_sorted T hr (DF.db (f_lc (by rfl) nd (i_seq (dv 10)) (blkOk_by (N := nm__law_alone_right) (sc := defScope (top 58)) (own := [("_law_own", 8)]) (by decide +kernel)) rfl (fun _ _ _ _ _ => (g_name nd (i := 8) (by rfl) (by first | exact Or.inl rfl | exact Or.inr rfl))) (fun _ _ _ _ _ => ts_nil) (fun _ _ _ _ _ => (d_ix (bv 8) (DE.db d_int))))))))) (bv 6) (by rfl)))
    (ss_cons (s_set nd (i := 12) (by rfl) (by first | exact Or.inl rfl | exact Or.inr rfl) (DF.de (f_lst (da_cons (d_has h_shifted (hr.mono (by decide)) (da_cons (dv 5) (da_cons (dv 9) da_nil))) da_nil))))
    (ss_cons (s_set nd (i := 12) (by rfl) (by first | exact Or.inl rfl | exact Or.inr rfl) (d_bin p_add (bv 12) (DF.db (f_lst (da_cons (d_has h_is_right (hr.mono (by decide)) (da_cons (dv 0) (da_cons (dv 1) (da_cons (dv 5) (da_cons (dv 9) da_nil))))) da_nil)))))
    (ss_cons (s_set nd (i := 12) (by rfl) (by first | exact Or.inl rfl | exact Or.inr rfl) (d_bin p_add (bv 12) (DF.db (f_lst (da_cons (d_has h_is_settled (hr.mono (by decide)) (da_cons (dv 0) (da_cons (dv 1) (da_cons (dv 10) da_nil)))) da_nil)))))
    (ss_one (s_if (t_not (t_val (d_has h__law_same (hr.mono (by decide)) (da_cons (dv 12) (da_cons (DF.de (f_lst (da_cons (dv 10) (da_cons (dv 11) (da_cons (dv 11) da_nil))))) da_nil))))) (ss_one (s_ret d_bl)) ss_nil))))))))))))
    (ss_one (s_ret d_bl)))))

/-! ### _law_by_hand_right -/
abbrev nm__law_by_hand_right : List Str := ["_law_web_here", "_law_row_so", "_law_seats_so", "_law_first_so", "_law_there_so", "_law_got", "_law_due", "_law_soft", "_law_own", "_law_line_so", "_law_long_so", "_law_cases", "_law_tag", "_law_door"]
theorem sc__law_by_hand_right : FnScope nm__law_by_hand_right [] (defScope (top 59)) := ⟨rfl, rfl, rfl, by decide +kernel, rfl, by decide +kernel, by decide +kernel⟩
def gb__law_by_hand_right (g__law_kit g_right_moves g_a_right_shift g_ideal g__law_heard g__law_lists g__law_half g__law_same g__law_case_right g__law_alone_right : GF) : GS := (gSeq (gPar [0, 1, 2] [false, false, false] (gCons (gFun g__law_kit gNil) (gCons (gTup (gCons (gTup (gCons (gC (.str "t")) (gCons (gC (.str "b")) gNil))) (gCons (gTup (gCons (gC (.str "v")) (gCons (gC (.str "a")) gNil))) (gCons (gTup (gCons (gC (.str "u")) (gCons (gC (.str "b")) gNil))) gNil)))) (gCons (gTup (gCons (gTup (gCons (gC (.str "p")) (gCons (gC (.str "t")) gNil))) (gCons (gTup (gCons (gC (.str "q")) (gCons (gC (.str "u")) gNil))) gNil))) gNil))))
    (gSeq (gPar [3, 4] [false, false] (gCons (gTup (gCons (gTup (gCons (gC (.str "v")) (gCons (gC (.str "a")) gNil))) (gCons (gTup (gCons (gC (.str "x")) (gCons (gC (.str "b")) gNil))) (gCons (gTup (gCons (gC (.str "y")) (gCons (gC (.str "b")) gNil))) gNil)))) (gCons (gTup (gCons (gTup (gCons (gC (.str "p")) (gCons (gC (.str "x")) gNil))) (gCons (gTup (gCons (gC (.str "q")) (gCons (gC (.str "y")) gNil))) gNil))) gNil)))
    (gSeq (gSet 5 (gLst (gCons (gLc [12] (gStrI (gC (.str "tvu"))) (ggName 12) gYes (gFun g_right_moves (gCons (gVar 0) (gCons (gVar 1) (gCons (gVar 2) (gCons (gVar 12) gNil)))))) gNil)))
    (gSeq (gSet 5 (gBin oAdd (gVarB 5) (gLst (gCons (gFun g_right_moves (gCons (gVar 0) (gCons (gVar 3) (gCons (gVar 4) (gCons (gC (.str "v")) gNil))))) gNil))))
    (gSeq (gSet 5 (gBin oAdd (gVarB 5) (gLst (gCons (gFun g_a_right_shift (gCons (gVar 0) (gCons (gVar 3) (gCons (gVar 4) (gCons (gC (.str "v")) gNil))))) gNil))))
    (gSeq (gSet 5 (gBin oAdd (gVarB 5) (gLst (gCons (gFun g_a_right_shift (gCons (gVar 0) (gCons (gVar 3) (gCons (gVar 4) (gCons (gC (.str "x")) gNil))))) gNil))))
    (gSeq (gSet 6 (gLst (gCons (gLst (gCons (gC .none) (gCons (gC (.int 1)) (gCons (gC .none) gNil)))) (gCons (gC (.int 1)) (gCons (gTup (gCons (gC (.str "v")) (gCons (gC (.str "p")) (gCons (gC (.str "x")) (gCons (gC (.str "q")) gNil))))) (gCons (gC .none) gNil))))))
    (gSeq (gSet 5 (gBin oAdd (gVarB 5) (gLst (gCons (gFun g_right_moves (gCons (gVar 0) (gCons (gVar 3) (gCons (gTup (gCons (gTup (gCons (gC (.str "p")) (gCons (gC (.str "y")) gNil))) gNil)) (gCons (gC (.str "v")) gNil))))) gNil))))
    (gSeq (gSet 5 (gBin oAdd (gVarB 5) (gLst (gCons (gFun g_right_moves (gCons (gVar 0) (gCons (gVar 3) (gCons (gTup (gCons (gTup (gCons (gC (.str "p")) (gCons (gC (.str "y")) gNil))) gNil)) (gCons (gC (.str "x")) gNil))))) gNil))))
    (gSeq (gSet 5 (gBin oAdd (gVarB 5) (gLst (gCons (gFun g_ideal (gCons (gVar 0) (gCons (gVar 3) gNil))) (gCons (gFun g_right_moves (gCons (gVar 0) (gCons (gVar 3) (gCons (gTup gNil) (gCons (gC (.str "v")) gNil))))) gNil)))))
    (gSeq (gSet 6 (gBin oAdd (gVarB 6) (gLst (gCons (gC (.int 1)) (gCons (gC (.int 0)) (gCons (gTup (gCons (gC (.str "v")) (gCons (gC (.str "x")) gNil))) (gCons (gC (.int 0)) gNil)))))))
    (gSeq (gSet 5 (gBin oAdd (gVarB 5) (gLc [13] (gRng1 (gC (.int 2))) (ggName 13) gYes (gFun g__law_heard (gCons (gVar 13) (gCons (gVar 0) (gCons (gVar 1) (gCons (gVar 2) (gCons (gC (.str "q")) gNil)))))))))
    (gSeq (gSet 7 (gLst (gCons (gFun g__law_lists (gCons (gVar 0) gNil)) (gCons (gFun g__law_lists (gCons (gVar 1) gNil)) (gCons (gFun g__law_lists (gCons (gVar 2) gNil)) gNil)))))
    (gSeq (gFor (gSeqI (gTup (gCons (gVar 7) (gCons (gLst (gCons (gFun g__law_half (gCons (gVar 0) gNil)) (gCons (gTup (gCons (gLst (gCons (gC (.str "t")) (gCons (gC (.str "b")) gNil))) (gCons (gTup (gCons (gC (.str "v")) (gCons (gC (.str "a")) gNil))) (gCons (gLst (gCons (gC (.str "u")) (gCons (gC (.str "b")) gNil))) gNil)))) (gCons (gTup (gCons (gLst (gCons (gC (.str "p")) (gCons (gC (.str "t")) gNil))) (gCons (gTup (gCons (gC (.str "q")) (gCons (gC (.str "u")) gNil))) gNil))) gNil)))) gNil)))) (ggName 8) (gSeq (gSet 5 (gBin oAdd (gVarB 5) (gLst (gCons (gFunK g_right_moves (gCons (gC (.str "v")) (gCons (gBin oIx (gVarB 8) (gC (.int 2))) (gCons (gBin oIx (gVarB 8) (gC (.int 1))) (gCons (gBin oIx (gVarB 8) (gC (.int 0))) gNil))))) gNil))))
    (gSet 5 (gBin oAdd (gVarB 5) (gLst (gCons (gFunK g_a_right_shift (gCons (gC (.str "v")) (gCons (gBin oIx (gVarB 8) (gC (.int 2))) (gCons (gBin oIx (gVarB 8) (gC (.int 1))) (gCons (gBin oIx (gVarB 8) (gC (.int 0))) gNil))))) gNil))))))
    (gSeq (gSet 6 (gBin oAdd (gBin oAdd (gBin oAdd (gVarB 6) (gLst (gCons (gLst (gCons (gC (.str "q")) (gCons (gC (.bool true)) gNil))) (gCons (gLst (gCons (gC (.str "q")) (gCons (gC (.bool true)) gNil))) gNil)))) (gBin oMul (gLst (gCons (gC (.int 1)) (gCons (gTup (gCons (gC (.str "v")) (gCons (gC (.str "p")) (gCons (gC (.str "t")) (gCons (gC (.str "q")) gNil))))) gNil))) (gC (.int 2)))) (gLst (gCons (gFun g__law_lists (gCons (gVar 0) gNil)) (gCons (gFun g__law_lists (gCons (gVar 1) gNil)) (gCons (gFun g__law_lists (gCons (gVar 2) gNil)) gNil))))))
    (gSeq (gIfS (gNot (gTst (gFun g__law_same (gCons (gBin oAdd (gVarB 5) (gVarB 7)) (gCons (gVar 6) gNil))))) (gRet (gC (.bool false))) gNext)
    (gSeq (gSet 9 (gTup (gCons (gTup (gCons (gC (.str "p")) (gCons (gC (.str "q")) (gCons (gC (.str "r")) gNil)))) (gCons (gTup (gCons (gTup (gCons (gC (.str "a")) (gCons (gTup (gCons (gC (.str "p")) (gCons (gC (.str "q")) gNil))) gNil))) (gCons (gTup (gCons (gC (.str "b")) (gCons (gTup (gCons (gC (.str "q")) (gCons (gC (.str "r")) gNil))) gNil))) (gCons (gTup (gCons (gC (.str "k")) (gCons (gTup (gCons (gC (.str "q")) gNil)) gNil))) (gCons (gTup (gCons (gC (.str "m")) (gCons (gTup (gCons (gC (.str "r")) gNil)) gNil))) gNil))))) gNil))))
    (gSeq (gSet 10 (gTup (gCons (gTup (gCons (gC (.str "v")) (gCons (gC (.str "k")) gNil))) (gCons (gTup (gCons (gC (.str "t")) (gCons (gC (.str "a")) gNil))) (gCons (gTup (gCons (gC (.str "u")) (gCons (gC (.str "b")) gNil))) (gCons (gTup (gCons (gC (.str "w")) (gCons (gC (.str "m")) gNil))) gNil))))))
    (gSeq (gSet 11 (gLst (gCons (gTup (gCons (gVar 0) (gCons (gVar 1) (gCons (gVar 2) gNil)))) (gCons (gTup (gCons (gVar 0) (gCons (gVar 3) (gCons (gVar 4) gNil)))) (gCons (gTup (gCons (gVar 9) (gCons (gVar 10) (gCons (gTup (gCons (gTup (gCons (gC (.str "p")) (gCons (gC (.str "t")) gNil))) (gCons (gTup (gCons (gC (.str "q")) (gCons (gC (.str "u")) gNil))) (gCons (gTup (gCons (gC (.str "r")) (gCons (gC (.str "w")) gNil))) gNil)))) gNil)))) gNil)))))
    (gSeq (gIfS (gNot (gTst (gCall oAll (gCons (gLc [8] (gSeqI (gVar 11)) (ggName 8) gYes (gFun g__law_case_right (gCons (gBin oIx (gVarB 8) (gC (.int 0))) (gCons (gBin oIx (gVarB 8) (gC (.int 1))) (gCons (gBin oIx (gVarB 8) (gC (.int 2))) gNil))))) gNil)))) (gRet (gC (.bool false))) gNext)
    (gSeq (gIfS (gNot (gTst (gCall oAll (gCons (gLc [12] (gStrI (gC (.str "vtuw"))) (ggName 12) gYes (gFun g__law_alone_right (gCons (gVar 9) (gCons (gVar 10) (gCons (gVar 12) gNil))))) gNil)))) (gRet (gC (.bool false))) gNext)
    (gRet (gCall oAll (gCons (gLc [12] (gStrI (gC (.str "vxy"))) (ggName 12) gYes (gFun g__law_alone_right (gCons (gVar 0) (gCons (gVar 3) (gCons (gVar 12) gNil))))) gNil))))))))))))))))))))))))
theorem w__law_by_hand_right {g__law_kit g_right_moves g_a_right_shift g_ideal g__law_heard g__law_lists g__law_half g__law_same g__law_case_right g__law_alone_right : GF} (T : Bt mg) (h__law_kit : Has P w K mg base "_law_kit" 1 [] g__law_kit) (h_right_moves : Has P w K mg base "right_moves" 14 ["book", "ready", "seating", "task"] g_right_moves) (h_a_right_shift : Has P w K mg base "a_right_shift" 14 ["book", "ready", "seating", "task"] g_a_right_shift) (h_ideal : Has P w K mg base "ideal" 14 ["book", "ready"] g_ideal) (h__law_heard : Has P w K mg base "_law_heard" 15 ["_law_door", "_law_web_here", "_law_row_so", "_law_seats_so", "_law_tag"] g__law_heard) (h__law_lists : Has P w K mg base "_law_lists" 10 ["_law_matter"] g__law_lists) (h__law_half : Has P w K mg base "_law_half" 11 ["_law_matter"] g__law_half) (hK_right_moves : HasK P w K mg base "right_moves" 14 ["book", "ready", "seating", "task"] g_right_moves) (hK_a_right_shift : HasK P w K mg base "a_right_shift" 14 ["book", "ready", "seating", "task"] g_a_right_shift) (h__law_same : Has P w K mg base "_law_same" 10 ["_law_got", "_law_due"] g__law_same) (h__law_case_right : Has P w K mg base "_law_case_right" 15 ["_law_web_here", "_law_row_so", "_law_seats_so"] g__law_case_right) (h__law_alone_right : Has P w K mg base "_law_alone_right" 17 ["_law_web_here", "_law_row_so", "_law_tag"] g__law_alone_right) {f : Addr} {cdv : Value} {A : Around} {outer : List Env} {s : Shared} {H : Hp} {E : XK} (hr : Room 17 (A.deeper (envOfC "_law_by_hand_right" (defScope (top 59)) s.heap.objs.size f cdv))) :
    DSs (cxOf CX0 P w K mg base nm__law_by_hand_right "_law_by_hand_right" (defScope (top 59)) f cdv A outer s H E).nox (defBody (top 59)) (gb__law_by_hand_right g__law_kit g_right_moves g_a_right_shift g_ideal g__law_heard g__law_lists g__law_half g__law_same g__law_case_right g__law_alone_right) := by
  have nd := sc__law_by_hand_right.nd
  exact (ss_cons (s_tup3 (i := 0) (j := 1) (l := 2) (by rfl) nd (by rfl) (by rfl) (by rfl) (by first | exact Or.inl rfl | exact Or.inr rfl) (by first | exact Or.inl rfl | exact Or.inr rfl) (by first | exact Or.inl rfl | exact Or.inr rfl) (dk_dat (d_has0 h__law_kit (hr.mono (by decide))) (dk_dat (d_tup (da_cons (d_tup (da_cons d_str (da_cons d_str da_nil))) (da_cons (d_tup (da_cons d_str (da_cons d_str da_nil))) (da_cons (d_tup (da_cons d_str (da_cons d_str da_nil))) da_nil)))) (dk_dat (d_tup (da_cons (d_tup (da_cons d_str (da_cons d_str da_nil))) (da_cons (d_tup (da_cons d_str (da_cons d_str da_nil))) da_nil))) dk_nil))) rfl (by rfl))
    (ss_cons (s_tup2 (i := 3) (j := 4) (by rfl) nd (by rfl) (by rfl) (by first | exact Or.inl rfl | exact Or.inr rfl) (by first | exact Or.inl rfl | exact Or.inr rfl) (dk_dat (d_tup (da_cons (d_tup (da_cons d_str (da_cons d_str da_nil))) (da_cons (d_tup (da_cons d_str (da_cons d_str da_nil))) (da_cons (d_tup (da_cons d_str (da_cons d_str da_nil))) da_nil)))) (dk_dat (d_tup (da_cons (d_tup (da_cons d_str (da_cons d_str da_nil))) (da_cons (d_tup (da_cons d_str (da_cons d_str da_nil))) da_nil))) dk_nil)) rfl (by rfl))
    (ss_cons (s_set nd (i := 5) (by rfl) (by first | exact Or.inl rfl | exact Or.inr rfl) (DF.de (f_lst (da_cons (DF.de (f_lc (by rfl) nd (i_str (DE.db d_str)) (blkOk_by (N := nm__law_by_hand_right) (sc := defScope (top 59)) (own := [("_law_tag", 12)]) (by decide +kernel)) rfl (fun _ _ _ _ _ => (g_name nd (i := 12) (by rfl) (by first | exact Or.inl rfl | exact Or.inr rfl))) (fun _ _ _ _ _ => ts_nil) (fun _ _ _ _ _ => (d_has h_right_moves (hr.mono (by decide)) (da_cons (dv 0) (da_cons (dv 1) (da_cons (dv 2) (da_cons (dv 12) da_nil)))))))) da_nil))))
    (ss_cons (s_set nd (i := 5) (by rfl) (by first | exact Or.inl rfl | exact Or.inr rfl) (d_bin p_add (bv 5) (DF.db (f_lst (da_cons (d_has h_right_moves (hr.mono (by decide)) (da_cons (dv 0) (da_cons (dv 3) (da_cons (dv 4) (da_cons d_str da_nil))))) da_nil)))))
    (ss_cons (s_set nd (i := 5) (by rfl) (by first | exact Or.inl rfl | exact Or.inr rfl) (d_bin p_add (bv 5) (DF.db (f_lst (da_cons (d_has h_a_right_shift (hr.mono (by decide)) (da_cons (dv 0) (da_cons (dv 3) (da_cons (dv 4) (da_cons d_str da_nil))))) da_nil)))))
    (ss_cons (s_set nd (i := 5) (by rfl) (by first | exact Or.inl rfl | exact Or.inr rfl) (d_bin p_add (bv 5) (DF.db (f_lst (da_cons (d_has h_a_right_shift (hr.mono (by decide)) (da_cons (dv 0) (da_cons (dv 3) (da_cons (dv 4) (da_cons d_str da_nil))))) da_nil)))))
    (ss_cons (s_set nd (i := 6) (by rfl) (by first | exact Or.inl rfl | exact Or.inr rfl) (DF.de (f_lst (da_cons (DF.de (f_lst (da_cons d_non (da_cons d_int (da_cons d_non da_nil))))) (da_cons d_int (da_cons (d_tup (da_cons d_str (da_cons d_str (da_cons d_str (da_cons d_str da_nil))))) (da_cons d_non da_nil)))))))
    (ss_cons (s_set nd (i := 5) (by rfl) (by first | exact Or.inl rfl | exact Or.inr rfl) (d_bin p_add (bv 5) (DF.db (f_lst (da_cons (d_has h_right_moves (hr.mono (by decide)) (da_cons (dv 0) (da_cons (dv 3) (da_cons (d_tup (da_cons (d_tup (da_cons d_str (da_cons d_str da_nil))) da_nil)) (da_cons d_str da_nil))))) da_nil)))))
    (ss_cons (s_set nd (i := 5) (by rfl) (by first | exact Or.inl rfl | exact Or.inr rfl) (d_bin p_add (bv 5) (DF.db (f_lst (da_cons (d_has h_right_moves (hr.mono (by decide)) (da_cons (dv 0) (da_cons (dv 3) (da_cons (d_tup (da_cons (d_tup (da_cons d_str (da_cons d_str da_nil))) da_nil)) (da_cons d_str da_nil))))) da_nil)))))
    (ss_cons (s_set nd (i := 5) (by rfl) (by first | exact Or.inl rfl | exact Or.inr rfl) (d_bin p_add (bv 5) (DF.db (f_lst (da_cons (d_has h_ideal (hr.mono (by decide)) (da_cons (dv 0) (da_cons (dv 3) da_nil))) (da_cons (d_has h_right_moves (hr.mono (by decide)) (da_cons (dv 0) (da_cons (dv 3) (da_cons (d_tup da_nil) (da_cons d_str da_nil))))) da_nil))))))
    (ss_cons (s_set nd (i := 6) (by rfl) (by first | exact Or.inl rfl | exact Or.inr rfl) (d_bin p_add (bv 6) (DF.db (f_lst (da_cons d_int (da_cons d_int (da_cons (d_tup (da_cons d_str (da_cons d_str da_nil))) (da_cons d_int da_nil))))))))
    (ss_cons (s_set nd (i := 5) (by rfl) (by first | exact Or.inl rfl | exact Or.inr rfl) (d_bin p_add (bv 5) (DF.db (f_lc (by rfl) nd (i_rng1 (by rfl) T.range (DE.db d_int)) (blkOk_by (N := nm__law_by_hand_right) (sc := defScope (top 59)) (own := [("_law_door", 13)]) (by decide +kernel)) rfl (fun _ _ _ _ _ => (g_name nd (i := 13) (by rfl) (by first | exact Or.inl rfl | exact Or.inr rfl))) (fun _ _ _ _ _ => ts_nil) (fun _ _ _ _ _ => (d_has h__law_heard (hr.mono (by decide)) (da_cons (dv 13) (da_cons (dv 0) (da_cons (dv 1) (da_cons (dv 2) (da_cons d_str da_nil)))))))))))
    (ss_cons (s_set nd (i := 7) (by rfl) (by first | exact Or.inl rfl | exact Or.inr rfl) (DF.de (f_lst (da_cons (d_has h__law_lists (hr.mono (by decide)) (da_cons (dv 0) da_nil)) (da_cons (d_has h__law_lists (hr.mono (by decide)) (da_cons (dv 1) da_nil)) (da_cons (d_has h__law_lists (hr.mono (by decide)) (da_cons (dv 2) da_nil)) da_nil))))))
    (ss_cons (s_for PassesOwn.never (by rfl) (i_seq (d_tup (da_cons (dv 7) (da_cons (DF.de (f_lst (da_cons (d_has h__law_half (hr.mono (by decide)) (da_cons (dv 0) da_nil)) (da_cons (d_tup (da_cons (DF.de (f_lst (da_cons d_str (da_cons d_str da_nil)))) (da_cons (d_tup (da_cons d_str (da_cons d_str da_nil))) (da_cons (DF.de (f_lst (da_cons d_str (da_cons d_str da_nil)))) da_nil)))) (da_cons (d_tup (da_cons (DF.de (f_lst (da_cons d_str (da_cons d_str da_nil)))) (da_cons (d_tup (da_cons d_str (da_cons d_str da_nil))) da_nil))) da_nil))))) da_nil)))) (g_name nd (i := 8) (by rfl) (by first | exact Or.inl rfl | exact Or.inr rfl)) (ss_cons (s_set nd (i := 5) (by rfl) (by first | exact Or.inl rfl | exact Or.inr rfl) (d_bin p_add (bv 5) (DF.db (f_lst (da_cons (d_hasK hK_right_moves (hr.mono (by decide)) (kw_cons d_str (kw_cons (d_ix (bv 8) (DE.db d_int)) (kw_cons (d_ix (bv 8) (DE.db d_int)) (kw_cons (d_ix (bv 8) (DE.db d_int)) kw_nil))))) da_nil)))))
    (ss_one (s_set nd (i := 5) (by rfl) (by first | exact Or.inl rfl | exact Or.inr rfl) (d_bin p_add (bv 5) (DF.db (f_lst (da_cons (d_hasK hK_a_right_shift (hr.mono (by decide)) (kw_cons d_str (kw_cons (d_ix (bv 8) (DE.db d_int)) (kw_cons (d_ix (bv 8) (DE.db d_int)) (kw_cons (d_ix (bv 8) (DE.db d_int)) kw_nil))))) da_nil))))))))
    (ss_cons (s_set nd (i := 6) (by rfl) (by first | exact Or.inl rfl | exact Or.inr rfl) (d_bin p_add (DE.db (d_bin p_add (DE.db (d_bin p_add (bv 6) (DF.db (f_lst (da_cons (DF.de (f_lst (da_cons d_str (da_cons d_bl da_nil)))) (da_cons (DF.de (f_lst (da_cons d_str (da_cons d_bl da_nil)))) da_nil)))))) (DE.db (d_bin p_mul (DF.db (f_lst (da_cons d_int (da_cons (d_tup (da_cons d_str (da_cons d_str (da_cons d_str (da_cons d_str da_nil))))) da_nil)))) (DE.db d_int))))) (DF.db (f_lst (da_cons (d_has h__law_lists (hr.mono (by decide)) (da_cons (dv 0) da_nil)) (da_cons (d_has h__law_lists (hr.mono (by decide)) (da_cons (dv 1) da_nil)) (da_cons (d_has h__law_lists (hr.mono (by decide)) (da_cons (dv 2) da_nil)) da_nil)))))))
    (ss_cons (s_if (t_not (t_val (d_has h__law_same (hr.mono (by decide)) (da_cons (d_bin p_add (bv 5) (bv 7)) (da_cons (dv 6) da_nil))))) (ss_one (s_ret d_bl)) ss_nil)
    (ss_cons (s_set nd (i := 9) (by rfl) (by first | exact Or.inl rfl | exact Or.inr rfl) (d_tup (da_cons (d_tup (da_cons d_str (da_cons d_str (da_cons d_str da_nil)))) (da_cons (d_tup (da_cons (d_tup (da_cons d_str (da_cons (d_tup (da_cons d_str (da_cons d_str da_nil))) da_nil))) (da_cons (d_tup (da_cons d_str (da_cons (d_tup (da_cons d_str (da_cons d_str da_nil))) da_nil))) (da_cons (d_tup (da_cons d_str (da_cons (d_tup (da_cons d_str da_nil)) da_nil))) (da_cons (d_tup (da_cons d_str (da_cons (d_tup (da_cons d_str da_nil)) da_nil))) da_nil))))) da_nil))))
    (ss_cons (s_set nd (i := 10) (by rfl) (by first | exact Or.inl rfl | exact Or.inr rfl) (d_tup (da_cons (d_tup (da_cons d_str (da_cons d_str da_nil))) (da_cons (d_tup (da_cons d_str (da_cons d_str da_nil))) (da_cons (d_tup (da_cons d_str (da_cons d_str da_nil))) (da_cons (d_tup (da_cons d_str (da_cons d_str da_nil))) da_nil))))))
    (ss_cons (s_set nd (i := 11) (by rfl) (by first | exact Or.inl rfl | exact Or.inr rfl) (DF.de (f_lst (da_cons (d_tup (da_cons (dv 0) (da_cons (dv 1) (da_cons (dv 2) da_nil)))) (da_cons (d_tup (da_cons (dv 0) (da_cons (dv 3) (da_cons (dv 4) da_nil)))) (da_cons (d_tup (da_cons (dv 9) (da_cons (dv 10) (da_cons (d_tup (da_cons (d_tup (da_cons d_str (da_cons d_str da_nil))) (da_cons (d_tup (da_cons d_str (da_cons d_str da_nil))) (da_cons (d_tup (da_cons d_str (da_cons d_str da_nil))) da_nil)))) da_nil)))) da_nil))))))
    (ss_cons (s_if (t_not (t_val (b_all T (by rfl) (DF.db (f_lc (by rfl) nd (i_seq (dv 11)) (blkOk_by (N := nm__law_by_hand_right) (sc := defScope (top 59)) (own := [("_law_own", 8)]) (by decide +kernel)) rfl (fun _ _ _ _ _ => (g_name nd (i := 8) (by rfl) (by first | exact Or.inl rfl | exact Or.inr rfl))) (fun _ _ _ _ _ => ts_nil) (fun _ _ _ _ _ => (d_has h__law_case_right (hr.mono (by decide)) (da_cons (d_ix (bv 8) (DE.db d_int)) (da_cons (d_ix (bv 8) (DE.db d_int)) (da_cons (d_ix (bv 8) (DE.db d_int)) da_nil)))))))))) (ss_one (s_ret d_bl)) ss_nil)
    (ss_cons (s_if (t_not (t_val (b_all T (by rfl) (DF.db (f_lc (by rfl) nd (i_str (DE.db d_str)) (blkOk_by (N := nm__law_by_hand_right) (sc := defScope (top 59)) (own := [("_law_tag", 12)]) (by decide +kernel)) rfl (fun _ _ _ _ _ => (g_name nd (i := 12) (by rfl) (by first | exact Or.inl rfl | exact Or.inr rfl))) (fun _ _ _ _ _ => ts_nil) (fun _ _ _ _ _ => (d_has h__law_alone_right (hr.mono (by decide)) (da_cons (dv 9) (da_cons (dv 10) (da_cons (dv 12) da_nil)))))))))) (ss_one (s_ret d_bl)) ss_nil)
    (ss_one (s_ret (b_all T (by rfl) (DF.db (f_lc (by rfl) nd (i_str (DE.db d_str)) (blkOk_by (N := nm__law_by_hand_right) (sc := defScope (top 59)) (own := [("_law_tag", 12)]) (by decide +kernel)) rfl (fun _ _ _ _ _ => (g_name nd (i := 12) (by rfl) (by first | exact Or.inl rfl | exact Or.inr rfl))) (fun _ _ _ _ _ => ts_nil) (fun _ _ _ _ _ => (d_has h__law_alone_right (hr.mono (by decide)) (da_cons (dv 0) (da_cons (dv 3) (da_cons (dv 12) da_nil)))))))))))))))))))))))))))))))

/-! ### _law_right -/
abbrev nm__law_right : List Str := ["_law_tub", "_law_turn", "_law_web_here", "_law_row_so"]
theorem sc__law_right : FnScope nm__law_right ["_law_tub"] (defScope (top 60)) := ⟨rfl, rfl, rfl, by decide +kernel, rfl, by decide +kernel, by decide +kernel⟩
def gb__law_right (g__law_web g__law_row g__law_case_right g__law_seats g__law_alone_right g__law_of : GF) : GS := (gSeq (gFor (gRng1 (gC (.int 8))) (ggName 1) (gSeq (gSet 2 (gFun g__law_web (gCons (gVar 0) (gCons (gC (.int 4)) (gCons (gC (.int 4)) gNil)))))
    (gSeq (gSet 3 (gFun g__law_row (gCons (gVar 0) (gCons (gVar 2) (gCons (gC (.int 6)) gNil)))))
    (gSeq (gIfS (gNot (gTst (gFun g__law_case_right (gCons (gVar 2) (gCons (gVar 3) (gCons (gFun g__law_seats (gCons (gVar 0) (gCons (gVar 2) (gCons (gVar 3) gNil)))) gNil)))))) (gRet (gC (.bool false))) gNext)
    (gIfS (gAnd (gTst (gBin oNe (gVarB 3) (gTup gNil))) (gNot (gTst (gFun g__law_alone_right (gCons (gVar 2) (gCons (gVar 3) (gCons (gBin oIx (gFun g__law_of (gCons (gVar 0) (gCons (gVar 3) gNil))) (gC (.int 0))) gNil))))))) (gRet (gC (.bool false))) gNext)))))
    (gRet (gC (.bool true))))
theorem w__law_right {g__law_web g__law_row g__law_case_right g__law_seats g__law_alone_right g__law_of : GF} (T : Bt mg) (h__law_web : Has P w K mg base "_law_web" 3 ["_law_tub", "_law_wide_so", "_law_many_so"] g__law_web) (h__law_row : Has P w K mg base "_law_row" 3 ["_law_tub", "_law_web_here", "_law_most_so"] g__law_row) (h__law_case_right : Has P w K mg base "_law_case_right" 15 ["_law_web_here", "_law_row_so", "_law_seats_so"] g__law_case_right) (h__law_seats : Has P w K mg base "_law_seats" 3 ["_law_tub", "_law_web_here", "_law_row_so"] g__law_seats) (h__law_alone_right : Has P w K mg base "_law_alone_right" 17 ["_law_web_here", "_law_row_so", "_law_tag"] g__law_alone_right) (h__law_of : Has P w K mg base "_law_of" 2 ["_law_tub", "_law_few_so"] g__law_of) {f : Addr} {cdv : Value} {A : Around} {outer : List Env} {s : Shared} {H : Hp} {E : XK} (hr : Room 17 (A.deeper (envOfC "_law_right" (defScope (top 60)) s.heap.objs.size f cdv))) :
    DSs (cxOf CX0 P w K mg base nm__law_right "_law_right" (defScope (top 60)) f cdv A outer s H E).nox (defBody (top 60)) (gb__law_right g__law_web g__law_row g__law_case_right g__law_seats g__law_alone_right g__law_of) := by
  have nd := sc__law_right.nd
  exact (ss_cons (s_for PassesOwn.never (by rfl) (i_rng1 (by rfl) T.range (DE.db d_int)) (g_name nd (i := 1) (by rfl) (by first | exact Or.inl rfl | exact Or.inr rfl)) (ss_cons (s_set nd (i := 2) (by rfl) (by first | exact Or.inl rfl | exact Or.inr rfl) (d_has h__law_web (hr.mono (by decide)) (da_cons (dv 0) (da_cons d_int (da_cons d_int da_nil)))))
    (ss_cons (s_set nd (i := 3) (by rfl) (by first | exact Or.inl rfl | exact Or.inr rfl) (d_has h__law_row (hr.mono (by decide)) (da_cons (dv 0) (da_cons (dv 2) (da_cons d_int da_nil)))))
    (ss_cons (s_if (t_not (t_val (d_has h__law_case_right (hr.mono (by decide)) (da_cons (dv 2) (da_cons (dv 3) (da_cons (d_has h__law_seats (hr.mono (by decide)) (da_cons (dv 0) (da_cons (dv 2) (da_cons (dv 3) da_nil)))) da_nil)))))) (ss_one (s_ret d_bl)) ss_nil)
    (ss_one (s_if (DW.dt (w_and (t_cmp (p_ne (rm64 hr)) (bv 3) (DE.db (d_tup da_nil)) (by rfl)) (w_and1 (t_not (t_val (d_has h__law_alone_right (hr.mono (by decide)) (da_cons (dv 2) (da_cons (dv 3) (da_cons (d_ix (DE.db (d_has h__law_of (hr.mono (by decide)) (da_cons (dv 0) (da_cons (dv 3) da_nil)))) (DE.db d_int)) da_nil))))))))) (ss_one (s_ret d_bl)) ss_nil))))))
    (ss_one (s_ret d_bl)))

/-! ### law -/
abbrev nm_law : List Str := ["_law_script", "_law_cells_so", "_law_k"]
theorem sc_law : FnScope nm_law ["_law_script"] (defScope (top 61)) := ⟨rfl, rfl, rfl, by decide +kernel, rfl, by decide +kernel, by decide +kernel⟩
def gb_law (g__law_by_hand_right g__law_cells g__law_right g__law_box : GF) : GS := (gSeq (gIfS (gNot (gTst (gFun g__law_by_hand_right gNil))) (gRet (gC (.bool false))) gNext)
    (gSeq (gSet 1 (gFun g__law_cells (gCons (gVar 0) (gCons (gC (.int 2)) gNil))))
    (gRet (gCall oAll (gCons (gLc [2] (gRng1 (gCall oLen (gCons (gVarB 1) gNil))) (ggName 2) gYes (gCallTub g__law_right (gFun g__law_box (gCons (gVar 1) (gCons (gVar 2) gNil))))) gNil)))))
theorem w_law {g__law_by_hand_right g__law_cells g__law_right g__law_box : GF} (T : Bt mg) (h__law_by_hand_right : Has P w K mg base "_law_by_hand_right" 18 [] g__law_by_hand_right) (h__law_cells : Has P w K mg base "_law_cells" 1 ["_law_script", "_law_most_so"] g__law_cells) (h__law_right : Has P w K mg base "_law_right" 18 ["_law_tub"] g__law_right) (h__law_box : HasF P w K mg base "_law_box" 1 ["_law_script", "_law_k"] g__law_box) {f : Addr} {cdv : Value} {A : Around} {outer : List Env} {s : Shared} {H : Hp} {E : XK} (hr : Room 18 (A.deeper (envOfC "law" (defScope (top 61)) s.heap.objs.size f cdv))) :
    DSs (cxOf CX0 P w K mg base nm_law "law" (defScope (top 61)) f cdv A outer s H E).nox (defBody (top 61)) (gb_law g__law_by_hand_right g__law_cells g__law_right g__law_box) := by
  have nd := sc_law.nd
  exact (ss_cons (s_if (t_not (t_val (d_has0 h__law_by_hand_right (hr.mono (by decide))))) (ss_one (s_ret d_bl)) ss_nil)
    (ss_cons (s_set nd (i := 1) (by rfl) (by first | exact Or.inl rfl | exact Or.inr rfl) (d_has h__law_cells (hr.mono (by decide)) (da_cons (dv 0) (da_cons d_int da_nil))))
    (ss_one (s_ret (b_all T (by rfl) (DF.db (f_lc (by rfl) nd (i_rng1 (by rfl) T.range (DE.db (b_len T (bv 1)))) (blkOk_by (N := nm_law) (sc := defScope (top 61)) (own := [("_law_k", 2)]) (by decide +kernel)) rfl (fun _ _ _ _ _ => (g_name nd (i := 2) (by rfl) (by first | exact Or.inl rfl | exact Or.inr rfl))) (fun _ _ _ _ _ => ts_nil) (fun _ _ _ _ _ => (d_hasT h__law_right (hr.mono (by decide)) (f_has h__law_box (hr.mono (by decide)) (da_cons (dv 1) (da_cons (dv 2) da_nil))))))))))))

end
end M
end

section
/-! Laws of the readings' loops, by invariants. -/
namespace L2.DL
open PySem PySem.Spec PySem.Calls PyProof.Rows L2

section
variable {α : Type} {gg : GG} {gb : GS} {D : DEnds}
theorem forL_inv {f : α → PyData} (I : List α → List Sl → Nat → Prop) (fin : ∀ env n, I [] env n → D.nx env n)
    (step : ∀ x xs env n (R : List Sl → Nat → Prop), I (x :: xs) env n → (∀ env' n', I xs env' n' → R env' n') → gg (f x) env fun env' => gb { D with nx := R, ct := R, bk := D.nx } env' n) :
    ∀ (xs : List α) (env : List Sl) (n : Nat), I xs env n → gForL gg gb D (xs.map f) env n
  | [], env, n, h => fin env n h
  | x :: xs, env, n, h => step x xs env n _ h fun env' n' h' => forL_inv I fin step xs env' n' h'
theorem while_inv {gc : GT} (I : Nat → List Sl → Nat → Prop)
    (step : ∀ m env n (R : List Sl → Nat → Prop), I m env n → (∀ m' env' n', m' < m → I m' env' n' → R env' n') → gc env n fun b n' => if b = true then gb { D with nx := R, ct := R, bk := D.nx } env n' else D.nx env n')
    {m : Nat} {env : List Sl} {n : Nat} (h : I m env n) : gWhile gc gb D env n := by
  have go : ∀ (k m : Nat) (env : List Sl) (n : Nat), m < k → I m env n → gWhileN gc gb D k env n := by
    intro k
    induction k with
    | zero => intro m env n hm; omega
    | succ k ih =>
      intro m env n hm h
      exact step m env n _ h fun m' env' n' hlt h' => ih m' env' n' (by omega) h'
  exact ⟨m + 1, go _ m env n (Nat.lt_succ_self m) h⟩
theorem lcL_pure {gt : GT} {ge : GE} {env : List Sl} {Q : List PyData → Nat → Prop} {n : Nat} {f : α → PyData} (p : α → Bool) (h : α → PyData) : ∀ (xs : List α) (acc : List PyData),
    (∀ x ∈ xs, ∀ (R1 : PyData → Nat → Prop) (R2 : Nat → Prop), (p x = true → R1 (h x) n) → (p x = false → R2 n) → gg (f x) env fun env' => gt env' n fun b n1 => if b = true then ge env' n1 R1 else R2 n1) →
    acc.length + xs.length ≤ sizeLine → Q (acc ++ (xs.filter p).map h) n → gLcL gg gt ge env Q (xs.map f) acc n
  | [], acc, _, _, q => by
    have e : acc ++ (([] : List α).filter p).map h = acc := by simp
    rw [e] at q
    exact q
  | x :: xs, acc, step, hz, q => by
    refine step x List.mem_cons_self _ _ (fun e => ⟨by rw [List.length_cons] at hz; omega, ?_⟩) fun e => ?_
    · refine lcL_pure p h xs (acc ++ [h x]) (fun y hy => step y (List.mem_cons_of_mem _ hy)) (by rw [List.length_append]; simp at hz ⊢; omega) ?_
      rw [List.filter_cons_of_pos e, List.map_cons] at q
      simpa using q
    · refine lcL_pure p h xs acc (fun y hy => step y (List.mem_cons_of_mem _ hy)) (by rw [List.length_cons] at hz; omega) ?_
      rwa [List.filter_cons_of_neg (by simp [e])] at q
theorem lcL_map {ge : GE} {env : List Sl} {Q : List PyData → Nat → Prop} {n : Nat} {f : α → PyData} (h : α → PyData) : ∀ (xs : List α) (acc : List PyData),
    (∀ x ∈ xs, ∀ R : PyData → Nat → Prop, R (h x) n → gg (f x) env fun env' => ge env' n R) → acc.length + xs.length ≤ sizeLine → Q (acc ++ xs.map h) n → gLcL gg gYes ge env Q (xs.map f) acc n
  | [], acc, _, _, q => by
    have e : acc ++ ([] : List α).map h = acc := by simp
    rw [e] at q
    exact q
  | x :: xs, acc, step, hz, q => step x List.mem_cons_self (fun y n2 => acc.length < sizeLine ∧ gLcL gg gYes ge env Q (xs.map f) (acc ++ [y]) n2) ⟨by rw [List.length_cons] at hz; omega,
    lcL_map h xs (acc ++ [h x]) (fun y hy => step y (List.mem_cons_of_mem _ hy)) (by rw [List.length_append]; simp at hz ⊢; omega) (by simpa using q)⟩
/-- .. with draws: an invariant over what is left, what is gathered, the count -/
theorem lcL_inv {gt : GT} {ge : GE} {env : List Sl} {Q : List PyData → Nat → Prop} {f : α → PyData} (I : List α → List PyData → Nat → Prop) (fin : ∀ acc n, I [] acc n → Q acc n)
    (step : ∀ x xs acc n (R : List PyData → Nat → Prop), I (x :: xs) acc n → (∀ acc' n', I xs acc' n' → R acc' n') → gg (f x) env fun env' => gt env' n fun b n1 => if b = true then ge env' n1 fun y n2 => acc.length < sizeLine ∧ R (acc ++ [y]) n2 else R acc n1) :
    ∀ (xs : List α) (acc : List PyData) (n : Nat), I xs acc n → gLcL gg gt ge env Q (xs.map f) acc n
  | [], acc, n, h => fin acc n h
  | x :: xs, acc, n, h => step x xs acc n _ h fun acc' n' h' => lcL_inv I fin step xs acc' n' h'
theorem putD_length (ds : List (PyData × PyData)) (x y : PyData) : (putD ds x y).length ≤ ds.length + 1 := by
  unfold putD
  split
  · rw [List.length_map]; omega
  · rw [(List.length_append)]; simp
theorem dcL_pure {gk ge : GE} {env : List Sl} {Q : List (PyData × PyData) → Nat → Prop} {n : Nat} {f : α → PyData} (k v : α → PyData) : ∀ (xs : List α) (acc : List (PyData × PyData)),
    (∀ x ∈ xs, isKey (k x) = true ∧ ∀ R : PyData → PyData → Nat → Prop, R (k x) (v x) n → gg (f x) env fun env' => gk env' n fun a n1 => ge env' n1 fun b n2 => R a b n2) → acc.length + xs.length ≤ sizeLine → Q (xs.foldl (fun acc x => putD acc (k x) (v x)) acc) n → gDcL gg gk ge env Q (xs.map f) acc n
  | [], _, _, _, q => q
  | x :: xs, acc, step, hz, q => by
    obtain ⟨hk, st⟩ := step x List.mem_cons_self
    have hl := putD_length acc (k x) (v x)
    rw [List.length_cons] at hz
    exact st (fun a b n2 => isKey a = true ∧ acc.length < sizeLine ∧ gDcL gg gk ge env Q (xs.map f) (putD acc a b) n2) ⟨hk, by omega, dcL_pure k v xs _ (fun y hy => step y (List.mem_cons_of_mem _ hy)) (by omega) q⟩
end
end L2.DL
end

section
namespace M
open PySem PySem.Spec PySem.Calls PyProof.Rows L2 L2.DL

/-! ### typed data -/
def seqD (b : Bool) (ds : List PyData) : PyData := if b = true then .list ds else .tuple ds
abbrev SP := Bool × Str × Str
def spE (r : SP) : PyData := seqD r.1 [.str r.2.1, .str r.2.2]
def readyD (b : Bool) (rs : List SP) : PyData := seqD b (rs.map spE)
abbrev sL (xs : List Str) : List PyData := xs.map .str
def tks (rs : List SP) : List Str := rs.map fun r => r.2.1
def g_tasks_of : GF := fun ds n Q => ∃ b rs, ds = [readyD b rs] ∧ rs.length ≤ 1000 ∧ Q (.list (sL (tks rs))) n
theorem law_tasks_of (ds : List PyData) (n : Nat) (Q : GK) (h : g_tasks_of ds n Q) : gb_tasks_of { nx := fun _ n => Q .none n, rt := Q } (startE nm_tasks_of ds) n := by
  obtain ⟨b, rs, rfl, hl, q⟩ := h
  refine ⟨?_, ?_⟩
  · intro i hi d e
    simp at hi
    rcases hi with rfl | rfl <;> cases e
  · have key : gLcL (ggPair 1 2) gYes (gVar 1) (wipeE (startE nm_tasks_of [readyD b rs]) [1, 2]) (fun acc n'' => Q (.list acc) n'') (rs.map spE) [] n := by
      refine lcL_map (fun r => .str r.2.1) rs [] (fun r _ R1 h1 => ?_) (by simp; exact Nat.le_trans hl (by decide)) ?_
      · obtain ⟨b', x, y⟩ := r
        refine ⟨(by decide : (1 : Nat) < 3), (by decide : (2 : Nat) < 3), ?_⟩
        cases b' <;> exact h1
      · have e : sL (tks rs) = rs.map fun r => .str r.2.1 := by show (rs.map _).map _ = _; rw [List.map_map]; rfl
        rw [e] at q
        exact q
    cases b <;> exact key
end M
end

section
namespace M
open PySem PySem.Spec PySem.Calls PyProof.Rows L2 L2.DL

/-! ### dicts with texts as keys -/
section
variable {α : Type}
def mapD (e : α → PyData) (ps : List (Str × α)) : List (PyData × PyData) := ps.map fun p => (.str p.1, e p.2)
def putS (ps : List (Str × α)) (x : Str) (v : α) : List (Str × α) := if (ps.any fun p => p.1 == x) = true then ps.map (fun p => if (p.1 == x) = true then (p.1, v) else p) else ps ++ [(x, v)]
theorem eqv_s (a b : Str) : PyData.eqv (.str a) (.str b) = (a == b) := by simp [PyData.eqv]
theorem look_map (e : α → PyData) (x : Str) : ∀ ps : List (Str × α), lookD (mapD e ps) (.str x) = (ps.lookup x).map e
  | [] => rfl
  | (k, v) :: ps => by
    show (if PyData.eqv (.str k) (.str x) = true then some (e v) else lookD (mapD e ps) (.str x)) = _
    rw [eqv_s, look_map e x ps]
    by_cases h : k = x
    · subst h
      rw [if_pos (by simp), List.lookup_cons_self]; rfl
    · have h1 : (k == x) = false := by simpa using h
      have h2 : (x == k) = false := by simpa using fun z => h z.symm
      rw [h1, if_neg Bool.false_ne_true]
      simp [List.lookup, h2]
theorem put_map (e : α → PyData) (ps : List (Str × α)) (x : Str) (v : α) : putD (mapD e ps) (.str x) (e v) = mapD e (putS ps x v) := by
  have h : (mapD e ps).any (fun pz => PyData.eqv pz.1 (.str x)) = ps.any fun pz => pz.1 == x := by
    unfold mapD
    rw [List.any_map]
    exact congrArg (fun q => ps.any q) (funext fun pz => eqv_s _ _)
  unfold putD putS
  rw [h]
  split
  · unfold mapD
    rw [(List.map_map), List.map_map]
    refine List.map_congr_left fun pz _ => ?_
    show (if PyData.eqv (.str pz.1) (.str x) = true then (PyData.str pz.1, e v) else (PyData.str pz.1, e pz.2)) = _
    rw [eqv_s]
    by_cases h : (pz.1 == x) = true
    · rw [if_pos h]; show _ = (fun q : Str × α => (PyData.str q.1, e q.2)) (if (pz.1 == x) = true then (pz.1, v) else pz); rw [if_pos h]
    · rw [if_neg h]; show _ = (fun q : Str × α => (PyData.str q.1, e q.2)) (if (pz.1 == x) = true then (pz.1, v) else pz); rw [if_neg h]
  · unfold mapD
    rw [List.map_append]; rfl
theorem putS_new {ps : List (Str × α)} {x : Str} {v : α} (h : x ∉ ps.map (·.1)) : putS ps x v = ps ++ [(x, v)] := by
  unfold putS
  rw [if_neg]
  intro h'
  obtain ⟨p, hp, e⟩ := List.any_eq_true.mp h'
  exact h (List.mem_map.mpr ⟨p, hp, by simpa using e⟩)
/-- all new keys -/
theorem foldl_put {β : Type} (k : β → Str) (v : β → α) : ∀ (xs : List β) (acc : List (Str × α)), ((acc.map (·.1)) ++ xs.map k).Nodup → xs.foldl (fun z b => putS z (k b) (v b)) acc = acc ++ xs.map fun b => (k b, v b)
  | [], acc, _ => by simp
  | x :: xs, acc, h => by
    have hx : k x ∉ acc.map (·.1) := by
      rw [List.map_cons] at h
      intro hm
      exact (List.nodup_append.mp h).2.2 _ hm _ List.mem_cons_self rfl
    rw [List.foldl_cons, putS_new hx, foldl_put k v xs (acc ++ [(k x, v x)])]
    · simp
    · rw [List.map_append]
      simpa using h
theorem merge_map (e : α → PyData) : ∀ (ps acc : List (Str × α)), mergeD (mapD e acc) (mapD e ps) = mapD e (ps.foldl (fun z b => putS z b.1 b.2) acc)
  | [], acc => rfl
  | p :: ps, acc => by
    show mergeD (putD (mapD e acc) (.str p.1) (e p.2)) (mapD e ps) = _
    rw [put_map, merge_map e ps]; rfl
theorem merge_nodup (e : α → PyData) {ps : List (Str × α)} (h : (ps.map (·.1)).Nodup) : mergeD [] (mapD e ps) = mapD e ps := by
  have := merge_map e ps []
  rw [foldl_put (·.1) (·.2) ps [] (by simpa using h)] at this
  have e2 : mapD e ([] : List (Str × α)) = [] := rfl
  rw [e2] at this
  rw [this]
  simp
theorem dOk_map (e : α → PyData) (ps : List (Str × α)) : dOk (mapD e ps) := fun x h => by
  cases ps with
  | nil => cases h
  | cons p ps =>
    have h1 : (PyData.str p.1, e p.2) :: mapD e ps = [(PyData.none, x)] := h
    injection h1 with h1 _
    injection h1 with h1 _
    cases h1
end
end M
end

section
namespace M
open PySem PySem.Spec PySem.Calls PyProof.Rows L2 L2.DL

/-! ### tupled -/
mutual
def tupD : PyData → PyData
  | .list ds => .tuple (tupA ds)
  | .tuple ds => .tuple (tupA ds)
  | d => d
def tupA : List PyData → List PyData
  | [] => []
  | d :: ds => tupD d :: tupA ds
end
theorem tupA_map : ∀ ds : List PyData, tupA ds = ds.map tupD
  | [] => by simp [tupA]
  | d :: ds => by rw [tupA, tupA_map ds]; rfl
def okT : Nat → PyData → Prop
  | _, .none => True
  | _, .bool _ => True
  | _, .int _ => True
  | _, .str _ => True
  | 0, _ => False
  | k + 1, .list ds => ds.length ≤ 1000 ∧ ∀ x ∈ ds, okT k x
  | k + 1, .tuple ds => ds.length ≤ 1000 ∧ ∀ x ∈ ds, okT k x
  | _ + 1, .dict _ => False
theorem if_isi2 {T U : String} {i : Nat} {a b : GE} {env : List Sl} {n : Nat} {Q : GK} {d : PyData} (h : env[i]? = some (.dat d)) (hd : isD d = false) (v : Bool) (e : (isT T d || isT U d) = v) (q : if v = true then a env n Q else b env n Q) :
    gIf (gTst (gIsi2 T U (gVarB i))) a b env n Q := by
  unfold gIf gTst gIsi2 gVarB
  rw [h]
  refine ⟨hd, ?_⟩
  show (if (isT T d || isT U d) = true then a env n Q else b env n Q)
  rw [e]
  exact q
def g_tupled (k : Nat) : GF := fun ds n Q => ∃ d, ds = [d] ∧ okT k d ∧ Q (tupD d) n
theorem law_tupled {k : Nat} {g : GF} (hg : ∀ k', k = k' + 1 → g = g_tupled k') (ds : List PyData) (n : Nat) (Q : GK) (h : g_tupled k ds n Q) : gb_tupled g { nx := fun _ n => Q .none n, rt := Q } (startE nm_tupled ds) n := by
  obtain ⟨d, rfl, ok, q⟩ := h
  have seq : ∀ (es : List PyData) (k' : Nat), k = k' + 1 → es.length ≤ 1000 → (∀ x ∈ es, okT k' x) → Q (.tuple (tupA es)) n → ∀ b, d = seqD b es → gb_tupled g { nx := fun _ n => Q .none n, rt := Q } (startE nm_tupled [d]) n := by
    intro es k' ek hz hok qq b ed
    subst ed
    have q' : Q (.tuple (tupA es)) n := qq
    have key : gLcL (ggName 1) gYes (gFun g (gCons (gVar 1) gNil)) (wipeE (startE nm_tupled [seqD b es]) [1]) (fun acc n'' => Q (.tuple acc) n'') (es.map id) [] n := by
      refine lcL_map (f := id) tupD es [] (fun x hx R h1 => ?_) (by simp; exact Nat.le_trans hz (by decide)) ?_
      · refine ⟨(by decide : (1 : Nat) < 2), ?_⟩
        show g [x] n R
        rw [hg k' ek]
        exact ⟨x, rfl, hok x hx, h1⟩
      · rw [← tupA_map, List.nil_append]; exact q'
    rw [List.map_id] at key
    have no : noOwn (startE nm_tupled [seqD b es]) [1] := fun i hi d e => by
      obtain rfl := List.mem_singleton.mp hi
      cases e
    have e1 : isT "list" (.list es) = true := by show isN "list" "list" = true; decide +kernel
    have e2 : isT "tuple" (.tuple es) = true := by show isN "tuple" "tuple" = true; decide +kernel
    cases b
    · exact if_isi2 (T := "list") (U := "tuple") (i := 0) (a := gCall oTuple (gCons (gLc [1] (gSeqI (gVar 0)) (ggName 1) gYes (gFun g (gCons (gVar 1) gNil))) gNil)) (b := gVar 0) (env := startE nm_tupled [.tuple es]) (n := n) (Q := Q) (d := .tuple es) rfl rfl true (by show (isT "list" (.tuple es) || isT "tuple" (.tuple es)) = true; rw [e2, Bool.or_true]) ⟨no, key⟩
    · exact if_isi2 (T := "list") (U := "tuple") (i := 0) (a := gCall oTuple (gCons (gLc [1] (gSeqI (gVar 0)) (ggName 1) gYes (gFun g (gCons (gVar 1) gNil))) gNil)) (b := gVar 0) (env := startE nm_tupled [.list es]) (n := n) (Q := Q) (d := .list es) rfl rfl true (by show (isT "list" (.list es) || isT "tuple" (.list es)) = true; rw [e1, Bool.true_or]) ⟨no, key⟩
  have at' : ∀ d : PyData, isD d = false → (isT "list" d || isT "tuple" d) = false → Q d n → gb_tupled g { nx := fun _ n => Q .none n, rt := Q } (startE nm_tupled [d]) n := by
    intro d h1 h2 q
    exact if_isi2 (T := "list") (U := "tuple") (i := 0) (a := gCall oTuple (gCons (gLc [1] (gSeqI (gVar 0)) (ggName 1) gYes (gFun g (gCons (gVar 1) gNil))) gNil)) (b := gVar 0) (env := startE nm_tupled [d]) (n := n) (Q := Q) (d := d) rfl h1 false h2 q
  cases d with
  | list es =>
    cases k with
    | zero => exact ok.elim
    | succ k => exact seq es k rfl ok.1 ok.2 (by rw [tupD] at q; exact q) true rfl
  | tuple es =>
    cases k with
    | zero => exact ok.elim
    | succ k => exact seq es k rfl ok.1 ok.2 (by rw [tupD] at q; exact q) false rfl
  | dict _ => cases k <;> exact ok.elim
  | none => exact at' .none rfl (by decide +kernel) (by simpa only [tupD] using q)
  | bool b => exact at' (.bool b) rfl (by show (isN "list" "bool" || isN "tuple" "bool") = false; decide +kernel) (by simpa only [tupD] using q)
  | int i => exact at' (.int i) rfl (by show (isN "list" "int" || isN "tuple" "int") = false; decide +kernel) (by simpa only [tupD] using q)
  | str x => exact at' (.str x) rfl (by show (isN "list" "str" || isN "tuple" "str") = false; decide +kernel) (by simpa only [tupD] using q)
end M
end

section
/-! The mathematics: matchings, seatings, ways, the greedy choice. No program in sight. -/
namespace Mq
section
variable {T C : Type} [DecidableEq T] [DecidableEq C] [Inhabited C]

theorem nodup_le {α : Type} [DecidableEq α] : ∀ {l₁ l₂ : List α}, l₁.Nodup → (∀ x ∈ l₁, x ∈ l₂) → l₁.length ≤ l₂.length
  | [], _, _, _ => (Nat.zero_le _)
  | a :: l₁, l₂, h, s => by
    have ha := List.nodup_cons.mp h
    have := nodup_le (l₁ := l₁) (l₂ := l₂.erase a) ha.2 fun x hx => (List.mem_erase_of_ne (fun (e : x = a) => ha.1 (e ▸ hx))).mpr (s x (List.mem_cons_of_mem _ hx))
    have hm := s a List.mem_cons_self
    rw [List.length_erase_of_mem hm] at this
    have := List.length_pos_of_mem hm
    rw [List.length_cons]
    omega
theorem nodup_full {α : Type} [DecidableEq α] {l₁ l₂ : List α} (h : l₁.Nodup) (s : ∀ x ∈ l₁, x ∈ l₂) (hl : l₂.length ≤ l₁.length) : ∀ x ∈ l₂, x ∈ l₁ := by
  intro x hx
  by_cases hm : x ∈ l₁
  · exact hm
  · have := nodup_le (l₁ := x :: l₁) (l₂ := l₂) (List.nodup_cons.mpr ⟨hm, h⟩) (by
      intro y hyz
      rcases List.mem_cons.mp hyz with rfl | hyz
      · exact hx
      · exact s y hyz)
    rw [List.length_cons] at this
    omega
theorem nodup_map {α β : Type} {f : α → β} : ∀ {l : List α}, l.Nodup → (∀ a ∈ l, ∀ b ∈ l, f a = f b → a = b) → (l.map f).Nodup
  | [], _, _ => List.nodup_nil
  | x :: l, h, inj => by
    have hx := List.nodup_cons.mp h
    rw [(List.map_cons), List.nodup_cons]
    refine ⟨fun hm => ?_, nodup_map hx.2 fun a ha b hb => inj a (List.mem_cons_of_mem _ ha) b (List.mem_cons_of_mem _ hb)⟩
    obtain ⟨y, hy, e⟩ := List.mem_map.mp hm
    have := inj y (List.mem_cons_of_mem _ hy) x List.mem_cons_self e
    exact hx.1 (this ▸ hy)

variable (mask : T → List C)
/-- the tasks of S may all run at once -/
def Mt (S : T → Prop) : Prop := ∃ f : T → C, (∀ s, S s → f s ∈ mask s) ∧ ∀ s s', S s → S s' → f s = f s' → s = s'
variable {mask}
theorem Mt.sub {S S' : T → Prop} (h : Mt mask S) (s : ∀ x, S' x → S x) : Mt mask S' := by
  obtain ⟨f, a, b⟩ := h
  exact ⟨f, fun x hx => a x (s x hx), fun x y hx hy => b x y (s x hx) (s y hy)⟩
variable (mask)
structure Seat (σ : C → Option T) : Prop where
  ok : ∀ c t, σ c = some t → c ∈ mask t
  inj : ∀ c c' t, σ c = some t → σ c' = some t → c = c'
def Sd (σ : C → Option T) (t : T) : Prop := ∃ c, σ c = some t
variable {mask}
theorem Seat.mt {σ : C → Option T} (h : Seat mask σ) : Mt mask (Sd σ) := by
  classical
  refine ⟨fun t => if h : ∃ c, σ c = some t then h.choose else default, fun s hs => ?_, fun s s' hs hs' e => ?_⟩
  · have hs' : ∃ c, σ c = some s := hs
    simp only [dif_pos hs']
    exact h.ok _ _ hs'.choose_spec
  · have h1 : ∃ c, σ c = some s := hs
    have h2 : ∃ c, σ c = some s' := hs'
    simp only [dif_pos h1, dif_pos h2] at e
    have a := h1.choose_spec
    have b := h2.choose_spec
    rw [e] at a
    rw [a] at b
    exact Option.some.inj b
variable (mask)
/-- a way from t, last place first -/
inductive Way (σ : C → Option T) (t : T) : List C → Prop
  | one {c : C} : c ∈ mask t → Way σ t [c]
  | more {c c' : C} {cs : List C} {m : T} : Way σ t (c :: cs) → σ c = some m → c' ∈ mask m → c' ∉ c :: cs → Way σ t (c' :: c :: cs)
inductive Rch (σ : C → Option T) (t : T) : C → Prop
  | one {c : C} : c ∈ mask t → Rch σ t c
  | more {c c' : C} {m : T} : Rch σ t c → σ c = some m → c' ∈ mask m → Rch σ t c'
variable {mask} {σ : C → Option T} {t : T}
theorem Way.rch : ∀ {cs : List C}, Way mask σ t cs → ∀ c ∈ cs, Rch mask σ t c := by
  intro cs h
  induction h with
  | one h => intro c hc; obtain rfl := List.mem_singleton.mp hc; exact .one h
  | more _ e h _ ih =>
    intro x hxz
    rcases List.mem_cons.mp hxz with rfl | hxz
    · exact .more (ih _ List.mem_cons_self) e h
    · exact ih x hxz
theorem Way.cut {cs : List C} (h : Way mask σ t cs) : ∀ c ∈ cs, ∃ ds, Way mask σ t (c :: ds) := by
  induction h with
  | one h => intro c hc; obtain rfl := List.mem_singleton.mp hc; exact ⟨[], .one h⟩
  | more w e h hn ih =>
    intro x hxz
    rcases List.mem_cons.mp hxz with rfl | hxz
    · exact ⟨_, .more w e h hn⟩
    · exact ih x hxz
theorem Rch.way {c : C} (h : Rch mask σ t c) : ∃ cs, Way mask σ t (c :: cs) := by
  induction h with
  | one h => exact ⟨[], .one h⟩
  | @more c c' m _ e h ih =>
    obtain ⟨cs, w⟩ := ih
    by_cases hm : c' ∈ c :: cs
    · exact w.cut _ hm
    · exact ⟨_, .more w e h hm⟩
theorem Way.nodup {cs : List C} (h : Way mask σ t cs) : cs.Nodup := by
  induction h with
  | one h => exact List.nodup_cons.mpr ⟨by simp, List.nodup_nil⟩
  | more w e h hn ih => exact List.nodup_cons.mpr ⟨hn, ih⟩
theorem Way.tail {c c' : C} {cs : List C} (h : Way mask σ t (c' :: c :: cs)) : ∃ m, Way mask σ t (c :: cs) ∧ σ c = some m ∧ c' ∈ mask m ∧ c' ∉ c :: cs := by
  cases h with
  | more w e h hn => exact ⟨_, w, e, h, hn⟩

/-- the seating behind a way -/
def upd (σ : C → Option T) (c : C) (v : Option T) : C → Option T := fun x => if x = c then v else σ x
def app (σ : C → Option T) (t : T) : List C → (C → Option T)
  | [] => σ
  | [c] => upd σ c (some t)
  | c' :: c :: cs => upd (app σ t (c :: cs)) c' (σ c)
structure After (mask : T → List C) (σ : C → Option T) (t : T) (e : C) (cs : List C) (τ : C → Option T) : Prop where
  seat : Seat mask τ
  sd : ∀ s, Sd τ s ↔ (s = t ∨ (Sd σ s ∧ σ e ≠ some s))
  out : ∀ x, x ∉ e :: cs → τ x = σ x
theorem put_after {τ : C → Option T} (hτ : Seat mask τ) {m : T} (hm : ¬ Sd τ m) {c : C} (hc : c ∈ mask m) : Seat mask (upd τ c (some m)) ∧ ∀ s, Sd (upd τ c (some m)) s ↔ (s = m ∨ (Sd τ s ∧ τ c ≠ some s)) := by
  refine ⟨⟨fun x s h => ?_, fun x y s h h' => ?_⟩, fun s => ⟨fun ⟨x, h⟩ => ?_, fun h => ?_⟩⟩
  · unfold upd at h
    split at h
    · rename_i e; subst e; obtain rfl := Option.some.inj h; exact hc
    · exact hτ.ok _ _ h
  · unfold upd at h h'
    split at h <;> split at h'
    · rename_i a b; rw [a, b]
    · obtain rfl := Option.some.inj h; exact (hm ⟨_, h'⟩).elim
    · obtain rfl := Option.some.inj h'; exact (hm ⟨_, h⟩).elim
    · exact hτ.inj _ _ _ h h'
  · unfold upd at h
    split at h
    · exact Or.inl (Option.some.inj h).symm
    · rename_i ne
      refine Or.inr ⟨⟨x, h⟩, fun e => ne (hτ.inj _ _ _ h e)⟩
  · rcases h with rfl | ⟨⟨x, h⟩, ne⟩
    · exact ⟨c, by simp [upd]⟩
    · refine ⟨x, ?_⟩
      have : x ≠ c := fun e => ne (e ▸ h)
      simp [upd, this, h]
theorem Way.after (hσ : Seat mask σ) (ht : ¬ Sd σ t) {l : List C} (h : Way mask σ t l) : ∀ e cs, l = e :: cs → After mask σ t e cs (app σ t l) := by
  induction h with
  | @one c hc =>
    intro e cs el
    injection el with e1 e2
    subst e1 e2
    obtain ⟨a, b⟩ := put_after hσ ht hc
    exact ⟨a, b, fun x hx => by simp at hx; simp [app, upd, hx]⟩
  | @more c c' cs m w em hc hn ih =>
    intro e ds el
    injection el with e1 e2
    subst e1 e2
    obtain ⟨a, b, o⟩ := ih c cs rfl
    have hnm : ¬ Sd (app σ t (c :: cs)) m := fun h => by
      rcases (b m).mp h with rfl | ⟨_, h2⟩
      · exact ht ⟨_, em⟩
      · exact h2 em
    obtain ⟨a2, b2⟩ := put_after a hnm hc
    have ea : app σ t (c' :: c :: cs) = upd (app σ t (c :: cs)) c' (some m) := by show upd _ _ (σ c) = _; rw [em]
    rw [ea]
    refine ⟨a2, fun s => (b2 s).trans ?_, fun x hx => ?_⟩
    · rw [o c' hn, b s]
      constructor
      · rintro (rfl | ⟨rfl | ⟨h1, h2⟩, h3⟩)
        · refine Or.inr ⟨⟨c, em⟩, fun e => hn ?_⟩
          rw [hσ.inj _ _ _ e em]
          exact List.mem_cons_self
        · exact Or.inl rfl
        · exact Or.inr ⟨h1, h3⟩
      · rintro (rfl | ⟨h1, h2⟩)
        · exact Or.inr ⟨Or.inl rfl, fun e => ht ⟨_, e⟩⟩
        · by_cases em2 : σ c = some s
          · rw [em] at em2
            exact Or.inl (Option.some.inj em2).symm
          · exact Or.inr ⟨Or.inr ⟨h1, em2⟩, h2⟩
    · have h1 : x ≠ c' := fun e => hx (e ▸ List.mem_cons_self)
      have h2 : x ∉ c :: cs := fun h => hx (List.mem_cons_of_mem _ h)
      simp [upd, h1, o x h2]

/-! ### the closed set of reached places -/
/-- more tasks than places -/
theorem no_match {R : List C} (hR : R.Nodup) (hσ : Seat mask σ) (hocc : ∀ c ∈ R, ∃ m, σ c = some m ∧ ∀ x ∈ mask m, x ∈ R) (ht : ∀ x ∈ mask t, x ∈ R) (hw : ¬ Sd σ t) {S : T → Prop} (hS : S t) (hS' : ∀ c ∈ R, ∀ m, σ c = some m → S m) : ¬ Mt mask S := by
  rintro ⟨f, a, b⟩
  have hn : (t :: R.map fun c => (σ c).getD t).Nodup := by
    rw [List.nodup_cons]
    constructor
    · intro h
      obtain ⟨c, hc, e⟩ := List.mem_map.mp h
      obtain ⟨m, hm, _⟩ := hocc c hc
      rw [hm] at e
      exact hw ⟨c, by rw [hm]; exact congrArg some e⟩
    · refine nodup_map hR fun x hx y hy e => ?_
      obtain ⟨m, hm, _⟩ := hocc x hx
      obtain ⟨m', hm', _⟩ := hocc y hy
      rw [hm, hm'] at e
      exact hσ.inj _ _ _ hm (by rw [hm']; exact congrArg some e.symm)
  have hall : ∀ s ∈ (t :: R.map fun c => (σ c).getD t), S s ∧ ∀ x ∈ mask s, x ∈ R := by
    intro s hsz
    rcases List.mem_cons.mp hsz with rfl | hsz
    · exact ⟨hS, ht⟩
    · obtain ⟨c, hc, e⟩ := List.mem_map.mp hsz
      obtain ⟨m, hm, hx⟩ := hocc c hc
      rw [hm] at e
      have e : m = s := e
      subst e
      exact ⟨hS' c hc m hm, hx⟩
  have := nodup_le (nodup_map (f := f) hn fun x hx y hy e => b x y (hall x hx).1 (hall y hy).1 e) (l₂ := R) (by
    intro x hx
    obtain ⟨s, hsz, rfl⟩ := List.mem_map.mp hx
    exact (hall s hsz).2 _ (a s (hall s hsz).1))
  simp at this
  omega

/-! ### the greedy choice -/
def IsG (mask : T → List C) (A : T → Prop) (idx : T → Nat) (D : T → Prop) : Prop := ∀ t, A t → (D t ↔ Mt mask fun x => (A x ∧ D x ∧ idx x < idx t) ∨ x = t)
theorem IsG.unique {A : T → Prop} {idx : T → Nat} {D D' : T → Prop} (h : IsG mask A idx D) (h' : IsG mask A idx D') : ∀ t, A t → (D t ↔ D' t) := by
  have key : ∀ k t, idx t = k → A t → (D t ↔ D' t) := by
    intro k
    induction k using Nat.strongRecOn with
    | ind k ih =>
      intro t ek ht
      rw [h t ht, h' t ht]
      have : (fun x => (A x ∧ D x ∧ idx x < idx t) ∨ x = t) = fun x => (A x ∧ D' x ∧ idx x < idx t) ∨ x = t := by
        funext x
        apply propext
        constructor
        · rintro (⟨a, b, c⟩ | e)
          · exact Or.inl ⟨a, (ih (idx x) (by omega) x rfl a).mp b, c⟩
          · exact Or.inr e
        · rintro (⟨a, b, c⟩ | e)
          · exact Or.inl ⟨a, (ih (idx x) (by omega) x rfl a).mpr b, c⟩
          · exact Or.inr e
      rw [this]
  exact fun t => key _ t rfl
theorem IsG.congr {A : T → Prop} {idx : T → Nat} {D D' : T → Prop} (h : IsG mask A idx D) (e : ∀ x, A x → (D x ↔ D' x)) : IsG mask A idx D' := by
  intro t ht
  rw [← e t ht, h t ht]
  have : (fun x => (A x ∧ D x ∧ idx x < idx t) ∨ x = t) = fun x => (A x ∧ D' x ∧ idx x < idx t) ∨ x = t := by
    funext x
    apply propext
    constructor
    · rintro (⟨a, b, c⟩ | e1)
      · exact Or.inl ⟨a, (e x a).mp b, c⟩
      · exact Or.inr e1
    · rintro (⟨a, b, c⟩ | e1)
      · exact Or.inl ⟨a, (e x a).mpr b, c⟩
      · exact Or.inr e1
  rw [this]
/-- a place where a way may end -/
def End (idx : T → Nat) (σ : C → Option T) (t : T) (e : C) : Prop := ∀ u, σ e = some u → idx t < idx u
variable {A : T → Prop} {idx : T → Nat}
/-- (i) a greedy seating leaves no shift -/
theorem no_shift (hσ : Seat mask σ) (hg : IsG mask A idx (Sd σ)) (ht : A t) (hw : ¬ Sd σ t) {e : C} {cs : List C} (w : Way mask σ t (e :: cs)) : ¬ End idx σ t e := by
  intro he
  refine hw ((hg t ht).mpr ((w.after hσ hw e cs rfl).seat.mt.sub fun x hx => ?_))
  rw [(w.after hσ hw e cs rfl).sd x]
  rcases hx with ⟨a, b, c⟩ | rfl
  · refine Or.inr ⟨b, fun e1 => ?_⟩
    have := he x e1
    omega
  · exact Or.inl rfl
/-- the reached places as a list -/
theorem rch_list {U : List C} (hU : ∀ t, ∀ c ∈ mask t, c ∈ U) (σ : C → Option T) (t : T) : ∃ R : List C, R.Nodup ∧ ∀ c, c ∈ R ↔ Rch mask σ t c := by
  classical
  have hin : ∀ c, Rch mask σ t c → c ∈ U := fun c h => by cases h with | one h => exact hU _ _ h | more _ _ h => exact hU _ _ h
  suffices h : ∀ l : List C, ∃ R : List C, R.Nodup ∧ ∀ c, c ∈ R ↔ (c ∈ l ∧ Rch mask σ t c) by
    obtain ⟨R, a, b⟩ := h U
    exact ⟨R, a, fun c => (b c).trans ⟨fun h => h.2, fun h => ⟨hin c h, h⟩⟩⟩
  intro l
  induction l with
  | nil => exact ⟨[], List.nodup_nil, fun c => by simp⟩
  | cons x l ih =>
    obtain ⟨R, a, b⟩ := ih
    by_cases hx : Rch mask σ t x ∧ x ∉ R
    · refine ⟨x :: R, List.nodup_cons.mpr ⟨hx.2, a⟩, fun c => ?_⟩
      rw [List.mem_cons, List.mem_cons, b c]
      constructor
      · rintro (rfl | h)
        · exact ⟨Or.inl rfl, hx.1⟩
        · exact ⟨Or.inr h.1, h.2⟩
      · rintro ⟨rfl | h, h2⟩
        · exact Or.inl rfl
        · exact Or.inr ⟨h, h2⟩
    · refine ⟨R, a, fun c => ?_⟩
      rw [List.mem_cons, b c]
      constructor
      · exact fun h => ⟨Or.inr h.1, h.2⟩
      · rintro ⟨rfl | h, h2⟩
        · by_cases hR : c ∈ R
          · exact (b c).mp hR
          · exact (hx ⟨h2, hR⟩).elim
        · exact ⟨h, h2⟩
/-- (ii) where nobody has a shift, the seating is greedy -/
theorem greedy_of {U : List C} (hU : ∀ t, ∀ c ∈ mask t, c ∈ U) (hσ : Seat mask σ) (hA : ∀ t, Sd σ t → A t) (hidx : ∀ x y, A x → A y → idx x = idx y → x = y) (hno : ∀ t, A t → ¬ Sd σ t → ∀ e cs, Way mask σ t (e :: cs) → ¬ End idx σ t e) : IsG mask A idx (Sd σ) := by
  intro t ht
  constructor
  · intro hs
    refine hσ.mt.sub fun x hx => ?_
    rcases hx with ⟨a, b, c⟩ | rfl
    · exact b
    · exact hs
  · intro hm
    by_cases hw : Sd σ t
    · exact hw
    · exfalso
      obtain ⟨R, hR, hRm⟩ := rch_list hU σ t
      have occ : ∀ c ∈ R, ∃ m, σ c = some m ∧ idx m < idx t := by
        intro c hc
        obtain ⟨cs, w⟩ := ((hRm c).mp hc).way
        have hn := hno t ht hw c cs w
        cases h : σ c with
        | none => exact (hn fun u e => by rw [h] at e; cases e).elim
        | some m =>
          refine ⟨m, rfl, ?_⟩
          by_cases hlt : idx m < idx t
          · exact hlt
          · refine (hn fun u e => ?_).elim
            rw [h] at e
            obtain rfl := Option.some.inj e
            have : idx t ≠ idx m := fun e2 => hw (by rw [hidx t m ht (hA m ⟨c, h⟩) e2]; exact ⟨c, h⟩)
            omega
      refine no_match hR hσ (fun c hc => ?_) (fun x hx => (hRm x).mpr (.one hx)) hw (S := fun x => (A x ∧ Sd σ x ∧ idx x < idx t) ∨ x = t) (Or.inr rfl) (fun c hc m e => ?_) hm
      · obtain ⟨m, e, _⟩ := occ c hc
        exact ⟨m, e, fun x hx => (hRm x).mpr (.more ((hRm c).mp hc) e hx)⟩
      · obtain ⟨m', ez', hl⟩ := occ c hc
        rw [e] at ez'
        obtain rfl := Option.some.inj ez'
        exact Or.inl ⟨hA m ⟨c, e⟩, ⟨c, e⟩, hl⟩
/-- the right ends of t -/
def Re (mask : T → List C) (idx : T → Nat) (σ : C → Option T) (t : T) (e : C) : Prop := Rch mask σ t e ∧ ∀ u, σ e = some u → idx t < idx u ∧ ∀ c, Rch mask σ t c → ∃ m, σ c = some m ∧ idx m ≤ idx u
/-- the last of those that sit on a list of places -/
theorem last_of (R : List C) (h : ∀ c ∈ R, ∃ m, σ c = some m) (hn : R ≠ []) : ∃ c ∈ R, ∃ u, σ c = some u ∧ ∀ x ∈ R, ∀ m, σ x = some m → idx m ≤ idx u := by
  induction R with
  | nil => exact (hn rfl).elim
  | cons c R ih =>
    obtain ⟨m, e⟩ := h c List.mem_cons_self
    by_cases hR : R = []
    · subst hR
      refine ⟨c, List.mem_cons_self, m, e, fun x hxz m' ez' => ?_⟩
      obtain rfl := List.mem_singleton.mp hxz
      rw [e] at ez'
      obtain rfl := Option.some.inj ez'
      exact Nat.le_refl _
    · obtain ⟨c2, h2, u, e2, hl⟩ := ih (fun x hxz => h x (List.mem_cons_of_mem _ hxz)) hR
      by_cases hc : idx m ≤ idx u
      · refine ⟨c2, List.mem_cons_of_mem _ h2, u, e2, fun x hxz m' ez' => ?_⟩
        rcases List.mem_cons.mp hxz with rfl | hxz
        · rw [e] at ez'; obtain rfl := Option.some.inj ez'; exact hc
        · exact hl x hxz m' ez'
      · refine ⟨c, List.mem_cons_self, m, e, fun x hxz m' ez' => ?_⟩
        rcases List.mem_cons.mp hxz with rfl | hxz
        · rw [e] at ez'; obtain rfl := Option.some.inj ez'; exact Nat.le_refl _
        · have := hl x hxz m' ez'; omega
/-- who has a shift has a right one -/
theorem right_of {U : List C} (hU : ∀ t, ∀ c ∈ mask t, c ∈ U) {e : C} {cs : List C} (w : Way mask σ t (e :: cs)) (he : End idx σ t e) : ∃ e' cs', Way mask σ t (e' :: cs') ∧ Re mask idx σ t e' := by
  obtain ⟨R, hR, hRm⟩ := rch_list hU σ t
  have hr : Rch mask σ t e := w.rch e List.mem_cons_self
  by_cases hf : ∃ c ∈ R, σ c = none
  · obtain ⟨c, hc, e1⟩ := hf
    obtain ⟨ds, w2⟩ := ((hRm c).mp hc).way
    exact ⟨c, ds, w2, (hRm c).mp hc, fun u e2z => by rw [e1] at e2z; cases e2z⟩
  · have occ : ∀ c ∈ R, ∃ m, σ c = some m := fun c hc => by
      cases h : σ c with
      | none => exact (hf ⟨c, hc, h⟩).elim
      | some m => exact ⟨m, rfl⟩
    obtain ⟨c, hc, u, e1, hl⟩ := last_of (idx := idx) R occ (fun h => by have := (hRm e).mpr hr; rw [h] at this; cases this)
    obtain ⟨ds, w2⟩ := ((hRm c).mp hc).way
    refine ⟨c, ds, w2, (hRm c).mp hc, fun u' e2z => ?_⟩
    rw [e1] at e2z
    obtain rfl := Option.some.inj e2z
    obtain ⟨m, em⟩ := occ e ((hRm e).mpr hr)
    have h1 := he m em
    have h2 := hl e ((hRm e).mpr hr) m em
    refine ⟨by omega, fun xz hxz => ?_⟩
    obtain ⟨m', em'⟩ := occ xz ((hRm xz).mpr hxz)
    exact ⟨m', em', hl xz ((hRm xz).mpr hxz) m' em'⟩
/-- a free place is within reach -/
theorem greedy_free (hσ : Seat mask σ) (hA : ∀ s, Sd σ s → A s ∧ s ≠ t) (ht : A t) (hg : IsG mask (fun x => A x ∧ x ≠ t) idx (Sd σ)) {e : C} {cs : List C} (w : Way mask σ t (e :: cs)) (he : σ e = none) : IsG mask A idx fun x => x = t ∨ Sd σ x := by
  have hw : ¬ Sd σ t := fun h => (hA t h).2 rfl
  have ha := w.after hσ hw e cs rfl
  have hm : Mt mask fun x => x = t ∨ Sd σ x := ha.seat.mt.sub fun x hx => (ha.sd x).mpr (hx.imp id fun h => ⟨h, fun e1 => by rw [he] at e1; cases e1⟩)
  intro x hx
  constructor
  · intro h
    refine hm.sub fun y hy => ?_
    rcases hy with ⟨_, h2, _⟩ | rfl
    · exact h2
    · exact h
  · intro h
    by_cases hxt : x = t
    · exact Or.inl hxt
    · refine Or.inr ((hg x ⟨hx, hxt⟩).mpr (h.sub fun y hy => ?_))
      rcases hy with ⟨h1, h2, h3⟩ | rfl
      · exact Or.inl ⟨h1.1, Or.inr h2, h3⟩
      · exact Or.inr rfl
/-- no free place is within reach: the last of those reached gives way -/
theorem greedy_last {U : List C} (hU : ∀ t, ∀ c ∈ mask t, c ∈ U) (hσ : Seat mask σ) (hA : ∀ s, Sd σ s → A s ∧ s ≠ t) (ht : A t) (hidx : ∀ x y, A x → A y → idx x = idx y → x = y) (hg : IsG mask (fun x => A x ∧ x ≠ t) idx (Sd σ)) {e : C} {u : T} (hr : Rch mask σ t e) (he : σ e = some u) (hlt : idx t < idx u) (hl : ∀ c, Rch mask σ t c → ∃ m, σ c = some m ∧ idx m ≤ idx u) : IsG mask A idx fun x => x = t ∨ (Sd σ x ∧ x ≠ u) := by
  classical
  have hw : ¬ Sd σ t := fun h => (hA t h).2 rfl
  obtain ⟨cs, w⟩ := hr.way
  have ha := w.after hσ hw e cs rfl
  have hm : Mt mask fun x => x = t ∨ (Sd σ x ∧ x ≠ u) := ha.seat.mt.sub fun x hx => (ha.sd x).mpr (hx.imp id fun h => ⟨h.1, fun e1 => h.2 (by rw [he] at e1; exact (Option.some.inj e1).symm)⟩)
  obtain ⟨R, hR, hRm⟩ := rch_list hU σ t
  have occ : ∀ c ∈ R, ∃ m, σ c = some m ∧ ∀ x ∈ mask m, x ∈ R := fun c hc => by
    obtain ⟨m, em, _⟩ := hl c ((hRm c).mp hc)
    exact ⟨m, em, fun x hx => (hRm x).mpr (.more ((hRm c).mp hc) em hx)⟩
  have hmt : ∀ x ∈ mask t, x ∈ R := fun x hx => (hRm x).mpr (.one hx)
  have hut : u ≠ t := fun e1 => by rw [e1] at hlt; omega
  intro x hx
  constructor
  · intro h
    refine hm.sub fun y hyz => ?_
    rcases hyz with ⟨_, h2, _⟩ | rfl
    · exact h2
    · exact h
  · intro h
    by_cases hxt : x = t
    · exact Or.inl hxt
    · refine Or.inr ?_
      by_cases hxu : x = u
      · exfalso
        subst hxu
        refine no_match hR hσ occ hmt hw (S := fun y => (A y ∧ (y = t ∨ (Sd σ y ∧ y ≠ x)) ∧ idx y < idx x) ∨ y = x) (Or.inl ⟨ht, Or.inl rfl, hlt⟩) (fun c hc m em => ?_) h
        by_cases hmx : m = x
        · exact Or.inr hmx
        · obtain ⟨m', em', hle⟩ := hl c ((hRm c).mp hc)
          rw [em] at em'
          obtain rfl := Option.some.inj em'
          have hAm := hA m ⟨c, em⟩
          have : idx m ≠ idx x := fun e1 => hmx (hidx m x hAm.1 hx e1)
          exact Or.inl ⟨hAm.1, Or.inr ⟨⟨c, em⟩, hmx⟩, by omega⟩
      · refine ⟨(hg x ⟨hx, hxt⟩).mpr ?_, hxu⟩
        by_cases hlu : idx x < idx u
        · refine h.sub fun y hyz => ?_
          rcases hyz with ⟨h1, h2, h3⟩ | rfl
          · exact Or.inl ⟨h1.1, Or.inr ⟨h2, fun e1 => by rw [e1] at h3; omega⟩, h3⟩
          · exact Or.inr rfl
        · have hlu' : idx u < idx x := by
            have : idx u ≠ idx x := fun e1 => hxu (hidx u x (hA u ⟨e, he⟩).1 hx e1).symm
            omega
          by_cases hxo : ∃ c ∈ R, σ c = some x
          · obtain ⟨c, hc, ec⟩ := hxo
            obtain ⟨m, em, hle⟩ := hl c ((hRm c).mp hc)
            rw [ec] at em
            obtain rfl := Option.some.inj em
            omega
          · obtain ⟨f, fa, fb⟩ := h
            -- the tasks that fill R under f
            have heR : e ∈ R := (hRm e).mpr hr
            have tin : ∀ y, (y = t ∨ ∃ c ∈ R, c ≠ e ∧ σ c = some y) → ((A y ∧ (y = t ∨ (Sd σ y ∧ y ≠ u)) ∧ idx y < idx x) ∨ y = x) ∧ ∀ z ∈ mask y, z ∈ R := by
              rintro y (rfl | ⟨c, hc, hce, ec⟩)
              · exact ⟨Or.inl ⟨ht, Or.inl rfl, by omega⟩, hmt⟩
              · have hyu : y ≠ u := fun e1 => hce (hσ.inj _ _ _ (e1 ▸ ec) he)
                obtain ⟨m, em, hle⟩ := hl c ((hRm c).mp hc)
                rw [ec] at em
                obtain rfl := Option.some.inj em
                refine ⟨Or.inl ⟨(hA y ⟨c, ec⟩).1, Or.inr ⟨⟨c, ec⟩, hyu⟩, by omega⟩, ?_⟩
                obtain ⟨m, em, hx2⟩ := occ c hc
                rw [ec] at em
                obtain rfl := Option.some.inj em
                exact hx2
            let L := t :: (R.erase e).map fun c => (σ c).getD t
            have hL : ∀ y ∈ L, y = t ∨ ∃ c ∈ R, c ≠ e ∧ σ c = some y := by
              intro y hyz
              rcases List.mem_cons.mp hyz with rfl | hyz
              · exact Or.inl rfl
              · obtain ⟨c, hc, ec⟩ := List.mem_map.mp hyz
                have hcR := List.mem_of_mem_erase hc
                obtain ⟨m, em, _⟩ := occ c hcR
                rw [em] at ec
                refine Or.inr ⟨c, hcR, fun e1 => ?_, by rw [em]; exact congrArg some ec⟩
                rw [e1] at hc
                exact hR.not_mem_erase hc
            have hLn : L.Nodup := by
              refine List.nodup_cons.mpr ⟨fun h => ?_, nodup_map (hR.erase e) fun y hyz z hz e1 => ?_⟩
              · obtain ⟨c, hc, ec⟩ := List.mem_map.mp h
                obtain ⟨m, em, _⟩ := occ c (List.mem_of_mem_erase hc)
                rw [em] at ec
                exact hw ⟨c, by rw [em]; exact congrArg some ec⟩
              · obtain ⟨m, em, _⟩ := occ y (List.mem_of_mem_erase hyz)
                obtain ⟨m', em', _⟩ := occ z (List.mem_of_mem_erase hz)
                rw [em, em'] at e1
                exact hσ.inj _ _ _ em (by rw [em']; exact congrArg some e1.symm)
            have hLl : L.length = R.length := by
              show ((R.erase e).map _).length + 1 = _
              rw [List.length_map, List.length_erase_of_mem heR]
              have := List.length_pos_of_mem heR
              omega
            have hfull : ∀ c ∈ R, c ∈ L.map f := nodup_full (nodup_map hLn fun y hyz z hz e1 => fb y z (tin y (hL y hyz)).1 (tin z (hL z hz)).1 e1) (by
              intro c hc
              obtain ⟨y, hyz, rfl⟩ := List.mem_map.mp hc
              exact (tin y (hL y hyz)).2 _ (fa y (tin y (hL y hyz)).1)) (by rw [List.length_map]; omega)
            -- the others sit outside R
            have hout : ∀ y, ((A y ∧ (y = t ∨ (Sd σ y ∧ y ≠ u)) ∧ idx y < idx x) ∨ y = x) → ¬ (y = t ∨ ∃ c ∈ R, c ≠ e ∧ σ c = some y) → f y ∉ R := by
              intro y hyz hn hf
              obtain ⟨z, hz, e1⟩ := List.mem_map.mp (hfull _ hf)
              have := fb z y (tin z (hL z hz)).1 hyz e1
              exact hn (this ▸ hL z hz)
            have hsplit : ∀ y, ((A y ∧ y ≠ t) ∧ Sd σ y ∧ idx y < idx x) ∨ y = x → (¬ ∃ c, c ∈ R ∧ σ c = some y) → ((A y ∧ (y = t ∨ (Sd σ y ∧ y ≠ u)) ∧ idx y < idx x) ∨ y = x) ∧ ¬ (y = t ∨ ∃ c ∈ R, c ≠ e ∧ σ c = some y) := by
              intro y hyz hn
              have hyt : y ≠ t := by rcases hyz with h | rfl; exact h.1.2; exact hxt
              have hyu : y ≠ u := fun e1 => hn ⟨e, heR, e1 ▸ he⟩
              refine ⟨hyz.imp (fun h => ⟨h.1.1, Or.inr ⟨h.2.1, hyu⟩, h.2.2⟩) id, ?_⟩
              rintro (h | ⟨c, hc, _, ec⟩)
              · exact hyt h
              · exact hn ⟨c, hc, ec⟩
            refine ⟨fun y => if hyz : ∃ c, c ∈ R ∧ σ c = some y then hyz.choose else f y, fun y hyz => ?_, fun y z hyz hz e1 => ?_⟩
            · by_cases hyo : ∃ c, c ∈ R ∧ σ c = some y
              · simp only [dif_pos hyo]
                exact hσ.ok _ _ hyo.choose_spec.2
              · simp only [dif_neg hyo]
                exact fa y (hsplit y hyz hyo).1
            · by_cases hyo : ∃ c, c ∈ R ∧ σ c = some y <;> by_cases hzo : ∃ c, c ∈ R ∧ σ c = some z
              · simp only [dif_pos hyo, dif_pos hzo] at e1
                have a := hyo.choose_spec.2
                have b := hzo.choose_spec.2
                rw [e1, b] at a
                exact (Option.some.inj a).symm
              · simp only [dif_pos hyo, dif_neg hzo] at e1
                exact ((hout z (hsplit z hz hzo).1 (hsplit z hz hzo).2) (e1 ▸ hyo.choose_spec.1)).elim
              · simp only [dif_neg hyo, dif_pos hzo] at e1
                exact ((hout y (hsplit y hyz hyo).1 (hsplit y hyz hyo).2) (e1 ▸ hzo.choose_spec.1)).elim
              · simp only [dif_neg hyo, dif_neg hzo] at e1
                exact fb y z (hsplit y hyz hyo).1 (hsplit z hz hzo).1 e1
/-- (iii) behind a right shift, and behind no other one, the greedy ones run -/
theorem right_iff {U : List C} (hU : ∀ t, ∀ c ∈ mask t, c ∈ U) (hσ : Seat mask σ) (hA : ∀ s, Sd σ s → A s ∧ s ≠ t) (ht : A t) (hidx : ∀ x y, A x → A y → idx x = idx y → x = y) (hg : IsG mask (fun x => A x ∧ x ≠ t) idx (Sd σ)) {e : C} {cs : List C} (w : Way mask σ t (e :: cs)) (he : End idx σ t e) :
    Re mask idx σ t e ↔ IsG mask A idx (Sd (app σ t (e :: cs))) := by
  have hw : ¬ Sd σ t := fun h => (hA t h).2 rfl
  have ha := w.after hσ hw e cs rfl
  have hr : Rch mask σ t e := w.rch e List.mem_cons_self
  obtain ⟨R, hR, hRm⟩ := rch_list hU σ t
  constructor
  · rintro ⟨_, h⟩
    cases hs : σ e with
    | none => exact (greedy_free hσ hA ht hg w hs).congr fun x hx => ((ha.sd x).trans ⟨fun h => h.imp id fun h => h.1, fun h => h.imp id fun h => ⟨h, fun e1 => by rw [hs] at e1; cases e1⟩⟩).symm
    | some u =>
      obtain ⟨h1, h2⟩ := h u hs
      refine (greedy_last hU hσ hA ht hidx hg hr hs h1 h2).congr fun x hx => ((ha.sd x).trans ⟨fun h => h.imp id fun h => ⟨h.1, fun e1 => h.2 (by rw [hs, e1])⟩, fun h => h.imp id fun h => ⟨h.1, fun e1 => h.2 (by rw [hs] at e1; exact (Option.some.inj e1).symm)⟩⟩).symm
  · intro hG
    refine ⟨hr, fun u hu => ⟨he u hu, ?_⟩⟩
    have hAu := hA u ⟨e, hu⟩
    have hnu : ¬ Sd (app σ t (e :: cs)) u := fun h => by
      rcases (ha.sd u).mp h with h | h
      · exact hAu.2 h
      · exact h.2 hu
    by_cases hf : ∃ c ∈ R, σ c = none
    · exfalso
      obtain ⟨c, hc, e1⟩ := hf
      obtain ⟨ds, w2⟩ := ((hRm c).mp hc).way
      exact hnu ((hG.unique (greedy_free hσ hA ht hg w2 e1) u hAu.1).mpr (Or.inr ⟨e, hu⟩))
    · have occ : ∀ c ∈ R, ∃ m, σ c = some m := fun c hc => by
        cases h : σ c with
        | none => exact (hf ⟨c, hc, h⟩).elim
        | some m => exact ⟨m, rfl⟩
      obtain ⟨c, hc, v, ev, hl⟩ := last_of (idx := idx) R occ (fun h => by have := (hRm e).mpr hr; rw [h] at this; cases this)
      have hv : idx u ≤ idx v := hl e ((hRm e).mpr hr) u hu
      have hl' : ∀ c, Rch mask σ t c → ∃ m, σ c = some m ∧ idx m ≤ idx v := fun c hc => by
        obtain ⟨m, em⟩ := occ c ((hRm c).mpr hc)
        exact ⟨m, em, hl c ((hRm c).mpr hc) m em⟩
      have hgl := greedy_last hU hσ hA ht hidx hg ((hRm c).mp hc) ev (by have := he u hu; omega) hl'
      have huv : u = v := by
        by_cases h : u = v
        · exact h
        · exact (hnu ((hG.unique hgl u hAu.1).mpr (Or.inr ⟨⟨e, hu⟩, h⟩))).elim
      subst huv
      exact hl'
end
end Mq
end

section
/-! The search for a shortest way. -/
namespace Mq
section
variable {T C : Type} [DecidableEq T] [DecidableEq C] [Inhabited C]
variable (mask : T → List C) (σ : C → Option T) (goal : C → Bool)
def ext : List C → List (List C)
  | [] => []
  | c :: cs => match σ c with
    | none => []
    | some m => ((mask m).filter fun x => !(c :: cs).contains x).map fun x => x :: c :: cs
def bfs : Nat → List (List C) → List C → Option (List C)
  | 0, _, _ => none
  | _ + 1, [], _ => none
  | k + 1, [] :: ws, seen => bfs k ws seen
  | k + 1, (c :: cs) :: ws, seen => if goal c = true then some (c :: cs) else if c ∈ seen then bfs k ws seen else bfs k (ws ++ ext mask σ (c :: cs)) (seen ++ [c])
variable {mask σ}
theorem ext_mem {c : C} {cs : List C} {w : List C} : w ∈ ext mask σ (c :: cs) ↔ ∃ m x, σ c = some m ∧ x ∈ mask m ∧ x ∉ c :: cs ∧ w = x :: c :: cs := by
  have e1 : ext mask σ (c :: cs) = match σ c with
    | none => []
    | some m => ((mask m).filter fun x => !(c :: cs).contains x).map fun x => x :: c :: cs := rfl
  rw [e1]
  cases h : σ c with
  | none => exact ⟨fun h => (by cases h), fun ⟨m, x, e, _⟩ => (by cases e)⟩
  | some m =>
    show w ∈ ((mask m).filter fun x => !(c :: cs).contains x).map (fun x => x :: c :: cs) ↔ _
    simp only [List.mem_map, List.mem_filter]
    constructor
    · rintro ⟨x, ⟨hx, hn⟩, rfl⟩
      exact ⟨m, x, rfl, hx, by simpa using hn, rfl⟩
    · rintro ⟨m', x, e, hx, hn, rfl⟩
      obtain rfl := Option.some.inj e
      exact ⟨x, ⟨hx, by simpa using hn⟩, rfl⟩
theorem ext_none {c : C} {cs : List C} (e : σ c = none) : ext mask σ (c :: cs) = [] := by
  have e1 : ext mask σ (c :: cs) = match σ c with
    | none => []
    | some m => ((mask m).filter fun x => !(c :: cs).contains x).map fun x => x :: c :: cs := rfl
  rw [e1, e]
theorem ext_some {c : C} {cs : List C} {m : T} (e : σ c = some m) : ext mask σ (c :: cs) = ((mask m).filter fun x => !(c :: cs).contains x).map fun x => x :: c :: cs := by
  have e1 : ext mask σ (c :: cs) = match σ c with
    | none => []
    | some m => ((mask m).filter fun x => !(c :: cs).contains x).map fun x => x :: c :: cs := rfl
  rw [e1, e]
theorem ext_len {b : Nat} (hb : ∀ t, (mask t).length ≤ b) (w : List C) : (ext mask σ w).length ≤ b := by
  unfold ext
  split
  · exact Nat.zero_le _
  · split
    · exact Nat.zero_le _
    · rw [List.length_map]
      exact Nat.le_trans (List.length_filter_le _ _) (hb _)
variable (mask σ)
structure Bf (t : T) (U : List C) (K : Nat) (w1 w2 : List (List C)) (seen : List C) : Prop where
  l1 : ∀ w ∈ w1, w.length = K
  l2 : ∀ w ∈ w2, w.length = K + 1
  way : ∀ w ∈ w1 ++ w2, Way mask σ t w ∧ ∀ x ∈ w.tail, x ∈ seen
  nd : seen.Nodup
  sub : ∀ x ∈ seen, x ∈ U
  ng : ∀ x ∈ seen, goal x = false
  nxt : ∀ s ∈ seen, ∀ m, σ s = some m → ∀ x ∈ mask m, x ∈ seen ∨ ∃ cs, (x :: cs) ∈ w1 ++ w2
  fst : ∀ x ∈ mask t, x ∈ seen ∨ ∃ cs, (x :: cs) ∈ w1 ++ w2
  c1 : ∀ c cs, Way mask σ t (c :: cs) → (c :: cs).length < K → c ∈ seen
  c2 : ∀ c cs, Way mask σ t (c :: cs) → (c :: cs).length = K → c ∈ seen ∨ ∃ cs', (c :: cs') ∈ w1
variable {mask σ goal} {t : T} {U : List C}
theorem Bf.level {K : Nat} {w2 : List (List C)} {seen : List C} (hK : 0 < K) (h : Bf mask σ goal t U K [] w2 seen) : Bf mask σ goal t U (K + 1) w2 [] seen := by
  have h2 : ∀ c cs, Way mask σ t (c :: cs) → (c :: cs).length = K → c ∈ seen := fun c cs w e => (h.c2 c cs w e).resolve_right fun ⟨_, h⟩ => by cases h
  refine ⟨h.l2, fun w hw => (by cases hw), fun w hw => h.way w (by simpa using hw), h.nd, h.sub, h.ng, fun s hs m e x hx => by simpa using h.nxt s hs m e x hx, fun x hx => by simpa using h.fst x hx, fun c cs w hl => ?_, fun c cs w hl => ?_⟩
  · by_cases e : (c :: cs).length = K
    · exact h2 c cs w e
    · exact h.c1 c cs w (by omega)
  · cases cs with
    | nil => simp at hl; omega
    | cons c0 cs =>
      obtain ⟨m, w', e, hx, _⟩ := w.tail
      have hs : c0 ∈ seen := h2 c0 cs w' (by simp at hl ⊢; omega)
      simpa using h.nxt c0 hs m e c hx
theorem rch_seen {seen : List C} (hn : ∀ s ∈ seen, ∀ m, σ s = some m → ∀ x ∈ mask m, x ∈ seen) (hf : ∀ x ∈ mask t, x ∈ seen) {c : C} (h : Rch mask σ t c) : c ∈ seen := by
  induction h with
  | one h => exact hf _ h
  | more _ e h ih => exact hn _ ih _ e _ h
def Fine (mask : T → List C) (σ : C → Option T) (goal : C → Bool) (t : T) : Option (List C) → Prop
  | none => ∀ c cs, Way mask σ t (c :: cs) → goal c = false
  | some p => ∃ c cs, p = c :: cs ∧ Way mask σ t p ∧ goal c = true ∧ ∀ c' cs', Way mask σ t (c' :: cs') → goal c' = true → p.length ≤ (c' :: cs').length
theorem bfs_fine {b : Nat} (hb : ∀ t, (mask t).length ≤ b) (hU : ∀ t, ∀ c ∈ mask t, c ∈ U) : ∀ (k K : Nat) (w1 w2 : List (List C)) (seen : List C), 0 < K → Bf mask σ goal t U K w1 w2 seen → (w1 ++ w2).length + b * (U.length - seen.length) ≤ k → Fine mask σ goal t (bfs mask σ goal k (w1 ++ w2) seen) := by
  intro k
  induction k with
  | zero =>
    intro K w1 w2 seen hK h hc
    have e : w1 ++ w2 = [] := List.eq_nil_of_length_eq_zero (by omega)
    have h1 : w1 = [] := (List.append_eq_nil_iff.mp e).1
    have h2 : w2 = [] := (List.append_eq_nil_iff.mp e).2
    subst h1 h2
    intro c cs w
    refine h.ng c (rch_seen (fun s hs m e x hxz => (h.nxt s hs m e x hxz).resolve_right fun ⟨_, h⟩ => by cases h) (fun x hxz => (h.fst x hxz).resolve_right fun ⟨_, h⟩ => by cases h) (w.rch c List.mem_cons_self))
  | succ k ih =>
    have main : ∀ (K : Nat) (w : List C) (w1 w2 : List (List C)) (seen : List C), 0 < K → Bf mask σ goal t U K (w :: w1) w2 seen → (w :: w1 ++ w2).length + b * (U.length - seen.length) ≤ k + 1 → Fine mask σ goal t (bfs mask σ goal (k + 1) (w :: w1 ++ w2) seen) := by
      intro K w w1 w2 seen hK h hc
      obtain ⟨hw, htl⟩ := h.way w (by simp)
      have hlen := h.l1 w List.mem_cons_self
      cases w with
      | nil => simp at hlen; omega
      | cons c cs =>
        have hcU : c ∈ U := by cases hw with | one hxz => exact hU _ _ hxz | more _ _ hxz => exact hU _ _ hxz
        show Fine mask σ goal t (if goal c = true then some (c :: cs) else if c ∈ seen then bfs mask σ goal k (w1 ++ w2) seen else bfs mask σ goal k (w1 ++ w2 ++ ext mask σ (c :: cs)) (seen ++ [c]))
        split
        · rename_i hg
          refine ⟨c, cs, rfl, hw, hg, fun c' cs' w' hg' => ?_⟩
          rw [hlen]
          by_cases hl : (c' :: cs').length < K
          · have := h.ng c' (h.c1 c' cs' w' hl)
            rw [hg'] at this
            cases this
          · omega
        · rename_i hg
          split
          · rename_i hs
            refine ih K w1 w2 seen hK ⟨fun x hxz => h.l1 x (List.mem_cons_of_mem _ hxz), h.l2, fun x hxz => h.way x (List.mem_cons_of_mem _ hxz), h.nd, h.sub, h.ng, fun s hs' m e x hxz => ?_, fun x hxz => ?_, h.c1, fun x xs wx hl => ?_⟩ (by simp at hc ⊢; omega)
            · rcases h.nxt s hs' m e x hxz with h1 | ⟨ds, h1⟩
              · exact Or.inl h1
              · rcases List.mem_cons.mp h1 with e1 | h1
                · injection e1 with e1 _
                  exact Or.inl (e1 ▸ hs)
                · exact Or.inr ⟨ds, h1⟩
            · rcases h.fst x hxz with h1 | ⟨ds, h1⟩
              · exact Or.inl h1
              · rcases List.mem_cons.mp h1 with e1 | h1
                · injection e1 with e1 _
                  exact Or.inl (e1 ▸ hs)
                · exact Or.inr ⟨ds, h1⟩
            · rcases h.c2 x xs wx hl with h1 | ⟨ds, h1⟩
              · exact Or.inl h1
              · rcases List.mem_cons.mp h1 with e1 | h1
                · injection e1 with e1 _
                  exact Or.inl (e1 ▸ hs)
                · exact Or.inr ⟨ds, h1⟩
          · rename_i hs
            have hnd : (seen ++ [c]).Nodup := by
              rw [List.nodup_append]
              exact ⟨h.nd, List.nodup_cons.mpr ⟨by simp, List.nodup_nil⟩, fun x hxz y hy e => by
                obtain rfl := List.mem_singleton.mp hy
                exact hs (e ▸ hxz)⟩
            have hsub : ∀ x ∈ seen ++ [c], x ∈ U := fun x hxz => by
              rcases List.mem_append.mp hxz with hxz | hxz
              · exact h.sub x hxz
              · obtain rfl := List.mem_singleton.mp hxz; exact hcU
            have hle := nodup_le hnd hsub
            rw [List.length_append, List.length_singleton] at hle
            rw [List.append_assoc]
            refine ih K w1 (w2 ++ ext mask σ (c :: cs)) (seen ++ [c]) hK ⟨fun x hxz => h.l1 x (List.mem_cons_of_mem _ hxz), fun x hxz => ?_, fun x hxz => ?_, hnd, hsub, fun x hxz => ?_, fun s hs' m e x hxz => ?_, fun x hxz => ?_, fun x xs wx hl => List.mem_append.mpr (Or.inl (h.c1 x xs wx hl)), fun x xs wx hl => ?_⟩ ?_
            · rcases List.mem_append.mp hxz with hxz | hxz
              · exact h.l2 x hxz
              · obtain ⟨m, y, _, _, _, rfl⟩ := ext_mem.mp hxz
                simp at hlen ⊢
                omega
            · rw [← List.append_assoc] at hxz
              rcases List.mem_append.mp hxz with hxz | hxz
              · obtain ⟨a, b⟩ := h.way x (List.mem_cons_of_mem _ hxz)
                exact ⟨a, fun y hy => List.mem_append.mpr (Or.inl (b y hy))⟩
              · obtain ⟨m, y, e, hy, hn, rfl⟩ := ext_mem.mp hxz
                refine ⟨.more hw e hy hn, fun z hzz => ?_⟩
                rcases List.mem_cons.mp hzz with rfl | hzz
                · simp
                · exact List.mem_append.mpr (Or.inl (htl z hzz))
            · rcases List.mem_append.mp hxz with hxz | hxz
              · exact h.ng x hxz
              · obtain rfl := List.mem_singleton.mp hxz
                simpa using hg
            · rcases List.mem_append.mp hs' with hs' | hs'
              · rcases h.nxt s hs' m e x hxz with h1 | ⟨ds, h1⟩
                · exact Or.inl (List.mem_append.mpr (Or.inl h1))
                · rcases List.mem_cons.mp h1 with e1 | h1
                  · injection e1 with e1 _
                    exact Or.inl (by simp [e1])
                  · exact Or.inr ⟨ds, by rw [← List.append_assoc]; exact List.mem_append.mpr (Or.inl h1)⟩
              · obtain rfl := List.mem_singleton.mp hs'
                by_cases hxc : x ∈ s :: cs
                · rcases List.mem_cons.mp hxc with rfl | hxc
                  · exact Or.inl (by simp)
                  · exact Or.inl (List.mem_append.mpr (Or.inl (htl x hxc)))
                · exact Or.inr ⟨s :: cs, by rw [← List.append_assoc]; exact List.mem_append.mpr (Or.inr (ext_mem.mpr ⟨m, x, e, hxz, hxc, rfl⟩))⟩
            · rcases h.fst x hxz with h1 | ⟨ds, h1⟩
              · exact Or.inl (List.mem_append.mpr (Or.inl h1))
              · rcases List.mem_cons.mp h1 with e1 | h1
                · injection e1 with e1 _
                  exact Or.inl (by simp [e1])
                · exact Or.inr ⟨ds, by rw [← List.append_assoc]; exact List.mem_append.mpr (Or.inl h1)⟩
            · rcases h.c2 x xs wx hl with h1 | ⟨ds, h1⟩
              · exact Or.inl (List.mem_append.mpr (Or.inl h1))
              · rcases List.mem_cons.mp h1 with e1 | h1
                · injection e1 with e1 _
                  exact Or.inl (by simp [e1])
                · exact Or.inr ⟨ds, h1⟩
            · have hel := ext_len (σ := σ) hb (c :: cs)
              have hm : b * (U.length - seen.length) = b * (U.length - (seen ++ [c]).length) + b := by
                rw [List.length_append, List.length_singleton, ← Nat.mul_succ]
                congr 1
                omega
              simp only [List.length_append, List.length_cons] at hc hel hm ⊢
              omega
    intro K w1 w2 seen hK h hc
    cases w1 with
    | cons w w1 => exact main K w w1 w2 seen hK h hc
    | nil =>
      have h' := h.level hK
      cases w2 with
      | cons w w2 =>
        have := main (K + 1) w w2 [] seen (Nat.succ_pos _) h' (by simpa using hc)
        simpa using this
      | nil =>
        intro c cs w
        refine h.ng c (rch_seen (fun s hs m e x hxz => (h.nxt s hs m e x hxz).resolve_right fun ⟨_, h⟩ => by cases h) (fun x hxz => (h.fst x hxz).resolve_right fun ⟨_, h⟩ => by cases h) (w.rch c List.mem_cons_self))
variable (mask σ goal)
def short (k : Nat) (t : T) : Option (List C) := bfs mask σ goal k ((mask t).map fun c => [c]) []
variable {mask σ goal}
theorem short_fine {b : Nat} (hb : ∀ t, (mask t).length ≤ b) (hU : ∀ t, ∀ c ∈ mask t, c ∈ U) {k : Nat} (hk : b + b * U.length ≤ k) : Fine mask σ goal t (short mask σ goal k t) := by
  have := bfs_fine (σ := σ) (goal := goal) (t := t) hb hU k 1 ((mask t).map fun c => [c]) [] [] Nat.one_pos ⟨fun w hw => ?_, fun w hw => (by cases hw), fun w hw => ?_, List.nodup_nil, fun x hx => (by cases hx), fun x hx => (by cases hx), fun x hx => (by cases hx), fun x hx => ?_, fun c cs w hl => by simp at hl, fun c cs w hl => ?_⟩ ?_
  · rw [List.append_nil] at this; exact this
  · obtain ⟨c, _, rfl⟩ := List.mem_map.mp hw; rfl
  · rw [List.append_nil] at hw
    obtain ⟨c, hc, rfl⟩ := List.mem_map.mp hw
    exact ⟨.one hc, fun x hx => (by cases hx)⟩
  · exact Or.inr ⟨[], by rw [List.append_nil]; exact List.mem_map.mpr ⟨x, hx, rfl⟩⟩
  · cases cs with
    | nil => cases w with | one h => exact Or.inr ⟨[], List.mem_map.mpr ⟨c, h, rfl⟩⟩
    | cons _ _ => simp at hl
  · have := hb t
    simp
    omega
end
end Mq
end

section
namespace M
open PySem PySem.Spec PySem.Calls PyProof.Rows L2 L2.DL

/-! ### the order of texts -/
def strLe (a b : Str) : Bool := dle (.str a) (.str b)
theorem dle_total : PySem.W.TotalLe dle := PySem.W.sortLe_total _ _ _
theorem strLe_trans {a b c : Str} (h : strLe a b = true) (h' : strLe b c = true) : strLe a c = true := dle_total.trans _ _ _ h h'
theorem strLe_total (a b : Str) : (strLe a b || strLe b a) = true := by
  rcases dle_total.total (.str a) (.str b) with h | h
  · show (dle _ _ || _) = true; rw [h]; rfl
  · show (_ || dle _ _) = true; rw [h, Bool.or_true]
theorem keyToks_str {a b : Str} (h : PySem.W.keyToks (.str a) = PySem.W.keyToks (.str b)) : a = b := by
  have h' : [(.inr a.cps.toList : Int ⊕ List Nat)] = [.inr b.cps.toList] := h
  injection h' with h1 _
  injection h1 with h1
  cases a; cases b
  exact congrArg Str.mk (Array.ext' h1)
theorem dle_tot {a b : PyData} (h : dle a b = true) (h' : dle b a = true) : PySem.W.keyToks a = PySem.W.keyToks b := by
  have e1 : (!(PyProof.Rows.listOrd PyProof.Rows.itemOrd).blt (PySem.W.keyToks b) (PySem.W.keyToks a)) = true := h
  have e2 : (!(PyProof.Rows.listOrd PyProof.Rows.itemOrd).blt (PySem.W.keyToks a) (PySem.W.keyToks b)) = true := h'
  exact (PyProof.Rows.listOrd PyProof.Rows.itemOrd).total _ _ (by simpa using e2) (by simpa using e1)
theorem strLe_anti {a b : Str} (h : strLe a b = true) (h' : strLe b a = true) : a = b := keyToks_str (dle_tot h h')
def sortS (xs : List Str) : List Str := xs.mergeSort strLe
theorem sort_sL (xs : List Str) : (sL xs).mergeSort dle = sL (sortS xs) := (List.map_mergeSort (r := strLe) (s := dle) (f := PyData.str) (l := xs) (fun _ _ _ _ => rfl)).symm
theorem sortS_perm (xs : List Str) : (sortS xs).Perm xs := List.mergeSort_perm xs strLe
theorem sortS_pair (xs : List Str) : (sortS xs).Pairwise fun a b => strLe a b = true := List.pairwise_mergeSort (le := strLe) (fun a b c h h' => strLe_trans h h') strLe_total xs
theorem sortS_of {xs : List Str} (h : xs.Pairwise fun a b => strLe a b = true) : sortS xs = xs := List.mergeSort_of_pairwise h
theorem sortS_congr {xs ys : List Str} (h : xs.Perm ys) : sortS xs = sortS ys :=
  List.Perm.eq_of_pairwise (fun a b _ _ h1 h2 => strLe_anti h1 h2) (sortS_pair xs) (sortS_pair ys) (((sortS_perm xs).trans h).trans (sortS_perm ys).symm)
theorem perm_of_mem {xs ys : List Str} (hx : xs.Nodup) (hy : ys.Nodup) (h : ∀ a, a ∈ xs ↔ a ∈ ys) : xs.Perm ys := (List.perm_ext_iff_of_nodup hx hy).mpr h
theorem sortS_iff {xs ys : List Str} (hx : xs.Nodup) (hy : ys.Nodup) : sortS xs = sortS ys ↔ ∀ a, a ∈ xs ↔ a ∈ ys := by
  constructor
  · intro e a
    rw [← (sortS_perm xs).mem_iff, e, (sortS_perm ys).mem_iff]
  · exact fun h => sortS_congr (perm_of_mem hx hy h)

/-! ### data that may be laid -/
def Sh (k : Nat) (d : PyData) : Prop := d.canLay0 = true ∧ d.depth ≤ k
theorem Sh.shp {k : Nat} {d : PyData} (h : Sh k d) (hk : k ≤ 64) : shp d := by
  show (d.canLay0 && decide (d.depth ≤ 64)) = true
  rw [h.1, Bool.true_and]
  exact decide_eq_true (Nat.le_trans h.2 hk)
theorem sh_all {k : Nat} : ∀ {ds : List PyData}, (∀ d ∈ ds, Sh k d) → PyData.canLayAll0 ds = true ∧ PyData.depthAll ds ≤ k
  | [], _ => ⟨by simp [PyData.canLayAll0], by simp [PyData.depthAll]⟩
  | d :: ds, h => by
    obtain ⟨a, b⟩ := h d List.mem_cons_self
    obtain ⟨a2, b2⟩ := sh_all fun x hx => h x (List.mem_cons_of_mem _ hx)
    exact ⟨by rw [PyData.canLayAll0, a, a2]; rfl, by rw [PyData.depthAll]; exact Nat.max_le.mpr ⟨b, b2⟩⟩
theorem Sh.list {k : Nat} {ds : List PyData} (h : ∀ d ∈ ds, Sh k d) : Sh (k + 1) (.list ds) := ⟨by rw [PyData.canLay0]; exact (sh_all h).1, by rw [PyData.depth]; exact Nat.succ_le_succ (sh_all h).2⟩
theorem Sh.tuple {k : Nat} {ds : List PyData} (h : ∀ d ∈ ds, Sh k d) : Sh (k + 1) (.tuple ds) := ⟨by rw [PyData.canLay0]; exact (sh_all h).1, by rw [PyData.depth]; exact Nat.succ_le_succ (sh_all h).2⟩
theorem Sh.none {k : Nat} : Sh k .none := ⟨by simp [PyData.canLay0], by simp [PyData.depth]⟩
theorem Sh.bool {k : Nat} {b : Bool} : Sh k (.bool b) := ⟨by simp [PyData.canLay0], by simp [PyData.depth]⟩
theorem Sh.int {k : Nat} {i : Int} : Sh k (.int i) := ⟨by simp [PyData.canLay0], by simp [PyData.depth]⟩
/-- a name: one to eight small letters -/
def NmB (x : Str) : Bool := decide (1 ≤ x.length ∧ x.length ≤ 8) && x.cps.toList.all fun c => decide (97 ≤ c ∧ c ≤ 122)
def Nm (x : Str) : Prop := NmB x = true
theorem Nm.ok {x : Str} (h : Nm x) : PyData.strOk x = true := by
  have h2 := (Bool.and_eq_true_iff.mp h).2
  unfold PyData.strOk
  rw [Array.all_eq_true_iff_forall_mem]
  intro c hc
  have := of_decide_eq_true (List.all_eq_true.mp h2 c (Array.mem_toList_iff.mpr hc))
  exact (decide_eq_true (by omega))
theorem Sh.str {k : Nat} {x : Str} (h : Nm x) : Sh k (.str x) := ⟨by rw [PyData.canLay0]; exact h.ok, by simp [PyData.depth]⟩
theorem shp_s {x : Str} (h : Nm x) : shp (.str x) := (Sh.str (k := 0) h).shp (by decide)
theorem sh_sL {k : Nat} {xs : List Str} (h : ∀ x ∈ xs, Nm x) : ∀ d ∈ sL xs, Sh k d := fun d hd => by
  obtain ⟨x, hx, rfl⟩ := List.mem_map.mp hd
  exact .str (h x hx)
theorem shp_l {xs : List Str} (h : ∀ x ∈ xs, Nm x) : shp (.list (sL xs)) := (Sh.list (k := 0) (sh_sL h)).shp (by decide)
theorem shp_t {xs : List Str} (h : ∀ x ∈ xs, Nm x) : shp (.tuple (sL xs)) := (Sh.tuple (k := 0) (sh_sL h)).shp (by decide)
theorem any_s (xs : List Str) (a : Str) : ((sL xs).any fun z => PyData.eqv z (.str a)) = decide (a ∈ xs) := by
  induction xs with
  | nil => rfl
  | cons x xs ih =>
    show (PyData.eqv (.str x) (.str a) || _) = _
    rw [ih, eqv_s]
    by_cases h : x = a
    · subst h; simp
    · have h2 : ¬ a = x := fun e => h e.symm
      simp [h, h2]
theorem sortOk_s {xs : List Str} (h : ∀ x ∈ xs, Nm x) : SortOk (sL xs) := by
  refine ⟨.of fun b b' => ?_, .others fun b => ⟨fun e => (by cases e), fun xs e => (by cases e)⟩, fun d hd => ?_⟩
  · simp [PySem.W.alike]
  · obtain ⟨x, hx, rfl⟩ := List.mem_map.mp hd
    exact shp_s (h x hx)
mutual
theorem eqv_refl : ∀ d : PyData, (∀ kvs, d ≠ .dict kvs) → d.canLay0 = true → PyData.eqv d d = true
  | .none, _, _ => by simp [PyData.eqv]
  | .bool b, _, _ => by simp [PyData.eqv]
  | .int i, _, _ => by simp [PyData.eqv]
  | .str x, _, _ => by simp [PyData.eqv]
  | .list ds, _, h => by rw [PyData.eqv]; exact eqvAll_refl ds (by rw [PyData.canLay0] at h; exact h)
  | .tuple ds, _, h => by rw [PyData.eqv]; exact eqvAll_refl ds (by rw [PyData.canLay0] at h; exact h)
  | .dict kvs, h, _ => (h kvs rfl).elim
theorem eqvAll_refl : ∀ ds : List PyData, PyData.canLayAll0 ds = true → PyData.eqvAll ds ds = true
  | [], _ => (by simp [PyData.eqvAll])
  | d :: ds, h => by
    rw [PyData.canLayAll0, Bool.and_eq_true] at h
    rw [PyData.eqvAll, eqv_refl d (fun kvs e => by rw [e, PyData.canLay0] at h; exact Bool.false_ne_true h.1) h.1, eqvAll_refl ds h.2]
    rfl
end
theorem Sh.eqv {k : Nat} {d : PyData} (h : Sh k d) : PyData.eqv d d = true := eqv_refl d (fun kvs e => by have := h.1; rw [e, PyData.canLay0] at this; exact Bool.false_ne_true this) h.1
end M
end

section
namespace M
open PySem PySem.Spec PySem.Calls PyProof.Rows L2 L2.DL Mq

/-! ### the typed case -/
abbrev Tab := List (Str × List Str)
abbrev Ss := List (Str × Str)
def msk (tab : Tab) (t : Str) : List Str := (tab.lookup t).getD []
def sg (ss : Ss) (c : Str) : Option Str := ss.lookup c
def cutD (cs : List Str) : PyData := .tuple (sL cs)
def tabD (tab : Tab) : PyData := .dict (mapD cutD tab)
def seatD (ss : Ss) : PyData := .dict (mapD .str ss)
abbrev ks {α : Type} (ps : List (Str × α)) : List Str := ps.map (·.1)
def ixd (tab : Tab) (t : Str) : Nat := (ks tab).idxOf t
structure CsOk (cs : List Str) : Prop where
  ne : cs ≠ []
  up : cs.Pairwise fun a b => strLe a b = true
  nd : cs.Nodup
structure TabOk (tab : Tab) (U : List Str) : Prop where
  nd : (ks tab).Nodup
  len : tab.length ≤ 8
  nm : ∀ p ∈ tab, Nm p.1
  cs : ∀ p ∈ tab, CsOk p.2
  inU : ∀ p ∈ tab, ∀ c ∈ p.2, c ∈ U
  nU : U.Nodup
  lU : U.length ≤ 4
  nmU : ∀ c ∈ U, Nm c
structure SsOk (tab : Tab) (ss : Ss) : Prop where
  nk : (ks ss).Nodup
  nv : (ss.map (·.2)).Nodup
  ok : ∀ p ∈ ss, p.1 ∈ msk tab p.2
section
variable {α : Type}
theorem look_mem {ps : List (Str × α)} {x : Str} {v : α} (h : ps.lookup x = some v) : (x, v) ∈ ps := by
  induction ps with
  | nil => cases h
  | cons p ps ih =>
    obtain ⟨k, w⟩ := p
    rw [List.lookup_cons] at h
    split at h
    · rename_i e
      rw [beq_iff_eq] at e
      cases h
      rw [e]; exact List.mem_cons_self
    · exact List.mem_cons_of_mem _ (ih h)
theorem look_of {ps : List (Str × α)} {x : Str} {v : α} (hn : (ks ps).Nodup) (h : (x, v) ∈ ps) : ps.lookup x = some v := by
  induction ps with
  | nil => cases h
  | cons p ps ih =>
    obtain ⟨k, w⟩ := p
    have hnz' := List.nodup_cons.mp hn
    rw [List.lookup_cons]
    rcases List.mem_cons.mp h with ez | h
    · cases ez; simp
    · have : x ≠ k := fun ez => hnz'.1 (List.mem_map.mpr ⟨_, h, ez⟩)
      have e2 : (x == k) = false := by simpa using this
      rw [e2]
      exact ih hnz'.2 h
theorem look_key {ps : List (Str × α)} {x : Str} (h : x ∈ ks ps) : ∃ v, ps.lookup x = some v := by
  induction ps with
  | nil => cases h
  | cons p ps ih =>
    obtain ⟨k, w⟩ := p
    rw [List.lookup_cons]
    by_cases e : x = k
    · subst e; exact ⟨w, by simp⟩
    · have e2 : (x == k) = false := by simpa using e
      rw [e2]
      rcases List.mem_cons.mp h with h | h
      · exact (e h).elim
      · exact ih h
theorem look_none {ps : List (Str × α)} {x : Str} (h : x ∉ ks ps) : ps.lookup x = none := by
  cases e : ps.lookup x with
  | none => rfl
  | some v => exact (h (List.mem_map.mpr ⟨_, look_mem e, rfl⟩)).elim
end
theorem tab_look {tab : Tab} {t : Str} {cs : List Str} (h : tab.lookup t = some cs) : lookD (mapD cutD tab) (.str t) = some (cutD cs) := by rw [look_map, h]; rfl
theorem ss_look {ss : Ss} {c m : Str} (h : sg ss c = some m) : lookD (mapD .str ss) (.str c) = some (.str m) := by
  have h' : ss.lookup c = some m := h
  rw [look_map, h']; rfl
theorem ss_some (ss : Ss) (c : Str) : (lookD (mapD .str ss) (.str c)).isSome = (sg ss c).isSome := by rw [look_map, Option.isSome_map]; rfl
theorem mk_of {tab : Tab} {t : Str} {cs : List Str} (h : tab.lookup t = some cs) : msk tab t = cs := by unfold msk; rw [h]; rfl
theorem mk_key {tab : Tab} {t c : Str} (h : c ∈ msk tab t) : t ∈ ks tab := by
  unfold msk at h
  cases e : tab.lookup t with
  | none => (rw [e] at h; cases h)
  | some cs => exact List.mem_map.mpr ⟨_, look_mem e, rfl⟩
theorem look_mk {tab : Tab} {t : Str} (h : t ∈ ks tab) : tab.lookup t = some (msk tab t) := by
  obtain ⟨cs, e⟩ := look_key h
  rw [e, mk_of e]
section
variable {tab : Tab} {U : List Str} {ss : Ss}
theorem TabOk.csok (T : TabOk tab U) {t : Str} (h : t ∈ ks tab) : CsOk (msk tab t) := T.cs _ (look_mem (look_mk h))
theorem TabOk.mU (T : TabOk tab U) : ∀ t, ∀ c ∈ msk tab t, c ∈ U := fun t c h => T.inU _ (look_mem (look_mk (mk_key h))) c h
theorem TabOk.mnd (T : TabOk tab U) (t : Str) : (msk tab t).Nodup := by
  by_cases h : t ∈ ks tab
  · exact (T.csok h).nd
  · unfold msk; rw [look_none h]; exact List.nodup_nil
theorem TabOk.ml (T : TabOk tab U) (t : Str) : (msk tab t).length ≤ 4 := Nat.le_trans (nodup_le (T.mnd t) (T.mU t)) T.lU
theorem TabOk.mnm (T : TabOk tab U) {t : Str} : ∀ c ∈ msk tab t, Nm c := fun c h => T.nmU c (T.mU t c h)
theorem TabOk.tnm (T : TabOk tab U) {t : Str} (h : t ∈ ks tab) : Nm t := T.nm _ (look_mem (look_mk h))
theorem TabOk.sort (T : TabOk tab U) (t : Str) : SortOk (sL (msk tab t)) ∧ (sL (msk tab t)).mergeSort dle = sL (msk tab t) := by
  refine ⟨sortOk_s T.mnm, ?_⟩
  rw [sort_sL]
  by_cases h : t ∈ ks tab
  · rw [sortS_of (T.csok h).up]
  · have : msk tab t = [] := by unfold msk; rw [look_none h]; rfl
    rw [this, sortS_of List.Pairwise.nil]
theorem TabOk.inj (T : TabOk tab U) : ∀ x y, x ∈ ks tab → y ∈ ks tab → ixd tab x = ixd tab y → x = y := by
  intro x y hx hy e
  have e' : (ks tab).idxOf x = (ks tab).idxOf y := e
  have h1 := List.getElem_idxOf (x := x) (xs := ks tab) (List.idxOf_lt_length_of_mem hx)
  have h2 := List.getElem_idxOf (x := y) (xs := ks tab) (List.idxOf_lt_length_of_mem hy)
  rw [← h1, ← h2]
  congr 1
theorem sg_iff (S : SsOk tab ss) {c t : Str} : sg ss c = some t ↔ (c, t) ∈ ss := ⟨look_mem, look_of S.nk⟩
theorem SsOk.seat (S : SsOk tab ss) : Seat (msk tab) (sg ss) := by
  refine ⟨fun c t h => S.ok _ (look_mem h), fun c c' t h h' => ?_⟩
  have h1 := look_mem h
  have h2 := look_mem h'
  have nv := S.nv
  clear S h h'
  induction ss with
  | nil => cases h1
  | cons p ss ih =>
    have hn := List.nodup_cons.mp nv
    rcases List.mem_cons.mp h1 with e1 | h1 <;> rcases List.mem_cons.mp h2 with e2 | h2
    · rw [← e1] at e2; exact (congrArg Prod.fst e2).symm
    · exact (hn.1 (List.mem_map.mpr ⟨_, h2, by rw [← e1]⟩)).elim
    · exact (hn.1 (List.mem_map.mpr ⟨_, h1, by rw [← e2]⟩)).elim
    · exact ih h1 h2 hn.2
theorem sd_iff (S : SsOk tab ss) {t : Str} : Sd (sg ss) t ↔ t ∈ ss.map (·.2) := by
  constructor
  · rintro ⟨c, h⟩; exact List.mem_map.mpr ⟨_, look_mem h, rfl⟩
  · intro h
    obtain ⟨⟨c, u⟩, hp, e⟩ := List.mem_map.mp h
    exact ⟨c, look_of S.nk (e ▸ hp)⟩
theorem sg_key (S : SsOk tab ss) {c t : Str} (h : sg ss c = some t) : t ∈ ks tab := mk_key (S.ok _ (look_mem h))
end
theorem idx_s {ns : List Str} {t : Str} (h : t ∈ ns) : idxD (sL ns) (.str t) = some (ns.idxOf t) := by
  unfold idxD
  induction ns with
  | nil => cases h
  | cons x ns ih =>
    show List.findIdx? _ (.str x :: sL ns) = _
    rw [List.findIdx?_cons, eqv_s, List.idxOf_cons]
    by_cases e : x = t
    · subst e; simp
    · have e2 : (x == t) = false := by simpa using e
      rw [e2, if_neg Bool.false_ne_true, ih ((List.mem_cons.mp h).resolve_left fun z => e z.symm)]
      rfl
theorem at_nat {α : Type} {xs : List α} {i : Nat} {x : α} (h : xs[i]? = some x) : atI xs (i : Int) = some x := by
  obtain ⟨hiz, _⟩ := List.getElem?_eq_some_iff.mp h
  unfold atI ixN
  rw [(if_pos (by omega)), if_pos (by omega)]
  simpa using h
theorem at_zero {α : Type} {xs : List α} {x : α} : atI (x :: xs) 0 = some x := at_nat (i := 0) rfl
theorem at_last {α : Type} {xs : List α} {x : α} (h : xs.getLast? = some x) : atI xs (-1) = some x := by
  have hp : 0 < xs.length := by
    cases xs with
    | nil => cases h
    | cons _ _ => exact Nat.succ_pos _
  unfold atI ixN
  rw [if_neg (by omega), if_pos (by omega)]
  have e : ((-1 : Int) + (xs.length : Nat)).toNat = xs.length - 1 := by omega
  rw [List.getLast?_eq_getElem?] at h
  show xs[((-1 : Int) + (xs.length : Nat)).toNat]? = _
  rw [e]; exact h
theorem cut_from {α : Type} (x : α) (xs : List α) : cutX (x :: xs) (some 1) none = xs := by
  unfold cutX
  have e1 : HT.sIx (x :: xs).length 0 (some 1) = 1 := by rw [show (1 : Int) = ((1 : Nat) : Int) from rfl, HT.sIx_nat]; simp
  rw [e1, HT.sIx_none]
  simp
theorem cut_to {α : Type} (xs : List α) (k : Nat) : cutX xs none (some (k : Int)) = xs.take k := by
  unfold cutX
  rw [HT.sIx_none, HT.sIx_nat]
  simp [List.take_eq_take_iff]
theorem parB {is : List Nat} {env : List Sl} (k : Nat) (h : env.length = k) (h2 : (is.all fun i => decide (i < k)) = true) : ∀ i ∈ is, i < env.length := fun i hi => h ▸ of_decide_eq_true (List.all_eq_true.mp h2 i hi)
theorem sizeK : 100000 ≤ sizeLine := by decide
theorem sL_app (xs : List Str) (x : Str) : sL xs ++ [PyData.str x] = sL (xs ++ [x]) := by simp [sL]
theorem sL_len (xs : List Str) : (sL xs).length = xs.length := List.length_map ..
theorem forL_eq {α : Type} {gg : GG} {gb : GS} {D : DEnds} {items : List PyData} {env : List Sl} {n : Nat} (f : α → PyData) (xs : List α) (he : items = xs.map f) (I : List α → List Sl → Nat → Prop) (h : I xs env n) (fin : ∀ env n, I [] env n → D.nx env n)
    (step : ∀ x xs env n (R : List Sl → Nat → Prop), I (x :: xs) env n → (∀ env' n', I xs env' n' → R env' n') → gg (f x) env fun env' => gb { D with nx := R, ct := R, bk := D.nx } env' n) : gForL gg gb D items env n := by
  subst he
  exact forL_inv I fin step xs env n h
theorem ifT {c p q : Prop} [Decidable c] (h : c) (k : p) : if c then p else q := by rw [if_pos h]; exact k
theorem ifF {c p q : Prop} [Decidable c] (h : ¬ c) (k : q) : if c then p else q := by rw [if_neg h]; exact k
end M
end

section
namespace M
open PySem PySem.Spec PySem.Calls PyProof.Rows L2 L2.DL Mq

/-! ### books, rows, seatings as given -/
abbrev RT (Q : GK) : DEnds := { nx := fun _ n => Q .none n, rt := Q }
def kindsT (kinds : Tab) : PyData := .tuple (kinds.map fun p => .tuple [.str p.1, cutD p.2])
def ssT (ss : Ss) : PyData := .tuple (ss.map fun p => .tuple [.str p.1, .str p.2])
def mayL (kinds : Tab) (rs : List SP) : Tab := rs.map fun r => (r.2.1, msk kinds r.2.2)
structure BookOk (book : PyData) (kinds : Tab) : Prop where
  ex : ∃ b x y, book = seqD b [x, y] ∧ okT 9 y ∧ tupD y = kindsT kinds
  nd : (ks kinds).Nodup
structure BR (book ready : PyData) (tab : Tab) : Prop where
  ex : ∃ kinds b rs, BookOk book kinds ∧ ready = readyD b rs ∧ rs.length ≤ 8 ∧ (∀ r ∈ rs, r.2.2 ∈ ks kinds) ∧ (rs.map fun r => r.2.1).Nodup ∧ tab = mayL kinds rs
structure SR (seating : PyData) (ss : Ss) : Prop where
  ok : okT 9 seating
  eq : tupD seating = ssT ss
  nd : (ks ss).Nodup
def g_masks_table : GF := fun ds n Q => ∃ book kinds, ds = [book] ∧ BookOk book kinds ∧ Q (tabD kinds) n
theorem law_masks_table (ds : List PyData) (n : Nat) (Q : GK) (h : g_masks_table ds n Q) : gb_masks_table (g_tupled 9) (RT Q) (startE nm_masks_table ds) n := by
  obtain ⟨book, kinds, rfl, ⟨⟨b, x, y, rfl, ok, e⟩, nd⟩, q⟩ := h
  have key : g_tupled 9 [y] n fun d n1 => oDictP [d] fun d => Q d n1 := by
    refine ⟨y, rfl, ok, ?_⟩
    rw [e]
    refine ⟨mapD cutD kinds, ?_, fun p hp => ?_, ?_⟩
    · show kinds.map _ = (kinds.map _).map L2.DL.pairD
      rw [List.map_map]; rfl
    · obtain ⟨p, _, rfl⟩ := List.mem_map.mp hp; rfl
    · rw [merge_nodup cutD nd]; exact q
  cases b
  · exact ⟨y, rfl, key⟩
  · exact ⟨y, rfl, key⟩
def g_may_table : GF := fun ds n Q => ∃ book ready tab, ds = [book, ready] ∧ BR book ready tab ∧ Q (tabD tab) n
theorem law_may_table (ds : List PyData) (n : Nat) (Q : GK) (h : g_may_table ds n Q) : gb_may_table g_masks_table (RT Q) (startE nm_may_table ds) n := by
  obtain ⟨book, ready, tab, rfl, ⟨kinds, b, rs, B, rfl, hl, hk, hn, rfl⟩, q⟩ := h
  refine ⟨(by decide : 2 < 5), book, kinds, rfl, B, ?_⟩
  have key : gDcL (ggPair 3 4) (gVar 3) (gDGet (gVarB 2) (gVarB 4)) [.dat book, .dat (readyD b rs), .dat (tabD kinds), .no, .no] (fun acc n2 => Q (.dict acc) n2) (rs.map spE) [] n := by
    refine dcL_pure (fun r => .str r.2.1) (fun r => cutD (msk kinds r.2.2)) rs [] (fun r hr => ⟨rfl, fun R h1 => ?_⟩) ?_ ?_
    · obtain ⟨b', x, y⟩ := r
      have h2 : lookD (mapD cutD kinds) (.str y) = some (cutD (msk kinds y)) := tab_look (look_mk (hk _ hr))
      refine ⟨(by decide : 3 < 5), (by decide : 4 < 5), ?_⟩
      cases b' <;> exact ⟨dOk_map _ _, rfl, _, h2, h1⟩
    · show 0 + rs.length ≤ sizeLine
      have : 8 ≤ sizeLine := by decide
      omega
    · have e1 : ∀ acc : Tab, rs.foldl (fun acc r => putD acc (.str r.2.1) (cutD (msk kinds r.2.2))) (mapD cutD acc) = mapD cutD (rs.foldl (fun z r => putS z r.2.1 (msk kinds r.2.2)) acc) := by
        clear hl hk hn q
        induction rs with
        | nil => exact fun _ => rfl
        | cons r rs ih =>
          intro acc
          rw [List.foldl_cons, List.foldl_cons, put_map, ih]
      have e2 := e1 []
      rw [foldl_put (fun r : SP => r.2.1) (fun r => msk kinds r.2.2) rs [] (by simpa using hn)] at e2
      have e3 : mapD cutD ([] : Tab) = [] := rfl
      rw [e3] at e2
      rw [e2]
      exact q
  have no : noOwn [Sl.dat book, .dat (readyD b rs), .dat (tabD kinds), .no, .no] [3, 4] := fun i hi d e => by
    simp at hi
    rcases hi with rfl | rfl <;> cases e
  refine ⟨no, ?_⟩
  cases b <;> exact key
/-- a dict made of pairs -/
theorem dictP_of {b : Bool} {ss : Ss} {Q : PyData → Prop} (hn : (ks ss).Nodup) (q : Q (seatD ss)) : oDictP [seqD b (ss.map fun p => .tuple [.str p.1, .str p.2])] Q := by
  have key : ∃ qs : List (PyData × PyData), (ss.map fun p => PyData.tuple [.str p.1, .str p.2]) = qs.map L2.DL.pairD ∧ (∀ q ∈ qs, isKey q.1 = true) ∧ Q (.dict (mergeD [] qs)) := by
    refine ⟨mapD .str ss, ?_, fun p hp => ?_, ?_⟩
    · show ss.map _ = (ss.map _).map L2.DL.pairD
      rw [List.map_map]; rfl
    · obtain ⟨p, _, rfl⟩ := List.mem_map.mp hp; rfl
    · rw [merge_nodup PyData.str hn]; exact q
  cases b <;> exact key
def g_seats_of : GF := fun ds n Q => ∃ seating ss, ds = [seating] ∧ SR seating ss ∧ Q (seatD ss) n
theorem law_seats_of (ds : List PyData) (n : Nat) (Q : GK) (h : g_seats_of ds n Q) : gb_seats_of (g_tupled 9) { nx := fun _ _ => False, rt := fun _ _ => False, rf := Q } (startE nm_seats_of ds) n := by
  obtain ⟨seating, ss, rfl, ⟨ok, e, nd⟩, q⟩ := h
  refine ⟨seating, rfl, ok, ?_⟩
  rw [e]
  exact dictP_of (b := false) (Q := fun d => Q d n) nd q
def g_does_wait : GF := fun ds n Q => ∃ ss t, ds = [seatD ss, .str t] ∧ (∀ p ∈ ss, Nm p.2) ∧ Nm t ∧ Q (.bool (!decide (t ∈ ss.map (·.2)))) n
theorem vals_map {α : Type} (e : α → PyData) (ps : List (Str × α)) : (mapD e ps).map (·.2) = ps.map fun p => e p.2 := by unfold mapD; rw [List.map_map]; rfl
theorem law_does_wait (ds : List PyData) (n : Nat) (Q : GK) (h : g_does_wait ds n Q) : gb_does_wait (RT Q) (startE nm_does_wait ds) n := by
  obtain ⟨ss, t, rfl, h1, h2, q⟩ := h
  have e : (mapD PyData.str ss).map (·.2) = sL (ss.map (·.2)) := by rw [vals_map]; show _ = (ss.map _).map _; rw [List.map_map]; rfl
  refine ⟨dOk_map _ _, shp_s h2, ?_, ?_⟩
  · show shp (.list ((mapD PyData.str ss).map (·.2)))
    rw [e]
    exact shp_l fun x hx => by obtain ⟨p, hp, rfl⟩ := List.mem_map.mp hx; exact h1 p hp
  · show Q (.bool (!(((mapD PyData.str ss).map (·.2)).any fun z => PyData.eqv z (.str t)))) n
    rw [e, any_s]
    exact q
def endB (tab : Tab) (ss : Ss) (t c : Str) : Bool := match sg ss c with
  | none => true
  | some u => decide (ixd tab t < ixd tab u)
theorem endB_iff {tab : Tab} {ss : Ss} {t c : Str} : endB tab ss t c = true ↔ Mq.End (ixd tab) (sg ss) t c := by
  unfold endB Mq.End
  cases sg ss c with
  | none => exact ⟨fun _ u e => (by cases e), fun _ => rfl⟩
  | some u => exact ⟨fun h v e => by cases e; exact of_decide_eq_true h, fun h => decide_eq_true (h u rfl)⟩
def g_is_end : GF := fun ds n Q => ∃ tab U ss t c, ds = [.list (sL (ks tab)), seatD ss, .str t, .str c] ∧ TabOk tab U ∧ SsOk tab ss ∧ t ∈ ks tab ∧ Q (.bool (endB tab ss t c)) n
theorem shp_ks {tab : Tab} {U : List Str} (T : TabOk tab U) : shp (.list (sL (ks tab))) := shp_l fun x hx => T.tnm hx
theorem index_go {tab : Tab} {U : List Str} (T : TabOk tab U) {go gx : GE} {env : List Sl} {n : Nat} {Q : GK} {t : Str} (ho : ∀ R : GK, R (.list (sL (ks tab))) n → go env n R) (hx : ∀ R : GK, R (.str t) n → gx env n R) (h : t ∈ ks tab) (q : Q (.int (ixd tab t : Nat)) n) : gIndex go gx env n Q := by
  refine ho _ ?_
  refine hx _ ?_
  exact ⟨shp_ks T, shp_s (T.tnm h), _, idx_s h, q⟩
theorem law_is_end (ds : List PyData) (n : Nat) (Q : GK) (h : g_is_end ds n Q) : gb_is_end (RT Q) (startE nm_is_end ds) n := by
  obtain ⟨tab, U, ss, t, c, rfl, T, S, ht, q⟩ := h
  refine ⟨dOk_map _ _, rfl, ?_⟩
  show if (!(lookD (mapD PyData.str ss) (.str c)).isSome) = true then Q (.bool true) n else gBin oGt (gIndex (gVarB 0) (gDGet (gVarB 1) (gVarB 3))) (gIndex (gVarB 0) (gVarB 2)) [.dat (.list (sL (ks tab))), .dat (seatD ss), .dat (.str t), .dat (.str c)] n Q
  rw [ss_some]
  unfold endB at q
  cases e : sg ss c with
  | none => rw [e] at q; exact ifT rfl q
  | some u =>
    rw [e] at q
    refine ifF (by simp) ?_
    refine index_go T (fun R h => h) (fun R h => ⟨dOk_map _ _, rfl, _, ss_look e, h⟩) (sg_key S e) ?_
    refine index_go T (fun R h => h) (fun R h => h) ht ?_
    refine ⟨trivial, ?_⟩
    show Q (.bool (decide ((ixd tab t : Int) < (ixd tab u : Nat)))) n
    have : decide ((ixd tab t : Int) < (ixd tab u : Nat)) = decide (ixd tab t < ixd tab u) := by congr 1; simp
    rw [this]
    exact q
end M
end

section
namespace M
open PySem PySem.Spec PySem.Calls PyProof.Rows L2 L2.DL Mq

/-! ### reach -/
def g_reach : GF := fun ds n Q => ∃ tab U ss t, ds = [tabD tab, seatD ss, .str t] ∧ TabOk tab U ∧ SsOk tab ss ∧ t ∈ ks tab ∧ ∀ out : List Str, out.Nodup → (∀ c, c ∈ out ↔ Rch (msk tab) (sg ss) t c) → Q (.list (sL out)) n
section
variable {tab : Tab} {U : List Str} {ss : Ss} {t : Str}
/-- what is found and what is left to look at -/
structure Rin (tab : Tab) (U : List Str) (ss : Ss) (t : Str) (cl : Str → Prop) (found movers : List Str) : Prop where
  nd : found.Nodup
  rch : ∀ c ∈ found, Rch (msk tab) (sg ss) t c
  mv : ∀ m ∈ movers, m = t ∨ ∃ c ∈ found, sg ss c = some m
  sub : ∀ c ∈ found, c ∈ U
  fst : t ∈ movers ∨ cl t
  nxt : ∀ c ∈ found, ∀ m, sg ss c = some m → m ∈ movers ∨ cl m
theorem Rin.add {cl : Str → Prop} {found movers : List Str} (T : TabOk tab U) (h : Rin tab U ss t cl found movers) {c : Str} (hc : c ∉ found) (hr : Rch (msk tab) (sg ss) t c) (hu : c ∈ U) : Rin tab U ss t cl (found ++ [c]) (match sg ss c with | some m => movers ++ [m] | none => movers) := by
  have sub : ∀ m ∈ movers, m ∈ (match sg ss c with | some m => movers ++ [m] | none => movers) := fun m hmz => by
    cases sg ss c with
    | none => exact hmz
    | some m' => exact List.mem_append.mpr (Or.inl hmz)
  refine ⟨?_, fun x hxz => ?_, fun m hmz => ?_, fun x hxz => ?_, h.fst.imp (sub _) id, fun x hxz m e => ?_⟩
  · rw [List.nodup_append]
    exact ⟨h.nd, List.nodup_cons.mpr ⟨by simp, List.nodup_nil⟩, fun x hxz y hy e => by
      obtain rfl := List.mem_singleton.mp hy
      exact hc (e ▸ hxz)⟩
  · rcases List.mem_append.mp hxz with hxz | hxz
    · exact h.rch x hxz
    · obtain rfl := List.mem_singleton.mp hxz; exact hr
  · have old : m ∈ movers → m = t ∨ ∃ c' ∈ found ++ [c], sg ss c' = some m := fun hmz => (h.mv m hmz).imp id fun ⟨c', h1, h2⟩ => ⟨c', List.mem_append.mpr (Or.inl h1), h2⟩
    cases e : sg ss c with
    | none => rw [e] at hmz; exact old hmz
    | some m' =>
      rw [e] at hmz
      rcases List.mem_append.mp hmz with hmz | hmz
      · exact old hmz
      · obtain rfl := List.mem_singleton.mp hmz
        exact Or.inr ⟨c, by simp, e⟩
  · rcases List.mem_append.mp hxz with hxz | hxz
    · exact h.sub x hxz
    · obtain rfl := List.mem_singleton.mp hxz; exact hu
  · rcases List.mem_append.mp hxz with hxz | hxz
    · exact (h.nxt x hxz m e).imp (sub _) id
    · obtain rfl := List.mem_singleton.mp hxz
      rw [e]
      exact Or.inl (by simp)
theorem Rin.fin {found : List Str} (h : Rin tab U ss t (fun m => ∀ c ∈ msk tab m, c ∈ found) found []) : ∀ c, c ∈ found ↔ Rch (msk tab) (sg ss) t c := fun c => ⟨h.rch c, fun hr => by
  induction hr with
  | one hc => exact (h.fst.resolve_left (by simp)) _ hc
  | more _ e hc ih => exact ((h.nxt _ ih _ e).resolve_left (by simp)) _ hc⟩
end
theorem law_reach (ds : List PyData) (n : Nat) (Q : GK) (h : g_reach ds n Q) : gb_reach (RT Q) (startE nm_reach ds) n := by
  obtain ⟨tab, U, ss, t, rfl, T, S, ht, q⟩ := h
  refine ⟨parB 7 rfl (by decide), (by decide : 0 ≤ sizeLine), (by decide : 1 ≤ sizeLine), ?_⟩
  refine while_inv (fun m env n' => n = n' ∧ m ≤ 5 ∧ ∃ found movers x y, env = [.dat (tabD tab), .dat (seatD ss), .dat (.str t), .own (.list (sL found)), .dat (.list (sL movers)), x, y] ∧ Rin tab U ss t (fun m => ∀ c ∈ msk tab m, c ∈ found) found movers ∧ movers.length + (U.length - found.length) ≤ m) ?_ (m := 5) ⟨rfl, Nat.le_refl _, [], [t], _, _, rfl, ⟨List.nodup_nil, fun c h => (by cases h), fun m hm => Or.inl (List.mem_singleton.mp hm), fun c h => (by cases h), Or.inl (by simp), fun c h => (by cases h)⟩, by have := T.lU; simp [this]; omega⟩
  rintro m env _ R ⟨rfl, h5, found, movers, x, y, rfl, I, hm⟩ hR
  refine ⟨trivial, ?_⟩
  show if decide ((0 : Int) < ((sL movers).length : Nat)) = true then _ else _
  cases movers with
  | nil =>
    refine ifF (by simp) ?_
    exact q found I.nd I.fin
  | cons mv movers =>
    refine ifT (by simp) ?_
    have hmv : mv ∈ ks tab := by
      rcases I.mv mv List.mem_cons_self with rfl | ⟨c, _, ez⟩
      · exact ht
      · exact sg_key S ez
    have hmr : ∀ c ∈ msk tab mv, Rch (msk tab) (sg ss) t c := fun c hc => by
      rcases I.mv mv List.mem_cons_self with rfl | ⟨c0, h0, ez⟩
      · exact .one hc
      · exact .more (I.rch c0 h0) ez hc
    refine ⟨parB 7 rfl (by decide), _, at_zero, ?_⟩
    refine ⟨dOk_map _ _, rfl, _, tab_look (look_mk hmv), (T.sort mv).1, ?_⟩
    refine forL_eq PyData.str (msk tab mv) (T.sort mv).2 (fun rest env n' => n = n' ∧ (∀ c ∈ rest, c ∈ msk tab mv) ∧ ∃ found movers' y, env = [.dat (tabD tab), .dat (seatD ss), .dat (.str t), .own (.list (sL found)), .dat (.list (sL movers')), .dat (.str mv), y] ∧ Rin tab U ss t (fun m => ∀ c ∈ msk tab m, c ∈ found ∨ (m = mv ∧ c ∈ rest)) found movers' ∧ movers'.length + (U.length - found.length) < m) ⟨rfl, fun c h => h, found, movers, y, ?_, ?_, ?_⟩ ?_ ?_
    · show [Sl.dat (tabD tab), .dat (seatD ss), .dat (.str t), .own (.list (sL found)), .dat (.list (cutX (sL (mv :: movers)) (some 1) none)), .dat (.str mv), y] = _
      rw [show cutX (sL (mv :: movers)) (some 1) none = sL movers from cut_from _ _]
    · refine ⟨I.nd, I.rch, fun m hm => I.mv m (List.mem_cons_of_mem _ hm), I.sub, ?_, fun c hc m ez => ?_⟩
      · rcases I.fst with h | h
        · rcases List.mem_cons.mp h with ez | h
          · exact Or.inr fun c hc => Or.inr ⟨ez, ez ▸ hc⟩
          · exact Or.inl h
        · exact Or.inr fun c hc => Or.inl (h c hc)
      · rcases I.nxt c hc m ez with h | h
        · rcases List.mem_cons.mp h with ez | h
          · exact Or.inr fun c hc => Or.inr ⟨ez, ez ▸ hc⟩
          · exact Or.inl h
        · exact Or.inr fun c hc => Or.inl (h c hc)
    · rw [List.length_cons] at hm
      omega
    · rintro env _ ⟨rfl, _, found', movers', y', rfl, I', hl⟩
      exact hR _ _ _ hl ⟨rfl, by omega, found', movers', _, _, rfl, ⟨I'.nd, I'.rch, I'.mv, I'.sub, I'.fst.imp id fun h c hc => (h c hc).resolve_right fun z => (by cases z.2), fun c hc m ez => (I'.nxt c hc m ez).imp id fun h c hc => (h c hc).resolve_right fun z => (by cases z.2)⟩, Nat.le_refl _⟩
    · rintro c rest env _ R2 ⟨rfl, hrest, found', movers', y', rfl, I', hl⟩ hR2
      have hc := hrest c List.mem_cons_self
      have hrest' := fun x hx => hrest x (List.mem_cons_of_mem _ hx)
      refine ⟨(by decide : 6 < 7), shp_s (T.mnm c hc), shp_l fun x hx => T.nmU x (I'.sub x hx), ?_⟩
      show if (!((sL found').any fun z => PyData.eqv z (.str c))) = true then _ else _
      rw [any_s]
      by_cases hf : c ∈ found'
      · refine ifF (by simp [hf]) ?_
        refine hR2 _ _ ⟨rfl, hrest', found', movers', _, rfl, ⟨I'.nd, I'.rch, I'.mv, I'.sub, I'.fst.imp id fun h x hx => ?_, fun x hx m ez => (I'.nxt x hx m ez).imp id fun h x hx => ?_⟩, hl⟩
        · rcases h x hx with h | ⟨ez, h⟩
          · exact Or.inl h
          · rcases (List.mem_cons.mp h) with rfl | h
            · exact Or.inl hf
            · exact Or.inr ⟨ez, h⟩
        · rcases h x hx with h | ⟨ez, h⟩
          · exact Or.inl h
          · rcases (List.mem_cons.mp h) with rfl | h
            · exact Or.inl hf
            · exact Or.inr ⟨ez, h⟩
      · refine ifT (by simp [hf]) ?_
        have A := I'.add T hf (hmr c hc) (T.mU mv c hc)
        have hcl : ∀ m, (∀ x ∈ msk tab m, x ∈ found' ∨ (m = mv ∧ x ∈ c :: rest)) → ∀ x ∈ msk tab m, x ∈ found' ++ [c] ∨ (m = mv ∧ x ∈ rest) := fun m h x hx => by
          rcases h x hx with h | ⟨ez, h⟩
          · exact Or.inl (List.mem_append.mpr (Or.inl h))
          · rcases (List.mem_cons.mp h) with rfl | h
            · exact Or.inl (by simp)
            · exact Or.inr ⟨ez, h⟩
        have hle := nodup_le A.nd A.sub
        have hlU := T.lU
        rw [List.length_append, List.length_singleton] at hle
        have hsz : (sL found').length < sizeLine := by
          have : 1000 ≤ sizeLine := by decide
          rw [List.length_map]
          omega
        refine ⟨hsz, ?_⟩
        rw [sL_app]
        refine ⟨dOk_map _ _, rfl, ?_⟩
        show if (lookD (mapD PyData.str ss) (.str c)).isSome = true then _ else _
        rw [ss_some]
        cases ez : sg ss c with
        | none =>
          rw [ez] at A
          refine ifF (by simp) ?_
          refine hR2 _ _ ⟨rfl, hrest', found' ++ [c], movers', _, rfl, ⟨A.nd, A.rch, A.mv, A.sub, A.fst.imp id (hcl _), fun x hx m ez => (A.nxt x hx m ez).imp id (hcl _)⟩, ?_⟩
          rw [(List.length_append), List.length_singleton]
          omega
        | some u =>
          rw [ez] at A
          refine ifT rfl ?_
          refine ⟨(by decide : 4 < 7), dOk_map _ _, rfl, _, ss_look ez, ?_⟩
          show (sL movers' ++ [PyData.str u]).length ≤ sizeLine ∧ _
          rw [sL_app]
          refine ⟨?_, ?_⟩
          · rw [sL_len, List.length_append, List.length_singleton]
            have := sizeK
            omega
          · refine hR2 _ _ ⟨rfl, hrest', found' ++ [c], movers' ++ [u], _, rfl, ⟨A.nd, A.rch, A.mv, A.sub, A.fst.imp id (hcl _), fun x hx m ez => (A.nxt x hx m ez).imp id (hcl _)⟩, ?_⟩
            rw [List.length_append, List.length_singleton, List.length_append, List.length_singleton]
            omega
end M
end

section
namespace M
open PySem PySem.Spec PySem.Calls PyProof.Rows L2 L2.DL Mq

/-! ### ways as flat rows -/
def flatP {α : Type} (ps : List (α × α)) : List α := ps.flatMap fun p => [p.1, p.2]
def prs (σ : Str → Option Str) (t : Str) : List Str → List (Str × Str)
  | [] => []
  | [c] => [(t, c)]
  | c' :: c :: cs => prs σ t (c :: cs) ++ [((σ c).getD default, c')]
def flat (ss : Ss) (t : Str) (rs : List Str) : List Str := flatP (prs (sg ss) t rs)
def wayD (ss : Ss) (t : Str) (rs : List Str) : PyData := .tuple (sL (flat ss t rs))
theorem flatP_app {α : Type} (ps qs : List (α × α)) : flatP (ps ++ qs) = flatP ps ++ flatP qs := List.flatMap_append ..
theorem flatP_len {α : Type} : ∀ ps : List (α × α), (flatP ps).length = 2 * ps.length
  | [] => rfl
  | p :: ps => by
    show ([p.1, p.2] ++ flatP ps).length = _
    rw [List.length_append, flatP_len ps, List.length_cons]
    simp; omega
theorem fm_congr {α β : Type} {f g : α → Option β} : ∀ {l : List α}, (∀ x ∈ l, f x = g x) → l.filterMap f = l.filterMap g
  | [], _ => rfl
  | x :: l, h => by
    have ih := fm_congr (f := f) (g := g) (l := l) fun y hy => h y (List.mem_cons_of_mem _ hy)
    have e := h x List.mem_cons_self
    rw [List.filterMap_cons, List.filterMap_cons, e, ih]
theorem step_cons2 {α : Type} (l : Nat) (hl : l ≤ 1) (a b : α) (xs : List α) : stepX l (a :: b :: xs) = (if l = 0 then a else b) :: stepX l xs := by
  unfold stepX
  have e2 : ((a :: b :: xs).length - l + 1) / 2 = (xs.length - l + 1) / 2 + 1 := by simp only [List.length_cons]; omega
  rw [e2, List.range_succ_eq_map, List.filterMap_cons]
  have e3 : (a :: b :: xs)[l + 0 * 2]? = some (if l = 0 then a else b) := by
    have : l = 0 ∨ l = 1 := by omega
    rcases this with rfl | rfl <;> rfl
  rw [e3]
  show _ :: _ = _ :: _
  congr 1
  rw [List.filterMap_map]
  refine fm_congr fun k _ => ?_
  show (a :: b :: xs)[l + (k + 1) * 2]? = xs[l + k * 2]?
  rw [show l + (k + 1) * 2 = (l + k * 2) + 1 + 1 by omega]
  rfl
theorem step_nil {α : Type} (l : Nat) (hl : l ≤ 1) : stepX l ([] : List α) = [] := by
  unfold stepX
  have : (([] : List α).length - l + 1) / 2 = 0 := by simp; 
  rw [this]; rfl
theorem step_flat {α : Type} (l : Nat) (hl : l ≤ 1) : ∀ ps : List (α × α), stepX l (flatP ps) = ps.map fun p => if l = 0 then p.1 else p.2
  | [] => step_nil l hl
  | p :: ps => by
    show stepX l (p.1 :: p.2 :: flatP ps) = _
    rw [step_cons2 l hl, step_flat l hl ps]
    rfl
theorem step0 {α : Type} (ps : List (α × α)) : stepX 0 (flatP ps) = ps.map (·.1) := step_flat 0 (by decide) ps
theorem step1 {α : Type} (ps : List (α × α)) : stepX 1 (flatP ps) = ps.map (·.2) := step_flat 1 (by decide) ps
theorem step_map {α β : Type} (f : α → β) (l : Nat) (xs : List α) : stepX l (xs.map f) = (stepX l xs).map f := by
  unfold stepX
  rw [List.length_map, List.map_filterMap]
  refine fm_congr fun k _ => ?_
  rw [List.getElem?_map]
theorem prs_snd (σ : Str → Option Str) (t : Str) : ∀ rs, (prs σ t rs).map (·.2) = rs.reverse
  | [] => rfl
  | [c] => rfl
  | c' :: c :: cs => by
    rw [prs, List.map_append, prs_snd σ t (c :: cs), List.reverse_cons (a := c')]
    rfl
theorem prs_len (σ : Str → Option Str) (t : Str) (rs : List Str) : (prs σ t rs).length = rs.length := by
  have := congrArg List.length (prs_snd σ t rs)
  simpa using this
theorem flat_len (ss : Ss) (t : Str) (rs : List Str) : (flat ss t rs).length = 2 * rs.length := by unfold flat; rw [flatP_len, prs_len]
theorem flat_last (ss : Ss) (t c : Str) (cs : List Str) : (flat ss t (c :: cs)).getLast? = some c := by
  unfold flat
  cases cs with
  | nil => rfl
  | cons c0 cs =>
    rw [prs, flatP_app, List.getLast?_append]
    rfl
theorem flat_more (ss : Ss) (t c' c : Str) (cs : List Str) : flat ss t (c' :: c :: cs) = flat ss t (c :: cs) ++ [(sg ss c).getD default, c'] := by
  unfold flat
  rw [prs, flatP_app]
  rfl
theorem way_last (ss : Ss) (t c : Str) (cs : List Str) : atI (sL (flat ss t (c :: cs))) (-1) = some (.str c) := at_last (by rw [List.getLast?_map, flat_last]; rfl)
theorem way_places (ss : Ss) (t : Str) (rs : List Str) : stepX 1 (sL (flat ss t rs)) = sL rs.reverse := by
  rw [step_map]; unfold flat; rw [step1, prs_snd]

/-! ### whether a place is in reach, by search -/
def rchB (tab : Tab) (ss : Ss) (t c : Str) : Bool := (short (msk tab) (sg ss) (fun x => decide (x = c)) 64 t).isSome
section
variable {tab : Tab} {U : List Str} {ss : Ss} {t : Str}
theorem TabOk.fine (T : TabOk tab U) (gp : Str → Bool) (ss : Ss) (t : Str) : Fine (msk tab) (sg ss) gp t (short (msk tab) (sg ss) gp 64 t) := short_fine (b := 4) T.ml T.mU (by have := T.lU; omega)
theorem rchB_iff (T : TabOk tab U) {c : Str} : rchB tab ss t c = true ↔ Rch (msk tab) (sg ss) t c := by
  have F := T.fine (fun x => decide (x = c)) ss t
  unfold rchB
  cases h : short (msk tab) (sg ss) (fun x => decide (x = c)) 64 t with
  | none =>
    rw [h] at F
    refine ⟨fun e => (by cases e), fun hr => ?_⟩
    obtain ⟨cs, w⟩ := hr.way
    have := F c cs w
    simp at this
  | some p =>
    rw [h] at F
    obtain ⟨c', cs, rfl, w, hg, _⟩ := F
    have : c' = c := of_decide_eq_true hg
    subst this
    exact ⟨fun _ => w.rch _ List.mem_cons_self, fun _ => rfl⟩
def reB (tab : Tab) (ss : Ss) (t c : Str) : Bool := rchB tab ss t c && match sg ss c with
  | none => true
  | some u => decide (ixd tab t < ixd tab u) && (tab.flatMap fun p => p.2).all fun x => !rchB tab ss t x || match sg ss x with
    | none => false
    | some m => decide (ixd tab m ≤ ixd tab u)
theorem rch_in (T : TabOk tab U) {c : Str} (h : Rch (msk tab) (sg ss) t c) : c ∈ tab.flatMap fun p => p.2 := by
  have : ∀ m, c ∈ msk tab m → c ∈ tab.flatMap fun p => p.2 := fun m hm => List.mem_flatMap.mpr ⟨_, look_mem (look_mk (mk_key hm)), hm⟩
  cases h with
  | one h => exact this _ h
  | more _ _ h => exact this _ h
theorem reB_iff (T : TabOk tab U) {c : Str} : reB tab ss t c = true ↔ Re (msk tab) (ixd tab) (sg ss) t c := by
  unfold reB Re
  rw [Bool.and_eq_true, rchB_iff T]
  refine and_congr_right fun _ => ?_
  cases e : sg ss c with
  | none => exact ⟨fun _ u h => (by cases h), fun _ => rfl⟩
  | some u =>
    show (decide (ixd tab t < ixd tab u) && _) = true ↔ _
    rw [Bool.and_eq_true, decide_eq_true_iff, List.all_eq_true]
    constructor
    · rintro ⟨h1, h2⟩ v hv
      cases hv
      refine ⟨h1, fun x hx => ?_⟩
      have := h2 x (rch_in T hx)
      rw [(rchB_iff T).mpr hx] at this
      cases ex : sg ss x with
      | none => rw [ex] at this; cases this
      | some m => rw [ex] at this; exact ⟨m, rfl, by simpa using this⟩
    · intro h
      obtain ⟨h1, h2⟩ := h u rfl
      refine ⟨h1, fun x _ => ?_⟩
      cases hr : rchB tab ss t x with
      | false => rfl
      | true =>
        obtain ⟨m, em, hm⟩ := h2 x ((rchB_iff T).mp hr)
        rw [em]
        simpa using hm
end

/-! ### the right ends -/
def g_right_ends_of : GF := fun ds n Q => ∃ tab U ss t, ds = [tabD tab, seatD ss, .list (sL (ks tab)), .str t] ∧ TabOk tab U ∧ SsOk tab ss ∧ t ∈ ks tab ∧ ∀ out : List Str, (∀ c ∈ out, Nm c) → (∀ c, c ∈ out ↔ reB tab ss t c = true) → Q (.list (sL out)) n
theorem law_right_ends_of (ds : List PyData) (n : Nat) (Q : GK) (h : g_right_ends_of ds n Q) : gb_right_ends_of g_reach g_is_end (RT Q) (startE nm_right_ends_of ds) n := by
  obtain ⟨tab, U, ss, t, rfl, T, S, ht, q⟩ := h
  refine ⟨(by decide : 4 < 8), tab, U, ss, t, rfl, T, S, ht, fun out hnd hm => ?_⟩
  have hmU : ∀ c ∈ out, c ∈ U := fun c hc => by
    cases (hm c).mp hc with
    | one h => exact T.mU _ _ h
    | more _ _ h => exact T.mU _ _ h
  have hlen : out.length ≤ 4 := Nat.le_trans (nodup_le hnd hmU) T.lU
  refine ⟨(by decide : 5 < 8), fun i hi d e => ?_, ?_⟩
  · obtain rfl := List.mem_singleton.mp hi
    cases e
  refine lcL_pure (f := PyData.str) (fun c => (sg ss c).isNone) PyData.str out [] (fun c hc R1 R2 h1 h2 => ⟨(by decide : 7 < 8), dOk_map _ _, rfl, ?_⟩) (by have := sizeK; simp; omega) ?_
  · show if (!(lookD (mapD PyData.str ss) (PyData.str c)).isSome) = true then R1 (PyData.str c) n else R2 n
    rw [ss_some]
    cases e : sg ss c with
    | none => exact ifT rfl (h1 (by rw [e]; rfl))
    | some u => exact ifF (by simp) (h2 (by rw [e]; rfl))
  have hne : ∃ c, Rch (msk tab) (sg ss) t c := by
    have := (T.csok ht).ne
    cases e : msk tab t with
    | nil => exact (this e).elim
    | cons c cs => exact ⟨c, .one (by rw [e]; exact List.mem_cons_self)⟩
  refine ⟨trivial, ?_⟩
  by_cases hf : out.filter (fun c => (sg ss c).isNone) = []
  · refine ifF (by rw [hf]; simp) ?_
    have occ : ∀ c ∈ out, ∃ m, sg ss c = some m := fun c hc => by
      cases e : sg ss c with
      | some m => exact ⟨m, rfl⟩
      | none =>
        have : c ∈ out.filter (fun c => (sg ss c).isNone) := List.mem_filter.mpr ⟨hc, by rw [e]; rfl⟩
        rw [hf] at this
        cases this
    have hpos : 0 < out.length := by
      obtain ⟨c, hc⟩ := hne
      exact List.length_pos_of_mem ((hm c).mpr hc)
    have hkf : ∀ (i : Nat) (d : PyData), (sL out)[i]? = some d → ∃ c m, d = PyData.str c ∧ out[i]? = some c ∧ sg ss c = some m := fun i d hd => by
      rw [List.getElem?_map] at hd
      obtain ⟨c, hc, rfl⟩ := Option.map_eq_some_iff.mp hd
      obtain ⟨m, em⟩ := occ c (List.mem_of_getElem? hc)
      exact ⟨c, m, rfl, hc, em⟩
    refine ⟨(by decide : 6 < 8), (by decide : 7 < 8), by rw [sL_len]; exact hpos, fun i => (ixd tab ((sg ss (out[i]?.getD default)).getD default) : Nat), fun i d hd => ?_, fun i d hd hb => ?_⟩
    · obtain ⟨c, m, rfl, hc, em⟩ := hkf i d hd
      refine index_go T (fun R h => h) (fun R h => ⟨dOk_map _ _, rfl, _, ss_look em, h⟩) (sg_key S em) ⟨?_, rfl⟩
      show PyData.int _ = PyData.int ((ixd tab ((sg ss (out[i]?.getD default)).getD default) : Nat) : Int)
      rw [hc]
      show PyData.int _ = PyData.int ((ixd tab ((sg ss c).getD default) : Nat) : Int)
      rw [em]
      rfl
    · obtain ⟨c, m, rfl, hc, em⟩ := hkf i d hd
      have hcm := List.mem_of_getElem? hc
      have hmax : ∀ x ∈ out, ∀ u, sg ss x = some u → ixd tab u ≤ ixd tab m := by
        intro x hx u eu
        obtain ⟨j, hj, ej⟩ := List.getElem_of_mem hx
        have ej' : out[j]? = some x := List.getElem?_eq_some_iff.mpr ⟨hj, ej⟩
        have := (hb.up j (by rw [sL_len]; omega)).1
        simp only [hc, ej', Option.getD_some, em, eu] at this
        omega
      have hre : ∀ x, reB tab ss t x = true ↔ (x = c ∧ endB tab ss t c = true) := by
        intro x
        rw [reB_iff T, endB_iff]
        constructor
        · rintro ⟨hr, hu⟩
          obtain ⟨u, eu⟩ := occ x ((hm x).mpr hr)
          obtain ⟨h1, h2⟩ := hu u eu
          obtain ⟨m', em', hle⟩ := h2 c ((hm c).mp hcm)
          rw [em] at em'
          obtain rfl := Option.some.inj em'
          have h3 := hmax x ((hm x).mpr hr) u eu
          have : u = m := T.inj _ _ (sg_key S eu) (sg_key S em) (by omega)
          subst this
          refine ⟨S.seat.inj _ _ _ eu em, fun v ev => ?_⟩
          rw [em] at ev
          obtain rfl := Option.some.inj ev
          exact h1
        · rintro ⟨rfl, he⟩
          refine ⟨(hm x).mp hcm, fun u eu => ⟨he u eu, fun y hy => ?_⟩⟩
          rw [em] at eu
          obtain rfl := Option.some.inj eu
          obtain ⟨v, ev⟩ := occ y ((hm y).mpr hy)
          exact ⟨v, ev, hmax y ((hm y).mpr hy) v ev⟩
      refine ⟨tab, U, ss, t, c, rfl, T, S, ht, ?_⟩
      cases he : endB tab ss t c with
      | true =>
        refine ifT rfl ⟨(by decide : 1 ≤ sizeLine), q [c] (fun x hx => ?_) fun x => ?_⟩
        · obtain rfl := List.mem_singleton.mp hx
          exact T.nmU _ (hmU _ hcm)
        · rw [List.mem_singleton, hre, he]; simp
      | false =>
        refine ifF (by simp) ⟨(by decide : 0 ≤ sizeLine), q [] (fun x hx => (by cases hx)) fun x => ?_⟩
        rw [hre, he]; simp
  · refine ifT (by simpa [List.length_pos_iff] using hf) ?_
    refine q (out.filter fun c => (sg ss c).isNone) (fun c hc => T.nmU c (hmU c (List.mem_filter.mp hc).1)) fun c => ?_
    obtain ⟨x, hx⟩ := List.exists_mem_of_ne_nil _ hf
    obtain ⟨hx1, hx2⟩ := List.mem_filter.mp hx
    have ex : sg ss x = none := by simpa using hx2
    rw [List.mem_filter, hm, reB_iff T]
    constructor
    · rintro ⟨h1, h2⟩
      have ec : sg ss c = none := by simpa using h2
      exact ⟨h1, fun u eu => by rw [ec] at eu; cases eu⟩
    · rintro ⟨h1, h2⟩
      refine ⟨h1, ?_⟩
      cases ec : sg ss c with
      | none => rfl
      | some u =>
        obtain ⟨_, h3⟩ := h2 u ec
        obtain ⟨m, em, _⟩ := h3 x ((hm x).mp hx1)
        rw [ex] at em
        cases em
end M
end

section
namespace M
open PySem PySem.Spec PySem.Calls PyProof.Rows L2 L2.DL Mq

theorem lcL_eq {α : Type} {gg : GG} {gt : GT} {ge : GE} {env : List Sl} {Q : List PyData → Nat → Prop} {n : Nat} {items : List PyData} (f : α → PyData) (xs : List α) (he : items = xs.map f) (p : α → Bool) (h : α → PyData)
    (step : ∀ x ∈ xs, ∀ (R1 : PyData → Nat → Prop) (R2 : Nat → Prop), (p x = true → R1 (h x) n) → (p x = false → R2 n) → gg (f x) env fun env' => gt env' n fun b n1 => if b = true then ge env' n1 R1 else R2 n1)
    (hz : xs.length ≤ sizeLine) (q : Q ((xs.filter p).map h) n) : gLcL gg gt ge env Q items [] n := by
  subst he
  exact lcL_pure p h xs [] step (by simpa using hz) q
theorem lcM_eq {α : Type} {gg : GG} {ge : GE} {env : List Sl} {Q : List PyData → Nat → Prop} {n : Nat} {items : List PyData} (f : α → PyData) (xs : List α) (he : items = xs.map f) (h : α → PyData)
    (step : ∀ x ∈ xs, ∀ R : PyData → Nat → Prop, R (h x) n → gg (f x) env fun env' => ge env' n R)
    (hz : xs.length ≤ sizeLine) (q : Q (xs.map h) n) : gLcL gg gYes ge env Q items [] n := by
  subst he
  exact lcL_map h xs [] step (by simpa using hz) q
theorem noOwn1 {env : List Sl} {i : Nat} (h : ∀ d, env[i]? ≠ some (Sl.own d)) : noOwn env [i] := fun j hj d => by
  obtain rfl := List.mem_singleton.mp hj
  exact h d
theorem cont_t {l : List Str} {x : Str} (h : x ∈ l) : (!l.contains x) = false := by rw [List.contains_eq_mem, decide_eq_true h]; rfl
theorem cont_f {l : List Str} {x : Str} (h : x ∉ l) : (!l.contains x) = true := by rw [List.contains_eq_mem, decide_eq_false h]; rfl
theorem notin_t {l : List Str} {x : Str} (h : x ∈ l) : ¬ ((!decide (x ∈ l)) = true) := by rw [decide_eq_true h]; exact Bool.false_ne_true
theorem notin_f {l : List Str} {x : Str} (h : x ∉ l) : (!decide (x ∈ l)) = true := by rw [decide_eq_false h]; rfl
structure WayU (U : List Str) (w : List Str) : Prop where
  ne : w ≠ []
  nd : w.Nodup
  sub : ∀ c ∈ w, c ∈ U
theorem WayU.len {tab : Tab} {U w : List Str} (T : TabOk tab U) (h : WayU U w) : w.length ≤ 4 := Nat.le_trans (nodup_le h.nd h.sub) T.lU
theorem WayU.ext {tab : Tab} {U w : List Str} (T : TabOk tab U) (ss : Ss) (h : WayU U w) : ∀ w' ∈ ext (msk tab) (sg ss) w, WayU U w' := by
  intro w' hw
  cases w with
  | nil => exact (h.ne rfl).elim
  | cons c cs =>
    obtain ⟨m, x, _, hx, hn, rfl⟩ := ext_mem.mp hw
    refine ⟨by simp, List.nodup_cons.mpr ⟨hn, h.nd⟩, fun y hyz => ?_⟩
    rcases List.mem_cons.mp hyz with rfl | hyz
    · exact T.mU _ _ hx
    · exact h.sub y hyz
/-! ### ways_on -/
def g_ways_on : GF := fun ds n Q => ∃ tab U ss t w, ds = [tabD tab, seatD ss, wayD ss t w] ∧ TabOk tab U ∧ SsOk tab ss ∧ WayU U w ∧ Q (.list ((ext (msk tab) (sg ss) w).map (wayD ss t))) n
theorem law_ways_on (ds : List PyData) (n : Nat) (Q : GK) (h : g_ways_on ds n Q) : gb_ways_on (RT Q) (startE nm_ways_on ds) n := by
  obtain ⟨tab, U, ss, t, w, rfl, T, S, hw, q⟩ := h
  cases w with
  | nil => exact (hw.ne rfl).elim
  | cons c cs =>
    refine ⟨_, way_last ss t c cs, dOk_map _ _, rfl, ?_⟩
    show if (!(lookD (mapD PyData.str ss) (PyData.str c)).isSome) = true then _ else _
    rw [ss_some]
    cases e : sg ss c with
    | none =>
      refine ifT rfl ⟨(by decide : 0 ≤ sizeLine), ?_⟩
      rw [ext_none e] at q
      exact q
    | some m =>
      refine ifF (by simp) ?_
      have hm := sg_key S e
      refine ⟨(by decide : 3 < 5), _, way_last ss t c cs, dOk_map _ _, rfl, _, ss_look e, ?_⟩
      refine ⟨noOwn1 fun d e => (by cases e), dOk_map _ _, rfl, _, tab_look (look_mk hm), (T.sort m).1, ?_⟩
      refine lcL_eq PyData.str (msk tab m) (T.sort m).2 (fun x => !(c :: cs).contains x) (fun x => wayD ss t (x :: c :: cs)) (fun x hx R1 R2 h1 h2 => ?_) ?_ ?_
      · refine ⟨(by decide : 4 < 5), shp_s (T.mnm x hx), ?_, ?_⟩
        · show shp (.tuple (stepX 1 (sL (flat ss t (c :: cs)))))
          rw [way_places]
          exact shp_t fun y hy => T.nmU y (hw.sub y (List.mem_reverse.mp hy))
        · show if (!((stepX 1 (sL (flat ss t (c :: cs)))).any fun z => PyData.eqv z (PyData.str x))) = true then _ else _
          have hrev : decide (x ∈ (c :: cs).reverse) = decide (x ∈ c :: cs) := by congr 1; exact propext List.mem_reverse
          rw [way_places, any_s, hrev]
          by_cases hxc : x ∈ c :: cs
          · exact ifF (notin_t hxc) (h2 (cont_t hxc))
          · refine ifT (notin_f hxc) ⟨?_, ?_⟩
            · show (sL (flat ss t (c :: cs)) ++ [PyData.str m, PyData.str x]).length ≤ sizeLine
              have := hw.len T
              have := sizeK
              rw [List.length_append, sL_len, flat_len]
              show _ + 2 ≤ _
              omega
            · have h1' := h1 (cont_f hxc)
              have ef : flat ss t (x :: c :: cs) = flat ss t (c :: cs) ++ [m, x] := by rw [flat_more, e]; rfl
              have ew : wayD ss t (x :: c :: cs) = .tuple (sL (flat ss t (c :: cs)) ++ [PyData.str m, PyData.str x]) := by
                unfold wayD
                rw [ef]
                simp [sL]
              rw [ew] at h1'
              exact h1'
      · have := T.ml m
        have := sizeK
        omega
      · have : (ext (msk tab) (sg ss) (c :: cs)).map (wayD ss t) = ((msk tab m).filter fun x => !(c :: cs).contains x).map fun x => wayD ss t (x :: c :: cs) := by
          rw [ext_some e, List.map_map]; rfl
        rw [this] at q
        exact q
/-! ### shortest -/
def optD (ss : Ss) (t : Str) : Option (List Str) → PyData
  | none => .none
  | some rs => wayD ss t rs
def g_shortest : GF := fun ds n Q => ∃ tab U ss t gl gp, ds = [tabD tab, seatD ss, .str t, .list (sL gl)] ∧ TabOk tab U ∧ SsOk tab ss ∧ t ∈ ks tab ∧ (∀ c ∈ gl, Nm c) ∧ (∀ c, c ∈ gl ↔ gp c = true) ∧ Q (optD ss t (short (msk tab) (sg ss) gp 64 t)) n
theorem law_shortest (ds : List PyData) (n : Nat) (Q : GK) (h : g_shortest ds n Q) : gb_shortest g_ways_on (RT Q) (startE nm_shortest ds) n := by
  obtain ⟨tab, U, ss, t, gl, gp, rfl, T, S, ht, hgn, hgp, q⟩ := h
  refine ⟨parB 8 rfl (by decide), noOwn1 fun d e => (by cases e), dOk_map _ _, rfl, _, tab_look (look_mk ht), (T.sort t).1, ?_⟩
  refine lcM_eq PyData.str (msk tab t) (T.sort t).2 (fun x => wayD ss t [x]) (fun x hxz R h1 => ⟨(by decide : 7 < 8), (by decide : 2 ≤ sizeLine), h1⟩) ?_ ?_
  · have := T.ml t
    have := sizeK
    omega
  refine ⟨(by decide : 0 ≤ sizeLine), ?_⟩
  refine while_inv (fun m env n' => n = n' ∧ m ≤ 64 ∧ ∃ ws seen x y, env = [.dat (tabD tab), .dat (seatD ss), .dat (.str t), .dat (.list (sL gl)), .dat (.list (ws.map (wayD ss t))), .own (.list (sL seen)), x, y] ∧ (∀ w ∈ ws, WayU U w) ∧ seen.Nodup ∧ (∀ c ∈ seen, c ∈ U) ∧ ws.length + 4 * (U.length - seen.length) ≤ m ∧ bfs (msk tab) (sg ss) gp m ws seen = short (msk tab) (sg ss) gp 64 t) ?_ (m := 64) ⟨rfl, Nat.le_refl _, (msk tab t).map (fun c => [c]), [], .no, .no, ?_, ?_, List.nodup_nil, fun c hc => (by cases hc), ?_, rfl⟩
  · rintro m env n1 R ⟨rfl, h64, ws, seen, x, y, rfl, hws, hnd, hsub, hm, hb⟩ hR
    refine ⟨trivial, ?_⟩
    show if decide ((0 : Int) < ((ws.map (wayD ss t)).length : Nat)) = true then _ else _
    cases ws with
    | nil =>
      refine ifF (by simp) ?_
      have : bfs (msk tab) (sg ss) gp m [] seen = none := by cases m <;> rfl
      rw [this] at hb
      rw [← hb] at q
      exact q
    | cons w ws =>
      refine ifT (by simp) ?_
      have hw := hws w List.mem_cons_self
      have hws' : ∀ w ∈ ws, WayU U w := fun z hz => hws z (List.mem_cons_of_mem _ hz)
      cases m with
      | zero => simp at hm
      | succ k =>
        cases w with
        | nil => exact (hw.ne rfl).elim
        | cons c cs =>
          have hcU := hw.sub c List.mem_cons_self
          have hcut : cutX ((wayD ss t (c :: cs)) :: ws.map (wayD ss t)) (some 1) none = ws.map (wayD ss t) := cut_from _ _
          have hb' : (if gp c = true then some (c :: cs) else if c ∈ seen then bfs (msk tab) (sg ss) gp k ws seen else bfs (msk tab) (sg ss) gp k (ws ++ ext (msk tab) (sg ss) (c :: cs)) (seen ++ [c])) = short (msk tab) (sg ss) gp 64 t := hb
          refine ⟨parB 8 rfl (by decide), _, at_zero, ?_⟩
          refine ⟨_, way_last ss t c cs, shp_s (T.nmU c hcU), shp_l hgn, ?_⟩
          show if ((sL gl).any fun z => PyData.eqv z (PyData.str c)) = true then _ else _
          rw [any_s]
          by_cases hg : gp c = true
          · refine ifT (decide_eq_true ((hgp c).mpr hg)) ?_
            rw [if_pos hg] at hb'
            rw [← hb'] at q
            exact q
          · refine ifF (fun h => hg ((hgp c).mp (of_decide_eq_true h))) ?_
            rw [if_neg hg] at hb'
            refine ⟨_, way_last ss t c cs, shp_s (T.nmU c hcU), shp_l fun z hz => T.nmU z (hsub z hz), ?_⟩
            show if (!((sL seen).any fun z => PyData.eqv z (PyData.str c))) = true then _ else _
            rw [any_s]
            have henv : ∀ s4 : PyData, s4 = .list (cutX ((wayD ss t (c :: cs)) :: ws.map (wayD ss t)) (some 1) none) → s4 = .list (ws.map (wayD ss t)) := fun s4 e => by rw [e, hcut]
            by_cases hs : c ∈ seen
            · refine ifF (by simp [hs]) ?_
              rw [if_pos hs] at hb'
              refine hR k _ _ (Nat.lt_succ_self _) ⟨rfl, by omega, ws, seen, .dat (wayD ss t (c :: cs)), y, ?_, hws', hnd, hsub, by simp at hm ⊢; omega, hb'⟩
              show [Sl.dat (tabD tab), .dat (seatD ss), .dat (.str t), .dat (.list (sL gl)), .dat (.list (cutX ((wayD ss t (c :: cs)) :: ws.map (wayD ss t)) (some 1) none)), .own (.list (sL seen)), .dat (wayD ss t (c :: cs)), y] = _
              rw [hcut]
            · refine ifT (by simp [hs]) ?_
              rw [if_neg hs] at hb'
              have hnd' : (seen ++ [c]).Nodup := by
                rw [List.nodup_append]
                exact ⟨hnd, List.nodup_cons.mpr ⟨by simp, List.nodup_nil⟩, fun x hxz y hy e => by
                  obtain rfl := List.mem_singleton.mp hy
                  exact hs (e ▸ hxz)⟩
              have hsub' : ∀ x ∈ seen ++ [c], x ∈ U := fun x hxz => by
                rcases List.mem_append.mp hxz with hxz | hxz
                · exact hsub x hxz
                · obtain rfl := List.mem_singleton.mp hxz; exact hcU
              have hle := nodup_le hnd' hsub'
              have hlU := T.lU
              rw [List.length_append, List.length_singleton] at hle
              have hK := sizeK
              have hel := ext_len (σ := sg ss) T.ml (c :: cs)
              refine ⟨_, way_last ss t c cs, by rw [sL_len]; omega, ?_⟩
              refine ⟨(by decide : 4 < 8), tab, U, ss, t, c :: cs, rfl, T, S, hw, ?_⟩
              refine ⟨?_, ?_⟩
              · show (cutX ((wayD ss t (c :: cs)) :: ws.map (wayD ss t)) (some 1) none).length + ((ext (msk tab) (sg ss) (c :: cs)).map (wayD ss t)).length ≤ sizeLine
                rw [hcut, List.length_map, List.length_map]
                simp at hm
                omega
              · refine hR k _ _ (Nat.lt_succ_self _) ⟨rfl, by omega, ws ++ ext (msk tab) (sg ss) (c :: cs), seen ++ [c], .dat (wayD ss t (c :: cs)), y, ?_, fun z hz => ?_, hnd', hsub', ?_, hb'⟩
                · show [Sl.dat (tabD tab), .dat (seatD ss), .dat (.str t), .dat (.list (sL gl)), .dat (.list (cutX ((wayD ss t (c :: cs)) :: ws.map (wayD ss t)) (some 1) none ++ (ext (msk tab) (sg ss) (c :: cs)).map (wayD ss t))), .own (.list (sL seen ++ [PyData.str c])), .dat (wayD ss t (c :: cs)), y] = _
                  rw [hcut, sL_app, List.map_append]
                · rcases List.mem_append.mp hz with hz | hz
                  · exact hws' z hz
                  · exact hw.ext T ss z hz
                · rw [List.length_append, List.length_append, List.length_singleton]
                  simp at hm
                  omega
  · show [Sl.dat (tabD tab), .dat (seatD ss), .dat (.str t), .dat (.list (sL gl)), .dat (.list ((msk tab t).map fun x => wayD ss t [x])), .own (.list []), .no, .no] = _
    rw [List.map_map]
    rfl
  · intro w hw
    obtain ⟨c, hc, rfl⟩ := List.mem_map.mp hw
    exact ⟨by simp, by simp, fun x hxz => by obtain rfl := List.mem_singleton.mp hxz; exact T.mU _ _ hc⟩
  · have := T.ml t
    have := T.lU
    simp
    omega
end M
end

section
namespace M
open PySem PySem.Spec PySem.Calls PyProof.Rows L2 L2.DL Mq

/-! ### the best way -/
theorem ks_may (kinds : Tab) (rs : List SP) : ks (mayL kinds rs) = tks rs := by unfold mayL ks tks; rw [List.map_map]; rfl
def g_check_task : GF := fun ds n Q => ∃ b rs t, ds = [readyD b rs, .str t] ∧ rs.length ≤ 1000 ∧ (∀ x ∈ tks rs, Nm x) ∧ t ∈ tks rs ∧ Q .none n
theorem law_check_task (ds : List PyData) (n : Nat) (Q : GK) (h : g_check_task ds n Q) : gb_check_task g_tasks_of (RT Q) (startE nm_check_task ds) n := by
  obtain ⟨b, rs, t, rfl, hl, hn, ht, q⟩ := h
  refine ⟨b, rs, rfl, hl, shp_s (hn t ht), shp_l hn, ?_⟩
  show if (!((sL (tks rs)).any fun z => PyData.eqv z (PyData.str t))) = true then _ else _
  rw [any_s]
  exact ifF (notin_t ht) q
structure CaseOk (book ready seating : PyData) (tab : Tab) (U : List Str) (ss : Ss) : Prop where
  br : BR book ready tab
  sr : SR seating ss
  T : TabOk tab U
  S : SsOk tab ss
theorem SsOk.vnm {tab : Tab} {U : List Str} {ss : Ss} (S : SsOk tab ss) (T : TabOk tab U) : ∀ p ∈ ss, Nm p.2 := fun p hp => T.tnm (mk_key (S.ok p hp))
theorem SsOk.knm {tab : Tab} {U : List Str} {ss : Ss} (S : SsOk tab ss) (T : TabOk tab U) : ∀ p ∈ ss, Nm p.1 := fun p hp => T.mnm _ (S.ok p hp)
def bestW (tab : Tab) (ss : Ss) (t : Str) : Option (List Str) := if t ∈ ss.map (·.2) then none else short (msk tab) (sg ss) (reB tab ss t) 64 t
def g_best_way : GF := fun ds n Q => ∃ book ready seating tab U ss t, ds = [book, ready, seating, .str t, .bool true] ∧ CaseOk book ready seating tab U ss ∧ t ∈ ks tab ∧ Q (optD ss t (bestW tab ss t)) n
theorem law_best_way (ds : List PyData) (n : Nat) (Q : GK) (h : g_best_way ds n Q) : gb_best_way g_check_task g_tasks_of g_seats_of g_may_table g_does_wait g_right_ends_of g_shortest (RT Q) (startE nm_best_way ds) n := by
  obtain ⟨book, ready, seating, tab, U, ss, t, rfl, C, ht, q⟩ := h
  have T := C.T
  have S := C.S
  obtain ⟨kinds, b, rs, B, rfl, hl, hk, hn, e⟩ := C.br.ex
  have ek : tks rs = ks tab := by rw [e, ks_may]
  refine ⟨b, rs, t, rfl, by omega, fun x hx => T.tnm (ek ▸ hx), ek ▸ ht, ?_⟩
  refine ⟨parB 9 rfl (by decide), book, _, tab, rfl, C.br, seating, ss, rfl, C.sr, b, rs, rfl, by omega, ?_⟩
  refine ⟨ss, t, rfl, S.vnm T, T.tnm ht, ?_⟩
  unfold bestW at q
  by_cases hs : t ∈ ss.map (·.2)
  · rw [if_pos hs] at q
    exact ifT (c := (!(!decide (t ∈ ss.map (·.2)))) = true) (by simpa using hs) q
  · rw [if_neg hs] at q
    refine ifF (c := (!(!decide (t ∈ ss.map (·.2)))) = true) (by simpa using hs) ?_
    refine ⟨(by decide : 8 < 9), tab, U, ss, t, ?_, T, S, ht, fun out ho hm => ?_⟩
    · show [tabD tab, seatD ss, .list (sL (tks rs)), .str t] = _
      rw [ek]
    · exact ⟨tab, U, ss, t, out, reB tab ss t, rfl, T, S, ht, ho, hm, q⟩
def mvD : Option (List Str) → PyData
  | none => .none
  | some rs => .int ((rs.length : Int) - 1)
def g_moves_of : GF := fun ds n Q => ∃ ss t o, ds = [optD ss t o] ∧ Q (mvD o) n
theorem law_moves_of (ds : List PyData) (n : Nat) (Q : GK) (h : g_moves_of ds n Q) : gb_moves_of (RT Q) (startE nm_moves_of ds) n := by
  obtain ⟨ss, t, o, rfl, q⟩ := h
  cases o with
  | none => exact q
  | some rs =>
    refine ⟨⟨by decide, by decide⟩, trivial, ?_⟩
    show Q (.int (((sL (flat ss t rs)).length : Nat) / 2 - 1)) n
    rw [sL_len, flat_len]
    have : (((2 * rs.length : Nat) : Int) / 2 - 1) = (rs.length : Int) - 1 := by omega
    rw [this]
    exact q
def g_a_right_shift : GF := fun ds n Q => ∃ book ready seating tab U ss t, ds = [book, ready, seating, .str t] ∧ CaseOk book ready seating tab U ss ∧ t ∈ ks tab ∧ Q (optD ss t (bestW tab ss t)) n
theorem law_a_right_shift (ds : List PyData) (n : Nat) (Q : GK) (h : g_a_right_shift ds n Q) : gb_a_right_shift g_best_way (RT Q) (startE nm_a_right_shift ds) n := by
  obtain ⟨book, ready, seating, tab, U, ss, t, rfl, C, ht, q⟩ := h
  exact ⟨book, ready, seating, tab, U, ss, t, rfl, C, ht, q⟩
def g_right_moves : GF := fun ds n Q => ∃ book ready seating tab U ss t, ds = [book, ready, seating, .str t] ∧ CaseOk book ready seating tab U ss ∧ t ∈ ks tab ∧ Q (mvD (bestW tab ss t)) n
theorem law_right_moves (ds : List PyData) (n : Nat) (Q : GK) (h : g_right_moves ds n Q) : gb_right_moves g_moves_of g_best_way (RT Q) (startE nm_right_moves ds) n := by
  obtain ⟨book, ready, seating, tab, U, ss, t, rfl, C, ht, q⟩ := h
  exact ⟨book, ready, seating, tab, U, ss, t, rfl, C, ht, ss, t, _, rfl, q⟩
/-- no task has a right shift -/
def stillB (tab : Tab) (ss : Ss) : Bool := (ks tab).all fun t => (bestW tab ss t).isNone
def g_next_shift : GF := fun ds n Q => ∃ book ready seating tab U ss, ds = [book, ready, seating] ∧ CaseOk book ready seating tab U ss ∧ ∀ d, isNone d = stillB tab ss → Q d n
theorem law_next_shift (ds : List PyData) (n : Nat) (Q : GK) (h : g_next_shift ds n Q) : gb_next_shift g_tasks_of g_a_right_shift (RT Q) (startE nm_next_shift ds) n := by
  obtain ⟨book, ready, seating, tab, U, ss, rfl, C, q⟩ := h
  obtain ⟨kinds, b, rs, B, rfl, hl, hk, hn, e⟩ := C.br.ex
  have ek : tks rs = ks tab := by rw [e, ks_may]
  refine ⟨b, rs, rfl, by omega, ?_⟩
  refine forL_eq PyData.str (ks tab) (by rw [ek]) (fun rest env n' => n = n' ∧ (∀ t ∈ rest, t ∈ ks tab) ∧ stillB tab ss = (rest.all fun t => (bestW tab ss t).isNone) ∧ ∃ x y, env = [.dat book, .dat (readyD b rs), .dat seating, x, y]) ⟨rfl, fun t h => h, rfl, .no, .no, rfl⟩ ?_ ?_
  · rintro env n1 ⟨rfl, _, e1, x, y, rfl⟩
    exact q .none (by rw [e1]; rfl)
  · rintro t rest env n1 R ⟨rfl, hr, e1, x, y, rfl⟩ hR
    refine ⟨(by decide : 3 < 5), (by decide : 4 < 5), book, _, seating, tab, U, ss, t, rfl, C, hr t List.mem_cons_self, ?_⟩
    rw [List.all_cons] at e1
    cases hb : bestW tab ss t with
    | none =>
      rw [hb] at e1
      exact hR _ _ ⟨rfl, fun x hx => hr x (List.mem_cons_of_mem _ hx), e1, _, _, rfl⟩
    | some w =>
      rw [hb] at e1
      exact q _ (by rw [e1]; rfl)
def g_is_settled : GF := fun ds n Q => ∃ book ready seating tab U ss, ds = [book, ready, seating] ∧ CaseOk book ready seating tab U ss ∧ Q (.bool (stillB tab ss)) n
theorem law_is_settled (ds : List PyData) (n : Nat) (Q : GK) (h : g_is_settled ds n Q) : gb_is_settled g_next_shift (RT Q) (startE nm_is_settled ds) n := by
  obtain ⟨book, ready, seating, tab, U, ss, rfl, C, q⟩ := h
  refine ⟨book, ready, seating, tab, U, ss, rfl, C, fun d hd => ?_⟩
  show Q (.bool (isNone d)) n
  rw [hd]
  exact q
end M
end

section
namespace M
open PySem PySem.Spec PySem.Calls PyProof.Rows L2 L2.DL Mq

/-! ### what a way's pairs are -/
theorem sd_dec (b : Bool) {p : Prop} [Decidable p] (h : decide p = b) : True := trivial
theorem prs_fst (σ : Str → Option Str) (t : Str) : ∀ (c : Str) (cs : List Str), ∃ A, (prs σ t (c :: cs)).map (·.1) = t :: A ∧ A.length = cs.length ∧ (∀ m ∈ A, ∃ x ∈ cs, m = (σ x).getD default) ∧ (∀ p ∈ A.zip (c :: cs).reverse, p.1 = (σ p.2).getD default ∧ p.2 ∈ cs)
  | c, [] => ⟨[], rfl, rfl, fun m h => (by cases h), fun p h => (by cases h)⟩
  | c', c :: cs => by
    obtain ⟨A, h1, h2, h3, h4⟩ := prs_fst σ t c cs
    refine ⟨A ++ [(σ c).getD default], by rw [prs, List.map_append, h1]; rfl, by simp [h2], fun m hmz => ?_, fun p hpz => ?_⟩
    · rcases List.mem_append.mp hmz with hmz | hmz
      · obtain ⟨x, hx, e⟩ := h3 m hmz
        exact ⟨x, List.mem_cons_of_mem _ hx, e⟩
      · exact ⟨c, List.mem_cons_self, List.mem_singleton.mp hmz⟩
    · rw [List.reverse_cons (a := c'), List.reverse_cons (a := c), List.append_assoc, List.zip_append (by rw [List.length_reverse]; exact h2)] at hpz
      rcases List.mem_append.mp hpz with hpz | hpz
      · have hp' : p ∈ A.zip (c :: cs).reverse := by
          rw [List.reverse_cons, ← List.append_nil A, List.zip_append (by rw [List.length_reverse]; exact h2)]
          exact List.mem_append.mpr (Or.inl hpz)
        obtain ⟨e1, e2⟩ := h4 p hp'
        exact ⟨e1, List.mem_cons_of_mem _ e2⟩
      · have : p = ((σ c).getD default, c) := by
          have hp' : p ∈ [((σ c).getD default, c)] := hpz
          exact List.mem_singleton.mp hp'
        subst this
        exact ⟨rfl, List.mem_cons_self⟩
section
variable {tab : Tab} {U : List Str} {ss : Ss} {t : Str}
theorem way_occ {w : List Str} (h : Way (msk tab) (sg ss) t w) : ∀ c cs, w = c :: cs → ∀ x ∈ cs, ∃ m, sg ss x = some m := by
  induction h with
  | one h => intro c cs e x hxz; injection e with _ e2; subst e2; cases hxz
  | more w e h hn ih =>
    intro c2 cs2 e2 x hxz
    injection e2 with _ e3
    subst e3
    rcases List.mem_cons.mp hxz with rfl | hxz
    · exact ⟨_, e⟩
    · exact ih _ _ rfl x hxz
theorem way_prs {w : List Str} (h : Way (msk tab) (sg ss) t w) : ∀ p ∈ prs (sg ss) t w, p.2 ∈ msk tab p.1 := by
  induction h with
  | one h => intro p hpz; obtain rfl := List.mem_singleton.mp hpz; exact h
  | more w e h hn ih =>
    intro p hpz
    rw [prs] at hpz
    rcases List.mem_append.mp hpz with hpz | hpz
    · exact ih p hpz
    · obtain rfl := List.mem_singleton.mp hpz
      rw [e]
      exact h
structure ShOk (tab : Tab) (ss : Ss) (t : Str) (w : List Str) : Prop where
  way : Way (msk tab) (sg ss) t w
  wait : t ∉ ss.map (·.2)
  fin : ∀ c cs, w = c :: cs → endB tab ss t c = true
theorem ShOk.wu (T : TabOk tab U) {w : List Str} (h : Way (msk tab) (sg ss) t w) : WayU U w := by
  refine ⟨fun e => (by subst e; cases h), h.nodup, fun c hc => ?_⟩
  cases h.rch c hc with
  | one h => exact T.mU _ _ h
  | more _ _ h => exact T.mU _ _ h
theorem way_key {w : List Str} (h : Way (msk tab) (sg ss) t w) : t ∈ ks tab := by
  induction h with
  | one h => exact mk_key h
  | more _ _ _ _ ih => exact ih
theorem way_fst_nodup (S : SsOk tab ss) {w : List Str} (h : Way (msk tab) (sg ss) t w) (hw : t ∉ ss.map (·.2)) : ((prs (sg ss) t w).map (·.1)).Nodup := by
  induction h with
  | one h => simp [prs]
  | @more c c' cs m w e h hn ih =>
    rw [prs, List.map_append, List.nodup_append]
    refine ⟨ih, by simp, fun x hxz y hy exy => ?_⟩
    have hy' : y = m := by
      have := List.mem_singleton.mp hy
      rw [this, e]; rfl
    subst hy' exy
    obtain ⟨A, h1, h2, h3, h4⟩ := prs_fst (sg ss) t c cs
    rw [h1] at hxz
    rcases List.mem_cons.mp hxz with rfl | hxz
    · exact hw ((sd_iff S).mp ⟨c, e⟩)
    · obtain ⟨z, hz, ez⟩ := h3 x hxz
      obtain ⟨m', em⟩ := way_occ w c cs rfl z hz
      rw [em] at ez
      have ez : x = m' := ez
      subst ez
      have := S.seat.inj _ _ _ em e
      subst this
      exact (List.nodup_cons.mp w.nodup).1 hz
theorem way_fst_key (S : SsOk tab ss) {w : List Str} (h : Way (msk tab) (sg ss) t w) : ∀ p ∈ prs (sg ss) t w, p.1 ∈ ks tab := fun p hp => mk_key (way_prs h p hp)
theorem flat_mem {w : List Str} : ∀ x ∈ flat ss t w, ∃ p ∈ prs (sg ss) t w, x = p.1 ∨ x = p.2 := fun x hx => by
  obtain ⟨p, hp, h⟩ := List.mem_flatMap.mp hx
  refine ⟨p, hp, ?_⟩
  simpa using h
theorem flat_nm (T : TabOk tab U) (S : SsOk tab ss) {w : List Str} (h : Way (msk tab) (sg ss) t w) : ∀ x ∈ flat ss t w, Nm x := fun x hx => by
  obtain ⟨p, hp, e | e⟩ := flat_mem x hx
  · rw [e]; exact T.tnm (way_fst_key S h p hp)
  · rw [e]; exact T.mnm _ (way_prs h p hp)
end
theorem way_movers (ss : Ss) (t : Str) (rs : List Str) : stepX 0 (sL (flat ss t rs)) = sL ((prs (sg ss) t rs).map (·.1)) := by
  rw [step_map]; unfold flat; rw [step0]
theorem zip_s : ∀ (xs ys : List Str), zipD (sL xs) (sL ys) = (xs.zip ys).map fun p => .tuple [.str p.1, .str p.2]
  | [], _ => rfl
  | _ :: _, [] => rfl
  | x :: xs, y :: ys => by
    show PyData.tuple [.str x, .str y] :: zipD (sL xs) (sL ys) = _
    rw [zip_s xs ys]; rfl
theorem way_first (ss : Ss) (t c : Str) (cs : List Str) : atI (sL (flat ss t (c :: cs))) 0 = some (.str t) := by
  obtain ⟨A, h1, _⟩ := prs_fst (sg ss) t c cs
  unfold flat
  cases hp : prs (sg ss) t (c :: cs) with
  | nil => rw [hp] at h1; cases h1
  | cons p ps =>
    rw [hp] at h1
    injection h1 with h1 _
    show atI (PyData.str p.1 :: _) 0 = _
    have h1 : p.1 = t := h1
    rw [h1]
    exact at_zero

/-! ### is_name -/
theorem isT_str (x : Str) : isT "str" (.str x) = true := by show isN "str" "str" = true; decide +kernel
theorem isT_tup (ds : List PyData) : isT "tuple" (.tuple ds) = true := by show isN "tuple" "tuple" = true; decide +kernel
theorem letters : cLETTERS.cps.toList = List.range' 97 26 := by decide +kernel
def g_is_name : GF := fun ds n Q => ∃ x, ds = [.str x] ∧ Nm x ∧ Q (.bool true) n
theorem law_is_name (ds : List PyData) (n : Nat) (Q : GK) (h : g_is_name ds n Q) : gb_is_name (RT Q) (startE nm_is_name ds) n := by
  obtain ⟨x, rfl, hx, q⟩ := h
  obtain ⟨h1, h2⟩ := Bool.and_eq_true_iff.mp hx
  obtain ⟨h1a, h1b⟩ := of_decide_eq_true h1
  have hz : x.length ≤ sizeLine := by have := sizeK; omega
  refine ⟨rfl, ?_⟩
  show if (!(isT "str" (PyData.str x))) = true then _ else _
  rw [isT_str]
  refine ⟨hz, trivial, ?_⟩
  show if decide ((1 : Int) ≤ (x.length : Nat)) = true then _ else _
  refine ifT (decide_eq_true (by omega)) ⟨trivial, ?_⟩
  show if (!(decide (((x.length : Nat) : Int) ≤ 8))) = true then _ else _
  refine ifF (by rw [decide_eq_true (by omega : ((x.length : Nat) : Int) ≤ 8)]; decide) ?_
  refine ⟨noOwn1 fun d e => (by cases e), ?_⟩
  refine lcM_eq (fun c : Nat => PyData.str ⟨#[c]⟩) x.cps.toList rfl (fun c => .bool (decide (c ∈ cLETTERS.cps.toList))) (fun c hc R h => ⟨(by decide : 1 < 2), c, rfl, h⟩) ?_ ⟨x.cps.toList.map fun c => decide (c ∈ cLETTERS.cps.toList), by rw [List.map_map]; rfl, ?_⟩
  · have : x.cps.toList.length = x.length := rfl
    omega
  · have : (x.cps.toList.map fun c => decide (c ∈ cLETTERS.cps.toList)).all id = true := by
      rw [List.all_map, List.all_eq_true]
      intro c hc
      have := of_decide_eq_true (List.all_eq_true.mp h2 c hc)
      refine decide_eq_true ?_
      rw [letters, List.mem_range'_1]
      omega
    rw [this]
    exact q
end M
end

section
namespace M
open PySem PySem.Spec PySem.Calls PyProof.Rows L2 L2.DL Mq

theorem lenSet_go {ge : GE} {env : List Sl} {n : Nat} {Q : GK} (ns : List Str) (h : ∀ R : GK, R (.tuple (sL ns)) n → ge env n R) (hn : ns.Nodup) (hl : ns.length ≤ 1000) (q : Q (.int ns.length) n) : gLenSet ge env n Q :=
  h _ ⟨ns, Or.inr rfl, by unfold scanBound; omega, hn, q⟩
theorem ne_same (i : Int) : ¬ ((!PyData.eqv (.int i) (.int i)) = true) := by simp [PyData.eqv]
theorem mapT {α : Type} (xs : List α) : (xs.map fun _ => PyData.bool true) = (xs.map fun _ => true).map .bool := by rw [List.map_map]; rfl
theorem allT {α : Type} (xs : List α) : (xs.map fun _ => true).all id = true := by rw [List.all_map, List.all_eq_true]; exact fun _ _ => rfl
theorem par_step {is : List Nat} {kk : List Bool} {ga : GA} {D : DEnds} {env : List Sl} {n : Nat} (ds : List PyData) (env' : List Sl) (hl : ∀ i ∈ is, i < env.length) (hg : ∀ R : List PyData → Nat → Prop, R ds n → ga env n R) (he : setE env is kk ds = env') (q : D.nx env' n) : gPar is kk ga D env n :=
  ⟨hl, hg _ (by rw [he]; exact q)⟩
/-! ### is_row_of -/
def g_is_row_of : GF := fun ds n Q => ∃ tab U ss t w, ds = [tabD tab, seatD ss, wayD ss t w] ∧ TabOk tab U ∧ SsOk tab ss ∧ ShOk tab ss t w ∧ Q (.bool true) n
theorem law_is_row_of (ds : List PyData) (n : Nat) (Q : GK) (h : g_is_row_of ds n Q) : gb_is_row_of g_does_wait (RT Q) (startE nm_is_row_of ds) n := by
  obtain ⟨tab, U, ss, t, w, rfl, T, S, h, q⟩ := h
  have W := ShOk.wu T h.way
  cases w with
  | nil => exact (W.ne rfl).elim
  | cons c cs =>
    have hlen := W.len T
    have ht := way_key h.way
    have hfn := way_fst_nodup S h.way h.wait
    have hpl := prs_len (sg ss) t (c :: cs)
    have hps := prs_snd (sg ss) t (c :: cs)
    have eM := way_movers ss t (c :: cs)
    have eP := way_places ss t (c :: cs)
    obtain ⟨A, hA1, hA2, hA3, hA4⟩ := prs_fst (sg ss) t c cs
    have hK := sizeK
    unfold gb_is_row_of gSeq
    refine par_step [.tuple (stepX 0 (sL (flat ss t (c :: cs)))), .tuple (stepX 1 (sL (flat ss t (c :: cs))))] [.dat (tabD tab), .dat (seatD ss), .dat (wayD ss t (c :: cs)), .dat (.tuple (sL ((prs (sg ss) t (c :: cs)).map (·.1)))), .dat (.tuple (sL (c :: cs).reverse)), .no, .no] (parB 7 rfl (by decide)) (fun R h => h) (by rw [eM, eP]; rfl) ?_
    refine ⟨(prs (sg ss) t (c :: cs)).map (·.1), Or.inr rfl, by rw [List.length_map, hpl]; unfold scanBound; omega, hfn, ?_⟩
    refine ⟨rfl, rfl, ?_⟩
    show if (!PyData.eqv (.int (((prs (sg ss) t (c :: cs)).map (·.1)).length : Nat)) (.int ((sL ((prs (sg ss) t (c :: cs)).map (·.1))).length : Nat))) = true then _ else _
    rw [sL_len]
    refine ifF (ne_same _) ?_
    refine ⟨(c :: cs).reverse, Or.inr rfl, by rw [List.length_reverse]; unfold scanBound; omega, (List.reverse_perm (c :: cs)).nodup_iff.mpr W.nd, ?_⟩
    refine ⟨rfl, rfl, ?_⟩
    show if (!PyData.eqv (.int ((c :: cs).reverse.length : Nat)) (.int ((sL (c :: cs).reverse).length : Nat))) = true then _ else _
    rw [sL_len]
    refine ifF (ne_same _) ?_
    refine ⟨.str t, ?_, ss, t, rfl, S.vnm T, T.tnm ht, ?_⟩
    · rw [hA1]; exact at_zero
    show if (!(!decide (t ∈ ss.map (·.2)))) = true then _ else _
    refine ifF (by simpa using h.wait) ?_
    refine ⟨fun i hi d e => (by simp at hi; rcases hi with rfl | rfl <;> cases e), ?_⟩
    have ezip : zipD (sL ((prs (sg ss) t (c :: cs)).map (·.1))) (sL (c :: cs).reverse) = (prs (sg ss) t (c :: cs)).map fun p => .tuple [.str p.1, .str p.2] := by
      rw [← hps, zip_s]
      congr 1
      generalize prs (sg ss) t (c :: cs) = ps
      induction ps with
      | nil => rfl
      | cons p ps ih => rw [List.map_cons, List.map_cons, List.zip_cons_cons, ih]
    refine lcM_eq (fun p : Str × Str => PyData.tuple [.str p.1, .str p.2]) (prs (sg ss) t (c :: cs)) ezip (fun _ => .bool true) (fun p hp R h1 => ?_) (by rw [hpl]; omega) ?_
    · have hm := way_prs h.way p hp
      refine ⟨(by decide : 5 < 7), (by decide : 6 < 7), dOk_map _ _, rfl, _, tab_look (look_mk (mk_key hm)), shp_s (T.mnm _ hm), shp_t T.mnm, ?_⟩
      show R (.bool ((sL (msk tab p.1)).any fun z => PyData.eqv z (PyData.str p.2))) n
      rw [any_s, decide_eq_true hm]
      exact h1
    refine ⟨_, mapT (prs (sg ss) t (c :: cs)), ?_⟩
    rw [allT]
    refine ⟨fun i hi d e => (by simp at hi; rcases hi with rfl | rfl <;> cases e), ?_⟩
    have ecut : zipD (cutX (sL ((prs (sg ss) t (c :: cs)).map (·.1))) (some 1) none) (sL (c :: cs).reverse) = (A.zip (c :: cs).reverse).map fun p => .tuple [.str p.1, .str p.2] := by
      rw [hA1, ← zip_s]
      congr 1
      exact cut_from (PyData.str t) (sL A)
    refine lcM_eq (fun p : Str × Str => PyData.tuple [.str p.1, .str p.2]) (A.zip (c :: cs).reverse) ecut (fun _ => .bool true) (fun p hp R h1 => ?_) (by rw [List.length_zip, List.length_reverse]; omega) ⟨_, mapT (A.zip (c :: cs).reverse), by rw [allT]; exact q⟩
    obtain ⟨e1, e2⟩ := hA4 p hp
    obtain ⟨m, em⟩ := way_occ h.way c cs rfl p.2 e2
    rw [em] at e1
    have e1 : p.1 = m := e1
    refine ⟨(by decide : 5 < 7), (by decide : 6 < 7), dOk_map _ _, rfl, ?_⟩
    show shp ((lookD (mapD PyData.str ss) (.str p.2)).getD (.str "")) ∧ shp (.str p.1) ∧ R (.bool (PyData.eqv ((lookD (mapD PyData.str ss) (.str p.2)).getD (.str "")) (.str p.1))) n
    rw [ss_look em, e1]
    refine ⟨shp_s (T.tnm (sg_key S em)), shp_s (T.tnm (sg_key S em)), ?_⟩
    show R (.bool (PyData.eqv (.str m) (.str m))) n
    rw [eqv_s, beq_self_eq_true]
    exact h1
/-! ### is_shift, is_right -/
def g_is_shift : GF := fun ds n Q => ∃ book ready seating tab U ss t w, ds = [book, ready, seating, wayD ss t w] ∧ CaseOk book ready seating tab U ss ∧ ShOk tab ss t w ∧ Q (.bool true) n
theorem law_is_shift (ds : List PyData) (n : Nat) (Q : GK) (h : g_is_shift ds n Q) : gb_is_shift g_is_name g_tasks_of g_seats_of g_may_table g_is_row_of g_is_end (RT Q) (startE nm_is_shift ds) n := by
  obtain ⟨book, ready, seating, tab, U, ss, t, w, rfl, C, h, q⟩ := h
  have T := C.T
  have S := C.S
  obtain ⟨kinds, b, rs, B, rfl, hl, hk, hn, e⟩ := C.br.ex
  have ek : tks rs = ks tab := by rw [e, ks_may]
  have W := ShOk.wu T h.way
  have hlen := W.len T
  have hK := sizeK
  cases w with
  | nil => exact (W.ne rfl).elim
  | cons c cs =>
    have hpl := prs_len (sg ss) t (c :: cs)
    have eM := way_movers ss t (c :: cs)
    refine ⟨rfl, ?_⟩
    show if (!(isT "tuple" (.tuple (sL (flat ss t (c :: cs)))))) = true then _ else _
    rw [isT_tup]
    refine ⟨rfl, rfl, ?_⟩
    show if PyData.eqv (.int ((sL (flat ss t (c :: cs))).length : Nat)) (.int 0) = true then _ else _
    rw [sL_len, flat_len]
    refine ifF (fun h => ?_) ?_
    · rw [PyData.eqv, beq_iff_eq] at h
      rw [List.length_cons] at h
      omega
    refine ⟨(by decide : (0 : Int) < 2), rfl, rfl, ?_⟩
    show if (!PyData.eqv (.int (((sL (flat ss t (c :: cs))).length : Nat) % 2)) (.int 0)) = true then _ else _
    rw [sL_len, flat_len]
    refine ifF ?_ ?_
    · have : (((2 * (c :: cs).length : Nat) : Int) % 2) = 0 := by omega
      rw [this]
      exact ne_same 0
    refine ⟨noOwn1 fun d e => (by cases e), ?_⟩
    refine lcM_eq PyData.str (flat ss t (c :: cs)) rfl (fun _ => .bool true) (fun x hx R h1 => ⟨(by decide : 7 < 9), x, rfl, flat_nm T S h.way x hx, h1⟩) (by rw [flat_len]; omega) ?_
    refine ⟨_, mapT (flat ss t (c :: cs)), ?_⟩
    rw [allT]
    refine ⟨parB 9 rfl (by decide), book, _, tab, rfl, C.br, seating, ss, rfl, C.sr, b, rs, rfl, by omega, ?_⟩
    refine ⟨noOwn1 fun d e => (by cases e), ?_⟩
    refine lcM_eq PyData.str ((prs (sg ss) t (c :: cs)).map (·.1)) eM (fun _ => .bool true) (fun x hx R h1 => ⟨(by decide : 8 < 9), ?_, shp_l fun y hy => T.tnm (ek ▸ hy), ?_⟩) (by rw [List.length_map, hpl]; omega) ?_
    · obtain ⟨p, hp, rfl⟩ := List.mem_map.mp hx
      exact shp_s (T.tnm (way_fst_key S h.way p hp))
    · obtain ⟨p, hp, rfl⟩ := List.mem_map.mp hx
      show R (.bool ((sL (tks rs)).any fun z => PyData.eqv z (PyData.str p.1))) n
      rw [any_s, ek, decide_eq_true (way_fst_key S h.way p hp)]
      exact h1
    refine ⟨_, mapT ((prs (sg ss) t (c :: cs)).map (·.1)), ?_⟩
    rw [allT]
    refine ⟨tab, U, ss, t, c :: cs, rfl, T, S, h, ?_⟩
    refine ⟨_, way_first ss t c cs, _, way_last ss t c cs, tab, U, ss, t, c, ?_, T, S, way_key h.way, ?_⟩
    · show [PyData.list (sL (tks rs)), seatD ss, .str t, .str c] = _
      rw [ek]
    · rw [h.fin c cs rfl]
      exact q
def g_is_right : GF := fun ds n Q => ∃ book ready seating tab U ss t c cs, ds = [book, ready, seating, wayD ss t (c :: cs)] ∧ CaseOk book ready seating tab U ss ∧ ShOk tab ss t (c :: cs) ∧ Q (.bool (reB tab ss t c)) n
theorem law_is_right (ds : List PyData) (n : Nat) (Q : GK) (h : g_is_right ds n Q) : gb_is_right g_is_shift g_right_ends_of g_may_table g_seats_of g_tasks_of (RT Q) (startE nm_is_right ds) n := by
  obtain ⟨book, ready, seating, tab, U, ss, t, c, cs, rfl, C, h, q⟩ := h
  have T := C.T
  have S := C.S
  obtain ⟨kinds, b, rs, B, rfl, hl, hk, hn, e⟩ := C.br.ex
  have ek : tks rs = ks tab := by rw [e, ks_may]
  have W := ShOk.wu T h.way
  refine ⟨book, _, seating, tab, U, ss, t, c :: cs, rfl, C, h, ?_⟩
  refine ⟨_, way_last ss t c cs, book, _, tab, rfl, C.br, seating, ss, rfl, C.sr, b, rs, rfl, by omega, _, way_first ss t c cs, tab, U, ss, t, ?_, T, S, way_key h.way, fun out ho hm => ?_⟩
  · show [tabD tab, seatD ss, .list (sL (tks rs)), .str t] = _
    rw [ek]
  · refine ⟨shp_s (T.nmU c (W.sub c List.mem_cons_self)), shp_l ho, ?_⟩
    show Q (.bool ((sL out).any fun z => PyData.eqv z (PyData.str c))) n
    rw [any_s]
    have : decide (c ∈ out) = reB tab ss t c := by
      cases hr : reB tab ss t c with
      | true => exact decide_eq_true ((hm c).mpr hr)
      | false => exact decide_eq_false fun h => by rw [(hm c).mp h] at hr; cases hr
    rw [this]
    exact q
end M
end

section
namespace M
open PySem PySem.Spec PySem.Calls PyProof.Rows L2 L2.DL Mq

/-! ### the seating behind a way -/
def afterL (ss : Ss) (ps : List (Str × Str)) : Ss := ps.foldl (fun z p => putS z p.2 p.1) ss
theorem putS_mem {ss : Ss} {c m : Str} {p : Str × Str} (h : p ∈ putS ss c m) : (p ∈ ss ∧ p.1 ≠ c) ∨ p = (c, m) := by
  unfold putS at h
  split at h
  · obtain ⟨qz, hqz, ez⟩ := List.mem_map.mp h
    split at ez
    · rename_i hc
      have hc : qz.1 = c := by simpa using hc
      exact Or.inr (by rw [← ez, hc])
    · rename_i hc
      have hc : ¬ qz.1 = c := by simpa using hc
      exact Or.inl ⟨ez ▸ hqz, ez ▸ hc⟩
  · rename_i hn
    rcases (List.mem_append.mp h) with h | h
    · refine Or.inl ⟨h, fun ez => hn ?_⟩
      rw [List.any_eq_true]
      exact ⟨p, h, by simpa using ez⟩
    · exact Or.inr (List.mem_singleton.mp h)
theorem putS_ks (ss : Ss) (c m : Str) : ks (putS ss c m) = if c ∈ ks ss then ks ss else ks ss ++ [c] := by
  unfold putS ks
  by_cases h : c ∈ ss.map (·.1)
  · have : (ss.any fun pz => pz.1 == c) = true := by
      obtain ⟨pz, hpz, ez⟩ := List.mem_map.mp h
      rw [List.any_eq_true]
      exact ⟨pz, hpz, by simpa using ez⟩
    rw [if_pos this, if_pos h, List.map_map]
    refine List.map_congr_left fun pz _ => ?_
    show (if (pz.1 == c) = true then (pz.1, m) else pz).1 = pz.1
    split <;> rfl
  · have : ¬ (ss.any fun pz => pz.1 == c) = true := fun h' => by
      obtain ⟨pz, hpz, ez⟩ := List.any_eq_true.mp h'
      exact h (List.mem_map.mpr ⟨pz, hpz, by simpa using ez⟩)
    rw [if_neg this, if_neg h, List.map_append]; rfl
theorem putS_nodup {ss : Ss} {c m : Str} (h : (ks ss).Nodup) : (ks (putS ss c m)).Nodup := by
  rw [putS_ks]
  split
  · exact h
  · rename_i hn
    rw [List.nodup_append]
    exact ⟨h, by simp, fun x hx y hy e => by obtain rfl := List.mem_singleton.mp hy; exact hn (e ▸ hx)⟩
theorem putS_sg {ss : Ss} {c m : Str} (h : (ks ss).Nodup) (x : Str) : sg (putS ss c m) x = Mq.upd (sg ss) c (some m) x := by
  have hn := putS_nodup (c := c) (m := m) h
  unfold Mq.upd
  split
  · rename_i e
    subst e
    have hm : (x, m) ∈ putS ss x m := by
      unfold putS
      split
      · rename_i ha
        obtain ⟨p, hp, e⟩ := List.any_eq_true.mp ha
        exact List.mem_map.mpr ⟨p, hp, by rw [if_pos e]; have : p.1 = x := by simpa using e
                                          rw [this]⟩
      · simp
    exact look_of hn hm
  · rename_i ne
    cases e : sg ss x with
    | some v =>
      have hv := look_mem e
      refine look_of hn ?_
      unfold putS
      split
      · exact List.mem_map.mpr ⟨_, hv, by rw [if_neg (by simpa using ne)]⟩
      · exact List.mem_append.mpr (Or.inl hv)
    | none =>
      cases e2 : sg (putS ss c m) x with
      | none => rfl
      | some v =>
        rcases putS_mem (look_mem e2) with ⟨h1, _⟩ | h1
        · have := look_of h h1
          have e : List.lookup x ss = none := e
          rw [e] at this; cases this
        · exact (ne (congrArg Prod.fst h1)).elim
theorem putS_len (ss : Ss) (c m : Str) : (putS ss c m).length ≤ ss.length + 1 := by
  unfold putS
  split
  · rw [List.length_map]; omega
  · rw [(List.length_append)]; simp
structure NmP (ss : Ss) : Prop where
  k : ∀ p ∈ ss, Nm p.1
  v : ∀ p ∈ ss, Nm p.2
theorem NmP.put {ss : Ss} {c m : Str} (h : NmP ss) (hc : Nm c) (hm : Nm m) : NmP (putS ss c m) := by
  constructor <;> intro p hp <;> rcases putS_mem hp with ⟨h1, _⟩ | rfl
  · exact h.k p h1
  · exact hc
  · exact h.v p h1
  · exact hm
theorem afterL_app (ss : Ss) (ps qs : List (Str × Str)) : afterL ss (ps ++ qs) = afterL (afterL ss ps) qs := List.foldl_append ..
theorem after_nodup : ∀ (ps : List (Str × Str)) {ss : Ss}, (ks ss).Nodup → (ks (afterL ss ps)).Nodup
  | [], _, h => h
  | p :: ps, _, h => after_nodup ps (putS_nodup h)
theorem after_sg {ss : Ss} (h : (ks ss).Nodup) (t : Str) : ∀ rs : List Str, ((∀ c cs, rs = c :: cs → ∀ x ∈ cs, ∃ m, sg ss x = some m)) → sg (afterL ss (prs (sg ss) t rs)) = app (sg ss) t rs
  | [], _ => rfl
  | [c], _ => funext fun x => putS_sg h x
  | c' :: c :: cs, ho => by
    obtain ⟨m, em⟩ := ho c' (c :: cs) rfl c List.mem_cons_self
    have ih := after_sg h t (c :: cs) fun c0 cs0 e x hx => by
      injection e with e1 e2
      subst e1 e2
      exact ho c' (c :: cs) rfl x (List.mem_cons_of_mem _ hx)
    rw [prs, afterL_app]
    funext x
    show sg (putS (afterL ss (prs (sg ss) t (c :: cs))) c' ((sg ss c).getD default)) x = _
    rw [putS_sg (after_nodup _ h), ih, em]
    show Mq.upd _ c' (some m) x = Mq.upd _ c' (sg ss c) x
    rw [em]
def pT (p : Str × Str) : PyData := .tuple [.str p.1, .str p.2]
def sortP (ss : Ss) : Ss := ss.mergeSort fun p q => dle (pT p) (pT q)
theorem sortP_eq (ss : Ss) : (ss.map pT).mergeSort dle = (sortP ss).map pT := (List.map_mergeSort (r := fun p q => dle (pT p) (pT q)) (s := dle) (f := pT) (l := ss) (fun _ _ _ _ => rfl)).symm
theorem sortP_perm (ss : Ss) : (sortP ss).Perm ss := List.mergeSort_perm _ _
theorem pT_sh {ss : Ss} (h : NmP ss) : ∀ d ∈ ss.map pT, Sh 1 d := fun d hdz => by
  obtain ⟨p, hp, rfl⟩ := List.mem_map.mp hdz
  refine Sh.tuple (k := 0) fun d hdz => ?_
  rcases List.mem_cons.mp hdz with rfl | hdz
  · exact .str (h.k p hp)
  · obtain rfl := List.mem_singleton.mp hdz
    exact .str (h.v p hp)
theorem sortOk_p {ss : Ss} (h : NmP ss) : SortOk (ss.map pT) := by
  refine ⟨.of fun b b' => ?_, .tuples fun b => ⟨_, _, rfl⟩, fun d hd => (pT_sh h d hd).shp (by decide)⟩
  simp [pT, PySem.W.alike, PySem.W.alikeAll]
theorem pairs_eq (ss : Ss) : (mapD PyData.str ss).map L2.DL.pairD = ss.map pT := by
  show (ss.map _).map _ = _
  rw [List.map_map]; rfl
theorem prs_items (ss : Ss) (t : Str) (rs : List Str) : zipD (stepX 0 (sL (flat ss t rs))) (stepX 1 (sL (flat ss t rs))) = (prs (sg ss) t rs).map pT := by
  rw [way_movers, way_places, ← prs_snd (sg ss) t rs, zip_s]
  generalize prs (sg ss) t rs = ps
  induction ps with
  | nil => rfl
  | cons p ps ih =>
    rw [List.map_cons, List.map_cons, List.zip_cons_cons, List.map_cons, ih]; rfl
/-! ### shifted -/
def goneL (ss : Ss) (t : Str) (w : List Str) : Ss := sortP (afterL ss (prs (sg ss) t w))
def g_shifted : GF := fun ds n Q => ∃ seating ss t w, ds = [seating, wayD ss t w] ∧ SR seating ss ∧ NmP ss ∧ (∀ p ∈ prs (sg ss) t w, Nm p.1 ∧ Nm p.2) ∧ ss.length + w.length ≤ 1000 ∧ Q (ssT (goneL ss t w)) n
theorem law_shifted (ds : List PyData) (n : Nat) (Q : GK) (h : g_shifted ds n Q) : gb_shifted g_seats_of (RT Q) (startE nm_shifted ds) n := by
  obtain ⟨seating, ss, t, w, rfl, C, hn, hp, hl, q⟩ := h
  have hpl := prs_len (sg ss) t w
  have hK := sizeK
  refine ⟨(by decide : 2 < 5), seating, ss, rfl, C, ?_⟩
  refine forL_eq pT (prs (sg ss) t w) (prs_items ss t w) (fun rest env n' => n = n' ∧ (∀ p ∈ rest, Nm p.1 ∧ Nm p.2) ∧ ∃ sn x y, env = [.dat seating, .dat (wayD ss t w), .own (seatD sn), x, y] ∧ NmP sn ∧ sn.length + rest.length ≤ 1000 ∧ afterL sn rest = afterL ss (prs (sg ss) t w)) ⟨rfl, hp, ss, .no, .no, rfl, hn, by rw [hpl]; exact hl, rfl⟩ ?_ ?_
  · rintro env n1 ⟨rfl, _, sn, x, y, rfl, h1, _, e⟩
    refine ⟨dOk_map _ _, ?_, ?_⟩
    · show SortOk ((mapD PyData.str sn).map L2.DL.pairD)
      rw [pairs_eq]
      exact sortOk_p h1
    · show Q (.tuple (((mapD PyData.str sn).map L2.DL.pairD).mergeSort dle)) n
      have e : sn = afterL ss (prs (sg ss) t w) := e
      rw [pairs_eq, sortP_eq, e]
      exact q
  · rintro p rest env n1 R ⟨rfl, hr, sn, x, y, rfl, h1, h2, e⟩ hR
    obtain ⟨a, b⟩ := hr p List.mem_cons_self
    refine ⟨(by decide : 3 < 5), (by decide : 4 < 5), rfl, ?_, ?_⟩
    · show (sn.map _).length < _
      rw [List.length_map]
      omega
    · refine hR _ _ ⟨rfl, fun z hz => hr z (List.mem_cons_of_mem _ hz), putS sn p.2 p.1, .dat (.str p.1), .dat (.str p.2), ?_, h1.put b a, ?_, e⟩
      · show [Sl.dat seating, .dat (wayD ss t w), .own (.dict (putD (mapD PyData.str sn) (.str p.2) (.str p.1))), .dat (.str p.1), .dat (.str p.2)] = _
        rw [put_map]
        rfl
      · have := putS_len sn p.2 p.1
        rw [List.length_cons] at h2
        omega
/-! ### _law_moved -/
theorem flatP_at {α : Type} : ∀ (ps : List (α × α)) (k : Nat) (p : α × α), ps[k]? = some p → (flatP ps)[2 * k]? = some p.1 ∧ (flatP ps)[2 * k + 1]? = some p.2
  | [], _, _, h => by cases h
  | q :: ps, 0, p, h => by
    cases h
    exact ⟨rfl, rfl⟩
  | q :: ps, k + 1, p, h => by
    obtain ⟨a, b⟩ := flatP_at ps k p h
    have e : flatP (q :: ps) = q.1 :: q.2 :: flatP ps := rfl
    rw [e, show 2 * (k + 1) = 2 * k + 1 + 1 by omega]
    exact ⟨a, b⟩
theorem rngC (k : Nat) (h : k ≤ 4) : RgC 0 ((2 * k : Nat) : Int) 2 k := by
  have : k = 0 ∨ k = 1 ∨ k = 2 ∨ k = 3 ∨ k = 4 := by omega
  rcases this with rfl | rfl | rfl | rfl | rfl <;> exact ⟨by decide, by decide, by decide +kernel, by decide +kernel⟩
theorem self_eq (e : Ss) (h : (ks e).Nodup) : (mapD PyData.str e).map (fun q => PyData.tuple [q.1, (lookD (mapD PyData.str e) q.1).getD .none]) = e.map pT := by
  unfold mapD
  rw [List.map_map]
  refine List.map_congr_left fun pz hpz => ?_
  show PyData.tuple [.str pz.1, (lookD (mapD PyData.str e) (.str pz.1)).getD .none] = _
  rw [ss_look (show sg e pz.1 = some pz.2 from look_of h hpz)]
  rfl
def g__law_moved : GF := fun ds n Q => ∃ ss t w, ds = [ssT ss, wayD ss t w] ∧ (ks ss).Nodup ∧ NmP ss ∧ (∀ p ∈ prs (sg ss) t w, Nm p.1 ∧ Nm p.2) ∧ ss.length ≤ 900 ∧ w.length ≤ 4 ∧ Q (ssT (goneL ss t w)) n
theorem law__law_moved (ds : List PyData) (n : Nat) (Q : GK) (h : g__law_moved ds n Q) : gb__law_moved (RT Q) (startE nm__law_moved ds) n := by
  obtain ⟨ss, t, w, rfl, hnd, hn, hp, hl, hw, q⟩ := h
  have hpl := prs_len (sg ss) t w
  have hK := sizeK
  refine ⟨(by decide : 2 < 5), mapD .str ss, ?_, fun p hp => ?_, ?_⟩
  · rw [pairs_eq]; rfl
  · obtain ⟨p, _, rfl⟩ := List.mem_map.mp hp; rfl
  refine ⟨w.length, ?_, ?_⟩
  · show RgC 0 ((sL (flat ss t w)).length : Nat) 2 w.length
    rw [sL_len, flat_len]
    exact rngC _ hw
  refine forL_eq (fun k : Nat => PyData.int (0 + (k : Nat) * 2)) (List.range w.length) rfl (fun rest env n' => n = n' ∧ ∃ k sn x y, rest = List.range' k (w.length - k) ∧ k ≤ w.length ∧ env = [.dat (ssT ss), .dat (wayD ss t w), .own (seatD sn), x, y] ∧ NmP sn ∧ (ks sn).Nodup ∧ sn.length ≤ 900 + k ∧ afterL sn ((prs (sg ss) t w).drop k) = afterL ss (prs (sg ss) t w)) ⟨rfl, 0, ss, .no, .no, ?_, Nat.zero_le _, ?_, hn, hnd, hl, rfl⟩ ?_ ?_
  · rw [List.range_eq_range']; rfl
  · show [Sl.dat (ssT ss), .dat (wayD ss t w), .own (.dict (mergeD [] (mapD PyData.str ss))), .no, .no] = _
    rw [merge_nodup PyData.str hnd]
    rfl
  · rintro env n1 ⟨rfl, k, sn, x, y, er, hk, rfl, h1, h2, h3, e⟩
    have hk' : w.length - k = 0 := by
      have := congrArg List.length er
      simpa using this.symm
    have e : sn = afterL ss (prs (sg ss) t w) := by
      rw [List.drop_eq_nil_of_le (by omega)] at e
      exact e
    refine ⟨(by decide : 2 ≠ 4), (by decide : 4 < 5), ?_, ?_⟩
    · show (sn.map _).length ≤ _
      rw [List.length_map]
      omega
    · refine ⟨?_, ?_⟩
      · show SortOk ((mapD PyData.str sn).map (fun q => PyData.tuple [q.1, (lookD (mapD PyData.str sn) q.1).getD .none]))
        rw [self_eq sn h2]
        exact sortOk_p h1
      · show Q (.tuple (((mapD PyData.str sn).map (fun q => PyData.tuple [q.1, (lookD (mapD PyData.str sn) q.1).getD .none])).mergeSort dle)) n
        rw [self_eq sn h2, sortP_eq, e]
        exact q
  · rintro i rest env n1 R ⟨rfl, k, sn, x, y, er, hk, rfl, h1, h2, h3, e⟩ hR
    have hlt : k < w.length := by
      have := congrArg List.length er
      simp at this
      omega
    have er' : i :: rest = k :: List.range' (k + 1) (w.length - (k + 1)) := by
      rw [er, show w.length - k = (w.length - (k + 1)) + 1 by omega, List.range'_succ]
    obtain ⟨rfl, er2⟩ := List.cons.inj er'
    obtain ⟨p, hpk⟩ : ∃ p, (prs (sg ss) t w)[i]? = some p := ⟨_, List.getElem?_eq_getElem (by rw [hpl]; exact hlt)⟩
    obtain ⟨a, b⟩ := hp p (List.mem_of_getElem? hpk)
    obtain ⟨f1, f2⟩ := flatP_at _ _ _ hpk
    have g1 : atI (sL (flat ss t w)) (0 + (i : Nat) * 2 : Int) = some (.str p.1) := by
      rw [show (0 + (i : Nat) * 2 : Int) = ((2 * i : Nat) : Int) by omega]
      refine at_nat ?_
      rw [List.getElem?_map]
      unfold flat
      rw [f1]; rfl
    have g2 : atI (sL (flat ss t w)) (0 + (i : Nat) * 2 + 1 : Int) = some (.str p.2) := by
      rw [show (0 + (i : Nat) * 2 + 1 : Int) = ((2 * i + 1 : Nat) : Int) by omega]
      refine at_nat ?_
      rw [List.getElem?_map]
      unfold flat
      rw [f2]; rfl
    refine ⟨(by decide : 3 < 5), _, g1, _, g2, rfl, ?_, ?_⟩
    · show (sn.map _).length < _
      rw [List.length_map]
      omega
    · refine hR _ _ ⟨rfl, i + 1, putS sn p.2 p.1, .dat (.int (0 + (i : Nat) * 2)), y, er2, hlt, ?_, h1.put b a, putS_nodup h2, ?_, ?_⟩
      · show [Sl.dat (ssT ss), .dat (wayD ss t w), .own (.dict (putD (mapD PyData.str sn) (.str p.2) (.str p.1))), .dat (.int (0 + (i : Nat) * 2)), y] = _
        rw [put_map]
        rfl
      · have := putS_len sn p.2 p.1
        omega
      · rw [← e, List.drop_eq_getElem_cons (i := i) (by rw [hpl]; exact hlt)]
        have : (prs (sg ss) t w)[i]'(by rw [hpl]; exact hlt) = p := (List.getElem?_eq_some_iff.mp hpk).2
        rw [this]
        rfl
end M
end

section
namespace M
open PySem PySem.Spec PySem.Calls PyProof.Rows L2 L2.DL Mq

def webT (tags : List Str) (kinds : Tab) : PyData := .tuple [.tuple (sL tags), kindsT kinds]
def mayR (kinds : Tab) (row : Ss) : Tab := row.map fun r => (r.1, msk kinds r.2)
theorem ks_mayR (kinds : Tab) (row : Ss) : ks (mayR kinds row) = ks row := by unfold mayR ks; rw [List.map_map]; rfl
theorem dictP_kinds {kinds : Tab} {Q : PyData → Prop} (hn : (ks kinds).Nodup) (q : Q (tabD kinds)) : oDictP [kindsT kinds] Q := by
  refine ⟨mapD cutD kinds, ?_, fun p hp => ?_, ?_⟩
  · show kinds.map _ = (kinds.map _).map L2.DL.pairD
    rw [List.map_map]; rfl
  · obtain ⟨p, _, rfl⟩ := List.mem_map.mp hp; rfl
  · rw [merge_nodup cutD hn]; exact q
/-! ### _law_may -/
def g__law_may : GF := fun ds n Q => ∃ tags kinds row, ds = [webT tags kinds, ssT row] ∧ (ks kinds).Nodup ∧ (ks row).Nodup ∧ row.length ≤ 8 ∧ (∀ r ∈ row, r.2 ∈ ks kinds) ∧ Q (tabD (mayR kinds row)) n
theorem law__law_may (ds : List PyData) (n : Nat) (Q : GK) (h : g__law_may ds n Q) : gb__law_may (RT Q) (startE nm__law_may ds) n := by
  obtain ⟨tags, kinds, row, rfl, hk, hr, hl, hin, q⟩ := h
  have hK := sizeK
  refine ⟨fun i hi d e => (by simp at hi; rcases hi with rfl | rfl <;> cases e), ?_⟩
  refine lcM_eq pT row rfl (fun r => PyData.tuple [.str r.1, cutD (msk kinds r.2)]) (fun r hr' R h1 => ?_) (by omega) ?_
  · refine ⟨(by decide : 2 < 4), (by decide : 3 < 4), _, at_nat (i := 1) rfl, ?_⟩
    refine ⟨mapD cutD kinds, ?_, fun p hp => ?_, ?_⟩
    · show kinds.map _ = (kinds.map _).map L2.DL.pairD
      rw [List.map_map]; rfl
    · obtain ⟨p, _, rfl⟩ := List.mem_map.mp hp; rfl
    · rw [merge_nodup cutD hk]
      exact ⟨dOk_map _ _, rfl, _, tab_look (look_mk (hin r hr')), (by decide : 2 ≤ sizeLine), h1⟩
  · refine ⟨mapD cutD (mayR kinds row), ?_, fun p hp => ?_, ?_⟩
    · show row.map _ = ((row.map _).map _).map L2.DL.pairD
      rw [List.map_map, List.map_map]; rfl
    · obtain ⟨p, _, rfl⟩ := List.mem_map.mp hp; rfl
    · rw [merge_nodup cutD (by rw [show (mayR kinds row).map (·.1) = ks (mayR kinds row) from rfl, ks_mayR]; exact hr)]
      exact q
theorem eqv_nil (ds : List PyData) : PyData.eqv (.list ds) (.list []) = ds.isEmpty := by
  rw [PyData.eqv]
  cases ds <;> simp [PyData.eqvAll]
theorem dictSs (ss : Ss) (hn : (ks ss).Nodup) : ∃ qs : List (PyData × PyData), ss.map (fun p => PyData.tuple [.str p.1, .str p.2]) = qs.map L2.DL.pairD ∧ (∀ q ∈ qs, isKey q.1 = true) ∧ PyData.dict (mergeD [] qs) = seatD ss := by
  refine ⟨mapD .str ss, ?_, fun p hp => ?_, ?_⟩
  · show ss.map _ = (ss.map _).map L2.DL.pairD
    rw [List.map_map]; rfl
  · obtain ⟨p, _, rfl⟩ := List.mem_map.mp hp; rfl
  · rw [merge_nodup PyData.str hn]; rfl
/-! ### _law_goes -/
def g__law_goes : GF := fun ds n Q => ∃ tab U ss t, ds = [tabD tab, ssT ss, .str t] ∧ TabOk tab U ∧ SsOk tab ss ∧ t ∈ ks tab ∧ ∀ out : List Str, out.Nodup → (∀ c, c ∈ out ↔ Rch (msk tab) (sg ss) t c) → Q (.list (sL out)) n
structure Gin (tab : Tab) (U : List Str) (ss : Ss) (t : Str) (found new : List Str) : Prop where
  nd : (found ++ new).Nodup
  rch : ∀ c ∈ found ++ new, Rch (msk tab) (sg ss) t c
  fst : ∀ x ∈ msk tab t, x ∈ found ++ new
  nxt : ∀ c ∈ found, ∀ m, sg ss c = some m → ∀ x ∈ msk tab m, x ∈ found ++ new
theorem Gin.sub {tab : Tab} {U : List Str} {ss : Ss} {t : Str} {found new : List Str} (T : TabOk tab U) (h : Gin tab U ss t found new) : ∀ c ∈ found ++ new, c ∈ U := fun c hc => by
  cases h.rch c hc with
  | one h => exact T.mU _ _ h
  | more _ _ h => exact T.mU _ _ h
theorem law__law_goes (ds : List PyData) (n : Nat) (Q : GK) (h : g__law_goes ds n Q) : gb__law_goes (RT Q) (startE nm__law_goes ds) n := by
  obtain ⟨tab, U, ss, t, rfl, T, S, ht, q⟩ := h
  have hK := sizeK
  have hlU := T.lU
  obtain ⟨qs, hq1, hq2, hq3⟩ := dictSs ss S.nk
  unfold gb__law_goes gSeq
  refine par_step [seatD ss, .list [], .list (sL (msk tab t))] [.dat (tabD tab), .dat (ssT ss), .dat (.str t), .dat (seatD ss), .dat (.list []), .dat (.list (sL (msk tab t))), .no, .no] (parB 8 rfl (by decide)) (fun R h => ⟨qs, hq1, hq2, (by decide : 0 ≤ sizeLine), dOk_map _ _, rfl, _, tab_look (look_mk ht), (by rw [hq3]; exact h)⟩) rfl ?_
  refine while_inv (fun m env n' => n = n' ∧ ∃ found new x y, env = [.dat (tabD tab), .dat (ssT ss), .dat (.str t), .dat (seatD ss), .dat (.list (sL found)), .dat (.list (sL new)), x, y] ∧ (∀ d, y ≠ .own d) ∧ Gin tab U ss t found new ∧ U.length - found.length ≤ m) ?_ (m := U.length) ⟨rfl, [], msk tab t, .no, .no, rfl, fun d e => (by cases e), ⟨T.mnd t, fun c hc => .one hc, fun x hxz => hxz, fun c hc => (by cases hc)⟩, by simp⟩
  rintro m env n1 R ⟨rfl, found, new, x, y, rfl, hy, I, hm⟩ hR
  have hsub := I.sub T
  have hle := nodup_le I.nd hsub
  rw [List.length_append] at hle
  have hnd := List.nodup_append.mp I.nd
  refine ⟨(by decide : 0 ≤ sizeLine), shp_l fun z hz => T.nmU z (hsub z (List.mem_append.mpr (Or.inr hz))), rfl, ?_⟩
  show if (!PyData.eqv (.list (sL new)) (.list [])) = true then _ else _
  rw [eqv_nil]
  by_cases hn : new = []
  · subst hn
    refine ifF (by simp [sL]) ?_
    refine ⟨found, Or.inl rfl, by unfold scanBound; omega, fun out h1 h2 => ?_⟩
    have hm' : ∀ c, c ∈ sortS out ↔ Rch (msk tab) (sg ss) t c := fun c => by
      rw [(sortS_perm out).mem_iff, h2]
      refine ⟨fun h => I.rch c (by simpa using h), fun hr => ?_⟩
      induction hr with
      | one hc => simpa using I.fst _ hc
      | more _ e hc ih => simpa using I.nxt _ ih _ e _ hc
    refine ⟨sortOk_s fun z hz => T.nmU z (hsub z (by simpa using (h2 z).mp hz)), ?_⟩
    rw [sort_sL]
    exact q (sortS out) ((sortS_perm out).nodup_iff.mpr h1) hm'
  · have hpos : 0 < new.length := List.length_pos_iff.mpr hn
    refine ifT (by cases new with | nil => exact (hn rfl).elim | cons _ _ => rfl) ?_
    refine par_step [.list (sL found ++ sL new), .list []] [.dat (tabD tab), .dat (ssT ss), .dat (.str t), .dat (seatD ss), .dat (.list (sL (found ++ new))), .dat (.list (sL new)), .dat (.list (sL [])), y] (parB 8 rfl (by decide)) (fun R h => ⟨by rw [sL_len, sL_len]; omega, (by decide : 0 ≤ sizeLine), h⟩) (by rw [show sL (found ++ new) = sL found ++ sL new from List.map_append]; rfl) ?_
    refine forL_eq PyData.str new rfl (fun rest env n' => n = n' ∧ (∀ c ∈ rest, c ∈ new) ∧ ∃ later y, env = [.dat (tabD tab), .dat (ssT ss), .dat (.str t), .dat (seatD ss), .dat (.list (sL (found ++ new))), .dat (.list (sL new)), .dat (.list (sL later)), y] ∧ (∀ d, y ≠ .own d) ∧ (∀ x ∈ later, ∃ c ∈ new, ∃ m, sg ss c = some m ∧ x ∈ msk tab m) ∧ (∀ c ∈ new, c ∈ rest ∨ ∀ m, sg ss c = some m → ∀ x ∈ msk tab m, x ∈ later) ∧ later.length + 4 * rest.length ≤ 16) ⟨rfl, fun c h => h, [], y, rfl, hy, fun x h => (by cases h), fun c h => Or.inl h, by simp; omega⟩ ?_ ?_
    · rintro env n1 ⟨rfl, _, later, y, rfl, hy, h1, h2, h3⟩
      have hlu : ∀ x ∈ later, x ∈ U := fun x hxz => by
        obtain ⟨c, _, m, _, hxz⟩ := h1 x hxz
        exact T.mU _ _ hxz
      refine ⟨(by decide : 5 < 8), noOwn1 fun d e => hy d (Option.some.inj e), ?_⟩
      refine lcL_eq PyData.str later rfl (fun x => !(found ++ new).contains x) PyData.str (fun x hxz R1 R2 h4 h5 => ⟨(by decide : 7 < 8), shp_s (T.nmU x (hlu x hxz)), shp_l fun z hz => T.nmU z (hsub z hz), ?_⟩) (by omega) ?_
      · show if (!((sL (found ++ new)).any fun z => PyData.eqv z (PyData.str x))) = true then R1 (PyData.str x) n else R2 n
        rw [any_s]
        by_cases hxf : x ∈ found ++ new
        · exact ifF (notin_t hxf) (h5 (cont_t hxf))
        · exact ifT (notin_f hxf) (h4 (cont_f hxf))
      have hfl : (later.filter fun x => !(found ++ new).contains x).length ≤ later.length := List.length_filter_le _ _
      refine ⟨later.filter fun x => !(found ++ new).contains x, Or.inl rfl, by unfold scanBound; omega, fun out h4 h5 => ?_⟩
      have hout : ∀ z, z ∈ sortS out ↔ z ∈ later ∧ z ∉ found ++ new := fun z => by
        rw [(sortS_perm out).mem_iff, h5, List.mem_filter]
        refine and_congr_right fun _ => ?_
        by_cases hz : z ∈ found ++ new
        · rw [cont_t hz]; simp [hz]
        · rw [cont_f hz]; simp [hz]
      refine ⟨sortOk_s fun z hz => T.nmU z (hlu z (List.mem_filter.mp ((h5 z).mp hz)).1), ?_⟩
      rw [sort_sL]
      have hcl : ∀ z, (z ∈ found ++ new ∨ z ∈ later) → z ∈ (found ++ new) ++ sortS out := fun z hz => by
        by_cases hf : z ∈ found ++ new
        · exact List.mem_append.mpr (Or.inl hf)
        · exact List.mem_append.mpr (Or.inr ((hout z).mpr ⟨hz.resolve_left hf, hf⟩))
      refine hR (U.length - (found ++ new).length) _ _ (by rw [List.length_append]; omega) ⟨rfl, found ++ new, sortS out, .dat (.list (sL later)), y, rfl, hy, ⟨?_, fun c hc => ?_, fun x hxz => hcl x (Or.inl (I.fst x hxz)), fun c hc m e x hxz => ?_⟩, Nat.le_refl _⟩
      · rw [List.nodup_append]
        exact ⟨I.nd, (sortS_perm out).nodup_iff.mpr h4, fun a ha b hb e => ((hout b).mp hb).2 (e ▸ ha)⟩
      · rcases List.mem_append.mp hc with hc | hc
        · exact I.rch c hc
        · obtain ⟨c0, h0, m, e, hxz⟩ := h1 c ((hout c).mp hc).1
          exact .more (I.rch c0 (List.mem_append.mpr (Or.inr h0))) e hxz
      · rcases List.mem_append.mp hc with hc | hc
        · exact hcl x (Or.inl (I.nxt c hc m e x hxz))
        · exact hcl x (Or.inr (((h2 c hc).resolve_left (by simp)) m e x hxz))
    · rintro c rest env n1 R2 ⟨rfl, hr, later, y, rfl, hy, h1, h2, h3⟩ hR2
      have hc := hr c List.mem_cons_self
      have hr' := fun x hxz => hr x (List.mem_cons_of_mem _ hxz)
      rw [List.length_cons] at h3
      refine ⟨(by decide : 7 < 8), dOk_map _ _, rfl, ?_⟩
      show if (lookD (mapD PyData.str ss) (PyData.str c)).isSome = true then _ else _
      rw [ss_some]
      cases e : sg ss c with
      | none =>
        refine ifF (by simp) ?_
        refine hR2 _ _ ⟨rfl, hr', later, .dat (.str c), rfl, fun d e => (by cases e), h1, fun x hxz => ?_, by omega⟩
        rcases h2 x hxz with h | h
        · rcases (List.mem_cons.mp h) with rfl | h
          · exact Or.inr fun m em => by rw [e] at em; cases em
          · exact Or.inl h
        · exact Or.inr h
      | some m =>
        have hml := T.ml m
        refine ifT rfl ⟨(by decide : 6 < 8), dOk_map _ _, rfl, _, ss_look e, dOk_map _ _, rfl, _, tab_look (look_mk (sg_key S e)), ?_, ?_⟩
        · rw [sL_len, sL_len]; omega
        · refine hR2 _ _ ⟨rfl, hr', later ++ msk tab m, .dat (.str c), ?_, fun d e => (by cases e), fun x hxz => ?_, fun x hxz => ?_, by rw [List.length_append]; omega⟩
          · rw [show sL (later ++ msk tab m) = sL later ++ sL (msk tab m) from List.map_append]; rfl
          · rcases List.mem_append.mp hxz with hxz | hxz
            · exact h1 x hxz
            · exact ⟨c, hc, m, e, hxz⟩
          · rcases h2 x hxz with h | h
            · rcases (List.mem_cons.mp h) with rfl | h
              · refine Or.inr fun m' em z hz => ?_
                rw [e] at em
                obtain rfl := Option.some.inj em
                exact List.mem_append.mpr (Or.inr hz)
              · exact Or.inl h
            · exact Or.inr fun m' em z hz => List.mem_append.mpr (Or.inl (h m' em z hz))
end M
end

section
namespace M
open PySem PySem.Spec PySem.Calls PyProof.Rows L2 L2.DL Mq

theorem ne_nil (ds : List PyData) : (!PyData.eqv (.list ds) (.list [])) = !ds.isEmpty := by rw [eqv_nil]
theorem ne_nil_t {ds : List PyData} (h : ds ≠ []) : (!PyData.eqv (.list ds) (.list [])) = true := by rw [eqv_nil]; cases ds with | nil => exact (h rfl).elim | cons _ _ => rfl
theorem ne_nil_f {ds : List PyData} (h : ds = []) : ¬ (!PyData.eqv (.list ds) (.list [])) = true := by subst h; rw [eqv_nil]; exact Bool.false_ne_true
/-! ### _law_ends -/
def Ends (tab : Tab) (ss : Ss) (t c : Str) : Prop := Rch (msk tab) (sg ss) t c ∧ ∀ u, sg ss c = some u → ∀ x, Rch (msk tab) (sg ss) t x → ∃ m, sg ss x = some m ∧ ixd tab m ≤ ixd tab u
def g__law_ends : GF := fun ds n Q => ∃ row tab U ss t, ds = [ssT row, tabD tab, ssT ss, .str t] ∧ ks row = ks tab ∧ TabOk tab U ∧ SsOk tab ss ∧ t ∈ ks tab ∧ ∀ out : List Str, (∀ c ∈ out, Nm c) → (∀ c, c ∈ out ↔ Ends tab ss t c) → Q (.list (sL out)) n
theorem names_go {row : Ss} {tab : Tab} {U : List Str} (T : TabOk tab U) (hr : ks row = ks tab) {env : List Sl} {n : Nat} {Q : GK} {i j : Nat} (h0 : env[j]? = some (.dat (ssT row))) (hij : j ≠ i) (hi : i < env.length) (hno : ∀ d, env[i]? ≠ some (Sl.own d)) (q : Q (.list (sL (ks tab))) n) : gLc [i] (gSeqI (gVar j)) (ggName i) gYes (gBin oIx (gVarB i) (gC (.int 0))) env n Q := by
  refine ⟨noOwn1 hno, ?_⟩
  have hl : row.length ≤ 8 := by
    have := congrArg List.length hr
    simp [ks] at this
    have := T.len
    omega
  have hK := sizeK
  have e1 : (wipeE env [i]).length = env.length := by simp [wipeE]
  unfold gSeqI gVar
  rw [h0]
  refine lcM_eq pT row rfl (fun r => PyData.str r.1) (fun r hr' R h1 => ?_) (by omega) ?_
  · refine ⟨by rw [e1]; exact hi, ?_⟩
    unfold gBin gVarB gC
    dsimp only
    rw [List.getElem?_set_self (by rw [e1]; exact hi)]
    exact ⟨_, at_zero, h1⟩
  · have : (row.map fun r => PyData.str r.1) = sL (ks tab) := by rw [← hr]; show _ = (row.map _).map _; rw [List.map_map]; rfl
    rw [this]
    exact q
theorem int_eqv (a b : Nat) : PyData.eqv (.int (a : Nat)) (.int (b : Nat)) = decide (a = b) := by
  rw [PyData.eqv]
  by_cases h : a = b
  · subst h; simp
  · have h2 : ¬ ((a : Int) = (b : Int)) := by omega
    simp [h, h2]
theorem law__law_ends (ds : List PyData) (n : Nat) (Q : GK) (h : g__law_ends ds n Q) : gb__law_ends g__law_goes (RT Q) (startE nm__law_ends ds) n := by
  obtain ⟨row, tab, U, ss, t, rfl, hrow, T, S, ht, q⟩ := h
  have hK := sizeK
  obtain ⟨qs, hq1, hq2, hq3⟩ := dictSs ss S.nk
  unfold gb__law_ends gSeq
  refine par_step [seatD ss, .list (sL (ks tab))] [.dat (ssT row), .dat (tabD tab), .dat (ssT ss), .dat (.str t), .dat (seatD ss), .dat (.list (sL (ks tab))), .no, .no, .no, .no, .no] (parB 11 rfl (by decide)) (fun R h => ⟨qs, hq1, hq2, names_go T hrow rfl (by decide) (by show 9 < 11; decide) (fun d e => (by cases e)) (by rw [hq3]; exact h)⟩) rfl ?_
  refine ⟨(by decide : 6 < 11), tab, U, ss, t, rfl, T, S, ht, fun out hnd hm => ?_⟩
  have hmU : ∀ c ∈ out, c ∈ U := fun c hc => by
    cases (hm c).mp hc with
    | one h => exact T.mU _ _ h
    | more _ _ h => exact T.mU _ _ h
  have hlen : out.length ≤ 4 := Nat.le_trans (nodup_le hnd hmU) T.lU
  refine ⟨(by decide : 7 < 11), noOwn1 fun d e => (by cases e), ?_⟩
  refine lcL_eq PyData.str out rfl (fun c => (sg ss c).isNone) PyData.str (fun c hc R1 R2 h1 h2 => ⟨(by decide : 10 < 11), dOk_map _ _, rfl, ?_⟩) (by omega) ?_
  · show if (!(lookD (mapD PyData.str ss) (PyData.str c)).isSome) = true then R1 (PyData.str c) n else R2 n
    rw [ss_some]
    cases e : sg ss c with
    | none => exact ifT rfl (h1 (by rw [e]; rfl))
    | some u => exact ifF (by simp) (h2 (by rw [e]; rfl))
  have hne : ∃ c, Rch (msk tab) (sg ss) t c := by
    have := (T.csok ht).ne
    cases e : msk tab t with
    | nil => exact (this e).elim
    | cons c cs => exact ⟨c, .one (by rw [e]; exact List.mem_cons_self)⟩
  refine ⟨(by decide : 0 ≤ sizeLine), shp_l fun x hx => T.nmU x (hmU x (List.mem_filter.mp hx).1), rfl, ?_⟩
  by_cases hf : out.filter (fun c => (sg ss c).isNone) = []
  · refine ifF (ne_nil_f (by rw [hf]; rfl)) ?_
    have occ : ∀ c ∈ out, ∃ m, sg ss c = some m := fun c hc => by
      cases e : sg ss c with
      | some m => exact ⟨m, rfl⟩
      | none =>
        have : c ∈ out.filter (fun c => (sg ss c).isNone) := List.mem_filter.mpr ⟨hc, by rw [e]; rfl⟩
        rw [hf] at this
        cases this
    have hpos : 0 < out.length := by
      obtain ⟨c, hc⟩ := hne
      exact List.length_pos_of_mem ((hm c).mpr hc)
    refine ⟨(by decide : 8 < 11), noOwn1 fun d e => (by cases e), ?_⟩
    refine lcM_eq PyData.str out rfl (fun c => .int (ixd tab ((sg ss c).getD default) : Nat)) (fun c hc R h1 => ⟨(by decide : 10 < 11), ?_⟩) (by omega) ?_
    · obtain ⟨m, em⟩ := occ c hc
      refine index_go T (fun R h => h) (fun R h => ⟨dOk_map _ _, rfl, _, ss_look em, h⟩) (sg_key S em) ?_
      rw [em] at h1
      exact h1
    refine ⟨out.map fun c => (ixd tab ((sg ss c).getD default) : Nat), by rw [List.map_map]; rfl, by rw [List.length_map]; exact hpos, fun mx hmx hup => ?_⟩
    obtain ⟨c0, hc0, e0⟩ := List.mem_map.mp hmx
    refine ⟨noOwn1 fun d e => (by cases e), ?_⟩
    refine lcL_eq PyData.str out rfl (fun c => decide (ixd tab ((sg ss c).getD default) = ixd tab ((sg ss c0).getD default))) PyData.str (fun c hc R1 R2 h1 h2 => ⟨(by decide : 10 < 11), ?_⟩) (by omega) ?_
    · obtain ⟨m, em⟩ := occ c hc
      refine ⟨dOk_map _ _, rfl, _, ss_look em, shp_ks T, shp_s (T.tnm (sg_key S em)), _, idx_s (sg_key S em), rfl, rfl, ?_⟩
      show if PyData.eqv (.int (ixd tab m : Nat)) (.int mx) = true then R1 (PyData.str c) n else R2 n
      rw [← e0, int_eqv]
      rw [em] at h1 h2
      by_cases hd : ixd tab m = ixd tab ((sg ss c0).getD default)
      · exact ifT (decide_eq_true hd) (h1 (decide_eq_true hd))
      · exact ifF (by simpa using hd) (h2 (decide_eq_false hd))
    refine q _ (fun c hc => T.nmU c (hmU c (List.mem_filter.mp hc).1)) fun c => ?_
    have hmax : ∀ x ∈ out, ∀ u, sg ss x = some u → ixd tab u ≤ ixd tab ((sg ss c0).getD default) := fun x hx u eu => by
      have := hup _ (List.mem_map.mpr ⟨x, hx, rfl⟩)
      rw [← e0, eu] at this
      exact Int.ofNat_le.mp this
    obtain ⟨m0, em0⟩ := occ c0 hc0
    rw [List.mem_filter, hm]
    constructor
    · rintro ⟨h1, h2⟩
      refine ⟨h1, fun u eu x hx => ?_⟩
      obtain ⟨m, em⟩ := occ x ((hm x).mpr hx)
      have h2 := of_decide_eq_true h2
      rw [eu] at h2
      have := hmax x ((hm x).mpr hx) m em
      have h2 : ixd tab u = ixd tab ((sg ss c0).getD default) := h2
      exact ⟨m, em, by omega⟩
    · rintro ⟨h1, h2⟩
      refine ⟨h1, decide_eq_true ?_⟩
      obtain ⟨u, eu⟩ := occ c ((hm c).mpr h1)
      obtain ⟨m, em, hle⟩ := h2 u eu c0 ((hm c0).mp hc0)
      have h3 := hmax c ((hm c).mpr h1) u eu
      rw [em] at h3 ⊢
      rw [eu]
      have h3 : ixd tab u ≤ ixd tab m := h3
      show ixd tab u = ixd tab m
      omega
  · refine ifT (ne_nil_t (by simpa [sL] using hf)) ?_
    refine q (out.filter fun c => (sg ss c).isNone) (fun c hc => T.nmU c (hmU c (List.mem_filter.mp hc).1)) fun c => ?_
    obtain ⟨x, hx⟩ := List.exists_mem_of_ne_nil _ hf
    obtain ⟨hx1, hx2⟩ := List.mem_filter.mp hx
    have ex : sg ss x = none := by simpa using hx2
    rw [List.mem_filter, hm]
    constructor
    · rintro ⟨h1, h2⟩
      have ec : sg ss c = none := by simpa using h2
      exact ⟨h1, fun u eu => by rw [ec] at eu; cases eu⟩
    · rintro ⟨h1, h2⟩
      refine ⟨h1, ?_⟩
      cases ec : sg ss c with
      | none => rfl
      | some u =>
        obtain ⟨m, em, _⟩ := h2 u ec x ((hm x).mp hx1)
        rw [ex] at em
        cases em
/-! ### _law_shifts -/
theorem sort_map {α : Type} (f : α → PyData) (xs : List α) : ∃ ys : List α, ys.Perm xs ∧ (xs.map f).mergeSort dle = ys.map f :=
  ⟨xs.mergeSort fun a b => dle (f a) (f b), List.mergeSort_perm _ _, (List.map_mergeSort (r := fun a b => dle (f a) (f b)) (s := dle) (f := f) (l := xs) (fun _ _ _ _ => rfl)).symm⟩
theorem alike_sL : ∀ xs ys : List Str, PySem.W.alikeAll (sL xs) (sL ys) = true
  | [], _ => by simp [PySem.W.alikeAll]
  | _ :: _, [] => by simp [PySem.W.alikeAll]
  | x :: xs, y :: ys => by
    show PySem.W.alikeAll (.str x :: sL xs) (.str y :: sL ys) = true
    rw [PySem.W.alikeAll, alike_sL xs ys]
    simp [PySem.W.alike]
def endH (tab : Tab) (ss : Ss) (t : Str) : List Str → Bool
  | [] => false
  | c :: _ => endB tab ss t c
def lvl (tab : Tab) (ss : Ss) (t : Str) (k : Nat) (ws : List (List Str)) : Prop := ∀ w, w ∈ ws ↔ Way (msk tab) (sg ss) t w ∧ w.length = k + 1
theorem way_ext {tab : Tab} {ss : Ss} {t : Str} {w : List Str} : Way (msk tab) (sg ss) t w ↔ (∃ c ∈ msk tab t, w = [c]) ∨ ∃ w0, Way (msk tab) (sg ss) t w0 ∧ w ∈ ext (msk tab) (sg ss) w0 := by
  constructor
  · intro h
    cases h with
    | one h => exact Or.inl ⟨_, h, rfl⟩
    | more w e h hn => exact Or.inr ⟨_, w, ext_mem.mpr ⟨_, _, e, h, hn, rfl⟩⟩
  · rintro (⟨c, hc, rfl⟩ | ⟨w0, h, hw⟩)
    · exact .one hc
    · cases w0 with
      | nil => cases hw
      | cons c cs =>
        obtain ⟨m, x, e, hx, hn, rfl⟩ := ext_mem.mp hw
        exact .more h e hx hn
theorem ext_one {tab : Tab} {ss : Ss} {w w0 : List Str} (h : w ∈ ext (msk tab) (sg ss) w0) : w.length = w0.length + 1 := by
  cases w0 with
  | nil => cases h
  | cons c cs =>
    obtain ⟨m, x, _, _, _, rfl⟩ := ext_mem.mp h
    rfl
theorem lvl_next {tab : Tab} {ss : Ss} {t : Str} {k : Nat} {ws : List (List Str)} (h : lvl tab ss t k ws) : lvl tab ss t (k + 1) (ws.flatMap (ext (msk tab) (sg ss))) := by
  intro w
  rw [List.mem_flatMap]
  constructor
  · rintro ⟨w0, h0, hw⟩
    obtain ⟨h1, h2⟩ := (h w0).mp h0
    exact ⟨way_ext.mpr (Or.inr ⟨w0, h1, hw⟩), by rw [ext_one hw, h2]⟩
  · rintro ⟨h1, h2⟩
    rcases way_ext.mp h1 with ⟨c, _, rfl⟩ | ⟨w0, h3, h4⟩
    · simp at h2
    · exact ⟨w0, (h w0).mpr ⟨h3, by rw [ext_one h4] at h2; omega⟩, h4⟩
theorem flatMap_len {α β : Type} (f : α → List β) (b : Nat) : ∀ xs : List α, (∀ x ∈ xs, (f x).length ≤ b) → (xs.flatMap f).length ≤ b * xs.length
  | [], _ => Nat.zero_le _
  | x :: xs, h => by
    have := flatMap_len f b xs fun y hy => h y (List.mem_cons_of_mem _ hy)
    have := h x List.mem_cons_self
    rw [List.flatMap_cons, List.length_append, List.length_cons, Nat.mul_succ]
    omega
def g__law_shifts : GF := fun ds n Q => ∃ row tab U ss t, ds = [ssT row, tabD tab, ssT ss, .str t] ∧ ks row = ks tab ∧ TabOk tab U ∧ SsOk tab ss ∧ t ∈ ks tab ∧ ∀ out : List (List Str), (∀ w, w ∈ out ↔ ShOk tab ss t w) → out.length ≤ 90000 → Q (.list (out.map (wayD ss t))) n
end M
end

section
namespace M
open PySem PySem.Spec PySem.Calls PyProof.Rows L2 L2.DL Mq

theorem get1 (ss : Ss) (c : Str) : (lookD (mapD PyData.str ss) (.str c)).getD .none = (match sg ss c with | none => PyData.none | some m => .str m) := by
  rw [look_map]
  show (Option.map PyData.str (sg ss c)).getD .none = _
  cases sg ss c <;> rfl
theorem shp_places {tab : Tab} {U : List Str} (T : TabOk tab U) {w : List Str} (hw : WayU U w) (ss : Ss) (t : Str) : shp (.tuple (stepX 1 (sL (flat ss t w)))) := by
  rw [way_places]
  exact shp_t fun y hy => T.nmU y (hw.sub y (List.mem_reverse.mp hy))
theorem any_places (ss : Ss) (t x : Str) (w : List Str) : ((stepX 1 (sL (flat ss t w))).any fun z => PyData.eqv z (PyData.str x)) = decide (x ∈ w) := by
  rw [way_places, any_s]
  congr 1
  exact propext List.mem_reverse
theorem pow4 (k : Nat) (h : k ≤ 3) : 4 ^ (k + 1) ≤ 256 := by
  have : k = 0 ∨ k = 1 ∨ k = 2 ∨ k = 3 := by omega
  rcases this with rfl | rfl | rfl | rfl <;> decide
theorem wayD_sort {tab : Tab} {U : List Str} {ss : Ss} {t : Str} (T : TabOk tab U) (S : SsOk tab ss) (ht : t ∈ ks tab) {ws : List (List Str)} (h : ∀ w ∈ ws, Way (msk tab) (sg ss) t w) : SortOk (ws.map (wayD ss t)) := by
  have hsh : ∀ d ∈ ws.map (wayD ss t), Sh 1 d ∧ ∃ x r, d = .tuple (x :: r) := by
    intro d hd
    obtain ⟨w, hw, rfl⟩ := List.mem_map.mp hd
    refine ⟨Sh.tuple (sh_sL (flat_nm T S (h w hw))), ?_⟩
    cases w with
    | nil => cases h _ hw
    | cons c cs =>
      have := way_first ss t c cs
      unfold wayD
      cases e : sL (flat ss t (c :: cs)) with
      | nil => rw [e] at this; cases this
      | cons x r => exact (⟨x, r, rfl⟩)
  refine ⟨fun d hd d' hd' => ?_, .inl fun d hd => (hsh d hd).2, fun d hd => (hsh d hd).1.shp (by decide)⟩
  obtain ⟨w, _, rfl⟩ := List.mem_map.mp hd
  obtain ⟨w', _, rfl⟩ := List.mem_map.mp hd'
  show PySem.W.alike (.tuple _) (.tuple _) = true
  rw [PySem.W.alike]
  exact alike_sL _ _
theorem law__law_shifts (ds : List PyData) (n : Nat) (Q : GK) (h : g__law_shifts ds n Q) : gb__law_shifts (RT Q) (startE nm__law_shifts ds) n := by
  obtain ⟨row, tab, U, ss, t, rfl, hrow, T, S, ht, q⟩ := h
  have hK := sizeK
  have hlU := T.lU
  obtain ⟨qs, hq1, hq2, hq3⟩ := dictSs ss S.nk
  have hmt := T.ml t
  unfold gb__law_shifts gSeq
  refine par_step [seatD ss, .list [], .list ((msk tab t).map fun x => wayD ss t [x])] [.dat (ssT row), .dat (tabD tab), .dat (ssT ss), .dat (.str t), .dat (seatD ss), .own (.list []), .dat (.list ((msk tab t).map fun x => wayD ss t [x])), .no, .no, .no, .no, .no, .no] (parB 13 rfl (by decide)) (fun R h => ⟨qs, hq1, hq2, (by decide : 0 ≤ sizeLine), noOwn1 fun d e => (by cases e), dOk_map _ _, rfl, _, tab_look (look_mk ht), lcM_eq PyData.str (msk tab t) rfl (fun x => wayD ss t [x]) (fun x hx R h1 => ⟨(by show 11 < 13; decide), (by decide : 2 ≤ sizeLine), h1⟩) (by omega) (by rw [hq3]; exact h)⟩) rfl ?_
  refine ⟨(by decide : 7 < 13), names_go T hrow rfl (by decide) (by show 12 < 13; decide) (fun d e => (by cases e)) ?_⟩
  have ev : (mapD PyData.str ss).map (·.2) = sL (ss.map (·.2)) := by rw [vals_map]; show _ = (ss.map _).map _; rw [List.map_map]; rfl
  refine ⟨dOk_map _ _, shp_s (T.tnm ht), ?_, ?_⟩
  · show shp (.list ((mapD PyData.str ss).map (·.2)))
    rw [ev]
    exact shp_l fun x hx => by obtain ⟨p, hp, rfl⟩ := List.mem_map.mp hx; exact S.vnm T p hp
  show if (((mapD PyData.str ss).map (·.2)).any fun z => PyData.eqv z (PyData.str t)) = true then _ else _
  rw [ev, any_s]
  by_cases hs : t ∈ ss.map (·.2)
  · exact ifT (decide_eq_true hs) ⟨(by decide : 0 ≤ sizeLine), q [] (fun w => ⟨fun h => (by cases h), fun h => (h.wait hs).elim⟩) (Nat.zero_le _)⟩
  refine ifF (by simpa using hs) ?_
  refine while_inv (fun m env n' => n = n' ∧ ∃ k found new x y z, env = [.dat (ssT row), .dat (tabD tab), .dat (ssT ss), .dat (.str t), .dat (seatD ss), .own (.list (found.map (wayD ss t))), .dat (.list (new.map (wayD ss t))), .dat (.list (sL (ks tab))), x, y, z, .no, .no] ∧ lvl tab ss t k new ∧ (∀ w, w ∈ found ↔ Way (msk tab) (sg ss) t w ∧ endH tab ss t w = true ∧ w.length ≤ k) ∧ found.length ≤ 256 * k ∧ k ≤ 4 ∧ new.length ≤ 4 ^ (k + 1) ∧ 4 - k ≤ m) ?_ (m := 4) ⟨rfl, 0, [], (msk tab t).map fun x => [x], .no, .no, .no, ?_, ?_, ?_, Nat.zero_le _, by omega, ?_, by omega⟩
  · rintro m env n1 R ⟨rfl, k, found, new, x, y, z, rfl, hL, hF, hfl, hk, hnl, hm⟩ hR
    have hwu : ∀ w ∈ new, WayU U w := fun w hw => ShOk.wu T ((hL w).mp hw).1
    have hsh : ∀ d ∈ new.map (wayD ss t), Sh 1 d := fun d hd => by
      obtain ⟨w, hw, rfl⟩ := List.mem_map.mp hd
      exact Sh.tuple (sh_sL (flat_nm T S ((hL w).mp hw).1))
    refine ⟨(by decide : 0 ≤ sizeLine), (Sh.list hsh).shp (by decide), rfl, ?_⟩
    by_cases hn : new = []
    · subst hn
      refine ifF (ne_nil_f rfl) ?_
      have hall : ∀ w, Way (msk tab) (sg ss) t w → w.length ≤ k := by
        intro w hw
        induction hw with
        | one hc =>
          by_cases h : 1 ≤ k
          · exact h
          · have : k = 0 := by omega
            subst this
            exact (by cases (hL _).mpr ⟨.one hc, rfl⟩)
        | @more c c' cs m w e hx hn ih =>
          by_cases h : (c' :: c :: cs).length ≤ k
          · exact h
          · have : (c' :: c :: cs).length = k + 1 := by simp only [List.length_cons] at h ih ⊢; omega
            exact (by cases (hL _).mpr ⟨.more w e hx hn, this⟩)
      refine ⟨wayD_sort T S ht fun w hw => ((hF w).mp hw).1, ?_⟩
      obtain ⟨ys, hp, ey⟩ := sort_map (wayD ss t) found
      show Q (.list ((found.map (wayD ss t)).mergeSort dle)) n
      rw [ey]
      refine q ys (fun w => ?_) (by rw [hp.length_eq]; omega)
      rw [hp.mem_iff, hF]
      constructor
      · rintro ⟨h1, h2, h3⟩
        exact ⟨h1, hs, fun c cs e => by subst e; exact h2⟩
      · intro h
        refine ⟨h.way, ?_, hall w h.way⟩
        cases w with
        | nil => cases h.way
        | cons c cs => exact h.fin c cs rfl
    · refine ifT (ne_nil_t (by simpa using hn)) ?_
      have hk3 : k ≤ 3 := by
        obtain ⟨w, hw⟩ := List.exists_mem_of_ne_nil _ hn
        have := (hwu w hw).len T
        have := ((hL w).mp hw).2
        omega
      have hp4 := pow4 k hk3
      refine ⟨(by decide : 8 < 13), (by decide : 0 ≤ sizeLine), ?_⟩
      refine forL_eq (wayD ss t) new rfl (fun rest env n' => n = n' ∧ ∃ done y z, new = done ++ rest ∧ env = [.dat (ssT row), .dat (tabD tab), .dat (ssT ss), .dat (.str t), .dat (seatD ss), .own (.list ((found ++ done.filter (endH tab ss t)).map (wayD ss t))), .dat (.list (new.map (wayD ss t))), .dat (.list (sL (ks tab))), .dat (.list ((done.flatMap (ext (msk tab) (sg ss))).map (wayD ss t))), y, z, .no, .no]) ⟨rfl, [], y, z, rfl, ?_⟩ ?_ ?_
      · rw [List.filter_nil, List.append_nil]; rfl
      · rintro env n1 ⟨rfl, done, y, z, e, rfl⟩
        rw [List.append_nil] at e
        subst e
        refine ⟨(by decide : 6 < 13), ?_⟩
        refine hR (4 - (k + 1)) _ _ (by omega) ⟨rfl, k + 1, found ++ new.filter (endH tab ss t), new.flatMap (ext (msk tab) (sg ss)), _, y, z, rfl, lvl_next hL, fun w => ?_, ?_, by omega, ?_, Nat.le_refl _⟩
        · rw [List.mem_append, hF, List.mem_filter, hL]
          constructor
          · rintro (⟨h1, h2, h3⟩ | ⟨⟨h1, h2⟩, h3⟩)
            · exact ⟨h1, h2, by omega⟩
            · exact ⟨h1, h3, by omega⟩
          · rintro ⟨h1, h2, h3⟩
            by_cases h : w.length ≤ k
            · exact Or.inl ⟨h1, h2, h⟩
            · exact Or.inr ⟨⟨h1, by omega⟩, h2⟩
        · have := List.length_filter_le (endH tab ss t) new
          rw [List.length_append]
          omega
        · have := flatMap_len (ext (msk tab) (sg ss)) 4 new fun w _ => ext_len T.ml w
          rw [Nat.pow_succ]
          omega
      · rintro w rest env n1 R2 ⟨rfl, done, y, z, e, rfl⟩ hR2
        have hwn : w ∈ new := by rw [e]; simp
        have hW := ((hL w).mp hwn).1
        have hu := hwu w hwn
        have hlen := hu.len T
        have hdl : done.length ≤ 256 := by
          have := congrArg List.length e
          rw [List.length_append] at this
          omega
        have hfd := List.length_filter_le (endH tab ss t) done
        have hex := flatMap_len (ext (msk tab) (sg ss)) 4 done fun w _ => ext_len T.ml w
        have e' : new = (done ++ [w]) ++ rest := by rw [e]; simp
        cases w with
        | nil => exact (hu.ne rfl).elim
        | cons c cs =>
          have ef : ∀ b, endB tab ss t c = b → (done ++ [c :: cs]).filter (endH tab ss t) = if b = true then done.filter (endH tab ss t) ++ [c :: cs] else done.filter (endH tab ss t) := fun b hb => by
            rw [List.filter_append]
            have : endH tab ss t (c :: cs) = b := hb
            cases b
            · rw [List.filter_cons_of_neg (by rw [this]; exact Bool.false_ne_true)]; simp
            · rw [List.filter_cons_of_pos this]; rfl
          have ee : (done ++ [c :: cs]).flatMap (ext (msk tab) (sg ss)) = done.flatMap (ext (msk tab) (sg ss)) ++ ext (msk tab) (sg ss) (c :: cs) := by
            rw [List.flatMap_append]; simp
          refine ⟨(by decide : 9 < 13), (by decide : 10 < 13), dOk_map _ _, _, way_last ss t c cs, rfl, ?_⟩
          rw [get1]
          cases es : sg ss c with
          | none =>
            have eb : endB tab ss t c = true := by unfold endB; rw [es]
            refine ⟨by rw [List.length_map, List.length_append]; omega, ?_⟩
            refine hR2 _ _ ⟨rfl, done ++ [c :: cs], .dat (wayD ss t (c :: cs)), .dat .none, e', ?_⟩
            rw [ef true eb, ee, ext_none es, List.append_nil, if_pos rfl, ← List.append_assoc, List.map_append (l₂ := [c :: cs])]
            rfl
          | some m =>
            have hm' := sg_key S es
            have hml := T.ml m
            have eb : endB tab ss t c = decide (ixd tab t < ixd tab m) := by unfold endB; rw [es]
            have tail : ∀ (F : List (List Str)), F = found ++ (done ++ [c :: cs]).filter (endH tab ss t) → gIfS (gTst (gBin oIsNot (gVarB 10) (gC .none))) (gSet 8 (gBin oAdd (gVarB 8) (gLc [11] (gSeqI (gDGet (gVarB 1) (gVarB 10))) (ggName 11) (gTst (gBin oNotIn (gVarB 11) (gStep 1 (gVarB 9)))) (gBin oAdd (gVarB 9) (gTup (gCons (gVar 10) (gCons (gVar 11) gNil))))))) gNext { nx := R2, rt := Q } [.dat (ssT row), .dat (tabD tab), .dat (ssT ss), .dat (.str t), .dat (seatD ss), .own (.list (F.map (wayD ss t))), .dat (.list (new.map (wayD ss t))), .dat (.list (sL (ks tab))), .dat (.list ((done.flatMap (ext (msk tab) (sg ss))).map (wayD ss t))), .dat (wayD ss t (c :: cs)), .dat (.str m), .no, .no] n := by
              intro F eF
              refine ⟨(by decide : 8 < 13), noOwn1 fun d e => (by cases e), dOk_map _ _, rfl, _, tab_look (look_mk hm'), ?_⟩
              refine lcL_eq PyData.str (msk tab m) rfl (fun x => !(c :: cs).contains x) (fun x => wayD ss t (x :: c :: cs)) (fun x hx R1 R3 h1 h2 => ?_) (by omega) ?_
              · refine ⟨(by show 11 < 13; decide), shp_s (T.mnm x hx), shp_places T hu ss t, ?_⟩
                show if (!((stepX 1 (sL (flat ss t (c :: cs)))).any fun z => PyData.eqv z (PyData.str x))) = true then _ else _
                rw [any_places]
                by_cases hxc : x ∈ c :: cs
                · exact ifF (notin_t hxc) (h2 (cont_t hxc))
                · refine ifT (notin_f hxc) ⟨(by decide : 2 ≤ sizeLine), ?_, ?_⟩
                  · show (sL (flat ss t (c :: cs))).length + 2 ≤ sizeLine
                    rw [sL_len, flat_len]
                    omega
                  · have h1' := h1 (cont_f hxc)
                    have efl : flat ss t (x :: c :: cs) = flat ss t (c :: cs) ++ [m, x] := by rw [flat_more, es]; rfl
                    have ew : wayD ss t (x :: c :: cs) = .tuple (sL (flat ss t (c :: cs)) ++ [PyData.str m, PyData.str x]) := by
                      unfold wayD
                      rw [efl]
                      simp [sL]
                    rw [ew] at h1'
                    exact h1'
              · have eext : ((msk tab m).filter fun x => !(c :: cs).contains x).map (fun x => wayD ss t (x :: c :: cs)) = (ext (msk tab) (sg ss) (c :: cs)).map (wayD ss t) := by
                  rw [ext_some es, List.map_map]; rfl
                rw [eext]
                refine ⟨?_, hR2 _ _ ⟨rfl, done ++ [c :: cs], .dat (wayD ss t (c :: cs)), .dat (.str m), e', ?_⟩⟩
                · have := ext_len (σ := sg ss) T.ml (c :: cs)
                  rw [List.length_map, List.length_map]
                  omega
                · rw [← eF, ee, List.map_append (l₂ := ext (msk tab) (sg ss) (c :: cs))]
                  rfl
            refine ⟨shp_ks T, shp_s (T.tnm hm'), _, idx_s hm', shp_ks T, shp_s (T.tnm ht), _, idx_s ht, trivial, ?_⟩
            show if decide ((ixd tab t : Int) < (ixd tab m : Nat)) = true then _ else _
            by_cases hlt : ixd tab t < ixd tab m
            · refine ifT (decide_eq_true (by omega)) ⟨by rw [List.length_map, List.length_append]; omega, ?_⟩
              have := tail (found ++ (done.filter (endH tab ss t) ++ [c :: cs])) (by rw [ef true (by rw [eb]; exact decide_eq_true hlt), if_pos rfl])
              rw [← List.append_assoc, List.map_append (l₂ := [c :: cs])] at this
              exact this
            · refine ifF (by simpa using hlt) ?_
              exact tail _ (by rw [ef false (by rw [eb]; exact decide_eq_false hlt), if_neg Bool.false_ne_true])
  · rw [List.map_map]; rfl
  · intro w
    rw [List.mem_map]
    constructor
    · rintro ⟨x, hx, rfl⟩; exact ⟨.one hx, rfl⟩
    · rintro ⟨h1, h2⟩
      cases h1 with
      | one h => exact ⟨_, h, rfl⟩
      | more _ _ _ _ => simp at h2
  · intro w
    constructor
    · intro h; cases h
    · rintro ⟨h1, h2, h3⟩
      cases h1 <;> simp at h3
  · rw [List.length_map]
    show _ ≤ 4
    exact hmt
end M
end

section
namespace M
open PySem PySem.Spec PySem.Calls PyProof.Rows L2 L2.DL Mq

/-! ### all seatings of xs tasks -/
def wstep (tab : Tab) (t : Str) (own : Ss) : List Ss := ((msk tab t).filter fun c => !(ks own).contains c).map fun c => own ++ [(c, t)]
def waysF (tab : Tab) (acc : List Ss) (xs : List Str) : List Ss := xs.foldl (fun found t => found.flatMap (wstep tab t)) acc
def waysL (tab : Tab) (xs : List Str) : List Ss := waysF tab [[]] xs
structure SeatL (tab : Tab) (τ : Ss) : Prop where
  nk : (ks τ).Nodup
  ok : ∀ p ∈ τ, p.1 ∈ msk tab p.2
theorem wstep_mem {tab : Tab} {t : Str} {own τ : Ss} : τ ∈ wstep tab t own ↔ ∃ c ∈ msk tab t, c ∉ ks own ∧ τ = own ++ [(c, t)] := by
  unfold wstep
  rw [List.mem_map]
  constructor
  · rintro ⟨c, hc, rfl⟩
    obtain ⟨h1, h2⟩ := List.mem_filter.mp hc
    refine ⟨c, h1, fun h => ?_, rfl⟩
    rw [cont_t h] at h2
    cases h2
  · rintro ⟨c, h1, h2, rfl⟩
    exact ⟨c, List.mem_filter.mpr ⟨h1, cont_f h2⟩, rfl⟩
theorem seatL_snoc {tab : Tab} {own : Ss} {c t : Str} (h : SeatL tab own) (hc : c ∈ msk tab t) (hn : c ∉ ks own) : SeatL tab (own ++ [(c, t)]) := by
  refine ⟨?_, fun p hpz => ?_⟩
  · unfold ks
    rw [(List.map_append), List.nodup_append]
    exact ⟨h.nk, by simp, fun x hx y hy e => by
      have : y = c := List.mem_singleton.mp hy
      exact hn (this ▸ e ▸ hx)⟩
  · rcases List.mem_append.mp hpz with hpz | hpz
    · exact h.ok p hpz
    · obtain rfl := List.mem_singleton.mp hpz; exact hc
theorem seatL_init {tab : Tab} {own : Ss} {p : Str × Str} (h : SeatL tab (own ++ [p])) : SeatL tab own ∧ p.1 ∈ msk tab p.2 ∧ p.1 ∉ ks own := by
  have nk := h.nk
  unfold ks at nk
  rw [List.map_append, List.nodup_append] at nk
  exact ⟨⟨nk.1, fun q hq => h.ok q (List.mem_append.mpr (Or.inl hq))⟩, h.ok p (by simp), fun hm => nk.2.2 _ hm p.1 (by simp) rfl⟩
theorem waysF_mem {tab : Tab} : ∀ (xs : List Str) (acc : List Ss), (∀ τ ∈ acc, SeatL tab τ) → ∀ τ, τ ∈ waysF tab acc xs ↔ ∃ τ0 ∈ acc, ∃ r : Ss, τ = τ0 ++ r ∧ r.map (·.2) = xs ∧ SeatL tab τ
  | [], acc, ha, τ => by
    constructor
    · intro h; exact ⟨τ, h, [], by simp, rfl, ha τ h⟩
    · rintro ⟨τ0, h0, r, rfl, hr, _⟩
      have : r = [] := List.map_eq_nil_iff.mp hr
      subst this
      simpa [waysF] using h0
  | t :: xs, acc, ha, τ => by
    have ha' : ∀ τ ∈ acc.flatMap (wstep tab t), SeatL tab τ := fun τ h => by
      obtain ⟨o, ho, h⟩ := List.mem_flatMap.mp h
      obtain ⟨c, h1, h2, rfl⟩ := wstep_mem.mp h
      exact seatL_snoc (ha o ho) h1 h2
    show τ ∈ waysF tab (acc.flatMap (wstep tab t)) xs ↔ _
    rw [waysF_mem xs _ ha' τ]
    constructor
    · rintro ⟨τ1, h1, r, rfl, hr, hs⟩
      obtain ⟨o, ho, h⟩ := List.mem_flatMap.mp h1
      obtain ⟨c, h2, h3, rfl⟩ := wstep_mem.mp h
      exact ⟨o, ho, (c, t) :: r, by simp, by simp [hr], hs⟩
    · rintro ⟨o, ho, r, rfl, hr, hs⟩
      cases r with
      | nil => cases hr
      | cons p r =>
        obtain ⟨c, u⟩ := p
        have hr' : u = t ∧ r.map (·.2) = xs := by simpa using hr
        obtain ⟨rfl, hr'⟩ := hr'
        have hs' : SeatL tab (o ++ [(c, u)]) := by
          have e : o ++ (c, u) :: r = (o ++ [(c, u)]) ++ r := by simp
          rw [e] at hs
          refine ⟨?_, fun p hp => hs.ok p (List.mem_append.mpr (Or.inl hp))⟩
          have := hs.nk
          unfold ks at this
          rw [List.map_append, List.nodup_append] at this
          exact this.1
        obtain ⟨_, h2, h3⟩ := seatL_init hs'
        exact ⟨o ++ [(c, u)], List.mem_flatMap.mpr ⟨o, ho, wstep_mem.mpr ⟨c, h2, h3, rfl⟩⟩, r, by simp, hr', hs⟩
theorem waysL_mem {tab : Tab} {xs : List Str} {τ : Ss} : τ ∈ waysL tab xs ↔ τ.map (·.2) = xs ∧ SeatL tab τ := by
  unfold waysL
  rw [waysF_mem xs [[]] (fun τ h => by obtain rfl := List.mem_singleton.mp h; exact ⟨List.nodup_nil, fun p hp => by cases hp⟩) τ]
  constructor
  · rintro ⟨τ0, h0, r, rfl, hr, hs⟩
    obtain rfl := List.mem_singleton.mp h0
    exact ⟨hr, hs⟩
  · rintro ⟨h1, h2⟩
    exact ⟨[], List.mem_singleton.mpr rfl, τ, rfl, h1, h2⟩
theorem SeatL.ss {tab : Tab} {τ : Ss} (h : SeatL tab τ) (hn : (τ.map (·.2)).Nodup) : SsOk tab τ := ⟨h.nk, hn, h.ok⟩
theorem waysL_iff {tab : Tab} {xs : List Str} (hn : xs.Nodup) : waysL tab xs ≠ [] ↔ Mt (msk tab) (· ∈ xs) := by
  constructor
  · intro h
    obtain ⟨τ, hτ⟩ := List.exists_mem_of_ne_nil _ h
    obtain ⟨h1, h2⟩ := waysL_mem.mp hτ
    have S := h2.ss (h1 ▸ hn)
    exact S.seat.mt.sub fun x hx => (sd_iff S).mpr (h1 ▸ hx)
  · rintro ⟨f, a, b⟩ h
    have : (xs.map fun s => (f s, s)) ∈ waysL tab xs := by
      refine waysL_mem.mpr ⟨by rw [List.map_map]; exact List.map_id _, ?_, fun p hp => ?_⟩
      · unfold ks
        rw [List.map_map]
        exact nodup_map hn fun x hx y hy e => b x y hx hy e
      · obtain ⟨s, hs, rfl⟩ := List.mem_map.mp hp
        exact a s hs
    rw [h] at this
    cases this
theorem waysF_congr {tab tab' : Tab} : ∀ (xs : List Str) (acc : List Ss), (∀ t ∈ xs, msk tab t = msk tab' t) → waysF tab acc xs = waysF tab' acc xs
  | [], _, _ => rfl
  | t :: xs, acc, h => by
    have e : wstep tab t = wstep tab' t := by funext o; unfold wstep; rw [h t List.mem_cons_self]
    show waysF tab (acc.flatMap (wstep tab t)) xs = waysF tab' (acc.flatMap (wstep tab' t)) xs
    rw [e, waysF_congr xs _ fun u hu => h u (List.mem_cons_of_mem _ hu)]
theorem wstep_len {tab : Tab} {U : List Str} (T : TabOk tab U) (t : Str) (o : Ss) : (wstep tab t o).length ≤ 4 := by
  unfold wstep
  rw [List.length_map]
  exact Nat.le_trans (List.length_filter_le _ _) (T.ml t)
/-! ### the greedy choice -/
def gstep (tab : Tab) (G : List Str) (t : Str) : List Str := if (waysL tab (G ++ [t])).isEmpty = true then G else G ++ [t]
def greedyM (tab : Tab) (names : List Str) : List Str := names.foldl (gstep tab) []
structure Gr (tab : Tab) (idx : Str → Nat) (p G : List Str) : Prop where
  nd : G.Nodup
  sub : ∀ x ∈ G, x ∈ p
  is : IsG (msk tab) (· ∈ p) idx (· ∈ G)
theorem gr_step {tab : Tab} {idx : Str → Nat} {p G : List Str} {t : Str} (h : Gr tab idx p G) (ht : t ∉ p) (hlt : ∀ x ∈ p, idx x < idx t) : Gr tab idx (p ++ [t]) (gstep tab G t) := by
  have hnd : (G ++ [t]).Nodup := by
    rw [List.nodup_append]
    exact ⟨h.nd, by simp, fun x hxz y hy e => by
      obtain rfl := List.mem_singleton.mp hy
      exact ht (h.sub _ (e ▸ hxz))⟩
  have hmem : ∀ x ∈ p, (x ∈ gstep tab G t ↔ x ∈ G) := fun x hxz => by
    unfold gstep
    split
    · exact Iff.rfl
    · rw [List.mem_append, List.mem_singleton]
      exact ⟨fun h => h.resolve_right fun e => ht (e ▸ hxz), Or.inl⟩
  have htm : t ∈ gstep tab G t ↔ Mt (msk tab) (· ∈ G ++ [t]) := by
    rw [← waysL_iff hnd]
    unfold gstep
    cases hw : waysL tab (G ++ [t]) with
    | nil =>
      rw [if_pos (show ([] : List Ss).isEmpty = true from rfl)]
      exact ⟨fun h' => (ht (h.sub _ h')).elim, fun h => (h rfl).elim⟩
    | cons a b =>
      rw [if_neg (by simp)]
      simp
  refine ⟨?_, fun x hxz => ?_, ?_⟩
  · unfold gstep
    split
    · exact h.nd
    · exact hnd
  · unfold gstep at hxz
    split at hxz
    · exact List.mem_append.mpr (Or.inl (h.sub x hxz))
    · rcases List.mem_append.mp hxz with hxz | hxz
      · exact List.mem_append.mpr (Or.inl (h.sub x hxz))
      · exact List.mem_append.mpr (Or.inr hxz)
  · intro u hu
    rcases List.mem_append.mp hu with hup | hu
    · refine (hmem u hup).trans ((h.is u hup).trans ?_)
      show Mt (msk tab) (fun x => (x ∈ p ∧ x ∈ G ∧ idx x < idx u) ∨ x = u) ↔ Mt (msk tab) fun x => (x ∈ p ++ [t] ∧ x ∈ gstep tab G t ∧ idx x < idx u) ∨ x = u
      have : (fun x => (x ∈ p ∧ x ∈ G ∧ idx x < idx u) ∨ x = u) = fun x => (x ∈ p ++ [t] ∧ x ∈ gstep tab G t ∧ idx x < idx u) ∨ x = u := by
        funext x
        apply propext
        constructor
        · rintro (⟨h1, h2, h3⟩ | e)
          · exact Or.inl ⟨List.mem_append.mpr (Or.inl h1), (hmem x h1).mpr h2, h3⟩
          · exact Or.inr e
        · rintro (⟨h1, h2, h3⟩ | e)
          · rcases List.mem_append.mp h1 with h1 | h1
            · exact Or.inl ⟨h1, (hmem x h1).mp h2, h3⟩
            · obtain rfl := List.mem_singleton.mp h1
              have := hlt u hup
              omega
          · exact Or.inr e
      rw [this]
    · obtain rfl := List.mem_singleton.mp hu
      refine htm.trans ?_
      show Mt (msk tab) (· ∈ G ++ [u]) ↔ Mt (msk tab) fun x => (x ∈ p ++ [u] ∧ x ∈ gstep tab G u ∧ idx x < idx u) ∨ x = u
      have : (· ∈ G ++ [u]) = fun x => (x ∈ p ++ [u] ∧ x ∈ gstep tab G u ∧ idx x < idx u) ∨ x = u := by
        funext x
        apply propext
        rw [List.mem_append, List.mem_singleton]
        constructor
        · rintro (h1 | e)
          · have := h.sub x h1
            exact Or.inl ⟨List.mem_append.mpr (Or.inl this), (hmem x this).mpr h1, hlt x this⟩
          · exact Or.inr e
        · rintro (⟨h1, h2, h3⟩ | e)
          · rcases List.mem_append.mp h1 with h1 | h1
            · exact Or.inl ((hmem x h1).mp h2)
            · obtain rfl := List.mem_singleton.mp h1
              omega
          · exact Or.inr e
      rw [this]
theorem gr_fold {tab : Tab} {idx : Str → Nat} : ∀ (rest p G : List Str), Gr tab idx p G → (p ++ rest).Pairwise (fun x y => idx x < idx y) → Gr tab idx (p ++ rest) (rest.foldl (gstep tab) G)
  | [], p, G, h, _ => by rw [List.append_nil]; exact h
  | t :: rest, p, G, h, hp => by
    have e : p ++ t :: rest = (p ++ [t]) ++ rest := by simp
    have hp2 := (List.pairwise_append.mp hp).2.2
    have hlt : ∀ x ∈ p, idx x < idx t := fun x hx => hp2 x hx t List.mem_cons_self
    rw [e] at hp ⊢
    exact gr_fold rest (p ++ [t]) _ (gr_step h (fun hm => by have := hlt t hm; omega) hlt) hp
theorem greedy_ok {tab : Tab} {idx : Str → Nat} {names : List Str} (h : names.Pairwise fun x y => idx x < idx y) : Gr tab idx names (greedyM tab names) := by
  have := gr_fold (tab := tab) (idx := idx) names [] [] ⟨List.nodup_nil, fun x h => (by cases h), fun x hx => (by cases hx)⟩ (by simpa using h)
  rw [List.nil_append] at this
  exact this
theorem greedy_congr {tab tab' : Tab} : ∀ (names G : List Str), (∀ t ∈ names, msk tab t = msk tab' t) → (∀ t ∈ G, msk tab t = msk tab' t) → names.foldl (gstep tab) G = names.foldl (gstep tab') G
  | [], _, _, _ => rfl
  | t :: names, G, h, hG => by
    have hGt : ∀ u ∈ G ++ [t], msk tab u = msk tab' u := fun u huz => by
      rcases List.mem_append.mp huz with huz | huz
      · exact hG u huz
      · obtain rfl := List.mem_singleton.mp huz; exact h u List.mem_cons_self
    have ez : gstep tab G t = gstep tab' G t := by unfold gstep waysL; rw [waysF_congr _ _ hGt]
    rw [List.foldl_cons, List.foldl_cons, ez]
    refine greedy_congr names _ (fun u huz => h u (List.mem_cons_of_mem _ huz)) fun u huz => ?_
    unfold gstep at huz
    split at huz
    · exact hG u huz
    · exact hGt u huz
theorem ks_pair {tab : Tab} (hn : (ks tab).Nodup) : (ks tab).Pairwise fun x y => ixd tab x < ixd tab y := by
  unfold ixd
  generalize ks tab = l at hn
  induction l with
  | nil => exact List.Pairwise.nil
  | cons a l ih =>
    have hnz' := List.nodup_cons.mp hn
    refine List.Pairwise.cons (fun y hy => ?_) ((ih hnz'.2).imp_of_mem fun {x y} hx hy h => ?_)
    · have : a ≠ y := fun e => hnz'.1 (e ▸ hy)
      rw [List.idxOf_cons_self, List.idxOf_cons]
      have e2 : (a == y) = false := by simpa using this
      rw [e2]
      exact Nat.succ_pos _
    · have h1 : a ≠ x := fun e => hnz'.1 (e ▸ hx)
      have h2 : a ≠ y := fun e => hnz'.1 (e ▸ hy)
      rw [List.idxOf_cons, List.idxOf_cons]
      have e1 : (a == x) = false := by simpa using h1
      have e2 : (a == y) = false := by simpa using h2
      rw [e1, e2]
      exact Nat.succ_lt_succ h
end M
end

section
namespace M
open PySem PySem.Spec PySem.Calls PyProof.Rows L2 L2.DL Mq

theorem SeatL.nmp {tab : Tab} {U : List Str} (T : TabOk tab U) {τ : Ss} (h : SeatL tab τ) : NmP τ := ⟨fun p hp => T.mnm _ (h.ok p hp), fun p hp => T.tnm (mk_key (h.ok p hp))⟩
theorem waysF_seat {tab : Tab} : ∀ (xs : List Str) (acc : List Ss), (∀ τ ∈ acc, SeatL tab τ) → ∀ τ ∈ waysF tab acc xs, SeatL tab τ := fun xs acc h τ hτ => by
  obtain ⟨_, _, _, _, _, hs⟩ := (waysF_mem xs acc h τ).mp hτ
  exact hs
theorem seat_nil {tab : Tab} : ∀ τ ∈ ([[]] : List Ss), SeatL tab τ := fun τ h => by obtain rfl := List.mem_singleton.mp h; exact ⟨List.nodup_nil, fun p hp => by cases hp⟩
theorem waysF_app (tab : Tab) (acc : List Ss) (xs ys : List Str) : waysF tab acc (xs ++ ys) = waysF tab (waysF tab acc xs) ys := List.foldl_append ..
theorem pow48 (k : Nat) (h : k ≤ 8) : 4 ^ k ≤ 65536 := by
  have : k = 0 ∨ k = 1 ∨ k = 2 ∨ k = 3 ∨ k = 4 ∨ k = 5 ∨ k = 6 ∨ k = 7 ∨ k = 8 := by omega
  rcases this with rfl | rfl | rfl | rfl | rfl | rfl | rfl | rfl | rfl <;> decide
theorem sizeM : 1000000 ≤ sizeLine := by decide
def g__law_ways : GF := fun ds n Q => ∃ tab U b xs, ds = [tabD tab, seqD b (sL xs)] ∧ TabOk tab U ∧ (∀ x ∈ xs, x ∈ ks tab) ∧ xs.length ≤ 8 ∧ Q (.list ((waysL tab xs).map fun τ => ssT (sortP τ))) n
theorem law__law_ways (ds : List PyData) (n : Nat) (Q : GK) (h : g__law_ways ds n Q) : gb__law_ways (RT Q) (startE nm__law_ways ds) n := by
  obtain ⟨tab, U, b, xs, rfl, T, hx, hl, q⟩ := h
  have hM := sizeM
  refine ⟨(by decide : 2 < 7), (by decide : 0 ≤ sizeLine), (by decide : 1 ≤ sizeLine), ?_⟩
  have key : gForL (ggName 3) (gSeq (gSet 4 (gLst gNil)) (gSeq (gFor (gSeqI (gVar 2)) (ggName 5) (gSet 4 (gBin oAdd (gVarB 4) (gLc [6] (gSeqI (gDGet (gVarB 0) (gVarB 3))) (ggName 6) (gTst (gDIn true (gVarB 6) (gCall oDictP (gCons (gVarB 5) gNil)))) (gBin oAdd (gVarB 5) (gTup (gCons (gTup (gCons (gVar 6) (gCons (gVar 3) gNil))) gNil))))))) (gSet 2 (gVar 4)))) { RT Q with nx := gRet (gLc [5] (gSeqI (gVar 2)) (ggName 5) gYes (gCall oTuple (gCons (gCall oSorted (gCons (gVarB 5) gNil)) gNil))) (RT Q) } (sL xs) [.dat (tabD tab), .dat (seqD b (sL xs)), .dat (.list [.tuple []]), .no, .no, .no, .no] n := by
    refine forL_eq PyData.str xs rfl (fun rest env n' => n = n' ∧ ∃ done x y z, xs = done ++ rest ∧ (∀ d, z ≠ .own d) ∧ env = [.dat (tabD tab), .dat (seqD b (sL xs)), .dat (.list ((waysL tab done).map ssT)), x, y, z, .no] ∧ (waysL tab done).length ≤ 4 ^ done.length) ⟨rfl, [], .no, .no, .no, rfl, fun d e => (by cases e), rfl, Nat.le_refl _⟩ ?_ ?_
    · rintro env n1 ⟨rfl, done, x, y, z, e, hz, rfl, hlen⟩
      rw [List.append_nil] at e
      subst e
      have hp := pow48 _ hl
      refine ⟨noOwn1 fun d e => hz d (Option.some.inj e), ?_⟩
      refine lcM_eq ssT (waysL tab xs) rfl (fun τ => ssT (sortP τ)) (fun τ hτ R h1 => ⟨(by decide : 5 < 7), sortOk_p ((waysF_seat _ _ seat_nil τ hτ).nmp T), ?_⟩) (by omega) q
      show R (.tuple ((τ.map pT).mergeSort dle)) n
      rw [sortP_eq]
      exact h1
    · rintro t rest env n1 R ⟨rfl, done, x, y, z, e, hz, rfl, hlen⟩ hR
      have ht : t ∈ ks tab := hx t (by rw [e]; simp)
      have hdl : done.length + 1 ≤ 8 := by
        have := congrArg List.length e
        simp at this
        omega
      have hp := pow48 (done.length + 1) hdl
      have hp0 := pow48 done.length (by omega)
      have hml := T.ml t
      refine ⟨(by decide : 3 < 7), (by decide : 4 < 7), (by decide : 0 ≤ sizeLine), ?_⟩
      refine forL_eq ssT (waysL tab done) rfl (fun rest2 env n' => n = n' ∧ ∃ done2 z, waysL tab done = done2 ++ rest2 ∧ (∀ d, z ≠ .own d) ∧ env = [.dat (tabD tab), .dat (seqD b (sL xs)), .dat (.list ((waysL tab done).map ssT)), .dat (.str t), .dat (.list ((done2.flatMap (wstep tab t)).map ssT)), z, .no]) ⟨rfl, [], z, rfl, hz, rfl⟩ ?_ ?_
      · rintro env n1 ⟨rfl, done2, z, e2, hz, rfl⟩
        rw [List.append_nil] at e2
        subst e2
        refine ⟨(by decide : 2 < 7), ?_⟩
        have ew : waysL tab (done ++ [t]) = (waysL tab done).flatMap (wstep tab t) := by
          unfold waysL
          rw [waysF_app]
          rfl
        refine hR _ _ ⟨rfl, done ++ [t], .dat (.str t), .dat (.list (((waysL tab done).flatMap (wstep tab t)).map ssT)), z, by rw [e]; simp, hz, ?_, ?_⟩
        · rw [ew]; rfl
        · rw [ew, List.length_append, List.length_singleton, Nat.pow_succ]
          have := flatMap_len (wstep tab t) 4 (waysL tab done) fun o _ => wstep_len T t o
          omega
      · rintro o rest2 env n1 R2 ⟨rfl, done2, z, e2, hz2, rfl⟩ hR2
        have ho : SeatL tab o := waysF_seat done [[]] seat_nil o (by
          show o ∈ waysL tab done
          rw [e2]; simp)
        have hd2 : done2.length ≤ 4 ^ done.length := by
          have := congrArg List.length e2
          simp at this
          omega
        have hol : o.length ≤ 8 := by
          have hom : o ∈ waysL tab done := by rw [e2]; simp
          have := congrArg List.length (waysL_mem.mp hom).1
          simp at this
          omega
        obtain ⟨qs, hq1, hq2, hq3⟩ := dictSs o ho.nk
        refine ⟨(by decide : 5 < 7), (by decide : 4 < 7), noOwn1 fun d e => (by cases e), dOk_map _ _, rfl, _, tab_look (look_mk ht), ?_⟩
        refine lcL_eq PyData.str (msk tab t) rfl (fun c => !(ks o).contains c) (fun c => ssT (o ++ [(c, t)])) (fun c hc R1 R3 h1 h2 => ⟨(by decide : 6 < 7), qs, hq1, hq2, ?_⟩) (by omega) ?_
        · rw [hq3]
          refine ⟨dOk_map _ _, rfl, ?_⟩
          show if (!(lookD (mapD PyData.str o) (PyData.str c)).isSome) = true then _ else _
          rw [ss_some]
          by_cases hco : c ∈ ks o
          · obtain ⟨v, ev⟩ := look_key hco
            refine ifF (by rw [show sg o c = some v from ev]; simp) (h2 (cont_t hco))
          · refine ifT (by rw [show sg o c = none from look_none hco]; rfl) ⟨(by decide : 2 ≤ sizeLine), (by decide : 1 ≤ sizeLine), ?_, ?_⟩
            · show (o.map pT).length + 1 ≤ _
              rw [List.length_map]
              omega
            · have h1' := h1 (cont_f hco)
              have eo : ssT (o ++ [(c, t)]) = .tuple (o.map pT ++ [.tuple [.str c, .str t]]) := by
                unfold ssT
                rw [List.map_append]; rfl
              rw [eo] at h1'
              exact h1'
        · have ew : ((msk tab t).filter fun c => !(ks o).contains c).map (fun c => ssT (o ++ [(c, t)])) = (wstep tab t o).map ssT := by
            unfold wstep
            rw [List.map_map]; rfl
          rw [ew]
          refine ⟨?_, hR2 _ _ ⟨rfl, done2 ++ [o], .dat (ssT o), by rw [e2]; simp, fun d e => (by cases e), ?_⟩⟩
          · have h1 := flatMap_len (wstep tab t) 4 done2 fun o _ => wstep_len T t o
            have h2 := wstep_len T t o
            rw [List.length_map, List.length_map]
            omega
          · rw [List.flatMap_append, List.map_append]
            simp
  cases b <;> exact key
/-! ### _law_best -/
def g__law_best : GF := fun ds n Q => ∃ tags kinds row U, ds = [webT tags kinds, ssT row] ∧ (ks kinds).Nodup ∧ (∀ r ∈ row, r.2 ∈ ks kinds) ∧ TabOk (mayR kinds row) U ∧ Q (.tuple (sL (sortS (greedyM (mayR kinds row) (ks row))))) n
theorem greedy_sub (tab : Tab) : ∀ (names G : List Str), ∀ x ∈ names.foldl (gstep tab) G, x ∈ G ∨ x ∈ names
  | [], G, x, hy => Or.inl hy
  | t :: names, G, x, hy => by
    rcases greedy_sub tab names _ x hy with hy | hy
    · unfold gstep at hy
      split at hy
      · exact Or.inl hy
      · rcases List.mem_append.mp hy with hy | hy
        · exact Or.inl hy
        · obtain rfl := List.mem_singleton.mp hy
          exact Or.inr List.mem_cons_self
    · exact Or.inr (List.mem_cons_of_mem _ hy)
theorem greedy_len (tab : Tab) : ∀ (names G : List Str), (names.foldl (gstep tab) G).length ≤ G.length + names.length
  | [], G => Nat.le_refl _
  | t :: names, G => by
    have := greedy_len tab names (gstep tab G t)
    have h2 : (gstep tab G t).length ≤ G.length + 1 := by
      unfold gstep
      split
      · omega
      · rw [(List.length_append)]; simp
    rw [(List.foldl_cons), List.length_cons]
    omega
theorem law__law_best (ds : List PyData) (n : Nat) (Q : GK) (h : g__law_best ds n Q) : gb__law_best g__law_may g__law_ways (RT Q) (startE nm__law_best ds) n := by
  obtain ⟨tags, kinds, row, U, rfl, hk, hr, T, q⟩ := h
  have hM := sizeM
  have hln : row.length ≤ 8 := by have := T.len; unfold mayR at this; rwa [List.length_map] at this
  have hnr : (ks row).Nodup := by rw [← ks_mayR kinds row]; exact T.nd
  unfold gb__law_best gSeq
  refine par_step [tabD (mayR kinds row), .list []] [.dat (webT tags kinds), .dat (ssT row), .dat (tabD (mayR kinds row)), .own (.list (sL [])), .no, .no] (parB 6 rfl (by decide)) (fun R h => ⟨tags, kinds, row, rfl, hk, hnr, hln, hr, (by decide : 0 ≤ sizeLine), h⟩) rfl ?_
  refine forL_eq pT row rfl (fun rest env n' => n = n' ∧ ∃ G x y, env = [.dat (webT tags kinds), .dat (ssT row), .dat (tabD (mayR kinds row)), .own (.list (sL G)), x, y] ∧ (∀ r ∈ rest, r.1 ∈ ks row) ∧ (∀ x ∈ G, x ∈ ks row) ∧ G.length + rest.length ≤ 8 ∧ (rest.map (·.1)).foldl (gstep (mayR kinds row)) G = greedyM (mayR kinds row) (ks row)) ⟨rfl, [], .no, .no, rfl, fun r hr => List.mem_map.mpr ⟨r, hr, rfl⟩, fun x h => (by cases h), by simpa using hln, rfl⟩ ?_ ?_
  · rintro env n1 ⟨rfl, G, x, y, rfl, _, hG, _, e⟩
    have e : G = greedyM (mayR kinds row) (ks row) := e
    refine ⟨sortOk_s fun x hxz => T.tnm (by rw [ks_mayR]; exact hG x hxz), ?_⟩
    show Q (.tuple ((sL G).mergeSort dle)) n
    rw [sort_sL, e]
    exact q
  · rintro r rest env n1 R ⟨rfl, G, x, y, rfl, hrest, hG, hl, e⟩ hR
    have hr1 := hrest r List.mem_cons_self
    rw [List.length_cons] at hl
    have hsub : ∀ x ∈ G ++ [r.1], x ∈ ks (mayR kinds row) := fun x hxz => by
      rw [ks_mayR]
      rcases List.mem_append.mp hxz with hxz | hxz
      · exact hG x hxz
      · obtain rfl := List.mem_singleton.mp hxz; exact hr1
    have hNm : ∀ w ∈ waysL (mayR kinds row) (G ++ [r.1]), NmP w := fun w hw => (waysF_seat _ _ seat_nil w hw).nmp T
    refine ⟨(by decide : 4 < 6), (by decide : 5 < 6), (by decide : 1 ≤ sizeLine), ?_, mayR kinds row, U, true, G ++ [r.1], ?_, T, hsub, by rw [List.length_append]; simp; omega, (by decide : 0 ≤ sizeLine), ?_, rfl, ?_⟩
    · show (sL G).length + 1 ≤ _
      rw [sL_len]
      omega
    · show [tabD (mayR kinds row), .list (sL G ++ [PyData.str r.1])] = _
      rw [sL_app]; rfl
    · refine (Sh.list (k := 2) fun d hd => ?_).shp (by decide)
      obtain ⟨w, hw, rfl⟩ := List.mem_map.mp hd
      refine Sh.tuple (k := 1) (pT_sh ?_)
      have h0 := hNm w hw
      exact ⟨fun p hp => h0.k p ((sortP_perm w).mem_iff.mp hp), fun p hp => h0.v p ((sortP_perm w).mem_iff.mp hp)⟩
    · have eg : (rest.map (·.1)).foldl (gstep (mayR kinds row)) (gstep (mayR kinds row) G r.1) = greedyM (mayR kinds row) (ks row) := e
      by_cases hw : waysL (mayR kinds row) (G ++ [r.1]) = []
      · refine ifF (ne_nil_f (by rw [hw]; rfl)) ?_
        have : gstep (mayR kinds row) G r.1 = G := by unfold gstep; rw [hw]; rfl
        rw [this] at eg
        exact hR _ _ ⟨rfl, G, _, _, rfl, fun z hz => hrest z (List.mem_cons_of_mem _ hz), hG, by omega, eg⟩
      · refine ifT (ne_nil_t (by simpa using hw)) ⟨by rw [sL_len]; omega, ?_⟩
        have : gstep (mayR kinds row) G r.1 = G ++ [r.1] := by unfold gstep; rw [if_neg (by simpa using hw)]
        rw [this] at eg
        rw [sL_app]
        exact hR _ _ ⟨rfl, G ++ [r.1], _, _, rfl, fun z hz => hrest z (List.mem_cons_of_mem _ hz), fun x hxz => by have := hsub x hxz; rwa [ks_mayR] at this, by rw [List.length_append]; simp; omega, eg⟩
end M
end

section
namespace M
open PySem PySem.Spec PySem.Calls PyProof.Rows L2 L2.DL Mq

/-! ### _law_lists, _law_half -/
mutual
def listD : PyData → PyData
  | .list ds => .list (listA ds)
  | .tuple ds => .list (listA ds)
  | d => d
def listA : List PyData → List PyData
  | [] => []
  | d :: ds => listD d :: listA ds
end
theorem listA_map : ∀ ds : List PyData, listA ds = ds.map listD
  | [] => by simp [listA]
  | d :: ds => by rw [listA, listA_map ds]; rfl
def g__law_lists (k : Nat) : GF := fun ds n Q => ∃ d, ds = [d] ∧ okT k d ∧ Q (listD d) n
theorem isT_list (ds : List PyData) : isT "list" (.list ds) = true := by show isN "list" "list" = true; decide +kernel
theorem law__law_lists {k : Nat} {g : GF} (hg : ∀ k', k = k' + 1 → g = g__law_lists k') (ds : List PyData) (n : Nat) (Q : GK) (h : g__law_lists k ds n Q) : gb__law_lists g (RT Q) (startE nm__law_lists ds) n := by
  obtain ⟨d, rfl, ok, q⟩ := h
  have seq : ∀ (es : List PyData) (k' : Nat), k = k' + 1 → es.length ≤ 1000 → (∀ x ∈ es, okT k' x) → Q (.list (listA es)) n → ∀ b, d = seqD b es → gb__law_lists g (RT Q) (startE nm__law_lists [d]) n := by
    intro es k' ek hz hok qq b ed
    subst ed
    have q' : Q (.list (listA es)) n := qq
    have key : gLcL (ggName 1) gYes (gFun g (gCons (gVar 1) gNil)) (wipeE (startE nm__law_lists [seqD b es]) [1]) (fun acc n'' => Q (.list acc) n'') es [] n := by
      refine lcM_eq id es (List.map_id es).symm listD (fun x hx R h1 => ?_) (Nat.le_trans hz (by decide)) ?_
      · refine ⟨(by decide : (1 : Nat) < 2), ?_⟩
        show g [x] n R
        rw [hg k' ek]
        exact ⟨x, rfl, hok x hx, h1⟩
      · rw [← listA_map]; exact q'
    have no : noOwn (startE nm__law_lists [seqD b es]) [1] := noOwn1 fun d e => (by cases e)
    cases b
    · exact if_isi2 (T := "list") (U := "tuple") (i := 0) (a := gLc [1] (gSeqI (gVar 0)) (ggName 1) gYes (gFun g (gCons (gVar 1) gNil))) (b := gVar 0) (env := startE nm__law_lists [.tuple es]) (n := n) (Q := Q) (d := .tuple es) rfl rfl true (by rw [isT_tup, Bool.or_true]) ⟨no, key⟩
    · exact if_isi2 (T := "list") (U := "tuple") (i := 0) (a := gLc [1] (gSeqI (gVar 0)) (ggName 1) gYes (gFun g (gCons (gVar 1) gNil))) (b := gVar 0) (env := startE nm__law_lists [.list es]) (n := n) (Q := Q) (d := .list es) rfl rfl true (by rw [isT_list, Bool.true_or]) ⟨no, key⟩
  have at' : ∀ d : PyData, isD d = false → (isT "list" d || isT "tuple" d) = false → Q d n → gb__law_lists g (RT Q) (startE nm__law_lists [d]) n := by
    intro d h1 h2 q
    exact if_isi2 (T := "list") (U := "tuple") (i := 0) (a := gLc [1] (gSeqI (gVar 0)) (ggName 1) gYes (gFun g (gCons (gVar 1) gNil))) (b := gVar 0) (env := startE nm__law_lists [d]) (n := n) (Q := Q) (d := d) rfl h1 false h2 q
  cases d with
  | list es =>
    cases k with
    | zero => exact ok.elim
    | succ k => exact seq es k rfl ok.1 ok.2 (by rw [listD] at q; exact q) true rfl
  | tuple es =>
    cases k with
    | zero => exact ok.elim
    | succ k => exact seq es k rfl ok.1 ok.2 (by rw [listD] at q; exact q) false rfl
  | dict _ => cases k <;> exact ok.elim
  | none => exact at' .none rfl (by show (isN "list" "NoneType" || isN "tuple" "NoneType") = false; decide +kernel) (by simpa only [listD] using q)
  | bool b => exact at' (.bool b) rfl (by show (isN "list" "bool" || isN "tuple" "bool") = false; decide +kernel) (by simpa only [listD] using q)
  | int i => exact at' (.int i) rfl (by show (isN "list" "int" || isN "tuple" "int") = false; decide +kernel) (by simpa only [listD] using q)
  | str x => exact at' (.str x) rfl (by show (isN "list" "str" || isN "tuple" "str") = false; decide +kernel) (by simpa only [listD] using q)
def g__law_half (k : Nat) : GF := fun ds n Q => ∃ es, ds = [.tuple es] ∧ es.length ≤ 1000 ∧ (∀ x ∈ es, okT k x) ∧ Q (.tuple (es.map listD)) n
theorem law__law_half {k : Nat} (ds : List PyData) (n : Nat) (Q : GK) (h : g__law_half k ds n Q) : gb__law_half (g__law_lists k) (RT Q) (startE nm__law_half ds) n := by
  obtain ⟨es, rfl, hz, hok, q⟩ := h
  refine ⟨noOwn1 fun d e => (by cases e), ?_⟩
  exact lcM_eq id es (List.map_id es).symm listD (fun x hx R h1 => ⟨(by decide : (1 : Nat) < 2), x, rfl, hok x hx, h1⟩) (Nat.le_trans hz (by decide)) q
/-! ### _law_same, of equal data -/
def okS : Nat → PyData → Prop
  | _, .none => True
  | _, .bool _ => True
  | _, .int _ => True
  | _, .str x => PyData.strOk x = true
  | 0, _ => False
  | k + 1, .list ds => ds.length ≤ 1000 ∧ ∀ x ∈ ds, okS k x
  | k + 1, .tuple ds => ds.length ≤ 1000 ∧ ∀ x ∈ ds, okS k x
  | _ + 1, .dict _ => False
def g__law_same (k : Nat) : GF := fun ds n Q => ∃ d, ds = [d, d] ∧ okS k d ∧ Q (.bool true) n
theorem ne_bool (a : Bool) : ¬ ((!PyData.eqv (.bool a) (.bool a)) = true) := by simp [PyData.eqv]
theorem zip_self : ∀ es : List PyData, zipD es es = es.map fun x => .tuple [x, x]
  | [] => rfl
  | x :: es => by
    show PyData.tuple [x, x] :: zipD es es = _
    rw [zip_self es]; rfl
theorem law__law_same {k : Nat} {g : GF} (hg : ∀ k', k = k' + 1 → g = g__law_same k') (ds : List PyData) (n : Nat) (Q : GK) (h : g__law_same k ds n Q) : gb__law_same g (RT Q) (startE nm__law_same ds) n := by
  obtain ⟨d, rfl, ok, q⟩ := h
  have seq : ∀ (es : List PyData) (k' : Nat), k = k' + 1 → es.length ≤ 1000 → (∀ x ∈ es, okS k' x) → ∀ b, d = seqD b es → gb__law_same g (RT Q) (startE nm__law_same [d, d]) n := by
    intro es k' ek hz hok b ed
    subst ed
    have hd : isD (seqD b es) = false := by cases b <;> rfl
    have hlt : (isT "list" (seqD b es) || isT "tuple" (seqD b es)) = true := by
      cases b
      · show (isT "list" (.tuple es) || isT "tuple" (.tuple es)) = true; rw [isT_tup, Bool.or_true]
      · show (isT "list" (.list es) || isT "tuple" (.list es)) = true; rw [isT_list, Bool.true_or]
    have key : gLcL (ggPair 3 4) gYes (gFun g (gCons (gVar 3) (gCons (gVar 4) gNil))) (wipeE (startE nm__law_same [seqD b es, seqD b es]) [3, 4]) (fun acc n'' => oAll [.list acc] fun d => Q d n'') (zipD es es) [] n := by
      refine lcM_eq (fun x => PyData.tuple [x, x]) es (zip_self es) (fun _ => .bool true) (fun x hx R h1 => ⟨(by decide : 3 < 5), (by decide : 4 < 5), ?_⟩) (Nat.le_trans hz (by decide)) ⟨_, mapT es, by rw [allT]; exact q⟩
      show g [x, x] n R
      rw [hg k' ek]
      exact ⟨x, rfl, hok x hx, h1⟩
    have no : noOwn (startE nm__law_same [seqD b es, seqD b es]) [3, 4] := fun i hi d e => (by simp at hi; rcases hi with rfl | rfl <;> cases e)
    refine ⟨hd, ?_⟩
    show if (isT "list" (seqD b es) || isT "tuple" (seqD b es)) = true then _ else _
    refine ifT hlt ⟨hd, hd, rfl, rfl, ?_⟩
    show if (!PyData.eqv (.bool (isT "list" (seqD b es))) (.bool (isT "list" (seqD b es)))) = true then _ else _
    refine ifF (ne_bool _) ⟨hd, hd, rfl, rfl, ?_⟩
    show if (!PyData.eqv (.bool (isT "tuple" (seqD b es))) (.bool (isT "tuple" (seqD b es)))) = true then _ else _
    refine ifF (ne_bool _) ?_
    have hint : PyData.eqv (.int (es.length : Nat)) (.int (es.length : Nat)) = true := by simp [PyData.eqv]
    cases b
    · refine ⟨rfl, rfl, ?_⟩
      show if PyData.eqv (.int (es.length : Nat)) (.int (es.length : Nat)) = true then _ else _
      exact ifT hint ⟨no, key⟩
    · refine ⟨rfl, rfl, ?_⟩
      show if PyData.eqv (.int (es.length : Nat)) (.int (es.length : Nat)) = true then _ else _
      exact ifT hint ⟨no, key⟩
  have at' : ∀ d : PyData, isD d = false → (isT "list" d || isT "tuple" d) = false → shp d → PyData.eqv d d = true → (isNone d = true ∨ (isT "bool" d || isT "str" d) = true ∨ (isT "int" d = true ∧ isT "bool" d = false)) → gb__law_same g (RT Q) (startE nm__law_same [d, d]) n := by
    intro d h1 h2 hs he h3
    have atom : gSeq (gSet 2 ((gAndV (gBin oEq (gIsi "bool" (gVarB 0)) (gIsi "bool" (gVarB 1))) (gBin oEq (gBin oIs (gVarB 0) (gC .none)) (gBin oIs (gVarB 1) (gC .none)))))) (gRet ((gAndV (gVar 2) (gBin oEq (gVarB 0) (gVarB 1))))) (RT Q) (startE nm__law_same [d, d]) n := by
      refine ⟨(by decide : 2 < 5), h1, h1, rfl, rfl, ?_⟩
      show if PyData.eqv (.bool (isT "bool" d)) (.bool (isT "bool" d)) = true then _ else _
      refine ifT (by simp [PyData.eqv]) ⟨rfl, rfl, ?_⟩
      show if PyData.eqv (.bool (isNone d)) (.bool (isNone d)) = true then _ else _
      refine ifT (by simp [PyData.eqv]) ⟨hs, hs, ?_⟩
      show Q (.bool (PyData.eqv d d)) n
      rw [he]
      exact q
    refine ⟨h1, ?_⟩
    show if (isT "list" d || isT "tuple" d) = true then _ else _
    refine ifF (by rw [h2]; exact Bool.false_ne_true) ?_
    show if isNone d = true then _ else _
    by_cases hn : isNone d = true
    · exact ifT hn atom
    · refine ifF hn ⟨h1, ?_⟩
      show if (isT "bool" d || isT "str" d) = true then _ else _
      by_cases hb : (isT "bool" d || isT "str" d) = true
      · exact ifT hb atom
      · refine ifF hb ⟨h1, ?_⟩
        obtain ⟨h4, h5⟩ := (h3.resolve_left hn).resolve_left hb
        show if isT "int" d = true then _ else _
        refine ifT h4 ⟨h1, ?_⟩
        show if (!isT "bool" d) = true then _ else _
        refine ifT (by rw [h5]; rfl) ⟨hs, hs, ?_⟩
        show Q (.bool (PyData.eqv d d)) n
        rw [he]
        exact q
  cases d with
  | list es =>
    cases k with
    | zero => exact ok.elim
    | succ k => exact seq es k rfl ok.1 ok.2 true rfl
  | tuple es =>
    cases k with
    | zero => exact ok.elim
    | succ k => exact seq es k rfl ok.1 ok.2 false rfl
  | dict _ => cases k <;> exact ok.elim
  | none => exact at' .none rfl (by show (isN "list" "NoneType" || isN "tuple" "NoneType") = false; decide +kernel) (Sh.none.shp (Nat.zero_le _)) (by simp [PyData.eqv]) (Or.inl rfl)
  | bool b => exact at' (.bool b) rfl (by show (isN "list" "bool" || isN "tuple" "bool") = false; decide +kernel) (Sh.bool.shp (Nat.zero_le _)) (by simp [PyData.eqv]) (Or.inr (Or.inl (by show (isN "bool" "bool" || isN "str" "bool") = true; decide +kernel)))
  | int i => exact at' (.int i) rfl (by show (isN "list" "int" || isN "tuple" "int") = false; decide +kernel) (Sh.int.shp (Nat.zero_le _)) (by simp [PyData.eqv]) (Or.inr (Or.inr ⟨by show isN "int" "int" = true; decide +kernel, by show isN "bool" "int" = false; decide +kernel⟩))
  | str x =>
    have hx : PyData.strOk x = true := by cases k <;> exact ok
    exact at' (.str x) rfl (by show (isN "list" "str" || isN "tuple" "str") = false; decide +kernel) (Sh.shp (k := 0) ⟨by rw [PyData.canLay0]; exact hx, by simp [PyData.depth]⟩ (Nat.zero_le _)) (by simp [PyData.eqv]) (Or.inr (Or.inl (by show (isN "bool" "str" || isN "str" "str") = true; decide +kernel)))
end M
end

section
namespace M
open PySem PySem.Spec PySem.Calls PyProof.Rows L2 L2.DL Mq

/-! ### a case of the law's own, as the program takes it -/
structure WebOk (kinds : Tab) (row : Ss) (U : List Str) : Prop where
  kn : (ks kinds).Nodup
  kl : kinds.length ≤ 8
  kin : ∀ r ∈ row, r.2 ∈ ks kinds
  cl : ∀ p ∈ kinds, p.2.length ≤ 8
  T : TabOk (mayR kinds row) U
theorem okT_str {k : Nat} {x : Str} : okT k (.str x) := by cases k <;> exact trivial
theorem okT_sL {k : Nat} {xs : List Str} : ∀ x ∈ sL xs, okT k x := fun x hx => by
  obtain ⟨y, _, rfl⟩ := List.mem_map.mp hx
  exact okT_str
theorem tup_sL (xs : List Str) : tupA (sL xs) = sL xs := by
  rw [tupA_map, List.map_map]
  refine List.map_congr_left fun xz _ => ?_
  show tupD (.str xz) = _
  simp only [tupD]
theorem list_sL (xs : List Str) : listA (sL xs) = sL xs := by
  rw [listA_map, List.map_map]
  refine List.map_congr_left fun xz _ => ?_
  show listD (.str xz) = _
  simp only [listD]
def kT (b : Bool) (p : Str × List Str) : PyData := seqD b [.str p.1, seqD b (sL p.2)]
def kindsB (b : Bool) (kinds : Tab) : PyData := seqD b (kinds.map (kT b))
theorem tupD_seq (b : Bool) (ds : List PyData) : tupD (seqD b ds) = .tuple (ds.map tupD) := by
  cases b
  · show tupD (.tuple ds) = _
    rw [tupD, tupA_map]
  · show tupD (.list ds) = _
    rw [tupD, tupA_map]
theorem listD_seq (b : Bool) (ds : List PyData) : listD (seqD b ds) = .list (ds.map listD) := by
  cases b
  · show listD (.tuple ds) = _
    rw [listD, listA_map]
  · show listD (.list ds) = _
    rw [listD, listA_map]
theorem tupD_str (x : Str) : tupD (.str x) = .str x := by simp only [tupD]
theorem listD_str (x : Str) : listD (.str x) = .str x := by simp only [listD]
theorem tupD_sL (xs : List Str) : (sL xs).map tupD = sL xs := by rw [← tupA_map, tup_sL]
theorem listD_sL (xs : List Str) : (sL xs).map listD = sL xs := by rw [← listA_map, list_sL]
theorem okT_seq {k : Nat} {b : Bool} {ds : List PyData} (hz : ds.length ≤ 1000) (h : ∀ x ∈ ds, okT k x) : okT (k + 1) (seqD b ds) := by cases b <;> exact ⟨hz, h⟩
theorem okT_two {k : Nat} {b : Bool} {x y : PyData} (hx : okT k x) (hy : okT k y) : okT (k + 1) (seqD b [x, y]) := okT_seq (by decide : 2 ≤ 1000) fun z hzz => by
  rcases List.mem_cons.mp hzz with rfl | hzz
  · exact hx
  · obtain rfl := List.mem_singleton.mp hzz; exact hy
theorem okT_kinds {b : Bool} {kinds : Tab} (hl : kinds.length ≤ 8) (hc : ∀ p ∈ kinds, p.2.length ≤ 8) : okT 9 (kindsB b kinds) := by
  refine okT_seq (k := 8) (by rw [List.length_map]; omega) fun x hx => ?_
  obtain ⟨p, hp, rfl⟩ := List.mem_map.mp hx
  exact okT_two (k := 7) okT_str (okT_seq (k := 6) (by rw [sL_len]; have := hc p hp; omega) okT_sL)
theorem tupD_kinds (b : Bool) (kinds : Tab) : tupD (kindsB b kinds) = kindsT kinds := by
  unfold kindsB kindsT
  rw [tupD_seq, List.map_map]
  congr 1
  refine List.map_congr_left fun pz _ => ?_
  show tupD (kT b pz) = _
  unfold kT
  rw [tupD_seq]
  show PyData.tuple [tupD _, tupD _] = _
  rw [tupD_str, tupD_seq, tupD_sL]
  rfl
theorem bookOk (b b2 : Bool) (x : PyData) {kinds : Tab} (hn : (ks kinds).Nodup) (hl : kinds.length ≤ 8) (hc : ∀ p ∈ kinds, p.2.length ≤ 8) : BookOk (seqD b [x, kindsB b2 kinds]) kinds := ⟨⟨b, x, _, rfl, okT_kinds hl hc, tupD_kinds b2 kinds⟩, hn⟩
theorem mayL_eq (f : Str × Str → Bool) (kinds : Tab) (row : Ss) : mayL kinds (row.map fun r => (f r, r.1, r.2)) = mayR kinds row := by
  unfold mayL mayR
  rw [List.map_map]; rfl
theorem br_of {kinds : Tab} {row : Ss} {U : List Str} (W : WebOk kinds row U) (f : Str × Str → Bool) (b b2 b3 : Bool) (x : PyData) : BR (seqD b [x, kindsB b2 kinds]) (readyD b3 (row.map fun r => (f r, r.1, r.2))) (mayR kinds row) := by
  have hl := W.T.len
  unfold mayR at hl
  rw [List.length_map] at hl
  refine ⟨kinds, b3, _, bookOk b b2 x W.kn W.kl W.cl, rfl, by rw [List.length_map]; exact hl, fun r hr => ?_, ?_, (mayL_eq f kinds row).symm⟩
  · obtain ⟨p, hp, rfl⟩ := List.mem_map.mp hr
    exact W.kin p hp
  · rw [List.map_map]
    have := W.T.nd
    rw [ks_mayR] at this
    exact this
def ssB (b : Bool) (f : Str × Str → Bool) (ss : Ss) : PyData := seqD b (ss.map fun p => seqD (f p) [.str p.1, .str p.2])
theorem sr_of (b : Bool) (f : Str × Str → Bool) {ss : Ss} (hn : (ks ss).Nodup) (hl : ss.length ≤ 8) : SR (ssB b f ss) ss := by
  refine ⟨okT_seq (k := 8) (by rw [List.length_map]; omega) fun x hx => ?_, ?_, hn⟩
  · obtain ⟨pz, hp, rfl⟩ := List.mem_map.mp hx
    exact okT_two (k := 7) okT_str okT_str
  · unfold ssB ssT
    rw [tupD_seq, List.map_map]
    congr 1
    refine List.map_congr_left fun pz _ => ?_
    show tupD (seqD (f pz) _) = _
    rw [tupD_seq]
    show PyData.tuple [tupD _, tupD _] = _
    rw [tupD_str, tupD_str]
theorem ssB_ready (b : Bool) (f : Str × Str → Bool) (row : Ss) : readyD b (row.map fun r => (f r, r.1, r.2)) = ssB b f row := by
  unfold readyD ssB
  rw [List.map_map]; rfl
theorem ssT_B (ss : Ss) : ssT ss = ssB false (fun _ => false) ss := rfl
theorem webT_B (tags : List Str) (kinds : Tab) : webT tags kinds = seqD false [.tuple (sL tags), kindsB false kinds] := rfl
theorem listD_ss (b : Bool) (f : Str × Str → Bool) (ss : Ss) : listD (ssB b f ss) = ssB true (fun _ => true) ss := by
  unfold ssB
  rw [listD_seq, List.map_map]
  show PyData.list _ = PyData.list _
  congr 1
  refine List.map_congr_left fun pz _ => ?_
  show listD (seqD (f pz) _) = _
  rw [listD_seq]
  show PyData.list [listD _, listD _] = _
  rw [listD_str, listD_str]
  rfl
theorem listD_kinds (kinds : Tab) : listD (kindsB false kinds) = kindsB true kinds := by
  unfold kindsB
  rw [listD_seq, List.map_map]
  show PyData.list _ = PyData.list _
  congr 1
  refine List.map_congr_left fun pz _ => ?_
  show listD (kT false pz) = _
  unfold kT
  rw [listD_seq]
  show PyData.list [listD _, listD _] = _
  rw [listD_str, listD_seq, listD_sL]
  rfl
theorem listD_web (tags : List Str) (kinds : Tab) : listD (webT tags kinds) = seqD true [.list (sL tags), kindsB true kinds] := by
  rw [webT_B, listD_seq]
  show PyData.list [listD _, listD _] = _
  rw [listD_kinds]
  show PyData.list [listD (.tuple (sL tags)), _] = _
  rw [show PyData.tuple (sL tags) = seqD false (sL tags) from rfl, listD_seq, listD_sL]
  rfl
theorem ss_len {tab : Tab} {U : List Str} {ss : Ss} (T : TabOk tab U) (S : SsOk tab ss) : ss.length ≤ 4 := by
  have := nodup_le (l₁ := ks ss) (l₂ := U) S.nk fun x hx => by
    obtain ⟨p, hp, rfl⟩ := List.mem_map.mp hx
    exact T.mU _ _ (S.ok p hp)
  have h2 := T.lU
  unfold ks at this
  rw [List.length_map] at this
  omega
theorem case_t {tags : List Str} {kinds : Tab} {row ss : Ss} {U : List Str} (W : WebOk kinds row U) (S : SsOk (mayR kinds row) ss) : CaseOk (webT tags kinds) (ssT row) (ssT ss) (mayR kinds row) U ss := by
  have hl := ss_len W.T S
  refine ⟨?_, sr_of false (fun _ => false) S.nk (by omega), W.T, S⟩
  have := br_of W (fun _ => false) false false false (.tuple (sL tags))
  rw [ssB_ready] at this
  exact this
theorem case_l {tags : List Str} {kinds : Tab} {row ss : Ss} {U : List Str} (W : WebOk kinds row U) (S : SsOk (mayR kinds row) ss) : CaseOk (listD (webT tags kinds)) (listD (ssT row)) (listD (ssT ss)) (mayR kinds row) U ss := by
  have hl := ss_len W.T S
  rw [ssT_B, ssT_B, listD_ss, listD_ss, listD_web]
  refine ⟨?_, sr_of true (fun _ => true) S.nk (by omega), W.T, S⟩
  have := br_of W (fun _ => true) true true true (.list (sL tags))
  rw [ssB_ready] at this
  exact this
/-! ### what the best way is -/
theorem sh_end {tab : Tab} {U : List Str} {ss : Ss} {t c : Str} {cs : List Str} (T : TabOk tab U) (w : Way (msk tab) (sg ss) t (c :: cs)) (hw : t ∉ ss.map (·.2)) (hr : reB tab ss t c = true) : ShOk tab ss t (c :: cs) := by
  refine ⟨w, hw, fun c' cs' e => ?_⟩
  injection e with e1 e2
  subst e1
  rw [endB_iff]
  exact fun u eu => (((reB_iff T).mp hr).2 u eu).1
theorem best_none {tab : Tab} {U : List Str} {ss : Ss} {t : Str} (T : TabOk tab U) (h : bestW tab ss t = none) : ∀ w, ¬ ShOk tab ss t w := by
  intro w hw
  unfold bestW at h
  rw [if_neg hw.wait] at h
  have F := T.fine (reB tab ss t) ss t
  rw [h] at F
  cases w with
  | nil => cases hw.way
  | cons c cs =>
    obtain ⟨c', cs', w', hr⟩ := right_of T.mU hw.way (endB_iff.mp (hw.fin c cs rfl))
    have := F c' cs' w'
    rw [(reB_iff T).mpr hr] at this
    cases this
theorem best_some {tab : Tab} {U : List Str} {ss : Ss} {t : Str} {w : List Str} (T : TabOk tab U) (h : bestW tab ss t = some w) : ∃ c cs, w = c :: cs ∧ ShOk tab ss t w ∧ reB tab ss t c = true ∧ ∀ c' cs', ShOk tab ss t (c' :: cs') → reB tab ss t c' = true → w.length ≤ (c' :: cs').length := by
  unfold bestW at h
  split at h
  · cases h
  · rename_i hw
    have F := T.fine (reB tab ss t) ss t
    rw [h] at F
    obtain ⟨c, cs, rfl, w', hg, hmin⟩ := F
    exact ⟨c, cs, rfl, sh_end T w' hw hg, hg, fun c' cs' h1 h2 => hmin c' cs' h1.way h2⟩
theorem ends_re {tab : Tab} {U : List Str} {ss : Ss} {t c : Str} {cs : List Str} (T : TabOk tab U) (h : ShOk tab ss t (c :: cs)) : Ends tab ss t c ↔ reB tab ss t c = true := by
  rw [reB_iff T]
  unfold Ends Re
  refine and_congr_right fun _ => ?_
  constructor
  · exact fun h2 u eu => ⟨endB_iff.mp (h.fin c cs rfl) u eu, h2 u eu⟩
  · exact fun h2 u eu => (h2 u eu).2
end M
end

section
namespace M
open PySem PySem.Spec PySem.Calls PyProof.Rows L2 L2.DL Mq

theorem okT_web {tags : List Str} {kinds : Tab} (hl : kinds.length ≤ 8) (hc : ∀ p ∈ kinds, p.2.length ≤ 8) (ht : tags.length ≤ 8) : okT 9 (webT tags kinds) := by
  have h1 : okT 8 (kindsB false kinds) := by
    refine okT_seq (k := 7) (by rw [List.length_map]; omega) fun x hx => ?_
    obtain ⟨p, hp, rfl⟩ := List.mem_map.mp hx
    exact okT_two (k := 6) okT_str (okT_seq (k := 5) (by rw [sL_len]; have := hc p hp; omega) okT_sL)
  have h2 : okT 8 (seqD false (sL tags)) := okT_seq (k := 7) (by rw [sL_len]; omega) okT_sL
  exact okT_two (k := 8) (b := false) h2 h1
theorem okT_ss {ss : Ss} (hl : ss.length ≤ 8) : okT 9 (ssT ss) := okT_seq (k := 8) (b := false) (by rw [List.length_map]; omega) fun x hx => by
  obtain ⟨p, hp, rfl⟩ := List.mem_map.mp hx
  exact okT_two (k := 7) (b := false) okT_str okT_str
def fineB (eo : List Str) : List Str → Bool
  | [] => false
  | c :: _ => decide (c ∈ eo)
def g__law_case_right : GF := fun ds n Q => ∃ tags kinds row ss U, ds = [webT tags kinds, ssT row, ssT ss] ∧ WebOk kinds row U ∧ tags.length ≤ 8 ∧ SsOk (mayR kinds row) ss ∧ Q (.bool true) n
theorem wayD_sh {tab : Tab} {U : List Str} {ss : Ss} {t : Str} {w : List Str} (T : TabOk tab U) (S : SsOk tab ss) (h : ShOk tab ss t w) : Sh 1 (wayD ss t w) := Sh.tuple (sh_sL (flat_nm T S h.way))
theorem law__law_case_right (ds : List PyData) (n : Nat) (Q : GK) (h : g__law_case_right ds n Q) : gb__law_case_right g__law_may g__law_ends g__law_shifts g_a_right_shift (g__law_same 9) g_right_moves g_is_right (g__law_lists 9) (RT Q) (startE nm__law_case_right ds) n := by
  obtain ⟨tags, kinds, row, ss, U, rfl, W, htl, S, q⟩ := h
  have T := W.T
  have hM := sizeM
  have hks : ks (mayR kinds row) = ks row := ks_mayR kinds row
  have hrl : row.length ≤ 8 := by have := T.len; unfold mayR at this; rwa [List.length_map] at this
  have hsl : ss.length ≤ 8 := by have := ss_len T S; omega
  have C := case_t (tags := tags) W S
  have CL := case_l (tags := tags) W S
  refine ⟨(by decide : 3 < 12), tags, kinds, row, rfl, W.kn, by rw [← hks]; exact T.nd, hrl, W.kin, ?_⟩
  refine forL_eq pT row rfl (fun rest env n' => n = n' ∧ (∀ r ∈ rest, r.1 ∈ ks (mayR kinds row)) ∧ ∃ x4 x5 x6 x7 x8 x9 x10, env = [.dat (webT tags kinds), .dat (ssT row), .dat (ssT ss), .dat (tabD (mayR kinds row)), x4, x5, x6, x7, x8, x9, x10, .no]) ⟨rfl, fun r hr => by rw [hks]; exact List.mem_map.mpr ⟨r, hr, rfl⟩, .no, .no, .no, .no, .no, .no, .no, rfl⟩ ?_ ?_
  · rintro env n1 ⟨rfl, _, x4, x5, x6, x7, x8, x9, x10, rfl⟩
    exact q
  · rintro ⟨t, kd⟩ rest env n1 R ⟨rfl, hr, x4, x5, x6, x7, x8, x9, x10, rfl⟩ hR
    have ht : t ∈ ks (mayR kinds row) := hr _ List.mem_cons_self
    have hr' : ∀ r ∈ rest, r.1 ∈ ks (mayR kinds row) := fun r h => hr r (List.mem_cons_of_mem _ h)
    refine ⟨(by decide : 4 < 12), (by decide : 5 < 12), parB 12 rfl (by decide), row, mayR kinds row, U, ss, t, rfl, hks.symm, T, S, ht, fun out hout hol => ?_⟩
    refine ⟨row, mayR kinds row, U, ss, t, rfl, hks.symm, T, S, ht, fun eo hen heo => ?_⟩
    refine ⟨(by decide : 8 < 12), noOwn1 fun d e => (by cases e), ?_⟩
    refine lcL_eq (wayD ss t) out rfl (fineB eo) (wayD ss t) (fun w hw R1 R2 h1 h2 => ?_) (by omega) ?_
    · have hsh := (hout w).mp hw
      cases w with
      | nil => cases hsh.way
      | cons c cs =>
        have hcU := (ShOk.wu T hsh.way).sub c List.mem_cons_self
        refine ⟨(by show 11 < 12; decide), _, way_last ss t c cs, shp_s (T.nmU c hcU), shp_l hen, ?_⟩
        show if ((sL eo).any fun z => PyData.eqv z (PyData.str c)) = true then _ else _
        rw [any_s]
        by_cases hce : c ∈ eo
        · exact ifT (decide_eq_true hce) (h1 (decide_eq_true hce))
        · exact ifF (by simpa using hce) (h2 (decide_eq_false hce))
    have hfine : ∀ w, w ∈ out.filter (fineB eo) ↔ ∃ c cs, w = c :: cs ∧ ShOk (mayR kinds row) ss t w ∧ reB (mayR kinds row) ss t c = true := fun w => by
      rw [List.mem_filter, hout]
      constructor
      · rintro ⟨h1, h2⟩
        cases w with
        | nil => cases h1.way
        | cons c cs => exact ⟨c, cs, rfl, h1, (ends_re T h1).mp ((heo c).mp (of_decide_eq_true h2))⟩
      · rintro ⟨c, cs, rfl, h1, h2⟩
        exact ⟨h1, decide_eq_true ((heo c).mpr ((ends_re T h1).mpr h2))⟩
    have shW : ∀ xs : List (List Str), (∀ w ∈ xs, ShOk (mayR kinds row) ss t w) → shp (.list (xs.map (wayD ss t))) := fun xs h => (Sh.list (k := 1) fun d hd => by
      obtain ⟨w, hw, rfl⟩ := List.mem_map.mp hd
      exact wayD_sh T S (h w hw)).shp (by decide)
    have shO := shW out fun w hw => (hout w).mp hw
    have shF := shW (out.filter (fineB eo)) fun w hw => by obtain ⟨_, _, _, h, _⟩ := (hfine w).mp hw; exact h
    have shN : shp (.list []) := (Sh.list (k := 0) fun d hd => (by cases hd)).shp (by decide)
    have l0 : okT 9 (webT tags kinds) := okT_web W.kl W.cl htl
    have l1 : okT 9 (ssT row) := okT_ss hrl
    have l2 : okT 9 (ssT ss) := okT_ss hsl
    refine ⟨(by decide : 9 < 12), (by decide : 0 ≤ sizeLine), shF, shN, ?_⟩
    cases hb : bestW (mayR kinds row) ss t with
    | none =>
      have h0 : out = [] := List.eq_nil_iff_forall_not_mem.mpr fun w hw => best_none T hb w ((hout w).mp hw)
      subst h0
      refine ifF (ne_nil_f rfl) ?_
      refine ⟨(by decide : 10 < 12), _, _, _, mayR kinds row, U, ss, t, rfl, C, ht, ?_⟩
      rw [hb]
      refine ⟨_, _, _, mayR kinds row, U, ss, t, rfl, C, ht, ?_⟩
      rw [hb]
      refine ⟨(by decide : 0 ≤ sizeLine), shF, shN, (by decide : 3 ≤ sizeLine), (by decide : 0 ≤ sizeLine), shO, shN, (by decide : 3 ≤ sizeLine), .list [.none, .bool true, .bool true], ?_, ?_, ?_⟩
      · show [PyData.list [.none, .bool true, .bool (PyData.eqv (.list []) (.list []))], PyData.list [.none, .bool true, .bool (PyData.eqv (.list []) (.list []))]] = _
        rw [eqv_nil]
        rfl
      · refine ⟨(by decide : 3 ≤ 1000), fun x hxz => ?_⟩
        rcases List.mem_cons.mp hxz with rfl | hxz
        · exact trivial
        · rcases List.mem_cons.mp hxz with rfl | hxz
          · exact trivial
          · obtain rfl := List.mem_singleton.mp hxz; exact trivial
      refine ⟨_, rfl, l2, _, rfl, l1, _, rfl, l0, _, _, _, mayR kinds row, U, ss, t, rfl, CL, ht, ?_⟩
      rw [hb]
      refine ⟨Sh.none.shp (Nat.zero_le _), Sh.none.shp (Nat.zero_le _), ?_⟩
      refine ifF (c := (!PyData.eqv .none .none) = true) (by simp [PyData.eqv]) ?_
      exact hR _ _ ⟨rfl, hr', _, _, _, _, _, _, _, rfl⟩
    | some w =>
      obtain ⟨c, cs, ew, hsh, hre, hmin⟩ := best_some T hb
      have hwf : w ∈ out.filter (fineB eo) := (hfine w).mpr ⟨c, cs, ew, hsh, hre⟩
      have hwo : w ∈ out := (hout w).mpr hsh
      have hfe : out.filter (fineB eo) ≠ [] := fun e => by rw [e] at hwf; cases hwf
      have hoe : out ≠ [] := fun e => by rw [e] at hwo; cases hwo
      have hfl : (out.filter (fineB eo)).length ≤ out.length := List.length_filter_le _ _
      refine ifT (ne_nil_t (by simpa using hfe)) ⟨noOwn1 fun d e => (by cases e), ?_⟩
      refine lcM_eq (wayD ss t) (out.filter (fineB eo)) rfl (fun w => .int ((w.length : Int) - 1)) (fun z hz R1 h1 => ?_) (by omega) ?_
      · refine ⟨(by show 11 < 12; decide), ⟨by decide, by decide⟩, trivial, ?_⟩
        show R1 (.int (((sL (flat ss t z)).length : Nat) / 2 - 1)) n
        rw [sL_len, flat_len]
        have : (((2 * z.length : Nat) : Int) / 2 - 1) = (z.length : Int) - 1 := by omega
        rw [this]
        exact h1
      refine ⟨(out.filter (fineB eo)).map fun w => (w.length : Int) - 1, by rw [List.map_map]; rfl, by rw [List.length_map]; exact List.length_pos_iff.mpr hfe, fun m hm hmy => ?_⟩
      have em : m = (w.length : Int) - 1 := by
        have h1 := hmy _ (List.mem_map.mpr ⟨w, hwf, rfl⟩)
        obtain ⟨w', hw', e'⟩ := List.mem_map.mp hm
        obtain ⟨c', cs', rfl, h2, h3⟩ := (hfine w').mp hw'
        have := hmin c' cs' h2 h3
        omega
      subst em
      refine ⟨(by decide : 10 < 12), _, _, _, mayR kinds row, U, ss, t, rfl, C, ht, ?_⟩
      rw [hb]
      refine ⟨_, _, _, mayR kinds row, U, ss, t, rfl, C, ht, ?_⟩
      rw [hb]
      refine ⟨(by decide : 0 ≤ sizeLine), shF, shN, (by decide : 3 ≤ sizeLine), (by decide : 0 ≤ sizeLine), shO, shN, (by decide : 3 ≤ sizeLine), .list [.int ((w.length : Int) - 1), .bool false, .bool false], ?_, ?_, ?_⟩
      · show [PyData.list [.int ((w.length : Int) - 1), .bool false, .bool (PyData.eqv (.list ((out.filter (fineB eo)).map (wayD ss t))) (.list []))], PyData.list [.int ((w.length : Int) - 1), .bool false, .bool (PyData.eqv (.list (out.map (wayD ss t))) (.list []))]] = _
        rw [eqv_nil, eqv_nil]
        have e1 : ((out.filter (fineB eo)).map (wayD ss t)).isEmpty = false := by simpa using hfe
        have e2 : (out.map (wayD ss t)).isEmpty = false := by simpa using hoe
        rw [e1, e2]
      · refine ⟨(by decide : 3 ≤ 1000), fun x hxz => ?_⟩
        rcases List.mem_cons.mp hxz with rfl | hxz
        · exact trivial
        · rcases List.mem_cons.mp hxz with rfl | hxz
          · exact trivial
          · obtain rfl := List.mem_singleton.mp hxz; exact trivial
      have shWw := wayD_sh T S hsh
      refine ⟨shWw.shp (by decide), shF, ?_⟩
      have hany : (((out.filter (fineB eo)).map (wayD ss t)).any fun z => PyData.eqv z (wayD ss t w)) = true := by
        rw [List.any_eq_true]
        exact ⟨_, List.mem_map.mpr ⟨w, hwf, rfl⟩, shWw.eqv⟩
      show if (!(((out.filter (fineB eo)).map (wayD ss t)).any fun z => PyData.eqv z (wayD ss t w))) = true then _ else _
      rw [hany]
      refine ⟨Or.inl ⟨by decide, by decide⟩, Sh.int.shp (Nat.zero_le _), Sh.int.shp (Nat.zero_le _), ?_⟩
      show if (!PyData.eqv (.int ((sL (flat ss t w)).length : Nat)) (.int (2 * ((w.length : Int) - 1) + 2))) = true then _ else _
      rw [sL_len, flat_len, show (2 * ((w.length : Int) - 1) + 2) = ((2 * w.length : Nat) : Int) by omega]
      refine ifF (ne_same _) ?_
      subst ew
      refine ⟨_, _, _, mayR kinds row, U, ss, t, c, cs, rfl, C, hsh, ?_⟩
      rw [hre]
      refine ⟨_, rfl, l2, _, rfl, l1, _, rfl, l0, _, _, _, mayR kinds row, U, ss, t, rfl, CL, ht, ?_⟩
      rw [hb]
      refine ⟨shWw.shp (by decide), shWw.shp (by decide), ?_⟩
      show if (!PyData.eqv (wayD ss t (c :: cs)) (wayD ss t (c :: cs))) = true then _ else _
      rw [shWw.eqv]
      exact hR _ _ ⟨rfl, hr', _, _, _, _, _, _, _, rfl⟩
end M
end

section
namespace M
open PySem PySem.Spec PySem.Calls PyProof.Rows L2 L2.DL Mq

theorem TabOk.sub {tab tab' : Tab} {U : List Str} (T : TabOk tab U) (h : tab'.Sublist tab) : TabOk tab' U :=
  ⟨(h.map _).nodup T.nd, Nat.le_trans h.length_le T.len, fun p hp => T.nm p (h.subset hp), fun p hp => T.cs p (h.subset hp), fun p hp => T.inU p (h.subset hp), T.nU, T.lU, T.nmU⟩
theorem msk_sub {tab tab' : Tab} {U : List Str} (T : TabOk tab U) (h : tab'.Sublist tab) {t : Str} (ht : t ∈ ks tab') : msk tab' t = msk tab t := by
  have h1 := look_mem (look_mk ht)
  exact (mk_of (look_of T.nd (h.subset h1))).symm
theorem eqv_sL : ∀ xs ys : List Str, PyData.eqvAll (sL xs) (sL ys) = decide (xs = ys)
  | [], [] => (by simp [PyData.eqvAll])
  | [], _ :: _ => (by simp [PyData.eqvAll])
  | _ :: _, [] => (by simp [PyData.eqvAll])
  | xz :: xs, yz :: ys => by
    show PyData.eqvAll (.str xz :: sL xs) (.str yz :: sL ys) = _
    rw [PyData.eqvAll, eqv_s, eqv_sL xs ys]
    by_cases h1 : xz = yz <;> by_cases h2 : xs = ys <;> simp [h1, h2]
theorem sg_perm {ss ss' : Ss} (hp : ss.Perm ss') (hn : (ks ss).Nodup) : sg ss = sg ss' := by
  have hn' : (ks ss').Nodup := (hp.map _).nodup_iff.mp hn
  funext c
  cases e : sg ss c with
  | some v => exact (look_of hn' (hp.mem_iff.mp (look_mem e))).symm
  | none =>
    cases e' : sg ss' c with
    | none => rfl
    | some v =>
      have := look_of hn (hp.mem_iff.mpr (look_mem e'))
      have e : List.lookup c ss = none := e
      rw [e] at this; cases this
theorem ssOk_of {tab : Tab} {ss : Ss} (hn : (ks ss).Nodup) (h : Seat (msk tab) (sg ss)) : SsOk tab ss := by
  have hnd : ss.Nodup := by
    refine List.Pairwise.imp (fun {a b} h e => h (congrArg Prod.fst e)) (List.pairwise_map.mp hn)
  refine ⟨hn, nodup_map hnd fun a ha b hb e => ?_, fun p hp => h.ok _ _ (look_of hn hp)⟩
  obtain ⟨c, t⟩ := a
  obtain ⟨c', t'⟩ := b
  have e : t = t' := e
  subst e
  have := h.inj c c' t (look_of hn ha) (look_of hn hb)
  rw [this]
theorem still_iff {tab : Tab} {U : List Str} {ss : Ss} (T : TabOk tab U) (S : SsOk tab ss) : stillB tab ss = true ↔ IsG (msk tab) (· ∈ ks tab) (ixd tab) (Sd (sg ss)) := by
  unfold stillB
  rw [List.all_eq_true]
  constructor
  · intro h
    refine greedy_of T.mU S.seat (fun t ⟨c, e⟩ => sg_key S e) T.inj fun t ht hw e cs w he => ?_
    have hb : bestW tab ss t = none := by simpa using h t ht
    exact best_none T hb _ ⟨w, fun hm => hw ((sd_iff S).mpr hm), fun c' cs' e1 => by injection e1 with e1 _; subst e1; exact endB_iff.mpr he⟩
  · intro hG t ht
    cases hb : bestW tab ss t with
    | none => rfl
    | some w =>
      exfalso
      obtain ⟨c, cs, rfl, hsh, _, _⟩ := best_some T hb
      exact no_shift S.seat hG ht (fun h => hsh.wait ((sd_iff S).mp h)) hsh.way (endB_iff.mp (hsh.fin c cs rfl))
theorem nmp_of {tab : Tab} {U : List Str} {ss : Ss} (T : TabOk tab U) (S : SsOk tab ss) : NmP ss := ⟨S.knm T, S.vnm T⟩
theorem okS_str {k : Nat} {x : Str} (h : Nm x) : okS k (.str x) := by cases k <;> exact h.ok
theorem okS_ss {k : Nat} {ss : Ss} (hl : ss.length ≤ 1000) (h : NmP ss) : okS (k + 2) (ssT ss) := by
  refine ⟨by rw [List.length_map]; exact hl, fun x hx => ?_⟩
  obtain ⟨p, hp, rfl⟩ := List.mem_map.mp hx
  refine ⟨(by decide : 2 ≤ 1000), fun y hyz => ?_⟩
  rcases List.mem_cons.mp hyz with rfl | hyz
  · exact okS_str (h.k p hp)
  · obtain rfl := List.mem_singleton.mp hyz; exact okS_str (h.v p hp)
theorem gone_ok {tab : Tab} {U : List Str} {ss : Ss} {t : Str} {c : Str} {cs : List Str} (T : TabOk tab U) (S : SsOk tab ss) (h : ShOk tab ss t (c :: cs)) : SsOk tab (goneL ss t (c :: cs)) ∧ sg (goneL ss t (c :: cs)) = app (sg ss) t (c :: cs) := by
  have hn := after_nodup (prs (sg ss) t (c :: cs)) S.nk
  have hp := sortP_perm (afterL ss (prs (sg ss) t (c :: cs)))
  have hg : (ks (goneL ss t (c :: cs))).Nodup := (hp.map _).nodup_iff.mpr hn
  have e : sg (goneL ss t (c :: cs)) = app (sg ss) t (c :: cs) := (sg_perm hp hg).trans (after_sg S.nk t _ (way_occ h.way))
  refine ⟨ssOk_of hg ?_, e⟩
  rw [e]
  exact (h.way.after S.seat (fun hs => h.wait ((sd_iff S).mp hs)) c cs rfl).seat
def g__law_alone_right : GF := fun ds n Q => ∃ tags kinds row U tag, ds = [webT tags kinds, ssT row, .str tag] ∧ WebOk kinds row U ∧ tags.length ≤ 8 ∧ tag ∈ ks row ∧ Q (.bool true) n
/-- the plain law of one seating -/
structure Alone (kinds : Tab) (row : Ss) (tag : Str) (ss : Ss) : Prop where
  S : SsOk (mayR kinds row) ss
  no : ∀ t ∈ ks row, t ≠ tag → ∀ w, ¬ ShOk (mayR kinds row) ss t w
  yes : ∀ c cs, ShOk (mayR kinds row) ss tag (c :: cs) → decide (sortS ((goneL ss tag (c :: cs)).map (·.2)) = sortS (greedyM (mayR kinds row) (ks row))) = reB (mayR kinds row) ss tag c ∧ stillB (mayR kinds row) (goneL ss tag (c :: cs)) = reB (mayR kinds row) ss tag c
theorem bool_iff {a b : Bool} (h : a = true ↔ b = true) : a = b := by
  cases a <;> (cases b <;> simp_all)
theorem alone_of {kinds : Tab} {row : Ss} {U : List Str} {tag : Str} (T : TabOk (mayR kinds row) U) (ht : tag ∈ ks row) {τ : Ss} (h : τ ∈ waysL (mayR kinds row) (sortS (greedyM (mayR kinds (row.filter fun r => !(r.1 == tag))) (ks (row.filter fun r => !(r.1 == tag)))))) : Alone kinds row tag (sortP τ) := by
  have hks : ks (mayR kinds row) = ks row := ks_mayR kinds row
  have hsub : (mayR kinds (row.filter fun r => !(r.1 == tag))).Sublist (mayR kinds row) := List.filter_sublist.map _
  have hks' : ks (mayR kinds (row.filter fun r => !(r.1 == tag))) = ks (row.filter fun r => !(r.1 == tag)) := ks_mayR _ _
  have hmem : ∀ x, x ∈ ks (row.filter fun r => !(r.1 == tag)) ↔ (x ∈ ks row ∧ x ≠ tag) := fun x => by
    constructor
    · intro hx
      obtain ⟨p, hp, rfl⟩ := List.mem_map.mp hx
      obtain ⟨h1, h2⟩ := List.mem_filter.mp hp
      exact ⟨List.mem_map.mpr ⟨p, h1, rfl⟩, by simpa using h2⟩
    · rintro ⟨h1, h2⟩
      obtain ⟨p, hp, rfl⟩ := List.mem_map.mp h1
      exact List.mem_map.mpr ⟨p, List.mem_filter.mpr ⟨hp, by simpa using h2⟩, rfl⟩
  have heq : greedyM (mayR kinds (row.filter fun r => !(r.1 == tag))) (ks (row.filter fun r => !(r.1 == tag))) = greedyM (mayR kinds row) (ks (row.filter fun r => !(r.1 == tag))) :=
    greedy_congr _ [] (fun t ht => msk_sub T hsub (by rw [hks']; exact ht)) fun t ht => (by cases ht)
  have hpw : (ks (row.filter fun r => !(r.1 == tag))).Pairwise fun x y => ixd (mayR kinds row) x < ixd (mayR kinds row) y := by
    have h1 : (ks (row.filter fun r => !(r.1 == tag))).Sublist (ks (mayR kinds row)) := by
      rw [hks]
      exact List.filter_sublist.map _
    exact (ks_pair T.nd).sublist h1
  have hGr := greedy_ok (tab := mayR kinds row) hpw
  rw [heq] at h
  obtain ⟨h1, h2⟩ := waysL_mem.mp h
  have hval : (τ.map (·.2)).Nodup := by rw [h1]; exact (sortS_perm _).nodup_iff.mpr hGr.nd
  have S0 := h2.ss hval
  have hp := sortP_perm τ
  have S : SsOk (mayR kinds row) (sortP τ) := ⟨(hp.map _).nodup_iff.mpr S0.nk, (hp.map _).nodup_iff.mpr S0.nv, fun p hp' => S0.ok p (hp.mem_iff.mp hp')⟩
  have hsd : ∀ x, Sd (sg (sortP τ)) x ↔ x ∈ greedyM (mayR kinds row) (ks (row.filter fun r => !(r.1 == tag))) := fun x => by
    rw [sd_iff S, (hp.map _).mem_iff, h1, (sortS_perm _).mem_iff]
  have hg : IsG (msk (mayR kinds row)) (fun x => x ∈ ks (mayR kinds row) ∧ x ≠ tag) (ixd (mayR kinds row)) (Sd (sg (sortP τ))) := by
    have e1 : (fun x => x ∈ ks (mayR kinds row) ∧ x ≠ tag) = fun x => x ∈ ks (row.filter fun r => !(r.1 == tag)) := funext fun x => propext (by rw [hmem, hks])
    rw [e1]
    exact hGr.is.congr fun x _ => (hsd x).symm
  have hA : ∀ s, Sd (sg (sortP τ)) s → s ∈ ks (mayR kinds row) ∧ s ≠ tag := fun s hs => by
    rw [hks]
    exact (hmem s).mp (hGr.sub s ((hsd s).mp hs))
  refine ⟨S, fun t ht hne w hsh => ?_, fun c cs hsh => ?_⟩
  · cases w with
    | nil => cases hsh.way
    | cons c cs => exact no_shift S.seat hg ⟨by rw [hks]; exact ht, hne⟩ (fun h => hsh.wait ((sd_iff S).mp h)) hsh.way (endB_iff.mp (hsh.fin c cs rfl))
  · obtain ⟨S', e'⟩ := gone_ok T S hsh
    have R := right_iff T.mU S.seat hA (by rw [hks]; exact ht : tag ∈ ks (mayR kinds row)) T.inj hg hsh.way (endB_iff.mp (hsh.fin c cs rfl))
    rw [← reB_iff T, ← e'] at R
    have hGa := greedy_ok (tab := mayR kinds row) (ks_pair T.nd)
    rw [hks] at hGa
    constructor
    · refine bool_iff ?_
      rw [decide_eq_true_iff, R, sortS_iff S'.nv hGa.nd]
      constructor
      · intro hm
        have : IsG (msk (mayR kinds row)) (· ∈ ks row) (ixd (mayR kinds row)) (Sd (sg (goneL (sortP τ) tag (c :: cs)))) := hGa.is.congr fun x _ => by rw [sd_iff S']; exact (hm x).symm
        rw [hks]
        exact this
      · intro hG x
        rw [hks] at hG
        have hu := hG.unique hGa.is
        constructor
        · intro hx
          have hxs := (sd_iff S').mpr hx
          have hxk : x ∈ ks row := by
            obtain ⟨c', e⟩ := hxs
            rw [← hks]
            exact sg_key S' e
          exact (hu x hxk).mp hxs
        · intro hx
          exact (sd_iff S').mp ((hu x (hGa.sub x hx)).mpr hx)
    · refine bool_iff ?_
      rw [still_iff T S', R]
end M
end

section
namespace M
open PySem PySem.Spec PySem.Calls PyProof.Rows L2 L2.DL Mq

theorem webOk_filter {kinds : Tab} {row : Ss} {U : List Str} (W : WebOk kinds row U) (p : Str × Str → Bool) : WebOk kinds (row.filter p) U :=
  ⟨W.kn, W.kl, fun r hr => W.kin r (List.mem_filter.mp hr).1, W.cl, W.T.sub (List.filter_sublist.map _)⟩
theorem law__law_alone_right (ds : List PyData) (n : Nat) (Q : GK) (h : g__law_alone_right ds n Q) : gb__law_alone_right g__law_may g__law_best g__law_ways g__law_shifts g__law_moved g_shifted g_is_right g_is_settled (g__law_same 9) (RT Q) (startE nm__law_alone_right ds) n := by
  obtain ⟨tags, kinds, row, U, tag, rfl, W, htl, htag, q⟩ := h
  have T := W.T
  have hM := sizeM
  have hks : ks (mayR kinds row) = ks row := ks_mayR kinds row
  have hrl : row.length ≤ 8 := by have := T.len; unfold mayR at this; rwa [List.length_map] at this
  have hrn : (ks row).Nodup := by rw [← hks]; exact T.nd
  have W' := webOk_filter W fun r => !(r.1 == tag)
  have hNr : ∀ r ∈ row, Nm r.1 := fun r hr => T.tnm (by rw [hks]; exact List.mem_map.mpr ⟨r, hr, rfl⟩)
  have hNt : Nm tag := T.tnm (by rw [hks]; exact htag)
  have htk : tag ∈ ks (mayR kinds row) := by rw [hks]; exact htag
  refine ⟨(by decide : 3 < 13), tags, kinds, row, rfl, W.kn, hrn, hrl, W.kin, ?_⟩
  refine ⟨(by decide : 4 < 13), noOwn1 fun d e => (by cases e), ?_⟩
  refine lcL_eq pT row rfl (fun r => !(r.1 == tag)) pT (fun r hr R1 R2 h1z h2 => ⟨(by decide : 8 < 13), _, at_zero, shp_s (hNr r hr), shp_s hNt, ?_⟩) (by omega) ?_
  · show if (!PyData.eqv (.str r.1) (.str tag)) = true then R1 (pT r) n else R2 n
    rw [eqv_s]
    by_cases hb : (!(r.1 == tag)) = true
    · exact ifT hb (h1z hb)
    · exact ifF hb (h2 (by simpa using hb))
  refine ⟨tags, kinds, row.filter fun r => !(r.1 == tag), U, rfl, W'.kn, W'.kin, W'.T, ?_⟩
  have hsub : ∀ x ∈ sortS (greedyM (mayR kinds (row.filter fun r => !(r.1 == tag))) (ks (row.filter fun r => !(r.1 == tag)))), x ∈ ks (row.filter fun r => !(r.1 == tag)) := fun x hx => by
    rcases greedy_sub _ _ [] x ((sortS_perm _).mem_iff.mp hx) with h | h
    · cases h
    · exact h
  have hlen : (sortS (greedyM (mayR kinds (row.filter fun r => !(r.1 == tag))) (ks (row.filter fun r => !(r.1 == tag))))).length ≤ 8 := by
    rw [(sortS_perm _).length_eq]
    have h1z := greedy_len (mayR kinds (row.filter fun r => !(r.1 == tag))) (ks (row.filter fun r => !(r.1 == tag))) []
    have h2 := List.length_filter_le (fun r : Str × Str => !(r.1 == tag)) row
    unfold greedyM
    have h3 : (ks (row.filter fun r => !(r.1 == tag))).length = (row.filter fun r => !(r.1 == tag)).length := List.length_map ..
    simp only [List.length_nil] at h1z
    omega
  refine ⟨mayR kinds row, U, false, _, rfl, T, fun x hx => ?_, hlen, ?_⟩
  · rw [hks]
    obtain ⟨p, hp, rfl⟩ := List.mem_map.mp (hsub x hx)
    exact List.mem_map.mpr ⟨p, (List.mem_filter.mp hp).1, rfl⟩
  refine forL_eq (fun τ => ssT (sortP τ)) ((waysL (mayR kinds row) (sortS (greedyM (mayR kinds (row.filter fun r => !(r.1 == tag))) (ks (row.filter fun r => !(r.1 == tag)))))).take 6) ?_ (fun rest env n' => n = n' ∧ (∀ τ ∈ rest, Alone kinds row tag (sortP τ)) ∧ ∃ x4 x5 x6 x7 x8 x9 x10 x11 x12, env = [.dat (webT tags kinds), .dat (ssT row), .dat (.str tag), .dat (tabD (mayR kinds row)), x4, x5, x6, x7, x8, x9, x10, x11, x12] ∧ ∀ d, x8 ≠ .own d) ⟨rfl, fun τ hτ => alone_of T htag (List.mem_of_mem_take hτ), _, .no, .no, .no, .no, .no, .no, .no, .no, rfl, fun d e => (by cases e)⟩ ?_ ?_
  · rw [List.map_take]
    exact cut_to _ 6
  · rintro env n1 ⟨rfl, _, x4, x5, x6, x7, x8, x9, x10, x11, x12, rfl, _⟩
    exact q
  · rintro τ rest env n1 R ⟨rfl, hA, x4, x5, x6, x7, x8, x9, x10, x11, x12, rfl, h8⟩ hR
    obtain ⟨S, hno, hyes⟩ := hA τ List.mem_cons_self
    have hA' : ∀ τ ∈ rest, Alone kinds row tag (sortP τ) := fun z hz => hA z (List.mem_cons_of_mem _ hz)
    revert S hno hyes
    generalize sortP τ = ss
    intro S hno hyes
    have hsl := ss_len T S
    have hNs := nmp_of T S
    refine ⟨(by decide : 5 < 13), (by decide : 6 < 13), tags, kinds, row, U, rfl, W.kn, W.kin, T, ?_⟩
    refine forL_eq pT row rfl (fun rest env n' => n = n' ∧ (∀ r ∈ rest, r ∈ row) ∧ ∃ x7 x8, env = [.dat (webT tags kinds), .dat (ssT row), .dat (.str tag), .dat (tabD (mayR kinds row)), x4, .dat (ssT ss), .dat (.tuple (sL (sortS (greedyM (mayR kinds row) (ks row))))), x7, x8, x9, x10, x11, x12] ∧ ∀ d, x8 ≠ .own d) ⟨rfl, fun r h => h, x7, x8, rfl, h8⟩ ?_ ?_
    · rintro env n1 ⟨rfl, _, x7, x8, rfl, h8⟩
      refine ⟨row, mayR kinds row, U, ss, tag, rfl, hks.symm, T, S, htk, fun out hout hol => ?_⟩
      refine forL_eq (wayD ss tag) out rfl (fun rest env n' => n = n' ∧ (∀ w ∈ rest, w ∈ out) ∧ ∃ x9 x10 x11 x12, env = [.dat (webT tags kinds), .dat (ssT row), .dat (.str tag), .dat (tabD (mayR kinds row)), x4, .dat (ssT ss), .dat (.tuple (sL (sortS (greedyM (mayR kinds row) (ks row))))), x7, x8, x9, x10, x11, x12]) ⟨rfl, fun r h => h, x9, x10, x11, x12, rfl⟩ ?_ ?_
      · rintro env n1 ⟨rfl, _, x9, x10, x11, x12, rfl⟩
        exact hR _ _ ⟨rfl, hA', _, _, _, _, _, _, _, _, _, rfl, h8⟩
      · rintro w rest2 env n1 R2 ⟨rfl, hro, x9, x10, x11, x12, rfl⟩ hR2
        have hsh := (hout w).mp (hro w List.mem_cons_self)
        have hro' : ∀ w ∈ rest2, w ∈ out := fun z hz => hro z (List.mem_cons_of_mem _ hz)
        cases w with
        | nil => cases hsh.way
        | cons c cs =>
          have hwl := (ShOk.wu T hsh.way).len T
          have hpn : ∀ p ∈ prs (sg ss) tag (c :: cs), Nm p.1 ∧ Nm p.2 := fun p hp => ⟨T.tnm (way_fst_key S hsh.way p hp), T.mnm _ (way_prs hsh.way p hp)⟩
          obtain ⟨S', e'⟩ := gone_ok T S hsh
          obtain ⟨y1, y2⟩ := hyes c cs hsh
          have hgl := ss_len T S'
          have hNg := nmp_of T S'
          refine ⟨(by decide : 9 < 13), (by decide : 10 < 13), ss, tag, c :: cs, rfl, S.nk, hNs, hpn, by omega, hwl, ?_⟩
          refine ⟨(by decide : 11 < 13), noOwn1 fun d e => h8 d (Option.some.inj e), ?_⟩
          refine lcM_eq pT (goneL ss tag (c :: cs)) rfl (fun p => PyData.str p.2) (fun p hp R3 h3 => ⟨(by decide : 8 < 13), _, at_nat (i := 1) rfl, h3⟩) (by omega) ?_
          have ev : (goneL ss tag (c :: cs)).map (fun p => PyData.str p.2) = sL ((goneL ss tag (c :: cs)).map (·.2)) := by show _ = (List.map _ _).map _; rw [List.map_map]; rfl
          rw [ev]
          have hNv : ∀ x ∈ (goneL ss tag (c :: cs)).map (·.2), Nm x := fun x hx => by obtain ⟨p, hp, rfl⟩ := List.mem_map.mp hx; exact hNg.v p hp
          have hNG : ∀ x ∈ sortS (greedyM (mayR kinds row) (ks row)), Nm x := fun x hx => by
            rcases greedy_sub _ _ [] x ((sortS_perm _).mem_iff.mp hx) with h | h
            · cases h
            · exact T.tnm (by rw [hks]; exact h)
          refine ⟨sortOk_s hNv, ?_⟩
          rw [sort_sL]
          refine ⟨shp_t fun x hx => hNv x ((sortS_perm _).mem_iff.mp hx), shp_t hNG, ?_⟩
          have efine : PyData.eqv (.tuple (sL (sortS ((goneL ss tag (c :: cs)).map (·.2))))) (.tuple (sL (sortS (greedyM (mayR kinds row) (ks row))))) = reB (mayR kinds row) ss tag c := by
            rw [PyData.eqv, eqv_sL]
            exact y1
          rw [efine]
          have C := case_t (tags := tags) W S
          have C' := case_t (tags := tags) W S'
          refine ⟨(by decide : 12 < 13), ssT ss, ss, tag, c :: cs, rfl, sr_of false (fun _ => false) S.nk (by omega), hNs, hpn, by omega, (by decide : 1 ≤ sizeLine), ?_⟩
          refine ⟨(by decide : 12 < 13), _, _, _, mayR kinds row, U, ss, tag, c, cs, rfl, C, hsh, (by decide : 1 ≤ sizeLine), (by decide : 1 + 1 ≤ sizeLine), ?_⟩
          refine ⟨(by decide : 12 < 13), _, _, _, mayR kinds row, U, goneL ss tag (c :: cs), rfl, C', (by decide : 1 ≤ sizeLine), (by decide : 2 + 1 ≤ sizeLine), ?_⟩
          rw [y2]
          refine ⟨(by decide : 3 ≤ sizeLine), .list [ssT (goneL ss tag (c :: cs)), .bool (reB (mayR kinds row) ss tag c), .bool (reB (mayR kinds row) ss tag c)], rfl, ⟨(by decide : 3 ≤ 1000), fun x hx => ?_⟩, ?_⟩
          · rcases List.mem_cons.mp hx with rfl | hx
            · exact okS_ss (k := 6) (by omega) hNg
            · rcases List.mem_cons.mp hx with rfl | hx
              · exact trivial
              · obtain rfl := List.mem_singleton.mp hx; exact trivial
          · exact hR2 _ _ ⟨rfl, hro', _, _, _, _, rfl⟩
    · rintro ⟨t, kd⟩ rest2 env n1 R2 ⟨rfl, hro, y7, y8, rfl, h8'⟩ hR2
      have hrow := hro _ List.mem_cons_self
      have hro' : ∀ r ∈ rest2, r ∈ row := fun z hz => hro z (List.mem_cons_of_mem _ hz)
      have ht : t ∈ ks row := List.mem_map.mpr ⟨_, hrow, rfl⟩
      refine ⟨(by decide : 7 < 13), (by decide : 8 < 13), shp_s (hNr _ hrow), shp_s hNt, ?_⟩
      show if (!PyData.eqv (.str t) (.str tag)) = true then _ else _
      rw [eqv_s]
      by_cases hne : t = tag
      · subst hne
        refine ifF (by simp) ?_
        exact hR2 _ _ ⟨rfl, hro', _, _, rfl, fun d e => (by cases e)⟩
      · refine ifT (by simpa using hne) ?_
        refine ⟨row, mayR kinds row, U, ss, t, rfl, hks.symm, T, S, by rw [hks]; exact ht, fun out hout hol => ?_⟩
        have h0 : out = [] := List.eq_nil_iff_forall_not_mem.mpr fun w hw => hno t ht hne w ((hout w).mp hw)
        subst h0
        refine ⟨(by decide : 0 ≤ sizeLine), (Sh.list (k := 0) fun d hd => (by cases hd)).shp (by decide), (Sh.list (k := 0) fun d hd => (by cases hd)).shp (by decide), ?_⟩
        refine ifF (ne_nil_f rfl) ?_
        exact hR2 _ _ ⟨rfl, hro', _, _, rfl, fun d e => (by cases e)⟩
end M
end

section
namespace M
open PySem PySem.Spec PySem.Calls PyProof.Rows L2 L2.DL Mq

/-! ### draws -/
def g__law_take : GF := fun ds n Q => ∃ top : Int, ds = [tubD, .int top] ∧ 0 < top ∧ top < 1073741824 ∧ n < 2 ^ 40 ∧ ∀ (r : Int) (n' : Nat), 0 ≤ r → r < top → n' ≤ n + 1 → Q (.int r) n'
theorem law__law_take (ds : List PyData) (n : Nat) (Q : GK) (h : g__law_take ds n Q) : gb__law_take (RT Q) (startE nm__law_take ds) n := by
  obtain ⟨top, rfl, h1, h2, hn, q⟩ := h
  refine ⟨rfl, by decide, fun z hz _ _ => ⟨trivial, ?_⟩⟩
  show if decide ((0 : Int) < z) = true then _ else _
  by_cases hz0 : 0 < z
  · refine ifT (decide_eq_true hz0) ⟨(by decide : 2 < 6), rfl, by decide, fun z1 hz1 _ _ => ⟨h1, ?_⟩⟩
    refine ⟨rfl, rfl, by decide, fun z2 hz2 _ _ => ⟨⟨h1, h2⟩, z2 / top, rfl, Int.ediv_nonneg hz2 (by omega), Or.inl ⟨rfl, ?_⟩⟩⟩
    exact q _ _ (Int.emod_nonneg _ (by omega)) (Int.emod_lt_of_pos _ h1) (by omega)
  · refine ifF (by simpa using hz0) ⟨rfl, rfl, by decide, fun z1 hz1 _ hz1n => ⟨z1 + 1, rfl, by omega, Or.inr ⟨rfl, by have := hz1n rfl; omega, ?_⟩⟩⟩
    have hp : (2 : Int) ^ 64 = 18446744073709551616 := by decide
    have hq : (2 : Nat) ^ 40 = 1099511627776 := by decide
    have hp62 : (2 : Int) ^ 62 = 4611686018427387904 := by decide
    refine ⟨(by decide : 3 < 6), rfl, by decide, fun a ha ha1 _ => ⟨rfl, by decide, fun b hb _ hbn => ⟨Or.inl ⟨by decide, by decide⟩, rfl, by decide, fun c hc _ hcn => ⟨Or.inr ⟨?_, ?_⟩, (by decide : (0 : Int) < 2147483647), ?_⟩⟩⟩⟩
    · rw [hp]; omega
    · have := hcn rfl
      rw [hp]; rw [hq] at hn; omega
    have e1 : 0 ≤ ((a + 48271 * b) * (39373 + c)) % 2147483647 ∧ ((a + 48271 * b) * (39373 + c)) % 2147483647 < 2147483647 := ⟨Int.emod_nonneg _ (by decide), Int.emod_lt_of_pos _ (by decide)⟩
    revert e1
    generalize ((a + 48271 * b) * (39373 + c)) % 2147483647 = once
    intro e1
    refine ⟨(by decide : 4 < 6), (by decide : (0 : Int) < 40009), ?_⟩
    have e2 : 0 ≤ once % 40009 ∧ once % 40009 < 40009 := ⟨Int.emod_nonneg _ (by decide), Int.emod_lt_of_pos _ (by decide)⟩
    refine ⟨(by decide : 5 < 6), rfl, by decide, fun d hd _ hdn => ⟨rfl, by decide, fun e he _ _ => ⟨⟨by decide, by decide⟩, Or.inr ⟨?_, ?_⟩, (by decide : (0 : Int) < 2147483629), ?_⟩⟩⟩
    · rw [hp]; omega
    · rw [hp]; omega
    refine ⟨Or.inr ⟨by decide, by decide⟩, (by decide : (0 : Int) < 2147483587), ⟨by decide, by decide⟩, h1, ?_⟩
    exact q _ _ (Int.emod_nonneg _ (by omega)) (Int.emod_lt_of_pos _ h1) (by omega)
def g__law_of : GF := fun ds n Q => ∃ b es, ds = [tubD, seqD b es] ∧ es ≠ [] ∧ es.length < 1000000 ∧ n < 2 ^ 40 ∧ ∀ e n', e ∈ es → n' ≤ n + 1 → Q e n'
theorem at_int {α : Type} {xs : List α} {r : Int} (h0 : 0 ≤ r) (h1 : r < xs.length) : ∃ x, atI xs r = some x ∧ x ∈ xs := by
  have hl : r.toNat < xs.length := by omega
  refine ⟨xs[r.toNat], ?_, List.getElem_mem hl⟩
  have := at_nat (xs := xs) (i := r.toNat) (x := xs[r.toNat]) (List.getElem?_eq_getElem hl)
  rwa [Int.toNat_of_nonneg h0] at this
theorem law__law_of (ds : List PyData) (n : Nat) (Q : GK) (h : g__law_of ds n Q) : gb__law_of g__law_take (RT Q) (startE nm__law_of ds) n := by
  obtain ⟨b, es, rfl, hne, hl, hn, q⟩ := h
  have hp := List.length_pos_iff.mpr hne
  have key : g__law_take [tubD, .int es.length] n fun d n1 => ∃ v : Int, d = .int v ∧ ∃ x, atI es v = some x ∧ Q x n1 := by
    refine ⟨es.length, rfl, by omega, by omega, hn, fun r n' h0 h1 h2 => ?_⟩
    obtain ⟨x, e, hx⟩ := at_int h0 h1
    exact ⟨r, rfl, x, e, q x n' hx h2⟩
  cases b
  · obtain ⟨top, e1, e2, e3, e4, e5⟩ := key
    refine ⟨top, e1, e2, e3, e4, fun r n' h0 h1 h2 => ?_⟩
    obtain ⟨v, ev, x, ex, qx⟩ := e5 r n' h0 h1 h2
    cases ev
    exact ⟨x, ex, qx⟩
  · obtain ⟨top, e1, e2, e3, e4, e5⟩ := key
    refine ⟨top, e1, e2, e3, e4, fun r n' h0 h1 h2 => ?_⟩
    obtain ⟨v, ev, x, ex, qx⟩ := e5 r n' h0 h1 h2
    cases ev
    exact ⟨x, ex, qx⟩
def g__law_pick : GF := fun ds n Q => ∃ (xs : List Str) (m : Nat), ds = [tubD, .list (sL xs), .int m] ∧ xs.length ≤ 1000 ∧ m ≤ 1000 ∧ n + 1000 < 2 ^ 40 ∧ ∀ (out : List Str) (n' : Nat), (∃ left, (out ++ left).Perm xs) → out.length = min m xs.length → n' ≤ n + m → Q (.list (sL out)) n'
theorem erase_perm {α : Type} : ∀ (l : List α) (i : Nat) (x : α), l[i]? = some x → (x :: l.eraseIdx i).Perm l
  | [], _, _, h => by cases h
  | a :: l, 0, x, h => by cases h; exact List.Perm.refl _
  | a :: l, i + 1, x, h => ((List.Perm.swap a x (l.eraseIdx i))).trans ((erase_perm l i x h).cons a)
theorem erase_map {α β : Type} (f : α → β) : ∀ (l : List α) (i : Nat), (l.map f).eraseIdx i = (l.eraseIdx i).map f
  | [], _ => rfl
  | a :: l, 0 => rfl
  | a :: l, i + 1 => by
    show f a :: (l.map f).eraseIdx i = f a :: (l.eraseIdx i).map f
    rw [erase_map f l i]
theorem perm_pop {α : Type} {found left xs : List α} {i : Nat} {x : α} (h : (found ++ left).Perm xs) (hi : left[i]? = some x) : ((found ++ [x]) ++ left.eraseIdx i).Perm xs := by
  refine List.Perm.trans ?_ h
  rw [List.append_assoc]
  refine List.Perm.append_left found ?_
  exact erase_perm left i x hi
theorem law__law_pick (ds : List PyData) (n : Nat) (Q : GK) (h : g__law_pick ds n Q) : gb__law_pick g__law_take (RT Q) (startE nm__law_pick ds) n := by
  obtain ⟨xs, m, rfl, hl, hm, hn, q⟩ := h
  have hM := sizeM
  refine ⟨parB 6 rfl (by decide), (by decide : 0 ≤ sizeLine), ?_⟩
  have emin : (if ((sL xs).length : Int) < (m : Int) then ((sL xs).length : Int) else (m : Int)) = ((min m xs.length : Nat) : Int) := by
    rw [sL_len]
    split <;> omega
  have key : gForL (ggName 5) (gAppPop 4 3 (gFun g__law_take (gCons (gVar 0) (gCons (gCall oLen (gCons (gVarB 3) gNil)) gNil)))) { RT Q with nx := gRet (gVarB 4) (RT Q) } ((List.range (min m xs.length)).map fun (i : Nat) => PyData.int i) [.dat tubD, .dat (.list (sL xs)), .dat (.int m), .own (.list (sL xs)), .own (.list []), .no] n := by
    refine forL_eq (fun i : Nat => PyData.int i) (List.range (min m xs.length)) rfl (fun rest env n' => ∃ left found x5, env = [.dat tubD, .dat (.list (sL xs)), .dat (.int m), .own (.list (sL left)), .own (.list (sL found)), x5] ∧ (found ++ left).Perm xs ∧ found.length + rest.length = min m xs.length ∧ n' ≤ n + found.length) ⟨xs, [], .no, rfl, List.Perm.refl _, by simp, Nat.le_refl _⟩ ?_ ?_
    · rintro env n' ⟨left, found, x5, rfl, hp, hlenz, hn'⟩
      simp only [List.length_nil] at hlenz
      exact q found n' ⟨left, hp⟩ (by omega) (by omega)
    · rintro i rest env n' R ⟨left, found, x5, rfl, hp, hlenz, hn'⟩ hR
      rw [List.length_cons] at hlenz
      have hpl := hp.length_eq
      rw [List.length_append] at hpl
      refine ⟨(by decide : 5 < 6), (sL left).length, rfl, by rw [sL_len]; omega, by rw [sL_len]; omega, by omega, fun r n2 h0 h1 h2 => ?_⟩
      rw [sL_len] at h1
      have hlt : r.toNat < left.length := by omega
      have hg : left[r.toNat]? = some left[r.toNat] := List.getElem?_eq_getElem hlt
      refine ⟨h0, by omega, by decide, .str left[r.toNat], by rw [List.getElem?_map, hg]; rfl, by rw [sL_len]; omega, ?_⟩
      refine hR _ _ ⟨left.eraseIdx r.toNat, found ++ [left[r.toNat]], .dat (.int i), ?_, perm_pop hp hg, by rw [List.length_append, List.length_singleton]; omega, by rw [List.length_append, List.length_singleton]; omega⟩
      show [Sl.dat tubD, .dat (.list (sL xs)), .dat (.int m), .own (.list ((sL left).eraseIdx r.toNat)), .own (.list (sL found ++ [PyData.str left[r.toNat]])), .dat (.int i)] = _
      rw [sL_app]
      have : (sL left).eraseIdx r.toNat = sL (left.eraseIdx r.toNat) := by
        exact erase_map _ _ _
      rw [this]
  have e3 : ((((min m xs.length : Nat) : Int)).toNat) = min m xs.length := by omega
  show (if ((sL xs).length : Int) < (m : Int) then ((sL xs).length : Int) else (m : Int)) < 2 ^ 62 ∧ -(2 ^ 62) ≤ (if ((sL xs).length : Int) < (m : Int) then ((sL xs).length : Int) else (m : Int)) ∧ gForL (ggName 5) (gAppPop 4 3 (gFun g__law_take (gCons (gVar 0) (gCons (gCall oLen (gCons (gVarB 3) gNil)) gNil)))) { RT Q with nx := gRet (gVarB 4) (RT Q) } ((List.range (if ((sL xs).length : Int) < (m : Int) then ((sL xs).length : Int) else (m : Int)).toNat).map fun (i : Nat) => PyData.int i) [.dat tubD, .dat (.list (sL xs)), .dat (.int m), .own (.list (sL xs)), .own (.list []), .no] n
  rw [emin, e3]
  exact ⟨by have : (2 : Int) ^ 62 = 4611686018427387904 := by decide
            omega, by have : (2 : Int) ^ 62 = 4611686018427387904 := by decide
                      omega, key⟩
end M
end

section
namespace M
open PySem PySem.Spec PySem.Calls PyProof.Rows L2 L2.DL Mq

structure WebG (tags : List Str) (kinds : Tab) : Prop where
  tn : tags.Nodup
  tl : tags.length ≤ 4
  tm : ∀ c ∈ tags, Nm c
  kn : (ks kinds).Nodup
  kl : kinds.length ≤ 4
  kp : kinds ≠ []
  knm : ∀ k ∈ ks kinds, Nm k
  cs : ∀ p ∈ kinds, CsOk p.2 ∧ ∀ c ∈ p.2, c ∈ tags
def full6 : List Str := ["c", "d", "p", "q", "r", "zzzzzzzz"]
def keys6 : List Str := ["a", "b", "k", "m", "x", "y"]
theorem full6_ok : full6.Nodup ∧ ∀ c ∈ full6, Nm c := by unfold full6 Nm; constructor <;> decide +kernel
theorem keys6_ok : keys6.Nodup ∧ ∀ c ∈ keys6, Nm c := by unfold keys6 Nm; constructor <;> decide +kernel
def names8 : List Str := ["t", "u", "v", "w", "a", "p", "ta", "b"]
theorem names8_ok : names8.Nodup ∧ ∀ c ∈ names8, Nm c := by unfold names8 Nm; constructor <;> decide +kernel
theorem cut_one (xs : List PyData) (a : Nat) : cutX xs none (some (1 + (a : Int))) = xs.take (1 + a) := by
  rw [show (1 + (a : Int)) = ((1 + a : Nat) : Int) by omega]
  exact cut_to xs (1 + a)
theorem csOk_sort {out tags : List Str} (hn : out.Nodup) (hp : out ≠ []) : CsOk (sortS out) :=
  ⟨fun e => hp (by have := (sortS_perm out).length_eq; rw [e] at this; exact List.eq_nil_of_length_eq_zero this.symm), sortS_pair out, (sortS_perm out).nodup_iff.mpr hn⟩
def kP (p : Str × List Str) : PyData := .tuple [.str p.1, cutD p.2]
def g__law_web : GF := fun ds n Q => ds = [tubD, .int 4, .int 4] ∧ n + 10000 < 2 ^ 40 ∧ ∀ (tags : List Str) (kinds : Tab) (n' : Nat), WebG tags kinds → n' ≤ n + 100 → Q (webT tags kinds) n'
theorem law__law_web (ds : List PyData) (n : Nat) (Q : GK) (h : g__law_web ds n Q) : gb__law_web g__law_take g__law_pick (RT Q) (startE nm__law_web ds) n := by
  obtain ⟨rfl, hn, q⟩ := h
  have hM := sizeM
  refine ⟨(by decide : 3 < 6), (by decide : 6 ≤ sizeLine), 4, rfl, by decide, by decide, by omega, fun r n1 h0z h1 h2 => ?_⟩
  obtain ⟨az, rfl⟩ := Int.eq_ofNat_of_zero_le h0z
  refine ⟨(by decide : 4 < 6), (by decide : 0 ≤ sizeLine), (by decide : 6 ≤ sizeLine), 4, rfl, by decide, by decide, by omega, fun r2 n2 h3 h4 h5 => ?_⟩
  obtain ⟨b, rfl⟩ := Int.eq_ofNat_of_zero_le h3
  have hfn : (full6.take (1 + az)).Nodup := full6_ok.1.sublist (List.take_sublist _ _)
  have hfl : (full6.take (1 + az)).length = 1 + az := by rw [List.length_take]; show min (1 + az) 6 = _; omega
  have hfm : ∀ c ∈ full6.take (1 + az), Nm c := fun c hc => full6_ok.2 c (List.mem_of_mem_take hc)
  have hkn : (keys6.take (1 + b)).Nodup := keys6_ok.1.sublist (List.take_sublist _ _)
  have hkl : (keys6.take (1 + b)).length = 1 + b := by rw [List.length_take]; show min (1 + b) 6 = _; omega
  have e3 : cutX (sL full6) none (some (1 + (az : Int))) = sL (full6.take (1 + az)) := by rw [cut_one, ← List.map_take]
  refine forL_eq PyData.str (keys6.take (1 + b)) (by show cutX (sL keys6) none (some (1 + (b : Int))) = _; rw [cut_one, ← List.map_take]) (fun rest env n' => ∃ kinds x5, env = [.dat tubD, .dat (.int 4), .dat (.int 4), .dat (.list (sL (full6.take (1 + az)))), .own (.list (kinds.map kP)), x5] ∧ ks kinds ++ rest = keys6.take (1 + b) ∧ (∀ p ∈ kinds, CsOk p.2 ∧ ∀ c ∈ p.2, c ∈ full6.take (1 + az)) ∧ n' ≤ n + 10 + 10 * kinds.length) ⟨[], .no, ?_, rfl, fun p hp => (by cases hp), by simp; omega⟩ ?_ ?_
  · show [Sl.dat tubD, .dat (.int 4), .dat (.int 4), .dat (.list (cutX (sL full6) none (some (1 + (az : Int))))), .own (.list []), .no] = _
    rw [e3]; rfl
  · rintro env n' ⟨kinds, x5, rfl, hk, hc, hn'⟩
    rw [List.append_nil] at hk
    have hkl2 : kinds.length = 1 + b := by
      have := congrArg List.length hk
      rw [hkl] at this
      simpa [ks] using this
    refine ⟨(by decide : 2 ≤ sizeLine), q (full6.take (1 + az)) kinds n' ⟨hfn, by omega, hfm, by rw [hk]; exact hkn, by omega, fun e => (by rw [e] at hkl2; simp at hkl2; omega), fun k hk' => keys6_ok.2 k (List.mem_of_mem_take (hk ▸ hk')), hc⟩ (by omega)⟩
  · rintro k rest env n' R ⟨kinds, x5, rfl, hk, hc, hn'⟩ hR
    have hkl2 : kinds.length + (rest.length + 1) = 1 + b := by
      have := congrArg List.length hk
      rw [hkl] at this
      simpa [ks] using this
    refine ⟨(by decide : 5 < 6), ((sL (full6.take (1 + az))).length : Nat), rfl, by rw [sL_len]; omega, by rw [sL_len]; omega, by omega, fun r3 n3 h6 h7 h8 => ?_⟩
    obtain ⟨c, rfl⟩ := Int.eq_ofNat_of_zero_le h6
    rw [sL_len] at h7
    refine ⟨full6.take (1 + az), 1 + c, ?_, by omega, by omega, by omega, fun out n4 ⟨left, hp⟩ hol hn4 => ?_⟩
    · show [tubD, .list (sL (full6.take (1 + az))), .int (1 + (c : Int))] = _
      rw [show (1 + (c : Int)) = ((1 + c : Nat) : Int) by omega]
    have hsub : ∀ x ∈ out, x ∈ full6.take (1 + az) := fun x hx => hp.mem_iff.mp (List.mem_append.mpr (Or.inl hx))
    have hon : out.Nodup := (List.nodup_append.mp (hp.nodup_iff.mpr hfn)).1
    have hop : out ≠ [] := fun e => by
      rw [e, List.length_nil] at hol
      omega
    refine ⟨sortOk_s fun x hx => hfm x (hsub x hx), ?_⟩
    rw [sort_sL]
    refine ⟨(by decide : 2 ≤ sizeLine), by rw [List.length_map]; omega, ?_⟩
    refine hR _ _ ⟨kinds ++ [(k, sortS out)], .dat (.str k), ?_, by rw [← hk]; unfold ks; simp, fun p hpz' => ?_, by rw [List.length_append, List.length_singleton]; omega⟩
    · rw [List.map_append]; rfl
    · rcases List.mem_append.mp hpz' with hpz' | hpz'
      · exact hc p hpz'
      · obtain rfl := List.mem_singleton.mp hpz'
        exact ⟨csOk_sort (tags := []) hon hop, fun c hc => hsub c ((sortS_perm out).mem_iff.mp hc)⟩
/-! ### _law_row -/
structure RowG (kinds : Tab) (row : Ss) : Prop where
  nd : (ks row).Nodup
  nm : ∀ r ∈ row, Nm r.1
  len : row.length ≤ 6
  kin : ∀ r ∈ row, r.2 ∈ ks kinds
theorem webOk_of {tags : List Str} {kinds : Tab} {row : Ss} (G : WebG tags kinds) (R : RowG kinds row) : WebOk kinds row tags := by
  have hc : ∀ p ∈ kinds, p.2.length ≤ 4 := fun p hp => Nat.le_trans (nodup_le (G.cs p hp).1.nd (G.cs p hp).2) G.tl
  have hm : ∀ r ∈ row, (r.2, msk kinds r.2) ∈ kinds := fun r hr => look_mem (look_mk (R.kin r hr))
  refine ⟨G.kn, by have := G.kl; omega, R.kin, fun p hp => by have := hc p hp; omega, ⟨by rw [ks_mayR]; exact R.nd, ?_, fun p hp => ?_, fun p hp => ?_, fun p hp => ?_, G.tn, G.tl, G.tm⟩⟩
  · unfold mayR
    rw [List.length_map]
    have := R.len
    omega
  · obtain ⟨r, hr, rfl⟩ := List.mem_map.mp hp
    exact R.nm r hr
  · obtain ⟨r, hr, rfl⟩ := List.mem_map.mp hp
    exact (G.cs _ (hm r hr)).1
  · obtain ⟨r, hr, rfl⟩ := List.mem_map.mp hp
    exact (G.cs _ (hm r hr)).2
def g__law_row : GF := fun ds n Q => ∃ tags kinds, ds = [tubD, webT tags kinds, .int 6] ∧ WebG tags kinds ∧ n + 10000 < 2 ^ 40 ∧ ∀ (row : Ss) (n' : Nat), RowG kinds row → n' ≤ n + 100 → Q (ssT row) n'
theorem law__law_row (ds : List PyData) (n : Nat) (Q : GK) (h : g__law_row ds n Q) : gb__law_row g__law_pick g__law_take g__law_of (RT Q) (startE nm__law_row ds) n := by
  obtain ⟨tags, kinds, rfl, G, hn, q⟩ := h
  have hM := sizeM
  have hkl := G.kl
  refine ⟨(by decide : 3 < 5), (by decide : 8 ≤ sizeLine), 7, rfl, by decide, by decide, by omega, fun r n1 h0z h1 h2 => ?_⟩
  obtain ⟨az, rfl⟩ := Int.eq_ofNat_of_zero_le h0z
  refine ⟨names8, az, rfl, by decide, by omega, by omega, fun out n2 ⟨left, hp⟩ hol hn2 => ?_⟩
  have hl8 : names8.length = 8 := rfl
  have hon : out.Nodup := (List.nodup_append.mp (hp.nodup_iff.mpr names8_ok.1)).1
  have hom : ∀ x ∈ out, Nm x := fun x hx => names8_ok.2 x (hp.mem_iff.mp (List.mem_append.mpr (Or.inl hx)))
  refine ⟨noOwn1 fun d e => (by cases e), ?_⟩
  refine lcL_inv (f := PyData.str) (fun rest acc n' => ∃ row : Ss, acc = row.map pT ∧ ks row ++ rest = out ∧ (∀ r ∈ row, r.2 ∈ ks kinds) ∧ n' ≤ n + 20 + row.length) ?_ ?_ out [] n2 ⟨[], rfl, rfl, fun r hrz => (by cases hrz), by simp; omega⟩
  · rintro acc n' ⟨row, rfl, he, hk, hn'⟩
    rw [List.append_nil] at he
    have hrl : row.length ≤ 6 := by
      have := congrArg List.length he
      simp [ks] at this
      omega
    exact q row n' ⟨by rw [he]; exact hon, fun r hrz => hom _ (he ▸ List.mem_map.mpr ⟨r, hrz, rfl⟩), hrl, hk⟩ (by omega)
  · rintro x rest acc n' R ⟨row, rfl, he, hk, hn'⟩ hR
    have hrl : row.length + (rest.length + 1) = out.length := by
      have := congrArg List.length he
      simpa [ks] using this
    refine ⟨(by decide : 4 < 5), _, at_nat (i := 1) rfl, false, kinds.map kP, rfl, by simpa using G.kp, by rw [List.length_map]; omega, by omega, fun e n3 he' hn3 => ?_⟩
    obtain ⟨p, hp', rfl⟩ := List.mem_map.mp he'
    refine ⟨_, at_zero, (by decide : 2 ≤ sizeLine), by rw [List.length_map]; omega, ?_⟩
    refine hR _ _ ⟨row ++ [(x, p.1)], by rw [List.map_append]; rfl, by rw [← he]; unfold ks; simp, fun r hrz => ?_, by rw [List.length_append, List.length_singleton]; omega⟩
    rcases List.mem_append.mp hrz with hrz | hrz
    · exact hk r hrz
    · obtain rfl := List.mem_singleton.mp hrz
      exact List.mem_map.mpr ⟨p, hp', rfl⟩
end M
end

section
namespace M
open PySem PySem.Spec PySem.Calls PyProof.Rows L2 L2.DL Mq

/-! ### _law_seats -/
def g__law_seats : GF := fun ds n Q => ∃ tags kinds row U, ds = [tubD, webT tags kinds, ssT row] ∧ WebOk kinds row U ∧ n + 10000 < 2 ^ 40 ∧ ∀ (ss : Ss) (n' : Nat), SsOk (mayR kinds row) ss → n' ≤ n + 100 → Q (ssT ss) n'
theorem law__law_seats (ds : List PyData) (n : Nat) (Q : GK) (h : g__law_seats ds n Q) : gb__law_seats g__law_may g__law_pick g__law_take g__law_of (RT Q) (startE nm__law_seats ds) n := by
  obtain ⟨tags, kinds, row, U, rfl, W, hn, q⟩ := h
  have T := W.T
  have hM := sizeM
  have hks : ks (mayR kinds row) = ks row := ks_mayR kinds row
  have hrl : row.length ≤ 8 := by have := T.len; unfold mayR at this; rwa [List.length_map] at this
  have hrn : (ks row).Nodup := by rw [← hks]; exact T.nd
  have hkl : (ks row).length = row.length := List.length_map ..
  unfold gb__law_seats gSeq
  refine par_step [tabD (mayR kinds row), .list []] [.dat tubD, .dat (webT tags kinds), .dat (ssT row), .dat (tabD (mayR kinds row)), .own (.list (([] : Ss).map pT)), .no, .no, .no, .no] (parB 9 rfl (by decide)) (fun R h => ⟨tags, kinds, row, rfl, W.kn, hrn, hrl, W.kin, (by decide : 0 ≤ sizeLine), h⟩) rfl ?_
  refine ⟨noOwn1 fun d e => (by cases e), ?_⟩
  refine lcM_eq pT row rfl (fun r => PyData.str r.1) (fun r hr R h1 => ⟨(by decide : 7 < 9), _, at_zero, h1⟩) (by omega) ?_
  refine ⟨ks row, row.length, ?_, by omega, by omega, by omega, fun out n1 ⟨left, hp⟩ hol hn1 => ?_⟩
  · show [tubD, .list (row.map fun r => PyData.str r.1), .int ((row.map pT).length : Nat)] = _
    rw [List.length_map]
    have : (row.map fun r => PyData.str r.1) = sL (ks row) := by show _ = (row.map _).map _; rw [List.map_map]; rfl
    rw [this]
  have hon : out.Nodup := (List.nodup_append.mp (hp.nodup_iff.mpr hrn)).1
  have hom : ∀ x ∈ out, x ∈ ks (mayR kinds row) := fun x hx => by rw [hks]; exact hp.mem_iff.mp (List.mem_append.mpr (Or.inl hx))
  refine forL_eq PyData.str out rfl (fun rest env n' => ∃ (σ : Ss) (x5 x6 : Sl), env = [.dat tubD, .dat (webT tags kinds), .dat (ssT row), .dat (tabD (mayR kinds row)), .own (.list (σ.map pT)), x5, x6, .no, .no] ∧ SeatL (mayR kinds row) σ ∧ (σ.map (·.2)).Nodup ∧ (∀ t ∈ σ.map (·.2), t ∉ rest) ∧ rest.Nodup ∧ (∀ t ∈ rest, t ∈ ks (mayR kinds row)) ∧ σ.length + rest.length ≤ 8 ∧ n' + 2 * rest.length ≤ n + 50) ⟨[], .no, .no, rfl, ⟨List.nodup_nil, fun p hp => (by cases hp)⟩, List.nodup_nil, fun t h => (by cases h), hon, hom, by rw [List.length_nil]; omega, by omega⟩ ?_ ?_
  · rintro env n' ⟨σ, x5, x6, rfl, hσ, hv, _, _, _, _, hn'⟩
    refine ⟨sortOk_p (hσ.nmp T), ?_⟩
    show Q (.tuple ((σ.map pT).mergeSort dle)) n'
    rw [sortP_eq]
    have hp := sortP_perm σ
    exact q (sortP σ) n' ⟨(hp.map _).nodup_iff.mpr hσ.nk, (hp.map _).nodup_iff.mpr hv, fun p hp' => hσ.ok p (hp.mem_iff.mp hp')⟩ (by omega)
  · rintro t rest env n' R ⟨σ, x5, x6, rfl, hσ, hv, hd, hrd, hk, hl, hn'⟩ hR
    have ht := hk t List.mem_cons_self
    have hml := T.ml t
    rw [List.length_cons] at hl hn'
    have hrd' := List.nodup_cons.mp hrd
    have hk' : ∀ t ∈ rest, t ∈ ks (mayR kinds row) := fun z hzz => hk z (List.mem_cons_of_mem _ hzz)
    have hd' : ∀ t ∈ σ.map (·.2), t ∉ rest := fun z hzz hzr => hd z hzz (List.mem_cons_of_mem _ hzr)
    obtain ⟨qs, hq1, hq2, hq3⟩ := dictSs σ hσ.nk
    refine ⟨(by decide : 5 < 9), (by decide : 6 < 9), noOwn1 fun d e => (by cases e), dOk_map _ _, rfl, _, tab_look (look_mk ht), ?_⟩
    refine lcL_eq PyData.str (msk (mayR kinds row) t) rfl (fun c => !(ks σ).contains c) PyData.str (fun c hc R1 R3 h1 h2 => ⟨(by decide : 8 < 9), qs, hq1, hq2, ?_⟩) (by omega) ?_
    · rw [hq3]
      refine ⟨dOk_map _ _, rfl, ?_⟩
      show if (!(lookD (mapD PyData.str σ) (PyData.str c)).isSome) = true then R1 (PyData.str c) n' else R3 n'
      rw [ss_some]
      by_cases hco : c ∈ ks σ
      · obtain ⟨v, ev⟩ := look_key hco
        exact ifF (by rw [show sg σ c = some v from ev]; simp) (h2 (cont_t hco))
      · exact ifT (by rw [show sg σ c = none from look_none hco]; rfl) (h1 (cont_f hco))
    have hfl : ((msk (mayR kinds row) t).filter fun c => !(ks σ).contains c).length ≤ 4 := Nat.le_trans (List.length_filter_le _ _) hml
    have hfm : ∀ c ∈ (msk (mayR kinds row) t).filter (fun c => !(ks σ).contains c), c ∈ msk (mayR kinds row) t ∧ c ∉ ks σ := fun c hc => by
      obtain ⟨h1, h2⟩ := List.mem_filter.mp hc
      refine ⟨h1, fun h => ?_⟩
      rw [cont_t h] at h2
      cases h2
    revert hfl hfm
    generalize (msk (mayR kinds row) t).filter (fun c => !(ks σ).contains c) = free
    intro hfl hfm
    refine ⟨(by decide : 0 ≤ sizeLine), shp_l fun c hc => T.mnm c (hfm c hc).1, (Sh.list (k := 0) fun d hd => (by cases hd)).shp (by decide), ?_⟩
    have skip : ∀ n2, n2 ≤ n' + 1 → R [.dat tubD, .dat (webT tags kinds), .dat (ssT row), .dat (tabD (mayR kinds row)), .own (.list (σ.map pT)), .dat (.str t), .dat (.list (sL free)), .no, .no] n2 := fun n2 h2 => hR _ _ ⟨σ, _, _, rfl, hσ, hv, hd', hrd'.2, hk', by omega, by omega⟩
    by_cases hf : free = []
    · subst hf
      refine ifF (ne_nil_f rfl) ?_
      exact skip n' (by omega)
    · refine ifT (ne_nil_t (by simpa [sL] using hf)) ⟨4, rfl, by decide, by decide, by omega, fun r n2 h0 h1 h2 => ⟨trivial, ?_⟩⟩
      show if decide ((0 : Int) < r) = true then _ else _
      by_cases hr : 0 < r
      · refine ifT (decide_eq_true hr) ⟨true, sL free, rfl, by simpa [sL] using hf, by rw [sL_len]; omega, by omega, fun e n3 he hn3 => ?_⟩
        obtain ⟨c, hc, rfl⟩ := List.mem_map.mp he
        obtain ⟨hc1, hc2⟩ := hfm c hc
        refine ⟨(by decide : 2 ≤ sizeLine), by rw [List.length_map]; omega, ?_⟩
        refine hR _ _ ⟨σ ++ [(c, t)], .dat (.str t), .dat (.list (sL free)), by rw [List.map_append]; rfl, seatL_snoc hσ hc1 hc2, ?_, fun z hzz => ?_, hrd'.2, hk', by rw [List.length_append, List.length_singleton]; omega, by omega⟩
        · rw [(List.map_append), List.nodup_append]
          refine ⟨hv, by simp, fun x hx y hy e => ?_⟩
          have : y = t := List.mem_singleton.mp hy
          subst this e
          exact hd x hx List.mem_cons_self
        · rw [List.map_append] at hzz
          rcases List.mem_append.mp hzz with hzz | hzz
          · exact hd' z hzz
          · have : z = t := List.mem_singleton.mp hzz
            subst this
            exact hrd'.1
      · exact ifF (by simpa using hr) (skip n2 h2)
/-! ### _law_box, _law_cells -/
theorem bit01 (b : Bool) : (-(2 ^ 64 : Int) < if b = true then (1 : Int) else 0) ∧ (if b = true then (1 : Int) else 0) < 2 ^ 64 ∧ 0 ≤ (if b = true then (1 : Int) else 0) := by cases b <;> decide
def g__law_box : GF := fun ds n Q => ∃ (cs : List Int) (k : Nat), ds = [.list (cs.map .int), .int k] ∧ k < cs.length ∧ cs.length ≤ 2 ∧ ∀ x y : Int, 0 ≤ x → 0 ≤ y → y < 2 ^ 62 → Q (.list [.int x, .int y, .int 0]) n
theorem law__law_box (ds : List PyData) (n : Nat) (Q : GK) (h : g__law_box ds n Q) : gb__law_box { nx := fun _ _ => False, rt := fun _ _ => False, rf := Q } (startE nm__law_box ds) n := by
  obtain ⟨cs, k, rfl, hk, hl, q⟩ := h
  refine ⟨(by decide : 2 < 3), trivial, ?_⟩
  show if decide ((k : Int) < ((cs.map PyData.int).length : Nat)) = true then _ else _
  rw [List.length_map]
  refine ifT (decide_eq_true (by omega)) ⟨.int cs[k], at_nat (by rw [List.getElem?_map, List.getElem?_eq_getElem hk]; rfl), ?_⟩
  generalize cs[k] = c
  have hM : (0 : Int) < 2305843009213693951 := by decide
  have e1 := Int.emod_nonneg c (show (2305843009213693951 : Int) ≠ 0 by decide)
  have e2 := Int.emod_lt_of_pos c hM
  have hp62 : (2 : Int) ^ 62 = 4611686018427387904 := by decide
  refine ⟨⟨by decide, by decide, by decide⟩, trivial, ?_⟩
  show CMul _ _ ∧ _
  refine ⟨Or.inr ⟨?_, ?_⟩, hM, Or.inl ⟨by decide, by decide⟩, (by decide : 3 ≤ sizeLine), q _ _ ?_ ?_ ?_⟩
  · exact (bit01 _).1
  · exact (bit01 _).2.1
  · refine Int.mul_nonneg ?_ ?_
    · split <;> omega
    · exact (bit01 _).2.2
  · omega
  · omega
theorem enum_int : ∀ (L : List Int) (k : Nat), enumF k (L.map .int) = (L.zipIdx k).map fun p => PyData.tuple [.int (p.2 : Nat), .int p.1]
  | [], _ => rfl
  | x :: L, k => by
    show PyData.tuple [.int (k : Nat), .int x] :: enumF (k + 1) (L.map .int) = _
    rw [enum_int L (k + 1)]
    rfl
theorem cut_map {α β : Type} (f : α → β) (xs : List α) (l h : Option Int) : cutX (xs.map f) l h = (cutX xs l h).map f := by
  unfold cutX
  rw [List.length_map, List.map_take, List.map_drop]
theorem cut_len (ns : List Int) : (cutX ns (some 2) (some 63)).length ≤ ns.length - 2 := by
  unfold cutX
  rw [List.length_take, List.length_drop, show (2 : Int) = ((2 : Nat) : Int) from rfl, HT.sIx_nat]
  omega
def g__law_cells : GF := fun ds n Q => ∃ ns : List Int, ds = [scrD ns, .int 2] ∧ ns.length ≤ 63 ∧ ∀ cs : List Int, 0 < cs.length → cs.length ≤ 2 → Q (.list (cs.map .int)) n
theorem ix_nat {n j : Nat} (h : j < n) : ixN n (j : Int) = some j := by
  unfold ixN
  rw [(if_pos (by omega)), if_pos (by omega)]
  simp
theorem law__law_cells (ds : List PyData) (n : Nat) (Q : GK) (h : g__law_cells ds n Q) : gb__law_cells (RT Q) (startE nm__law_cells ds) n := by
  obtain ⟨ns, rfl, hl, q⟩ := h
  have hp : (2 : Int) ^ 64 = 18446744073709551616 := by decide
  have loop : ∀ cs : List Int, 0 < cs.length → cs.length ≤ 2 → (2 < ns.length → cs.length = 2) → gForL (ggPair 3 4) (gSeq (gSet 5 (gBin oMod (gCall oInt (gCons (gVarB 3) gNil)) (gVarB 1))) (gPutL 2 (gVarB 5) (gBin oAdd (gBin oIx (gVarB 2) (gVarB 5)) (gBin oMul (gVarB 4) (gBin oAdd (gVarB 3) (gC (.int 2))))))) { RT Q with nx := gRet (gVarB 2) (RT Q) } (enumD (cutX (ns.map .int) (some 2) (some 63))) [.dat (scrD ns), .dat (.int 2), .own (.list (cs.map .int)), .no, .no, .no] n := by
    intro cs hc0 hc2 hc
    refine forL_eq (fun p : Int × Nat => PyData.tuple [.int (p.2 : Nat), .int p.1]) ((cutX ns (some 2) (some 63)).zipIdx 0) (by rw [cut_map]; exact enum_int _ 0) (fun rest env n' => n = n' ∧ (∀ p ∈ rest, p ∈ (cutX ns (some 2) (some 63)).zipIdx 0) ∧ ∃ (c : List Int) (x3 x4 x5 : Sl), env = [.dat (scrD ns), .dat (.int 2), .own (.list (c.map .int)), x3, x4, x5] ∧ c.length = cs.length) ⟨rfl, fun p h => h, cs, .no, .no, .no, rfl, rfl⟩ ?_ ?_
    · rintro env n1 ⟨rfl, _, c, x3, x4, x5, rfl, e⟩
      exact q c (by omega) (by omega)
    · rintro ⟨far, k⟩ rest env n1 R ⟨rfl, hr, c, x3, x4, x5, rfl, e⟩ hR
      have hm := hr _ List.mem_cons_self
      have hcl := cut_len ns
      have hklt : k < (cutX ns (some 2) (some 63)).length := by
        have := List.snd_lt_of_mem_zipIdx hm
        simpa using this
      have h2 : c.length = 2 := by rw [e]; exact hc (by omega)
      have hj : k % 2 < c.length := by omega
      have ej : ((k : Nat) : Int) % 2 = ((k % 2 : Nat) : Int) := by omega
      refine ⟨(by decide : 3 < 6), (by decide : 4 < 6), (by decide : 5 < 6), (by decide : (0 : Int) < 2), .int c[k % 2], ?_, Or.inr ⟨?_, ?_⟩, k % 2, ?_, ?_⟩
      · rw [ej]; exact at_nat (by rw [List.getElem?_map, List.getElem?_eq_getElem hj]; rfl)
      · rw [hp]; omega
      · rw [hp]; omega
      · rw [ej]; exact ix_nat (by rw [List.length_map]; exact hj)
      · refine hR _ _ ⟨rfl, fun p h => hr p (List.mem_cons_of_mem _ h), c.set (k % 2) (c[k % 2] + far * ((k : Nat) + 2)), .dat (.int (k : Nat)), .dat (.int far), .dat (.int ((k : Nat) % 2)), ?_, by rw [List.length_set]; exact e⟩
        show [Sl.dat (scrD ns), .dat (.int 2), .own (.list ((c.map PyData.int).set (k % 2) (.int (c[k % 2] + far * ((k : Nat) + 2))))), _, _, _] = _
        rw [List.map_set]
  refine ⟨(by decide : 2 < 6), ?_⟩
  show if (cutX (ns.map PyData.int) none (some 2)).isEmpty = true then _ else _
  rw [show cutX (ns.map PyData.int) none (some 2) = (ns.map PyData.int).take 2 from cut_to _ 2, ← List.map_take]
  cases ns with
  | nil => exact ⟨(by decide : 1 ≤ sizeLine), loop [0] (by decide) (by decide) (fun h => (by simp at h))⟩
  | cons a ns =>
    refine ifF (by simp) ?_
    exact loop ((a :: ns).take 2) (by rw [List.length_take]; simp; omega) (by rw [List.length_take]; omega) (fun h => by rw [List.length_take]; omega)
end M
end

section
namespace M
open PySem PySem.Spec PySem.Calls PyProof.Rows L2 L2.DL Mq

theorem eqv_nilT (ds : List PyData) : PyData.eqv (.tuple ds) (.tuple []) = ds.isEmpty := by
  rw [PyData.eqv]
  cases ds <;> simp [PyData.eqvAll]
/-! ### _law_right -/
def g__law_right : GF := fun ds n Q => ds = [tubD] ∧ n + 100000 < 2 ^ 40 ∧ ∀ n', Q (.bool true) n'
theorem law__law_right (ds : List PyData) (n : Nat) (Q : GK) (h : g__law_right ds n Q) : gb__law_right g__law_web g__law_row g__law_case_right g__law_seats g__law_alone_right g__law_of (RT Q) (startE nm__law_right ds) n := by
  obtain ⟨rfl, hn, q⟩ := h
  have hM := sizeM
  refine ⟨by decide, by decide, ?_⟩
  refine forL_eq (fun i : Nat => PyData.int i) (List.range 8) rfl (fun rest env n' => ∃ x1 x2 x3, env = [.dat tubD, x1, x2, x3] ∧ n' + 1000 * rest.length ≤ n + 8000) ⟨.no, .no, .no, rfl, by simp⟩ ?_ ?_
  · rintro env n' ⟨x1, x2, x3, rfl, _⟩
    exact q n'
  · rintro i rest env n' R ⟨x1, x2, x3, rfl, hn'⟩ hR
    rw [List.length_cons] at hn'
    refine ⟨(by decide : 1 < 4), (by decide : 2 < 4), rfl, by omega, fun tags kinds n1 G h1 => ?_⟩
    refine ⟨(by decide : 3 < 4), tags, kinds, rfl, G, by omega, fun row n2 RG h2 => ?_⟩
    have W := webOk_of G RG
    have htl := G.tl
    refine ⟨tags, kinds, row, tags, rfl, W, by omega, fun ss n3 S h3 => ?_⟩
    refine ⟨tags, kinds, row, ss, tags, rfl, W, by omega, S, ?_⟩
    have shR : shp (ssT row) := (Sh.tuple (pT_sh ⟨RG.nm, fun r hr => G.knm _ (RG.kin r hr)⟩)).shp (by decide)
    · refine ⟨(by decide : 0 ≤ sizeLine), shR, (Sh.tuple (k := 0) fun d hd => (by cases hd)).shp (by decide), ?_⟩
      show if (!PyData.eqv (.tuple (row.map pT)) (.tuple [])) = true then _ else _
      rw [eqv_nilT]
      by_cases hr : row = []
      · subst hr
        refine ifF (by simp) ?_
        exact hR _ _ ⟨_, _, _, rfl, by omega⟩
      · refine ifT (by simpa using hr) ⟨false, row.map pT, rfl, by simpa using hr, by rw [List.length_map]; have := RG.len; omega, by omega, fun e n4 he h4 => ?_⟩
        obtain ⟨r, hr', rfl⟩ := List.mem_map.mp he
        refine ⟨_, at_zero, tags, kinds, row, tags, r.1, rfl, W, by omega, List.mem_map.mpr ⟨r, hr', rfl⟩, ?_⟩
        exact hR _ _ ⟨_, _, _, rfl, by omega⟩
end M
end

section
namespace M
open PySem PySem.Spec PySem.Calls PyProof.Rows L2 L2.DL Mq
variable [TabsOf]

/-! ### the same defs where the task is not in the row -/
section
variable {P : Program} {w : World} {K : PySem.W.Frag} {mg : Str → Option Value} {base : Heap} {C fI cc cda : Addr}
def gx_check_task : GX := fun ds x => ∃ b rs, ds = [readyD b rs, .str x] ∧ rs.length ≤ 1000 ∧ (∀ y ∈ tks rs, Nm y) ∧ Nm x ∧ x ∉ tks rs
theorem fx_check_task (T : Bt mg) (h_tasks_of : Has P w K mg base "tasks_of" 1 ["ready"] g_tasks_of) (TN : NtC P K C fI cc cda) (R : NtR K C) (hm : mg "NoTask" = some (.ref C)) {f : Addr} {fd : FuncData} (F : Fun K "check_task" "check_task" (top 13) f fd) : FnOk P w K mg base (L2.CX P w) 2 f fd ["ready", "task"] (spX K C gx_check_task) :=
  fn_x (k := 1) (t := fun E => tIfNt K C (gTst (gBin oNotIn (gVarB 1) (gFun g_tasks_of (gCons (gVar 0) gNil)))) (gVar 1) E) F sc_check_task (fun ds x h => by obtain ⟨b, rs, rfl, _⟩ := h; rfl) (by decide)
    (fun cdv A outer s H E hr => ss_ifNt (k := 0) TN R hr rfl (takes_of rfl rfl rfl rfl) (by rfl) hm (t_cmp (p_notin (rm65 hr)) (bv 1) (DE.db (d_has h_tasks_of (hr.mono (by decide)) (da_cons (dv 0) da_nil))) (by rfl)) (dv 1))
    (fun ds n y h E D σ H c Ev k => by
      obtain ⟨b, rs, rfl, h1, h2, h3, h4⟩ := h
      refine ifNt_go Ev ?_ k
      refine ⟨b, rs, rfl, h1, shp_s h3, shp_l h2, ?_, rfl⟩
      show (!((sL (tks rs)).any fun z => PyData.eqv z (PyData.str y))) = true
      rw [any_s]
      exact notin_f h4)
def gx_best_way : GX := fun ds x => ∃ book b rs seating, ds = [book, readyD b rs, seating, .str x, .bool true] ∧ rs.length ≤ 1000 ∧ (∀ y ∈ tks rs, Nm y) ∧ Nm x ∧ x ∉ tks rs
theorem fx_best_way (h : HasX P w K mg base "check_task" 2 ["ready", "task"] C gx_check_task) {f : Addr} {fd : FuncData} (F : Fun K "best_way" "best_way" (top 28) f fd) : FnOk P w K mg base (L2.CX P w) 3 f fd ["book", "ready", "seating", "task", "right"] (spX K C gx_best_way) := by
  obtain ⟨f0, fd0, hm, hk, hb, F0⟩ := h.ex
  exact fn_x (k := 2) (t := fun E => tSeq (tDrop (tCall (spX K C gx_check_task) [] E (tDA K (gCons (gVar 1) (gCons (gVar 3) gNil))))) (fun _ _ _ => False)) F sc_best_way (fun ds x h => by obtain ⟨book, b, rs, se, rfl, _⟩ := h; rfl) (by decide)
    (fun cdv A outer s H E hr => pss_cons (ps_expr (pe_callNt F0 (takes_of rfl rfl rfl rfl) hr (by rfl) hm hk hb (da_cons (dv 1) (da_cons (dv 3) da_nil)))) L2.DL.pss_never)
    (fun ds n y h E D σ H c Ev k => by
      obtain ⟨book, b, rs, se, rfl, h1, h2, h3, h4⟩ := h
      exact callX_go Ev ⟨b, rs, rfl, h1, h2, h3, h4⟩ k)
def gx_shift : GX := fun ds x => ∃ book b rs seating, ds = [book, readyD b rs, seating, .str x] ∧ rs.length ≤ 1000 ∧ (∀ y ∈ tks rs, Nm y) ∧ Nm x ∧ x ∉ tks rs
theorem fx_a_right_shift (h : HasX P w K mg base "best_way" 3 ["book", "ready", "seating", "task", "right"] C gx_best_way) {f : Addr} {fd : FuncData} (F : Fun K "a_right_shift" "a_right_shift" (top 30) f fd) : FnOk P w K mg base (L2.CX P w) 4 f fd ["book", "ready", "seating", "task"] (spX K C gx_shift) := by
  obtain ⟨f0, fd0, hm, hk, hb, F0⟩ := h.ex
  exact fn_x (k := 3) (t := fun E => tRet (tCall (spX K C gx_best_way) [] E (tDA K (gCons (gVar 0) (gCons (gVar 1) (gCons (gVar 2) (gCons (gVar 3) (gCons (gC (.bool true)) gNil)))))))) F sc_a_right_shift (fun ds x h => by obtain ⟨book, b, rs, se, rfl, _⟩ := h; rfl) (by decide)
    (fun cdv A outer s H E hr => pss_one (ps_ret (pe_callNt F0 (takes_of rfl rfl rfl rfl) hr (by rfl) hm hk hb (da_cons (dv 0) (da_cons (dv 1) (da_cons (dv 2) (da_cons (dv 3) (da_cons d_bl da_nil))))))))
    (fun ds n y h E D σ H c Ev k => by
      obtain ⟨book, b, rs, se, rfl, h1, h2, h3, h4⟩ := h
      exact callX_go Ev ⟨book, b, rs, se, rfl, h1, h2, h3, h4⟩ k)
theorem fx_right_moves {g : GF} (hmv : Has P w K mg base "moves_of" 1 ["way"] g) (h : HasX P w K mg base "best_way" 3 ["book", "ready", "seating", "task", "right"] C gx_best_way) {f : Addr} {fd : FuncData} (F : Fun K "right_moves" "right_moves" (top 31) f fd) : FnOk P w K mg base (L2.CX P w) 4 f fd ["book", "ready", "seating", "task"] (spX K C gx_shift) := by
  obtain ⟨f0, fd0, hm, hk, hb, F0⟩ := h.ex
  obtain ⟨f1, fd1, hm1, hk1, hb1, F1⟩ := hmv.ex
  exact fn_x (k := 3) (t := fun E => tRet (tCall (spD K g) [] E0 (tCons (tCall (spX K C gx_best_way) [] E (tDA K (gCons (gVar 0) (gCons (gVar 1) (gCons (gVar 2) (gCons (gVar 3) (gCons (gC (.bool true)) gNil))))))) tNil))) F sc_right_moves (fun ds x h => by obtain ⟨book, b, rs, se, rfl, _⟩ := h; rfl) (by decide)
    (fun cdv A outer s H E hr => pss_one (ps_ret (pe_call (E := E0) F1 (hr.mono (by decide)) (by rfl) hm1 hk1 hb1 .nil pass0 (pa_cons (pe_callNt F0 (takes_of rfl rfl rfl rfl) hr (by rfl) hm hk hb (da_cons (dv 0) (da_cons (dv 1) (da_cons (dv 2) (da_cons (dv 3) (da_cons d_bl da_nil)))))) pa_nil) (by decide) (by rfl) (by rfl))))
    (fun ds n y h E D σ H c Ev k => by
      obtain ⟨book, b, rs, se, rfl, h1, h2, h3, h4⟩ := h
      exact callX_go Ev ⟨book, b, rs, se, rfl, h1, h2, h3, h4⟩ k)
/-! ### _law_heard -/
abbrev nm__law_heard : List Str := ["_law_door", "_law_web_here", "_law_row_so", "_law_seats_so", "_law_tag", "_law_caught", "_law_said_so", "error"]
theorem sc__law_heard : FnScope nm__law_heard ["_law_door", "_law_web_here", "_law_row_so", "_law_seats_so", "_law_tag"] (defScope (top 56)) := ⟨rfl, rfl, rfl, by decide +kernel, rfl, by decide +kernel, by decide +kernel⟩
def gb__law_heard : GS := gSeq (gPar [5, 6] [false, false] (gCons (gC .none) (gCons (gC .none) gNil))) (gSeq (gTryNt (gTst (gBin oEq (gVarB 0) (gC (.int 0)))) (gCons (gVar 1) (gCons (gVar 2) (gCons (gVar 3) (gCons (gVar 4) gNil)))) gx_shift (gCons (gVar 1) (gCons (gVar 2) (gCons (gVar 3) (gCons (gVar 4) gNil)))) gx_shift 7 5) (gRet (gIf (gTst (gBin oIs (gVarB 5) (gC .none))) (gVar 6) (gVar 5))))
structure NtK (K : PySem.W.Frag) (C : Addr) : Prop where
  xf : XfC K C
  xno : PySem.W.findIn K (.ref C) "name" = some none
  xc : ExcC K C
  hex : PySem.W.exmOne K (.ref C) (.ref C) = some true
  hkit : PySem.W.kitOne K (.ref C) (.type "LookupError") = some true
theorem w__law_heard (T : Bt mg) (NK : NtK K C) (hnt : mg "NoTask" = some (.ref C)) (h1 : HasX P w K mg base "right_moves" 4 ["book", "ready", "seating", "task"] C gx_shift) (h2 : HasX P w K mg base "a_right_shift" 4 ["book", "ready", "seating", "task"] C gx_shift) {f : Addr} {cdv : Value} {A : Around} {outer : List Env} {s : Shared} {H : Hp} {E : XK} (hr : Room 4 (A.deeper (envOfC "_law_heard" (defScope (top 56)) s.heap.objs.size f cdv))) :
    DSs (cxOf CX0 P w K mg base nm__law_heard "_law_heard" (defScope (top 56)) f cdv A outer s H E).nox (defBody (top 56)) gb__law_heard := by
  have nd := sc__law_heard.nd
  obtain ⟨f0, fd0, hm0, hk0, hb0, F0⟩ := h1.ex
  obtain ⟨f1, fd1, hm1, hk1, hb1, F1⟩ := h2.ex
  exact (ss_cons (s_tup2 (i := 5) (j := 6) (by rfl) nd (by rfl) (by rfl) (by first | exact Or.inl rfl | exact Or.inr rfl) (by first | exact Or.inl rfl | exact Or.inr rfl) (dk_dat d_non (dk_dat d_non dk_nil)) rfl (by rfl))
    (ss_cons (s_tryNt (i := 7) (j := 5) (m := 6) rfl rfl nd (by rfl) (by rfl) (by rfl) (by first | exact Or.inl rfl | exact Or.inr rfl) (Or.inl rfl) (by rfl) (by first | exact Or.inl rfl | exact Or.inr rfl) (Or.inl rfl) ⟨by rfl, by decide, Or.inl hnt⟩ NK.xf NK.xno NK.xc NK.hex NK.hkit (by rfl) T.isi (by rfl) T.lke (by first | exact Or.inl rfl | exact Or.inr (Or.inl rfl) | exact Or.inr (Or.inr rfl)) (by decide) (by decide)
      (fun pn xe => t_cmp (p_eq (rm64 hr)) (bv 0) (DE.db d_int) (by rfl))
      (fun W pn xe tk => pe_callS F0 hr (by rfl) hm0 hk0 hb0 (fun σ => passAt tk σ) (DA.pe (da_cons (dv 1) (da_cons (dv 2) (da_cons (dv 3) (da_cons (dv 4) da_nil))))))
      (fun W pn xe tk => pe_callS F1 hr (by rfl) hm1 hk1 hb1 (fun σ => passAt tk σ) (DA.pe (da_cons (dv 1) (da_cons (dv 2) (da_cons (dv 3) (da_cons (dv 4) da_nil))))))
      (by rfl) (by rfl))
    (ss_one (s_ret (d_if (t_cmp p_is (bv 5) (DE.db d_non) (by rfl)) (dv 6) (dv 5))))))
end
def g__law_heard : GF := fun ds n Q => ∃ door book b rs seating x, ds = [.int door, book, readyD b rs, seating, .str x] ∧ rs.length ≤ 1000 ∧ (∀ y ∈ tks rs, Nm y) ∧ Nm x ∧ x ∉ tks rs ∧ ∀ n', Q (.list [.str x, .bool true]) n'
theorem law__law_heard (ds : List PyData) (n : Nat) (Q : GK) (h : g__law_heard ds n Q) : gb__law_heard (RT Q) (startE nm__law_heard ds) n := by
  obtain ⟨door, book, b, rs, seating, x, rfl, h1, h2, h3, h4, q⟩ := h
  refine ⟨parB 8 rfl (by decide), rfl, by decide, by show 5 < 8; decide, Sh.int.shp (Nat.zero_le _), Sh.int.shp (Nat.zero_le _), x, ?_, fun n' => q n'⟩
  split <;> exact ⟨book, b, rs, seating, rfl, h1, h2, h3, h4⟩
end M
end

section
namespace M
open PySem PySem.Spec PySem.Calls PyProof.Rows L2 L2.DL Mq

/-! ### seat_more, as it runs -/
def smIn (ss : Ss) (m : Str) (way : Ss) : List Str → List (Str × Ss) → List Str → Ss ⊕ (List (Str × Ss) × List Str)
  | [], ws, seen => .inr (ws, seen)
  | c :: cs, ws, seen => if c ∈ seen then smIn ss m way cs ws seen else match sg ss c with
    | none => .inl ((way ++ [(c, m)]).foldl (fun z p => putS z p.1 p.2) ss)
    | some u => smIn ss m way cs (ws ++ [(u, way ++ [(c, m)])]) (seen ++ [c])
def smGo (tab : Tab) (ss : Ss) : Nat → List (Str × Ss) → List Str → Option Ss
  | 0, _, _ => none
  | _ + 1, [], _ => none
  | k + 1, (m, way) :: ws, seen => match smIn ss m way (msk tab m) ws seen with
    | .inl r => some r
    | .inr (ws', seen') => smGo tab ss k ws' seen'
def smT (tab : Tab) (ss : Ss) (t : Str) : Option Ss := smGo tab ss 5 [(t, [])] []
def moreD : Option Ss → PyData
  | none => .none
  | some r => seatD r
def wyD (p : Str × Ss) : PyData := .tuple [.str p.1, ssT p.2]
def g_seat_more : GF := fun ds n Q => ∃ tab U ss t, ds = [tabD tab, seatD ss, .str t] ∧ TabOk tab U ∧ (∀ c m, sg ss c = some m → m ∈ ks tab) ∧ ss.length ≤ 1000 ∧ t ∈ ks tab ∧ Q (moreD (smT tab ss t)) n
theorem law_seat_more (ds : List PyData) (n : Nat) (Q : GK) (h : g_seat_more ds n Q) : gb_seat_more (RT Q) (startE nm_seat_more ds) n := by
  obtain ⟨tab, U, ss, t, rfl, T, S, hsl, ht, q⟩ := h
  have hM := sizeM
  have hlU := T.lU
  unfold gb_seat_more gSeq
  refine par_step [.list [.tuple [.str t, .tuple []]], .list []] [.dat (tabD tab), .dat (seatD ss), .dat (.str t), .own (.list [wyD (t, [])]), .own (.list (sL [])), .no, .no, .no, .no, .no, .no, .no] (parB 12 rfl (by decide)) (fun R h => ⟨(by decide : 0 ≤ sizeLine), (by decide : 2 ≤ sizeLine), (by decide : 1 ≤ sizeLine), (by decide : 0 ≤ sizeLine), h⟩) rfl ?_
  refine while_inv (fun m env n' => n = n' ∧ m ≤ 5 ∧ ∃ ws seen x5 x6 x7 x8, env = [.dat (tabD tab), .dat (seatD ss), .dat (.str t), .own (.list (ws.map wyD)), .own (.list (sL seen)), x5, x6, x7, x8, .no, .no, .no] ∧ (∀ w ∈ ws, w.1 ∈ ks tab ∧ w.2.length + m ≤ 5) ∧ seen.Nodup ∧ (∀ c ∈ seen, c ∈ U) ∧ ws.length + (U.length - seen.length) ≤ m ∧ smGo tab ss m ws seen = smT tab ss t) ?_ (m := 5) ⟨rfl, Nat.le_refl _, [(t, [])], [], .no, .no, .no, .no, rfl, fun w hw => ?_, List.nodup_nil, fun c hc => (by cases hc), by simp; omega, rfl⟩
  · rintro m env n1 R ⟨rfl, h5, ws, seen, x5, x6, x7, x8, rfl, hws, hnd, hsub, hm, hb⟩ hR
    refine ⟨trivial, ?_⟩
    show if decide ((0 : Int) < ((ws.map wyD).length : Nat)) = true then _ else _
    cases ws with
    | nil =>
      refine ifF (by simp) ?_
      have : smGo tab ss m [] seen = none := by cases m <;> rfl
      rw [this] at hb
      rw [← hb] at q
      exact q
    | cons w ws =>
      obtain ⟨mv, way⟩ := w
      obtain ⟨hmv, hwl⟩ := hws _ List.mem_cons_self
      cases m with
      | zero => simp at hm
      | succ k =>
        refine ifT (by simp) ⟨_, at_zero, (by decide : 5 < 12), (by decide : 6 < 12), (by decide : 3 < 12), ?_⟩
        have hcut : cutX (wyD (mv, way) :: ws.map wyD) (some 1) none = ws.map wyD := cut_from _ _
        refine ⟨dOk_map _ _, rfl, _, tab_look (look_mk hmv), (T.sort mv).1, ?_⟩
        have hb' : (match smIn ss mv way (msk tab mv) ws seen with | .inl r => some r | .inr (ws', seen') => smGo tab ss k ws' seen') = smT tab ss t := hb
        have hwl : way.length + (k + 1) ≤ 5 := hwl
        refine forL_eq PyData.str (msk tab mv) (T.sort mv).2 (fun rest env n' => n = n' ∧ (∀ c ∈ rest, c ∈ msk tab mv) ∧ ∃ ws' seen' x7 x8, env = [.dat (tabD tab), .dat (seatD ss), .dat (.str t), .own (.list (ws'.map wyD)), .own (.list (sL seen')), .dat (.str mv), .dat (ssT way), x7, x8, .no, .no, .no] ∧ (∀ w ∈ ws', w.1 ∈ ks tab ∧ w.2.length + k ≤ 5) ∧ seen'.Nodup ∧ (∀ c ∈ seen', c ∈ U) ∧ ws'.length + (U.length - seen'.length) ≤ k ∧ (match smIn ss mv way rest ws' seen' with | .inl r => some r | .inr (ws', seen') => smGo tab ss k ws' seen') = smT tab ss t) ⟨rfl, fun c h => h, ws, seen, x7, x8, ?_, fun w hw => ?_, hnd, hsub, by simp at hm ⊢; omega, hb'⟩ ?_ ?_
        · show [Sl.dat (tabD tab), .dat (seatD ss), .dat (.str t), .own (.list (cutX (wyD (mv, way) :: ws.map wyD) (some 1) none)), .own (.list (sL seen)), .dat (.str mv), .dat (ssT way), x7, x8, .no, .no, .no] = _
          rw [hcut]
        · obtain ⟨h1, h2⟩ := hws w (List.mem_cons_of_mem _ hw)
          exact ⟨h1, by omega⟩
        · rintro env n1 ⟨rfl, _, ws', seen', x7, x8, rfl, h1, h2, h3, h4, h6⟩
          exact hR k _ _ (Nat.lt_succ_self _) ⟨rfl, by omega, ws', seen', _, _, _, _, rfl, h1, h2, h3, h4, h6⟩
        · rintro c rest env n1 R2 ⟨rfl, hrest, ws', seen', x7, x8, rfl, h1, h2, h3, h4, h6⟩ hR2
          have hc := hrest c List.mem_cons_self
          have hcU := T.mU mv c hc
          have hrest' := fun x hxz => hrest x (List.mem_cons_of_mem _ hxz)
          refine ⟨(by decide : 7 < 12), shp_s (T.mnm c hc), shp_l fun z hz => T.nmU z (h3 z hz), ?_⟩
          show if (!((sL seen').any fun z => PyData.eqv z (PyData.str c))) = true then _ else _
          rw [any_s]
          have e6 : smIn ss mv way (c :: rest) ws' seen' = if c ∈ seen' then smIn ss mv way rest ws' seen' else match sg ss c with
            | none => .inl ((way ++ [(c, mv)]).foldl (fun z p => putS z p.1 p.2) ss)
            | some u => smIn ss mv way rest (ws' ++ [(u, way ++ [(c, mv)])]) (seen' ++ [c]) := rfl
          by_cases hs : c ∈ seen'
          · rw [e6, if_pos hs] at h6
            refine ifF (notin_t hs) ?_
            exact hR2 _ _ ⟨rfl, hrest', ws', seen', _, _, rfl, h1, h2, h3, h4, h6⟩
          · rw [e6, if_neg hs] at h6
            have hnd' : (seen' ++ [c]).Nodup := by
              rw [List.nodup_append]
              exact ⟨h2, by simp, fun x hxz y hy e => by
                obtain rfl := List.mem_singleton.mp hy
                exact hs (e ▸ hxz)⟩
            have hsub' : ∀ x ∈ seen' ++ [c], x ∈ U := fun x hxz => by
              rcases List.mem_append.mp hxz with hxz | hxz
              · exact h3 x hxz
              · obtain rfl := List.mem_singleton.mp hxz; exact hcU
            have hle := nodup_le hnd' hsub'
            rw [List.length_append, List.length_singleton] at hle
            refine ifT (notin_f hs) ⟨by rw [sL_len]; omega, (by decide : 8 < 12), (by decide : 2 ≤ sizeLine), ?_, dOk_map _ _, rfl, ?_⟩
            · show (way.map pT ++ [_]).length ≤ _
              rw [List.length_append, List.length_map, List.length_singleton]
              omega
            have elong : PyData.tuple (way.map pT ++ [.tuple [.str c, .str mv]]) = ssT (way ++ [(c, mv)]) := by
              unfold ssT
              rw [List.map_append]; rfl
            show if (!(lookD (mapD PyData.str ss) (PyData.str c)).isSome) = true then _ else _
            rw [ss_some]
            cases es : sg ss c with
            | none =>
              rw [es] at h6
              have h6 : some ((way ++ [(c, mv)]).foldl (fun z p => putS z p.1 p.2) ss) = smT tab ss t := h6
              refine ifT rfl ⟨(by decide : 9 < 12), dOk_map _ _, ?_⟩
              refine forL_eq pT (way ++ [(c, mv)]) (by show way.map pT ++ [_] = _; rw [List.map_append]; rfl) (fun rest env n' => n = n' ∧ ∃ z y10 y11, env = [.dat (tabD tab), .dat (seatD ss), .dat (.str t), .own (.list (ws'.map wyD)), .own (.list (sL seen' ++ [PyData.str c])), .dat (.str mv), .dat (ssT way), .dat (.str c), .dat (.tuple (way.map pT ++ [.tuple [.str c, .str mv]])), .own (seatD z), y10, y11] ∧ rest.foldl (fun z p => putS z p.1 p.2) z = (way ++ [(c, mv)]).foldl (fun z p => putS z p.1 p.2) ss ∧ z.length + rest.length ≤ 2000) ⟨rfl, ss, .no, .no, rfl, rfl, by rw [List.length_append, List.length_singleton]; omega⟩ ?_ ?_
              · rintro env n1 ⟨rfl, z, y10, y11, rfl, e, _⟩
                have e : z = (way ++ [(c, mv)]).foldl (fun z p => putS z p.1 p.2) ss := e
                rw [← h6, ← e] at q
                exact q
              · rintro p rest2 env n1 R3 ⟨rfl, z, y10, y11, rfl, e, hzl⟩ hR3
                have := putS_len z p.1 p.2
                rw [List.length_cons] at hzl
                refine ⟨(by show 10 < 12; decide), (by show 11 < 12; decide), rfl, ?_, ?_⟩
                · show (z.map _).length < _
                  rw [List.length_map]
                  omega
                · refine hR3 _ _ ⟨rfl, putS z p.1 p.2, .dat (.str p.1), .dat (.str p.2), ?_, e, by omega⟩
                  show [Sl.dat (tabD tab), .dat (seatD ss), .dat (.str t), .own (.list (ws'.map wyD)), .own (.list (sL seen' ++ [PyData.str c])), .dat (.str mv), .dat (ssT way), .dat (.str c), .dat (.tuple (way.map pT ++ [.tuple [.str c, .str mv]])), .own (.dict (putD (mapD PyData.str z) (.str p.1) (.str p.2))), .dat (.str p.1), .dat (.str p.2)] = _
                  rw [put_map]
                  rfl
            | some u =>
              rw [es] at h6
              have h6 : (match smIn ss mv way rest (ws' ++ [(u, way ++ [(c, mv)])]) (seen' ++ [c]) with | .inl r => some r | .inr (ws', seen') => smGo tab ss k ws' seen') = smT tab ss t := h6
              refine ifF (by simp) ⟨dOk_map _ _, rfl, _, ss_look es, (by decide : 2 ≤ sizeLine), by rw [List.length_map]; omega, ?_⟩
              refine hR2 _ _ ⟨rfl, hrest', ws' ++ [(u, way ++ [(c, mv)])], seen' ++ [c], .dat (.str c), .dat (.tuple (way.map pT ++ [.tuple [.str c, .str mv]])), ?_, fun w hw => ?_, hnd', hsub', ?_, h6⟩
              · show [Sl.dat (tabD tab), .dat (seatD ss), .dat (.str t), .own (.list (ws'.map wyD ++ [.tuple [.str u, .tuple (way.map pT ++ [.tuple [.str c, .str mv]])]])), .own (.list (sL seen' ++ [PyData.str c])), .dat (.str mv), .dat (ssT way), .dat (.str c), .dat (.tuple (way.map pT ++ [.tuple [.str c, .str mv]])), .no, .no, .no] = _
                rw [elong, sL_app, List.map_append]
                rfl
              · rcases List.mem_append.mp hw with hw | hw
                · exact h1 w hw
                · obtain rfl := List.mem_singleton.mp hw
                  exact ⟨S c u es, by show (way ++ [(c, mv)]).length + k ≤ 5; rw [List.length_append, List.length_singleton]; omega⟩
              · rw [List.length_append, List.length_append, List.length_singleton, List.length_singleton]
                omega
  · obtain rfl := List.mem_singleton.mp hw
    exact ⟨ht, by show 0 + 5 ≤ 5; decide⟩
end M
end

section
namespace M
open PySem PySem.Spec PySem.Calls PyProof.Rows L2 L2.DL Mq

/-! ### the data given by hand -/
def kitT : List Str := ["p", "q"]
def kitK : Tab := [("a", ["p"]), ("b", ["p", "q"])]
def rowA : Ss := [("t", "b"), ("v", "a"), ("u", "b")]
def seatsA : Ss := [("p", "t"), ("q", "u")]
def firstA : Ss := [("v", "a"), ("x", "b"), ("y", "b")]
def thereA : Ss := [("p", "x"), ("q", "y")]
def halfA : Ss := [("p", "y")]
def lineT : List Str := ["p", "q", "r"]
def lineK : Tab := [("a", ["p", "q"]), ("b", ["q", "r"]), ("k", ["q"]), ("m", ["r"])]
def longA : Ss := [("v", "k"), ("t", "a"), ("u", "b"), ("w", "m")]
def fullA : Ss := [("p", "t"), ("q", "u"), ("r", "w")]
def csB (cs : List Str) : Bool := !cs.isEmpty && decide (cs.Pairwise fun a b => strLe a b = true) && decide cs.Nodup
theorem csB_ok {cs : List Str} (h : csB cs = true) : CsOk cs := by
  unfold csB at h
  rw [Bool.and_eq_true, Bool.and_eq_true] at h
  exact ⟨fun e => by rw [e] at h; exact Bool.false_ne_true h.1.1, of_decide_eq_true h.1.2, of_decide_eq_true h.2⟩
def webB (tags : List Str) (kinds : Tab) : Bool := decide tags.Nodup && decide (tags.length ≤ 4) && tags.all NmB && decide (ks kinds).Nodup && decide (kinds.length ≤ 4) && !kinds.isEmpty && (ks kinds).all NmB && kinds.all fun p => csB p.2 && p.2.all fun c => decide (c ∈ tags)
theorem webB_ok {tags : List Str} {kinds : Tab} (h : webB tags kinds = true) : WebG tags kinds := by
  unfold webB at h
  simp only [(Bool.and_eq_true)] at h
  obtain ⟨⟨⟨⟨⟨⟨⟨h1z, h2z⟩, h3z⟩, h4z⟩, h5z⟩, h6z⟩, h7z⟩, h8z⟩ := h
  refine ⟨of_decide_eq_true h1z, of_decide_eq_true h2z, fun c hc => List.all_eq_true.mp h3z c hc, of_decide_eq_true h4z, of_decide_eq_true h5z, fun e => (by rw [e] at h6z; cases h6z), fun c hc => List.all_eq_true.mp h7z c hc, fun p hp => ?_⟩
  have := List.all_eq_true.mp h8z p hp
  rw [Bool.and_eq_true] at this
  exact ⟨csB_ok this.1, fun c hc => of_decide_eq_true (List.all_eq_true.mp this.2 c hc)⟩
def rowB (kinds : Tab) (row : Ss) : Bool := decide (ks row).Nodup && row.all (fun r => NmB r.1) && decide (row.length ≤ 6) && row.all fun r => decide (r.2 ∈ ks kinds)
theorem rowB_ok {kinds : Tab} {row : Ss} (h : rowB kinds row = true) : RowG kinds row := by
  unfold rowB at h
  simp only [(Bool.and_eq_true)] at h
  obtain ⟨⟨⟨h1z, h2z⟩, h3z⟩, h4z⟩ := h
  exact ⟨of_decide_eq_true h1z, fun r hr => List.all_eq_true.mp h2z r hr, of_decide_eq_true h3z, fun r hr => of_decide_eq_true (List.all_eq_true.mp h4z r hr)⟩
def ssOkB (tab : Tab) (ss : Ss) : Bool := decide (ks ss).Nodup && decide (ss.map (·.2)).Nodup && ss.all fun p => decide (p.1 ∈ msk tab p.2)
theorem ssB_ok {tab : Tab} {ss : Ss} (h : ssOkB tab ss = true) : SsOk tab ss := by
  unfold ssOkB at h
  simp only [(Bool.and_eq_true)] at h
  obtain ⟨⟨h1, h2⟩, h3⟩ := h
  exact ⟨of_decide_eq_true h1, of_decide_eq_true h2, fun p hp => of_decide_eq_true (List.all_eq_true.mp h3 p hp)⟩
theorem gKit : WebG kitT kitK := webB_ok (by decide +kernel)
theorem gLine : WebG lineT lineK := webB_ok (by decide +kernel)
theorem wA : WebOk kitK rowA kitT := webOk_of gKit (rowB_ok (by decide +kernel))
theorem wF : WebOk kitK firstA kitT := webOk_of gKit (rowB_ok (by decide +kernel))
theorem wL : WebOk lineK longA lineT := webOk_of gLine (rowB_ok (by decide +kernel))
theorem sA : SsOk (mayR kitK rowA) seatsA := ssB_ok (by decide +kernel)
theorem sF : SsOk (mayR kitK firstA) thereA := ssB_ok (by decide +kernel)
theorem sH : SsOk (mayR kitK firstA) halfA := ssB_ok (by decide +kernel)
theorem sE : SsOk (mayR kitK firstA) [] := ssB_ok (by decide +kernel)
theorem sL3 : SsOk (mayR lineK longA) fullA := ssB_ok (by decide +kernel)
theorem bAt : bestW (mayR kitK rowA) seatsA "t" = none := by decide +kernel
theorem bAv : bestW (mayR kitK rowA) seatsA "v" = some (["q", "p"] : List Str) := by decide +kernel
theorem bAu : bestW (mayR kitK rowA) seatsA "u" = none := by decide +kernel
theorem bFv : bestW (mayR kitK firstA) thereA "v" = some (["q", "p"] : List Str) := by decide +kernel
theorem bFx : bestW (mayR kitK firstA) thereA "x" = none := by decide +kernel
theorem bHv : bestW (mayR kitK firstA) halfA "v" = some (["q", "p"] : List Str) := by decide +kernel
theorem bHx : bestW (mayR kitK firstA) halfA "x" = some (["q"] : List Str) := by decide +kernel
theorem bEv : bestW (mayR kitK firstA) [] "v" = some (["p"] : List Str) := by decide +kernel
theorem fAv : flat seatsA "v" ["q", "p"] = (["v", "p", "t", "q"] : List Str) := by decide +kernel
theorem fFv : flat thereA "v" ["q", "p"] = (["v", "p", "x", "q"] : List Str) := by decide +kernel
theorem i1 : smT (mayR kitK firstA) [] "v" = some ([("p", "v")] : Ss) := by decide +kernel
theorem i2 : smT (mayR kitK firstA) [("p", "v")] "x" = some ([("p", "v"), ("q", "x")] : Ss) := by decide +kernel
theorem i3 : smT (mayR kitK firstA) [("p", "v"), ("q", "x")] "y" = none := by decide +kernel
theorem i4 : sortS ["v", "x"] = (["v", "x"] : List Str) := sortS_of (by decide +kernel)
/-! ### ideal, there -/
def g_seat_all : GF := fun ds n Q => ds = [webT kitT kitK, ssT firstA] ∧ Q (seatD [("p", "v"), ("q", "x")]) n
theorem sg_all {tab : Tab} {ss : Ss} (h : (ss.all fun p => decide (p.2 ∈ ks tab)) = true) : ∀ c m, sg ss c = some m → m ∈ ks tab := fun c m e => of_decide_eq_true (List.all_eq_true.mp h _ (look_mem e))
theorem law_seat_all (ds : List PyData) (n : Nat) (Q : GK) (h : g_seat_all ds n Q) : gb_seat_all g_may_table g_tasks_of g_seat_more (RT Q) (startE nm_seat_all ds) n := by
  obtain ⟨rfl, q⟩ := h
  have C := case_t (tags := kitT) wF sE
  have T := wF.T
  refine ⟨parB 6 rfl (by decide), _, _, mayR kitK firstA, rfl, C.br, ?_⟩
  refine ⟨false, firstA.map fun r => (false, r.1, r.2), rfl, by decide, ?_⟩
  refine ⟨(by decide : 4 < 6), (by decide : 5 < 6), mayR kitK firstA, kitT, [], "v", rfl, T, sg_all (by decide +kernel), by decide, by decide +kernel, ?_⟩
  rw [i1]
  refine ⟨(by decide : 3 < 6), ?_⟩
  refine ⟨(by decide : 4 < 6), (by decide : 5 < 6), mayR kitK firstA, kitT, [("p", "v")], "x", rfl, T, sg_all (by decide +kernel), by decide, by decide +kernel, ?_⟩
  rw [i2]
  refine ⟨(by decide : 3 < 6), ?_⟩
  refine ⟨(by decide : 4 < 6), (by decide : 5 < 6), mayR kitK firstA, kitT, [("p", "v"), ("q", "x")], "y", rfl, T, sg_all (by decide +kernel), by decide, by decide +kernel, ?_⟩
  rw [i3]
  exact q
def g_ideal : GF := fun ds n Q => ds = [webT kitT kitK, ssT firstA] ∧ Q (.tuple (sL ["v", "x"])) n
theorem law_ideal (ds : List PyData) (n : Nat) (Q : GK) (h : g_ideal ds n Q) : gb_ideal g_seat_all (RT Q) (startE nm_ideal ds) n := by
  obtain ⟨rfl, q⟩ := h
  refine ⟨rfl, dOk_map _ _, sortOk_s (xs := ["v", "x"]) (fun x hx => ?_), ?_⟩
  · have : (["v", "x"] : List Str).all NmB = true := by decide +kernel
    exact List.all_eq_true.mp this x hx
  · show Q (.tuple ((sL ["v", "x"]).mergeSort dle)) n
    rw [sort_sL, i4]
    exact q
def g__law_kit : GF := fun ds n Q => ds = [] ∧ Q (webT kitT kitK) n
theorem law__law_kit (ds : List PyData) (n : Nat) (Q : GK) (h : g__law_kit ds n Q) : gb__law_kit (RT Q) (startE nm__law_kit ds) n := by
  obtain ⟨rfl, q⟩ := h
  exact ⟨(by decide : 2 ≤ sizeLine), (by decide : 1 ≤ sizeLine), (by decide : 2 ≤ sizeLine), (by decide : 2 ≤ sizeLine), (by decide : 2 ≤ sizeLine), (by decide : 2 ≤ sizeLine), (by decide : 2 ≤ sizeLine), q⟩
end M
end

section
namespace M
open PySem PySem.Spec PySem.Calls PyProof.Rows L2 L2.DL Mq

theorem set_step {i : Nat} {ge : GE} {D : DEnds} {env : List Sl} {n : Nat} (v : PyData) (env' : List Sl) (hi : i < env.length) (h : ∀ R : GK, R v n → ge env n R) (he : env.set i (.dat v) = env') (q : D.nx env' n) : gSet i ge D env n :=
  ⟨hi, h _ (by rw [he]; exact q)⟩
def okSB : Nat → PyData → Bool
  | _, .none => true
  | _, .bool _ => true
  | _, .int _ => true
  | _, .str x => PyData.strOk x
  | 0, _ => false
  | k + 1, .list ds => decide (ds.length ≤ 1000) && ds.all (okSB k)
  | k + 1, .tuple ds => decide (ds.length ≤ 1000) && ds.all (okSB k)
  | _ + 1, .dict _ => false
theorem okSB_ok : ∀ (k : Nat) (d : PyData), okSB k d = true → okS k d
  | 0, .none, _ => trivial
  | 0, .bool _, _ => trivial
  | 0, .int _, _ => trivial
  | 0, .str _, h => h
  | 0, .list _, h => by cases h
  | 0, .tuple _, h => by cases h
  | 0, .dict _, h => by cases h
  | _ + 1, .none, _ => trivial
  | _ + 1, .bool _, _ => trivial
  | _ + 1, .int _, _ => trivial
  | _ + 1, .str _, h => h
  | k + 1, .list ds, h => by
    have h : (decide (ds.length ≤ 1000) && ds.all (okSB k)) = true := h
    rw [Bool.and_eq_true] at h
    exact ⟨of_decide_eq_true h.1, fun x hx => okSB_ok k x (List.all_eq_true.mp h.2 x hx)⟩
  | k + 1, .tuple ds, h => by
    have h : (decide (ds.length ≤ 1000) && ds.all (okSB k)) = true := h
    rw [Bool.and_eq_true] at h
    exact ⟨of_decide_eq_true h.1, fun x hx => okSB_ok k x (List.all_eq_true.mp h.2 x hx)⟩
  | _ + 1, .dict _, h => by cases h
theorem strI3 : (("tvu" : Str).cps.toList.map fun c => PyData.str ⟨#[c]⟩) = (["t", "v", "u"] : List Str).map .str := by
  have : (("tvu" : Str).cps.toList.map fun c => (⟨#[c]⟩ : Str)) = (["t", "v", "u"] : List Str) := by decide +kernel
  rw [← this, List.map_map]; rfl
theorem strI4 : (("vtuw" : Str).cps.toList.map fun c => PyData.str ⟨#[c]⟩) = (["v", "t", "u", "w"] : List Str).map .str := by
  have : (("vtuw" : Str).cps.toList.map fun c => (⟨#[c]⟩ : Str)) = (["v", "t", "u", "w"] : List Str) := by decide +kernel
  rw [← this, List.map_map]; rfl
theorem strI5 : (("vxy" : Str).cps.toList.map fun c => PyData.str ⟨#[c]⟩) = (["v", "x", "y"] : List Str).map .str := by
  have : (("vxy" : Str).cps.toList.map fun c => (⟨#[c]⟩ : Str)) = (["v", "x", "y"] : List Str) := by decide +kernel
  rw [← this, List.map_map]; rfl
/-! the values -/
def vpxq : PyData := .tuple [.str "v", .str "p", .str "x", .str "q"]
def vptq : PyData := .tuple [.str "v", .str "p", .str "t", .str "q"]
theorem way_vpxq : wayD thereA "v" ["q", "p"] = vpxq := by unfold wayD; rw [fFv]; rfl
theorem way_vptq : wayD seatsA "v" ["q", "p"] = vptq := by unfold wayD; rw [fAv]; rfl
def qT : PyData := .list [.str "q", .bool true]
def softW : PyData := listD (webT kitT kitK)
def softR : PyData := listD (ssT rowA)
def softS : PyData := listD (ssT seatsA)
def halfW : PyData := .tuple [listD (.tuple (sL kitT)), listD (kindsT kitK)]
def halfR : PyData := .tuple [.list [.str "t", .str "b"], .tuple [.str "v", .str "a"], .list [.str "u", .str "b"]]
def halfS : PyData := .tuple [.list [.str "p", .str "t"], .tuple [.str "q", .str "u"]]
theorem cA : CaseOk (webT kitT kitK) (ssT rowA) (ssT seatsA) (mayR kitK rowA) kitT seatsA := case_t wA sA
theorem cF : CaseOk (webT kitT kitK) (ssT firstA) (ssT thereA) (mayR kitK firstA) kitT thereA := case_t wF sF
theorem cH : CaseOk (webT kitT kitK) (ssT firstA) (ssT halfA) (mayR kitK firstA) kitT halfA := case_t wF sH
theorem cE : CaseOk (webT kitT kitK) (ssT firstA) (ssT []) (mayR kitK firstA) kitT [] := case_t wF sE
theorem cS : CaseOk softW softR softS (mayR kitK rowA) kitT seatsA := case_l wA sA
theorem cHalf : CaseOk halfW halfR halfS (mayR kitK rowA) kitT seatsA := by
  refine ⟨⟨kitK, false, [(true, "t", "b"), (false, "v", "a"), (true, "u", "b")], ?_, rfl, by decide, fun r hr => wA.kin (r.2.1, r.2.2) ?_, ?_, rfl⟩, ⟨?_, ?_, sA.nk⟩, wA.T, sA⟩
  · have e : halfW = seqD false [listD (.tuple (sL kitT)), kindsB true kitK] := by
      unfold halfW
      rw [show kindsT kitK = kindsB false kitK from rfl, listD_kinds]
      rfl
    rw [e]
    exact bookOk false true _ wA.kn wA.kl wA.cl
  · rcases List.mem_cons.mp hr with rfl | hr
    · exact List.mem_cons_self
    · rcases List.mem_cons.mp hr with rfl | hr
      · exact List.mem_cons_of_mem _ List.mem_cons_self
      · obtain rfl := List.mem_singleton.mp hr
        exact List.mem_cons_of_mem _ (List.mem_cons_of_mem _ List.mem_cons_self)
  · have := wA.T.nd
    rw [ks_mayR] at this
    exact this
  · exact okT_two (k := 8) (b := false) (okT_two (k := 7) (b := true) okT_str okT_str) (okT_two (k := 7) (b := false) okT_str okT_str)
  · show tupD (seqD false [seqD true [.str "p", .str "t"], seqD false [.str "q", .str "u"]]) = _
    rw [tupD_seq]
    show PyData.tuple [tupD _, tupD _] = _
    rw [tupD_seq, tupD_seq]
    show PyData.tuple [.tuple [tupD _, tupD _], .tuple [tupD _, tupD _]] = _
    rw [tupD_str, tupD_str, tupD_str, tupD_str]
    rfl
def got0 : List PyData := [.list [.none, .int 1, .none], .int 1, vpxq, .none, .int 1, .int 0, .tuple [.str "v", .str "x"], .int 0]
end M
end

section
namespace M
open PySem PySem.Spec PySem.Calls PyProof.Rows L2 L2.DL Mq

theorem set_stepN {i : Nat} {ge : GE} {D : DEnds} {env : List Sl} {n : Nat} (v : PyData) (env' : List Sl) (hi : i < env.length) (h : ∀ R : GK, (∀ n', R v n') → ge env n R) (he : env.set i (.dat v) = env') (q : ∀ n', D.nx env' n') : gSet i ge D env n :=
  ⟨hi, h _ fun n' => by rw [he]; exact q n'⟩
theorem for_step {gi : GI} {gg : GG} {gb : GS} {D : DEnds} {env : List Sl} {n : Nat} (items : List PyData) (h : ∀ R : List PyData → Nat → Prop, R items n → gi env n R) (q : gForL gg gb D items env n) : gFor gi gg gb D env n := h _ q
theorem mv2 : mvD (some (["q", "p"] : List Str)) = .int 1 := rfl
theorem mv1 : mvD (some (["q"] : List Str)) = .int 0 := rfl
theorem mv1p : mvD (some (["p"] : List Str)) = .int 0 := rfl
def due1 : List PyData := [.list [.none, .int 1, .none], .int 1, vpxq, .none]
def due2 : List PyData := due1 ++ [.int 1, .int 0, .tuple [.str "v", .str "x"], .int 0]
def due3 : List PyData := due2 ++ [qT, qT]
def due4 : List PyData := due3 ++ [.int 1, vptq, .int 1, vptq]
def due5 : List PyData := due4 ++ [softW, softR, softS]
def ev (got due soft own : Sl) (x9 x10 x11 : Sl) : List Sl := [.dat (webT kitT kitK), .dat (ssT rowA), .dat (ssT seatsA), .dat (ssT firstA), .dat (ssT thereA), got, due, soft, own, x9, x10, x11, .no, .no]
def softD : PyData := .list [softW, softR, softS]
def halfD : PyData := .list [halfW, halfR, halfS]
def casesD : List PyData := [.tuple [webT kitT kitK, ssT rowA, ssT seatsA], .tuple [webT kitT kitK, ssT firstA, ssT thereA], .tuple [webT lineT lineK, ssT longA, ssT fullA]]
def g__law_by_hand_right : GF := fun ds n Q => ds = [] ∧ ∀ n', Q (.bool true) n'
theorem okD : okS 9 (.list due5) := okSB_ok 9 _ (by decide +kernel)
theorem qn : NmB "q" = true ∧ (rowA.all fun r => NmB r.1) = true ∧ (decide (("q" : Str) ∈ ks rowA)) = false := by decide +kernel
theorem heard_ok : (∀ y ∈ tks (rowA.map fun r => (false, r.1, r.2)), Nm y) ∧ ("q" : Str) ∉ tks (rowA.map fun r => (false, r.1, r.2)) := by
  have e : tks (rowA.map fun r => (false, r.1, r.2)) = ks rowA := by unfold tks ks; rw [List.map_map]; rfl
  rw [e]
  exact ⟨fun y hy => by obtain ⟨p, hp, rfl⟩ := List.mem_map.mp hy; exact List.all_eq_true.mp qn.2.1 p hp, of_decide_eq_false qn.2.2⟩
theorem law__law_by_hand_right (ds : List PyData) (n : Nat) (Q : GK) (h : g__law_by_hand_right ds n Q) : gb__law_by_hand_right g__law_kit g_right_moves g_a_right_shift g_ideal g__law_heard (g__law_lists 9) (g__law_half 9) (g__law_same 9) g__law_case_right g__law_alone_right (RT Q) (startE nm__law_by_hand_right ds) n := by
  obtain ⟨rfl, q⟩ := h
  have s0 : 0 ≤ sizeLine := by decide
  have s1 : 1 ≤ sizeLine := by decide
  have s2 : 2 ≤ sizeLine := by decide
  have s3 : 3 ≤ sizeLine := by decide
  have s4 : 4 ≤ sizeLine := by decide
  have kvA : ("v" : Str) ∈ ks (mayR kitK rowA) := by decide +kernel
  have ktA : ∀ x ∈ (["t", "v", "u"] : List Str), x ∈ ks (mayR kitK rowA) := by decide +kernel
  have kvF : ("v" : Str) ∈ ks (mayR kitK firstA) := by decide +kernel
  have kxF : ("x" : Str) ∈ ks (mayR kitK firstA) := by decide +kernel
  have ok0 : okT 9 (webT kitT kitK) := okT_web wA.kl wA.cl (by decide)
  have ok1 : okT 9 (ssT rowA) := okT_ss (by decide)
  have ok2 : okT 9 (ssT seatsA) := okT_ss (by decide)
  unfold gb__law_by_hand_right gSeq
  refine par_step [webT kitT kitK, ssT rowA, ssT seatsA] [.dat (webT kitT kitK), .dat (ssT rowA), .dat (ssT seatsA), .no, .no, .no, .no, .no, .no, .no, .no, .no, .no, .no] (parB 14 rfl (by decide)) (fun R h => ⟨rfl, s2, s2, s2, s3, s2, s2, s2, h⟩) rfl ?_
  refine par_step [ssT firstA, ssT thereA] (ev .no .no .no .no .no .no .no) (parB 14 rfl (by decide)) (fun R h => ⟨s2, s2, s2, s3, s2, s2, s2, h⟩) rfl ?_
  refine set_step (.list [.list [.none, .int 1, .none]]) (ev (.dat (.list [.list [.none, .int 1, .none]])) .no .no .no .no .no .no) (by decide) (fun R h => ⟨noOwn1 fun d e => (by cases e), lcM_eq PyData.str (["t", "v", "u"] : List Str) strI3 (fun t => mvD (bestW (mayR kitK rowA) seatsA t)) (fun t ht R1 h1 => ⟨(by show 12 < 14; decide), _, _, _, mayR kitK rowA, kitT, seatsA, t, rfl, cA, ktA t ht, h1⟩) s3 ?_⟩) rfl ?_
  · have e3 : ((["t", "v", "u"] : List Str).map fun t => mvD (bestW (mayR kitK rowA) seatsA t)) = [.none, .int 1, .none] := by
      show [mvD _, mvD _, mvD _] = _
      rw [bAt, bAv, bAu]
      rfl
    rw [e3]
    exact ⟨s1, h⟩
  refine set_step (.list [.list [.none, .int 1, .none], .int 1]) (ev (.dat (.list [.list [.none, .int 1, .none], .int 1])) .no .no .no .no .no .no) (by decide) (fun R h => ⟨_, _, _, mayR kitK firstA, kitT, thereA, "v", rfl, cF, kvF, by rw [bFv, mv2]; exact ⟨s1, s2, h⟩⟩) rfl ?_
  refine set_step (.list [.list [.none, .int 1, .none], .int 1, vpxq]) (ev (.dat (.list [.list [.none, .int 1, .none], .int 1, vpxq])) .no .no .no .no .no .no) (by decide) (fun R h => ⟨_, _, _, mayR kitK firstA, kitT, thereA, "v", rfl, cF, kvF, by rw [bFv, optD, way_vpxq]; exact ⟨s1, s3, h⟩⟩) rfl ?_
  refine set_step (.list due1) (ev (.dat (.list due1)) .no .no .no .no .no .no) (by decide) (fun R h => ⟨_, _, _, mayR kitK firstA, kitT, thereA, "x", rfl, cF, kxF, by rw [bFx]; exact ⟨s1, s4, h⟩⟩) rfl ?_
  refine set_step (.list due1) (ev (.dat (.list due1)) (.dat (.list due1)) .no .no .no .no .no) (by decide) (fun R h => ⟨s3, s4, s4, h⟩) rfl ?_
  refine set_step (.list (due1 ++ [.int 1])) (ev (.dat (.list (due1 ++ [.int 1]))) (.dat (.list due1)) .no .no .no .no .no) (by decide) (fun R h => ⟨s2, s1, _, _, _, mayR kitK firstA, kitT, halfA, "v", rfl, cH, kvF, by rw [bHv, mv2]; exact ⟨s1, (by decide : 5 ≤ sizeLine), h⟩⟩) rfl ?_
  refine set_step (.list (due1 ++ [.int 1, .int 0])) (ev (.dat (.list (due1 ++ [.int 1, .int 0]))) (.dat (.list due1)) .no .no .no .no .no) (by decide) (fun R h => ⟨s2, s1, _, _, _, mayR kitK firstA, kitT, halfA, "x", rfl, cH, kxF, by rw [bHx, mv1]; exact ⟨s1, (by decide : 6 ≤ sizeLine), h⟩⟩) rfl ?_
  refine set_step (.list due2) (ev (.dat (.list due2)) (.dat (.list due1)) .no .no .no .no .no) (by decide) (fun R h => ⟨rfl, s0, _, _, _, mayR kitK firstA, kitT, [], "v", rfl, cE, kvF, by rw [bEv, mv1p]; exact ⟨s2, (by decide : 8 ≤ sizeLine), h⟩⟩) rfl ?_
  refine set_step (.list due2) (ev (.dat (.list due2)) (.dat (.list due2)) .no .no .no .no .no) (by decide) (fun R h => ⟨s2, s4, (by decide : 8 ≤ sizeLine), h⟩) rfl ?_
  refine set_stepN (.list due3) (ev (.dat (.list due3)) (.dat (.list due2)) .no .no .no .no .no) (by decide) (fun R h => ⟨noOwn1 fun d e => (by cases e), by decide, by decide, ⟨(by show 13 < 14; decide), 0, _, false, rowA.map fun r => (false, r.1, r.2), _, "q", rfl, by decide, heard_ok.1, qn.1, heard_ok.2, fun n1 => ⟨(by decide : 0 < sizeLine), (by show 13 < 14; decide), 1, _, false, rowA.map fun r => (false, r.1, r.2), _, "q", rfl, by decide, heard_ok.1, qn.1, heard_ok.2, fun n2 => ⟨(by decide : 1 < sizeLine), (by decide : 10 ≤ sizeLine), h n2⟩⟩⟩⟩) rfl fun n => ?_
  refine set_step softD (ev (.dat (.list due3)) (.dat (.list due2)) (.dat softD) .no .no .no .no) (by decide) (fun R h => ⟨_, rfl, ok0, _, rfl, ok1, _, rfl, ok2, s3, h⟩) rfl ?_
  refine ⟨[.tuple (sL kitT), kindsT kitK], rfl, by decide, ?_, s2, s2, s2, s3, s2, s2, s2, s3, s2, ?_⟩
  · intro x hx
    have ok0' : okT 10 (seqD false [.tuple (sL kitT), kindsT kitK]) := okT_two (k := 9) (okT_seq (k := 8) (b := false) (by decide) okT_sL) (okT_kinds (b := false) wA.kl wA.cl)
    exact ok0'.2 x hx
  refine ⟨(by decide : 8 < 14), ?_⟩
  refine set_step (.list (due3 ++ [.int 1])) (ev (.dat (.list (due3 ++ [.int 1]))) (.dat (.list due2)) (.dat softD) (.dat softD) .no .no .no) (by decide) (fun R h => ⟨_, at_nat (i := 2) rfl, _, at_nat (i := 1) rfl, _, at_zero, _, _, _, mayR kitK rowA, kitT, seatsA, "v", rfl, cS, kvA, by rw [bAv, mv2]; exact ⟨s1, (by decide : 11 ≤ sizeLine), h⟩⟩) rfl ?_
  refine set_step (.list (due3 ++ [.int 1, vptq])) (ev (.dat (.list (due3 ++ [.int 1, vptq]))) (.dat (.list due2)) (.dat softD) (.dat softD) .no .no .no) (by decide) (fun R h => ⟨_, at_nat (i := 2) rfl, _, at_nat (i := 1) rfl, _, at_zero, _, _, _, mayR kitK rowA, kitT, seatsA, "v", rfl, cS, kvA, by rw [bAv, optD, way_vptq]; exact ⟨s1, (by decide : 12 ≤ sizeLine), h⟩⟩) rfl ?_
  refine ⟨(by decide : 8 < 14), ?_⟩
  refine set_step (.list (due3 ++ [.int 1, vptq, .int 1])) (ev (.dat (.list (due3 ++ [.int 1, vptq, .int 1]))) (.dat (.list due2)) (.dat softD) (.dat halfD) .no .no .no) (by decide) (fun R h => ⟨_, at_nat (i := 2) rfl, _, at_nat (i := 1) rfl, _, at_zero, _, _, _, mayR kitK rowA, kitT, seatsA, "v", rfl, cHalf, kvA, by rw [bAv, mv2]; exact ⟨s1, (by decide : 13 ≤ sizeLine), h⟩⟩) rfl ?_
  refine set_step (.list due4) (ev (.dat (.list due4)) (.dat (.list due2)) (.dat softD) (.dat halfD) .no .no .no) (by decide) (fun R h => ⟨_, at_nat (i := 2) rfl, _, at_nat (i := 1) rfl, _, at_zero, _, _, _, mayR kitK rowA, kitT, seatsA, "v", rfl, cHalf, kvA, by rw [bAv, optD, way_vptq]; exact ⟨s1, (by decide : 14 ≤ sizeLine), h⟩⟩) rfl ?_
  refine set_step (.list due5) (ev (.dat (.list due4)) (.dat (.list due5)) (.dat softD) (.dat halfD) .no .no .no) (by decide) (fun R h => ⟨s2, s2, s2, (by decide : 10 ≤ sizeLine), s4, s2, ⟨by decide, by decide⟩, (by decide : 2 * 2 ≤ sizeLine), (by decide : 14 ≤ sizeLine), _, rfl, ok0, _, rfl, ok1, _, rfl, ok2, s3, (by decide : 17 ≤ sizeLine), h⟩) rfl ?_
  refine ⟨(by decide : 17 ≤ sizeLine), .list due5, rfl, okD, ?_⟩
  refine ⟨(by decide : 9 < 14), s3, s2, s2, s2, s2, s1, s2, s1, s2, s4, s2, ?_⟩
  refine set_step (ssT longA) (ev (.dat (.list due4)) (.dat (.list due5)) (.dat softD) (.dat halfD) (.dat (webT lineT lineK)) (.dat (ssT longA)) .no) (by show 10 < 14; decide) (fun R h => ⟨s2, s2, s2, s2, s4, h⟩) rfl ?_
  refine set_step (.list casesD) (ev (.dat (.list due4)) (.dat (.list due5)) (.dat softD) (.dat halfD) (.dat (webT lineT lineK)) (.dat (ssT longA)) (.dat (.list casesD))) (by show 11 < 14; decide) (fun R h => ⟨s3, s3, s2, s2, s2, s3, s3, s3, h⟩) rfl ?_
  refine ⟨noOwn1 fun d e => (by cases e), ?_⟩
  refine lcM_eq id casesD (List.map_id _).symm (fun _ => .bool true) (fun x hx R h1 => ?_) s3 ?_
  · rcases List.mem_cons.mp hx with rfl | hx
    · exact ⟨(by decide : 8 < 14), _, at_zero, _, at_nat (i := 1) rfl, _, at_nat (i := 2) rfl, kitT, kitK, rowA, seatsA, kitT, rfl, wA, by decide, sA, h1⟩
    · rcases List.mem_cons.mp hx with rfl | hx
      · exact ⟨(by decide : 8 < 14), _, at_zero, _, at_nat (i := 1) rfl, _, at_nat (i := 2) rfl, kitT, kitK, firstA, thereA, kitT, rfl, wF, by decide, sF, h1⟩
      · obtain rfl := List.mem_singleton.mp hx
        exact ⟨(by decide : 8 < 14), _, at_zero, _, at_nat (i := 1) rfl, _, at_nat (i := 2) rfl, lineT, lineK, longA, fullA, lineT, rfl, wL, by decide, sL3, h1⟩
  refine ⟨_, mapT casesD, ?_⟩
  rw [allT]
  refine ⟨noOwn1 fun d e => (by cases e), ?_⟩
  have kL : ∀ x ∈ (["v", "t", "u", "w"] : List Str), x ∈ ks longA := by decide +kernel
  have kF : ∀ x ∈ (["v", "x", "y"] : List Str), x ∈ ks firstA := by decide +kernel
  refine lcM_eq PyData.str (["v", "t", "u", "w"] : List Str) strI4 (fun _ => .bool true) (fun x hx R h1 => ⟨(by show 12 < 14; decide), lineT, lineK, longA, lineT, x, rfl, wL, by decide, kL x hx, h1⟩) s4 ?_
  refine ⟨_, mapT (["v", "t", "u", "w"] : List Str), ?_⟩
  rw [allT]
  refine ⟨noOwn1 fun d e => (by cases e), ?_⟩
  refine lcM_eq PyData.str (["v", "x", "y"] : List Str) strI5 (fun _ => .bool true) (fun x hx R h1 => ⟨(by show 12 < 14; decide), kitT, kitK, firstA, kitT, x, rfl, wF, by decide, kF x hx, h1⟩) s3 ?_
  refine ⟨_, mapT (["v", "x", "y"] : List Str), ?_⟩
  rw [allT]
  exact q _
end M
end

section
namespace M
open PySem PySem.Spec PySem.Calls PyProof.Rows L2 L2.DL Mq

def g_law : GF := fun ds n Q => ∃ ns, ds = [scrD ns] ∧ ns.length ≤ 63 ∧ ∀ n', Q (.bool true) n'
theorem law_law (ds : List PyData) (n : Nat) (Q : GK) (h : g_law ds n Q) : gb_law g__law_by_hand_right g__law_cells g__law_right g__law_box (RT Q) (startE nm_law ds) n := by
  obtain ⟨ns, rfl, hl, q⟩ := h
  have hp62 : (2 : Int) ^ 62 = 4611686018427387904 := by decide
  refine ⟨rfl, fun n1 => ?_⟩
  refine ⟨(by decide : 1 < 3), ns, rfl, hl, fun cs h0 h2 => ?_⟩
  refine ⟨noOwn1 fun d e => (by cases e), ?_, ?_, ?_⟩
  · rw [List.length_map, hp62]; omega
  · rw [List.length_map, hp62]; omega
  refine lcM_eq (fun i : Nat => PyData.int i) (List.range cs.length) (by rw [List.length_map]; rfl) (fun _ => .bool true) (fun k hk R h1 => ⟨(by decide : 2 < 3), cs, k, rfl, List.mem_range.mp hk, h2, fun x y hx hy hy62 => ⟨x, y, rfl, hx, hy, hy62, rfl, by decide, fun n' => ⟨true, rfl, h1⟩⟩⟩) ?_ ?_
  · rw [List.length_range]
    have := sizeM
    omega
  · refine ⟨_, mapT (List.range cs.length), ?_⟩
    rw [allT]
    exact q _
end M
end

section
namespace M
open PySem PySem.Spec PySem.Calls PyProof.Rows L2 L2.DL Mq
variable [TabsOf]
/-! ### each def of the text, and what it promises -/
def At (K : PySem.W.Frag) (mg : Str → Option Value) (x : Str) (i : Nat) : Prop := ∃ f fd, mg x = some (.ref f) ∧ Fun K x x (top i) f fd
section
variable {P : Program} {w : World}
variable {K : PySem.W.Frag} {mg : Str → Option Value} {base : Heap}
theorem has_up {x : Str} {j k : Nat} {ps : List Str} {g : GF} (h : Has P w K mg base x j ps g) (hl : j ≤ k) : Has P w K mg base x k ps g := by
  obtain ⟨f, fd, hm, hk, hb, F⟩ := h.ex
  exact ⟨f, fd, hm, hk, hb, F.mono hl⟩
theorem rev_vals {vs : List V} {us : List Value} (r : Vals vs us) : Vals vs.reverse us.reverse := by
  induction vs generalizing us with
  | nil => cases r; exact .nil
  | cons v vs ih =>
    cases r with
    | cons a b =>
      rw [(List.reverse_cons), List.reverse_cons]
      exact (ih b).append (.cons a .nil)
theorem gRev_vals {vs : List V} {us : List Value} {zs : List V} {ws : List Value} (r : Vals vs us) (r2 : Vals zs ws) : Vals (gRev vs zs) (gRev us ws) := by
  cases r with
  | nil => exact rev_vals r2
  | cons _ _ => exact .nil
theorem j_is_name (T : Bt mg) (a : At K mg "is_name" 5) {t1 t2 : Tok} (h1 : mg "LONGEST" = some (.int cLONGEST t1)) (h2 : mg "LETTERS" = some (.str cLETTERS t2)) : Has P w K mg base "is_name" 1 ["value"] g_is_name := by
  obtain ⟨f, fd, hm, F⟩ := a
  exact ⟨f, fd, hm, F.kp, F.binds (ps := ["value"]) fun _ _ _ _ _ _ us hl => match us, hl with | [_], _ => rfl, fn_d (k := 0) F sc_is_name (fun ds n Q h => by obtain ⟨_, rfl, _⟩ := h; rfl) (by decide) (fun cdv A outer s H E hr => w_is_name T h1 h2 hr) law_is_name⟩
theorem j_tupled (T : Bt mg) (a : At K mg "tupled" 6) : ∀ k, Has P w K mg base "tupled" (k + 1) ["value"] (g_tupled k) := by
  obtain ⟨f, fd, hm, F⟩ := a
  have hb : Binds K fd ["value"] [] := F.binds (ps := ["value"]) fun _ _ _ _ _ _ us hl => match us, hl with | [_], _ => rfl
  have st : ∀ (k : Nat) (g : GF), Has P w K mg base "tupled" k ["value"] g → (∀ k', k = k' + 1 → g = g_tupled k') → Has P w K mg base "tupled" (k + 1) ["value"] (g_tupled k) := fun k g h hg =>
    ⟨f, fd, hm, F.kp, hb, fn_d (k := k) F sc_tupled (fun ds n Q h => by obtain ⟨_, rfl, _⟩ := h; rfl) (by decide) (fun cdv A outer s H E hr => w_tupled T h hr) (law_tupled hg)⟩
  intro k
  induction k with
  | zero => exact st 0 (fun _ _ _ => False) ⟨f, fd, hm, F.kp, hb, ⟨fun vs H Q E ⟨_, _, _, _, _, _, _, _, _, h, _⟩ => h.elim, fun A outer s H args us vs Q E _ _ _ _ ⟨_, _, _, _, _, _, _, _, _, h, _⟩ => h.elim⟩⟩ (fun k' e => by cases e)
  | succ k ih => exact st (k + 1) _ ih (fun k' e => by cases e; rfl)
theorem j_masks_table (T : Bt mg) (a : At K mg "masks_table" 8) (h_tupled : Has P w K mg base "tupled" 10 ["value"] (g_tupled 9)) : Has P w K mg base "masks_table" 11 ["book"] g_masks_table := by
  obtain ⟨f, fd, hm, F⟩ := a
  exact ⟨f, fd, hm, F.kp, F.binds (ps := ["book"]) fun _ _ _ _ _ _ us hl => match us, hl with | [_], _ => rfl, fn_d (k := 10) F sc_masks_table (fun ds n Q h => by obtain ⟨_, _, rfl, _⟩ := h; rfl) (by decide) (fun cdv A outer s H E hr => w_masks_table T h_tupled hr) law_masks_table⟩
theorem j_may_table (T : Bt mg) (a : At K mg "may_table" 10) (h_masks_table : Has P w K mg base "masks_table" 11 ["book"] g_masks_table) : Has P w K mg base "may_table" 12 ["book", "ready"] g_may_table := by
  obtain ⟨f, fd, hm, F⟩ := a
  exact ⟨f, fd, hm, F.kp, F.binds (ps := ["book", "ready"]) fun _ _ _ _ _ _ us hl => match us, hl with | [_, _], _ => rfl, fn_d (k := 11) F sc_may_table (fun ds n Q h => by obtain ⟨_, _, _, rfl, _⟩ := h; rfl) (by decide) (fun cdv A outer s H E hr => w_may_table T h_masks_table hr) law_may_table⟩
theorem j_tasks_of (T : Bt mg) (a : At K mg "tasks_of" 12) : Has P w K mg base "tasks_of" 1 ["ready"] g_tasks_of := by
  obtain ⟨f, fd, hm, F⟩ := a
  exact ⟨f, fd, hm, F.kp, F.binds (ps := ["ready"]) fun _ _ _ _ _ _ us hl => match us, hl with | [_], _ => rfl, fn_d (k := 0) F sc_tasks_of (fun ds n Q h => by obtain ⟨_, _, rfl, _⟩ := h; rfl) (by decide) (fun cdv A outer s H E hr => w_tasks_of T  hr) law_tasks_of⟩
theorem j_check_task (T : Bt mg) (a : At K mg "check_task" 13) (h_tasks_of : Has P w K mg base "tasks_of" 1 ["ready"] g_tasks_of) : Has P w K mg base "check_task" 2 ["ready", "task"] g_check_task := by
  obtain ⟨f, fd, hm, F⟩ := a
  exact ⟨f, fd, hm, F.kp, F.binds (ps := ["ready", "task"]) fun _ _ _ _ _ _ us hl => match us, hl with | [_, _], _ => rfl, fn_d (k := 1) F sc_check_task (fun ds n Q h => by obtain ⟨_, _, _, rfl, _⟩ := h; rfl) (by decide) (fun cdv A outer s H E hr => w_check_task T h_tasks_of hr) law_check_task⟩
theorem j_seat_more (T : Bt mg) (a : At K mg "seat_more" 14) : Has P w K mg base "seat_more" 1 ["table", "seats", "task"] g_seat_more := by
  obtain ⟨f, fd, hm, F⟩ := a
  exact ⟨f, fd, hm, F.kp, F.binds (ps := ["table", "seats", "task"]) fun _ _ _ _ _ _ us hl => match us, hl with | [_, _, _], _ => rfl, fn_d (k := 0) F sc_seat_more (fun ds n Q h => by obtain ⟨_, _, _, _, rfl, _⟩ := h; rfl) (by decide) (fun cdv A outer s H E hr => w_seat_more T  hr) law_seat_more⟩
theorem j_seat_all (T : Bt mg) (a : At K mg "seat_all" 15) (h_may_table : Has P w K mg base "may_table" 12 ["book", "ready"] g_may_table) (h_tasks_of : Has P w K mg base "tasks_of" 1 ["ready"] g_tasks_of) (h_seat_more : Has P w K mg base "seat_more" 1 ["table", "seats", "task"] g_seat_more) : Has P w K mg base "seat_all" 13 ["book", "ready"] g_seat_all := by
  obtain ⟨f, fd, hm, F⟩ := a
  exact ⟨f, fd, hm, F.kp, F.binds (ps := ["book", "ready"]) fun _ _ _ _ _ _ us hl => match us, hl with | [_, _], _ => rfl, fn_d (k := 12) F sc_seat_all (fun ds n Q h => by obtain ⟨rfl, _⟩ := h; rfl) (by decide) (fun cdv A outer s H E hr => w_seat_all T h_may_table h_tasks_of h_seat_more hr) law_seat_all⟩
theorem j_ideal (T : Bt mg) (a : At K mg "ideal" 16) (h_seat_all : Has P w K mg base "seat_all" 13 ["book", "ready"] g_seat_all) : Has P w K mg base "ideal" 14 ["book", "ready"] g_ideal := by
  obtain ⟨f, fd, hm, F⟩ := a
  exact ⟨f, fd, hm, F.kp, F.binds (ps := ["book", "ready"]) fun _ _ _ _ _ _ us hl => match us, hl with | [_, _], _ => rfl, fn_d (k := 13) F sc_ideal (fun ds n Q h => by obtain ⟨rfl, _⟩ := h; rfl) (by decide) (fun cdv A outer s H E hr => w_ideal T h_seat_all hr) law_ideal⟩
theorem j_seats_of (T : Bt mg) (a : At K mg "seats_of" 18) (h_tupled : Has P w K mg base "tupled" 10 ["value"] (g_tupled 9)) : HasF P w K mg base "seats_of" 11 ["seating"] g_seats_of := by
  obtain ⟨f, fd, hm, F⟩ := a
  exact ⟨f, fd, hm, F.kp, F.binds (ps := ["seating"]) fun _ _ _ _ _ _ us hl => match us, hl with | [_], _ => rfl, fn_f (k := 10) F sc_seats_of (fun ds n Q h => by obtain ⟨_, _, rfl, _⟩ := h; rfl) (by decide) (fun cdv A outer s H E hr => w_seats_of T h_tupled hr) law_seats_of⟩
theorem j_does_wait (T : Bt mg) (a : At K mg "does_wait" 19) : Has P w K mg base "does_wait" 1 ["seats", "task"] g_does_wait := by
  obtain ⟨f, fd, hm, F⟩ := a
  exact ⟨f, fd, hm, F.kp, F.binds (ps := ["seats", "task"]) fun _ _ _ _ _ _ us hl => match us, hl with | [_, _], _ => rfl, fn_d (k := 0) F sc_does_wait (fun ds n Q h => by obtain ⟨_, _, rfl, _⟩ := h; rfl) (by decide) (fun cdv A outer s H E hr => w_does_wait T  hr) law_does_wait⟩
theorem j_reach (T : Bt mg) (a : At K mg "reach" 20) : Has P w K mg base "reach" 1 ["table", "seats", "task"] g_reach := by
  obtain ⟨f, fd, hm, F⟩ := a
  exact ⟨f, fd, hm, F.kp, F.binds (ps := ["table", "seats", "task"]) fun _ _ _ _ _ _ us hl => match us, hl with | [_, _, _], _ => rfl, fn_d (k := 0) F sc_reach (fun ds n Q h => by obtain ⟨_, _, _, _, rfl, _⟩ := h; rfl) (by decide) (fun cdv A outer s H E hr => w_reach T  hr) law_reach⟩
theorem j_is_end (T : Bt mg) (a : At K mg "is_end" 21) : Has P w K mg base "is_end" 1 ["names", "seats", "task", "cpu"] g_is_end := by
  obtain ⟨f, fd, hm, F⟩ := a
  exact ⟨f, fd, hm, F.kp, F.binds (ps := ["names", "seats", "task", "cpu"]) fun _ _ _ _ _ _ us hl => match us, hl with | [_, _, _, _], _ => rfl, fn_d (k := 0) F sc_is_end (fun ds n Q h => by obtain ⟨_, _, _, _, _, rfl, _⟩ := h; rfl) (by decide) (fun cdv A outer s H E hr => w_is_end T  hr) law_is_end⟩
theorem j_is_row_of (T : Bt mg) (a : At K mg "is_row_of" 22) (h_does_wait : Has P w K mg base "does_wait" 1 ["seats", "task"] g_does_wait) : Has P w K mg base "is_row_of" 2 ["table", "seats", "row"] g_is_row_of := by
  obtain ⟨f, fd, hm, F⟩ := a
  exact ⟨f, fd, hm, F.kp, F.binds (ps := ["table", "seats", "row"]) fun _ _ _ _ _ _ us hl => match us, hl with | [_, _, _], _ => rfl, fn_d (k := 1) F sc_is_row_of (fun ds n Q h => by obtain ⟨_, _, _, _, _, rfl, _⟩ := h; rfl) (by decide) (fun cdv A outer s H E hr => w_is_row_of T h_does_wait hr) law_is_row_of⟩
theorem j_is_shift (T : Bt mg) (a : At K mg "is_shift" 23) (h_is_name : Has P w K mg base "is_name" 1 ["value"] g_is_name) (h_tasks_of : Has P w K mg base "tasks_of" 1 ["ready"] g_tasks_of) (h_seats_of : HasF P w K mg base "seats_of" 11 ["seating"] g_seats_of) (h_may_table : Has P w K mg base "may_table" 12 ["book", "ready"] g_may_table) (h_is_row_of : Has P w K mg base "is_row_of" 2 ["table", "seats", "row"] g_is_row_of) (h_is_end : Has P w K mg base "is_end" 1 ["names", "seats", "task", "cpu"] g_is_end) : Has P w K mg base "is_shift" 13 ["book", "ready", "seating", "thing"] g_is_shift := by
  obtain ⟨f, fd, hm, F⟩ := a
  exact ⟨f, fd, hm, F.kp, F.binds (ps := ["book", "ready", "seating", "thing"]) fun _ _ _ _ _ _ us hl => match us, hl with | [_, _, _, _], _ => rfl, fn_d (k := 12) F sc_is_shift (fun ds n Q h => by obtain ⟨_, _, _, _, _, _, _, _, rfl, _⟩ := h; rfl) (by decide) (fun cdv A outer s H E hr => w_is_shift T h_is_name h_tasks_of h_seats_of h_may_table h_is_row_of h_is_end hr) law_is_shift⟩
theorem j_ways_on (T : Bt mg) (a : At K mg "ways_on" 24) : Has P w K mg base "ways_on" 1 ["table", "seats", "way"] g_ways_on := by
  obtain ⟨f, fd, hm, F⟩ := a
  exact ⟨f, fd, hm, F.kp, F.binds (ps := ["table", "seats", "way"]) fun _ _ _ _ _ _ us hl => match us, hl with | [_, _, _], _ => rfl, fn_d (k := 0) F sc_ways_on (fun ds n Q h => by obtain ⟨_, _, _, _, _, rfl, _⟩ := h; rfl) (by decide) (fun cdv A outer s H E hr => w_ways_on T  hr) law_ways_on⟩
theorem j_shortest (T : Bt mg) (a : At K mg "shortest" 25) (h_ways_on : Has P w K mg base "ways_on" 1 ["table", "seats", "way"] g_ways_on) : Has P w K mg base "shortest" 2 ["table", "seats", "task", "goals"] g_shortest := by
  obtain ⟨f, fd, hm, F⟩ := a
  exact ⟨f, fd, hm, F.kp, F.binds (ps := ["table", "seats", "task", "goals"]) fun _ _ _ _ _ _ us hl => match us, hl with | [_, _, _, _], _ => rfl, fn_d (k := 1) F sc_shortest (fun ds n Q h => by obtain ⟨_, _, _, _, _, _, rfl, _⟩ := h; rfl) (by decide) (fun cdv A outer s H E hr => w_shortest T h_ways_on hr) law_shortest⟩
theorem fn_dc {x qual : Str} {st : Stmt} {f c : Addr} {N ps : List Str} {k : Nat} {g : GF} {gb : GS} {oc kV doc pm ct : Value} {an od : Option Addr} {osl : Array (Option Value)}
    (lk : K.lookup f = some ⟨oc, od, .func (PySem.W.fnOf x qual (defArgs st) (defBody st) (defScope st) .none kV doc pm an (.ref c) ct), osl⟩) (hcd : PySem.W.codeIn K (.ref c) qual = true) (S : FnScope N ps (defScope st)) (len : ∀ ds n Q, g ds n Q → ds.length = ps.length) (hN : ps.length ≤ N.length)
    (walk : ∀ (A : Around) (outer : List Env) (s : Shared) (H : Hp) (E : XK), Room k (A.deeper (envOfC qual (defScope st) s.heap.objs.size f (.ref c))) → DSs (cxOf CX0 P w K mg base N qual (defScope st) f (.ref c) A outer s H E).nox (defBody st) gb)
    (law : ∀ ds n Q, g ds n Q → gb { nx := fun _ n => Q .none n, rt := Q } (startE N ds) n) : FnOk P w K mg base CX0 (k + 1) f (PySem.W.fnOf x qual (defArgs st) (defBody st) (defScope st) .none kV doc pm an (.ref c) ct) ps (spD K g) := by
  refine fn_of lk hcd S (fun vs H Q E ⟨Z, T, n, ds, Qd, al, tz, t, r, hg, _⟩ => by rw [r.length]; exact len ds n Qd hg) fun A outer s H vs Q E hr ⟨Z, T, n, ds, Qd, al, tz, t, r, hg, k⟩ => ?_
  refine ⟨_, PSs.nox (walk A outer s H E hr).ps, ?_⟩
  have hl := len ds n Qd hg
  refine ⟨⟨Z, T, H, [], N.length⟩, fun _ => none, n, startE N ds, _, env_start al tz t r (by omega), law ds n Qd hg, ⟨fun O n H σ env E q => ?_, fun _ _ _ _ _ _ q => q.elim, fun _ _ _ _ _ _ q => q.elim, fun n H' v d x t r q => k v d H' n x t r q, fun _ _ _ _ _ _ _ _ q => q.elim⟩⟩
  exact k .non .none H n E.ext E.tub .non q
abbrev qLam : Str := ("right_ends_of.<locals>." : Str) ++ "<lambda>"
theorem j_right_ends_of (T : Bt mg) (a : At K mg "right_ends_of" 27) {c P0 : Addr} (hc : ∀ f fd, mg "right_ends_of" = some (.ref f) → Fun K "right_ends_of" "right_ends_of" (top 27) f fd → fd.code = .ref c) (TB : LamX.TabB base mg c P0) (hT : TabsOf.tt = [(P0, qLam)]) (h_reach : Has P w K mg base "reach" 1 ["table", "seats", "task"] g_reach) (h_is_end : Has P w K mg base "is_end" 1 ["names", "seats", "task", "cpu"] g_is_end) : Has P w K mg base "right_ends_of" 3 ["table", "seats", "names", "task"] g_right_ends_of := by
  obtain ⟨f, fd, hm, Fz⟩ := a
  have ec := hc f fd hm Fz
  have hb : Binds K fd ["table", "seats", "names", "task"] [] := Fz.binds (ps := ["table", "seats", "names", "task"]) fun _ _ _ _ _ _ us hl => match us, hl with | [_, _, _, _], _ => rfl
  have kp := Fz.kp
  obtain ⟨ocz, odz, kVz, docz, pmz, anz, cdvz, ctz, oslz, rfl, lkz, hcdz⟩ := Fz.ex
  have ec : cdvz = .ref c := ec
  subst ec
  exact ⟨f, _, hm, kp, hb, fn_dc (k := 2) lkz hcdz sc_right_ends_of (fun ds n Q h => by obtain ⟨_, _, _, _, rfl, _⟩ := h; rfl) (by decide) (fun A outer s H E hr => w_right_ends_of T h_reach h_is_end TB (by rw [hT]; exact List.mem_singleton.mpr rfl) (fun p hp _ => by rw [hT] at hp; rw [List.mem_singleton.mp hp]) hr) law_right_ends_of⟩
theorem j_best_way (T : Bt mg) (a : At K mg "best_way" 28) (h_check_task : Has P w K mg base "check_task" 2 ["ready", "task"] g_check_task) (h_tasks_of : Has P w K mg base "tasks_of" 1 ["ready"] g_tasks_of) (h_seats_of : HasF P w K mg base "seats_of" 11 ["seating"] g_seats_of) (h_may_table : Has P w K mg base "may_table" 12 ["book", "ready"] g_may_table) (h_does_wait : Has P w K mg base "does_wait" 1 ["seats", "task"] g_does_wait) (h_right_ends_of : Has P w K mg base "right_ends_of" 3 ["table", "seats", "names", "task"] g_right_ends_of) (h_shortest : Has P w K mg base "shortest" 2 ["table", "seats", "task", "goals"] g_shortest) : Has P w K mg base "best_way" 13 ["book", "ready", "seating", "task", "right"] g_best_way := by
  obtain ⟨f, fd, hm, F⟩ := a
  exact ⟨f, fd, hm, F.kp, F.binds (ps := ["book", "ready", "seating", "task", "right"]) fun _ _ _ _ _ _ us hl => match us, hl with | [_, _, _, _, _], _ => rfl, fn_d (k := 12) F sc_best_way (fun ds n Q h => by obtain ⟨_, _, _, _, _, _, _, rfl, _⟩ := h; rfl) (by decide) (fun cdv A outer s H E hr => w_best_way T h_check_task h_tasks_of h_seats_of h_may_table h_does_wait h_right_ends_of h_shortest hr) law_best_way⟩
theorem j_moves_of (T : Bt mg) (a : At K mg "moves_of" 29) : Has P w K mg base "moves_of" 1 ["way"] g_moves_of := by
  obtain ⟨f, fd, hm, F⟩ := a
  exact ⟨f, fd, hm, F.kp, F.binds (ps := ["way"]) fun _ _ _ _ _ _ us hl => match us, hl with | [_], _ => rfl, fn_d (k := 0) F sc_moves_of (fun ds n Q h => by obtain ⟨_, _, _, rfl, _⟩ := h; rfl) (by decide) (fun cdv A outer s H E hr => w_moves_of T  hr) law_moves_of⟩
theorem j_a_right_shift (T : Bt mg) (a : At K mg "a_right_shift" 30) (h_best_way : Has P w K mg base "best_way" 13 ["book", "ready", "seating", "task", "right"] g_best_way) : Has P w K mg base "a_right_shift" 14 ["book", "ready", "seating", "task"] g_a_right_shift := by
  obtain ⟨f, fd, hm, F⟩ := a
  exact ⟨f, fd, hm, F.kp, F.binds (ps := ["book", "ready", "seating", "task"]) fun _ _ _ _ _ _ us hl => match us, hl with | [_, _, _, _], _ => rfl, fn_d (k := 13) F sc_a_right_shift (fun ds n Q h => by obtain ⟨_, _, _, _, _, _, _, rfl, _⟩ := h; rfl) (by decide) (fun cdv A outer s H E hr => w_a_right_shift T h_best_way hr) law_a_right_shift⟩
theorem jk_a_right_shift (T : Bt mg) (a : At K mg "a_right_shift" 30) (h_best_way : Has P w K mg base "best_way" 13 ["book", "ready", "seating", "task", "right"] g_best_way) : HasK P w K mg base "a_right_shift" 14 ["book", "ready", "seating", "task"] g_a_right_shift := by
  obtain ⟨f, fd, hm, Fz⟩ := a
  have ok := fn_d (P := P) (w := w) (base := base) (mg := mg) (k := 13) Fz sc_a_right_shift (fun ds n Q h => by obtain ⟨_, _, _, _, _, _, _, rfl, _⟩ := h; rfl) (by decide) (fun cdvz A outer s H E hr => w_a_right_shift T h_best_way hr) law_a_right_shift
  have kp := Fz.kp
  obtain ⟨ocz, odz, kVz, docz, pmz, anz, cdvz, ctz, oslz, rfl, lkz, hcdz⟩ := Fz.ex
  refine ⟨f, _, _, hm, kp, rfl, ⟨fun s us ws _ hl => ?_, gRev_vals⟩, ok⟩
  cases us with
  | cons _ _ => cases hl
  | nil =>
    have hl : ws.reverse.length = 4 := hl
    rw [List.length_reverse] at hl
    match ws, hl with
    | [_, _, _, _], _ => exact .of_eq rfl
theorem j_right_moves (T : Bt mg) (a : At K mg "right_moves" 31) (h_moves_of : Has P w K mg base "moves_of" 1 ["way"] g_moves_of) (h_best_way : Has P w K mg base "best_way" 13 ["book", "ready", "seating", "task", "right"] g_best_way) : Has P w K mg base "right_moves" 14 ["book", "ready", "seating", "task"] g_right_moves := by
  obtain ⟨f, fd, hm, F⟩ := a
  exact ⟨f, fd, hm, F.kp, F.binds (ps := ["book", "ready", "seating", "task"]) fun _ _ _ _ _ _ us hl => match us, hl with | [_, _, _, _], _ => rfl, fn_d (k := 13) F sc_right_moves (fun ds n Q h => by obtain ⟨_, _, _, _, _, _, _, rfl, _⟩ := h; rfl) (by decide) (fun cdv A outer s H E hr => w_right_moves T h_moves_of h_best_way hr) law_right_moves⟩
theorem jk_right_moves (T : Bt mg) (a : At K mg "right_moves" 31) (h_moves_of : Has P w K mg base "moves_of" 1 ["way"] g_moves_of) (h_best_way : Has P w K mg base "best_way" 13 ["book", "ready", "seating", "task", "right"] g_best_way) : HasK P w K mg base "right_moves" 14 ["book", "ready", "seating", "task"] g_right_moves := by
  obtain ⟨f, fd, hm, Fz⟩ := a
  have ok := fn_d (P := P) (w := w) (base := base) (mg := mg) (k := 13) Fz sc_right_moves (fun ds n Q h => by obtain ⟨_, _, _, _, _, _, _, rfl, _⟩ := h; rfl) (by decide) (fun cdvz A outer s H E hr => w_right_moves T h_moves_of h_best_way hr) law_right_moves
  have kp := Fz.kp
  obtain ⟨ocz, odz, kVz, docz, pmz, anz, cdvz, ctz, oslz, rfl, lkz, hcdz⟩ := Fz.ex
  refine ⟨f, _, _, hm, kp, rfl, ⟨fun s us ws _ hl => ?_, gRev_vals⟩, ok⟩
  cases us with
  | cons _ _ => cases hl
  | nil =>
    have hl : ws.reverse.length = 4 := hl
    rw [List.length_reverse] at hl
    match ws, hl with
    | [_, _, _, _], _ => exact .of_eq rfl
theorem j_is_right (T : Bt mg) (a : At K mg "is_right" 32) (h_is_shift : Has P w K mg base "is_shift" 13 ["book", "ready", "seating", "thing"] g_is_shift) (h_right_ends_of : Has P w K mg base "right_ends_of" 3 ["table", "seats", "names", "task"] g_right_ends_of) (h_may_table : Has P w K mg base "may_table" 12 ["book", "ready"] g_may_table) (h_seats_of : HasF P w K mg base "seats_of" 11 ["seating"] g_seats_of) (h_tasks_of : Has P w K mg base "tasks_of" 1 ["ready"] g_tasks_of) : Has P w K mg base "is_right" 14 ["book", "ready", "seating", "thing"] g_is_right := by
  obtain ⟨f, fd, hm, F⟩ := a
  exact ⟨f, fd, hm, F.kp, F.binds (ps := ["book", "ready", "seating", "thing"]) fun _ _ _ _ _ _ us hl => match us, hl with | [_, _, _, _], _ => rfl, fn_d (k := 13) F sc_is_right (fun ds n Q h => by obtain ⟨_, _, _, _, _, _, _, _, _, rfl, _⟩ := h; rfl) (by decide) (fun cdv A outer s H E hr => w_is_right T h_is_shift h_right_ends_of h_may_table h_seats_of h_tasks_of hr) law_is_right⟩
theorem j_shifted (T : Bt mg) (a : At K mg "shifted" 33) (h_seats_of : HasF P w K mg base "seats_of" 11 ["seating"] g_seats_of) : Has P w K mg base "shifted" 12 ["seating", "shift"] g_shifted := by
  obtain ⟨f, fd, hm, F⟩ := a
  exact ⟨f, fd, hm, F.kp, F.binds (ps := ["seating", "shift"]) fun _ _ _ _ _ _ us hl => match us, hl with | [_, _], _ => rfl, fn_d (k := 11) F sc_shifted (fun ds n Q h => by obtain ⟨_, _, _, _, rfl, _⟩ := h; rfl) (by decide) (fun cdv A outer s H E hr => w_shifted T h_seats_of hr) law_shifted⟩
theorem j_next_shift (T : Bt mg) (a : At K mg "next_shift" 34) (h_tasks_of : Has P w K mg base "tasks_of" 1 ["ready"] g_tasks_of) (h_a_right_shift : Has P w K mg base "a_right_shift" 14 ["book", "ready", "seating", "task"] g_a_right_shift) : Has P w K mg base "next_shift" 15 ["book", "ready", "seating"] g_next_shift := by
  obtain ⟨f, fd, hm, F⟩ := a
  exact ⟨f, fd, hm, F.kp, F.binds (ps := ["book", "ready", "seating"]) fun _ _ _ _ _ _ us hl => match us, hl with | [_, _, _], _ => rfl, fn_d (k := 14) F sc_next_shift (fun ds n Q h => by obtain ⟨_, _, _, _, _, _, rfl, _⟩ := h; rfl) (by decide) (fun cdv A outer s H E hr => w_next_shift T h_tasks_of h_a_right_shift hr) law_next_shift⟩
theorem j_is_settled (T : Bt mg) (a : At K mg "is_settled" 35) (h_next_shift : Has P w K mg base "next_shift" 15 ["book", "ready", "seating"] g_next_shift) : Has P w K mg base "is_settled" 16 ["book", "ready", "seating"] g_is_settled := by
  obtain ⟨f, fd, hm, F⟩ := a
  exact ⟨f, fd, hm, F.kp, F.binds (ps := ["book", "ready", "seating"]) fun _ _ _ _ _ _ us hl => match us, hl with | [_, _, _], _ => rfl, fn_d (k := 15) F sc_is_settled (fun ds n Q h => by obtain ⟨_, _, _, _, _, _, rfl, _⟩ := h; rfl) (by decide) (fun cdv A outer s H E hr => w_is_settled T h_next_shift hr) law_is_settled⟩
theorem j__law_box (T : Bt mg) (a : At K mg "_law_box" 37) : HasF P w K mg base "_law_box" 1 ["_law_script", "_law_k"] g__law_box := by
  obtain ⟨f, fd, hm, F⟩ := a
  exact ⟨f, fd, hm, F.kp, F.binds (ps := ["_law_script", "_law_k"]) fun _ _ _ _ _ _ us hl => match us, hl with | [_, _], _ => rfl, fn_f (k := 0) F sc__law_box (fun ds n Q h => by obtain ⟨_, _, rfl, _⟩ := h; rfl) (by decide) (fun cdv A outer s H E hr => w__law_box T  hr) law__law_box⟩
theorem j__law_take (T : Bt mg) (a : At K mg "_law_take" 38) : Has P w K mg base "_law_take" 1 ["_law_tub", "_law_top_to"] g__law_take := by
  obtain ⟨f, fd, hm, F⟩ := a
  exact ⟨f, fd, hm, F.kp, F.binds (ps := ["_law_tub", "_law_top_to"]) fun _ _ _ _ _ _ us hl => match us, hl with | [_, _], _ => rfl, fn_d (k := 0) F sc__law_take (fun ds n Q h => by obtain ⟨_, rfl, _⟩ := h; rfl) (by decide) (fun cdv A outer s H E hr => w__law_take T  hr) law__law_take⟩
theorem j__law_cells (T : Bt mg) (a : At K mg "_law_cells" 39) : Has P w K mg base "_law_cells" 1 ["_law_script", "_law_most_so"] g__law_cells := by
  obtain ⟨f, fd, hm, F⟩ := a
  exact ⟨f, fd, hm, F.kp, F.binds (ps := ["_law_script", "_law_most_so"]) fun _ _ _ _ _ _ us hl => match us, hl with | [_, _], _ => rfl, fn_d (k := 0) F sc__law_cells (fun ds n Q h => by obtain ⟨_, rfl, _⟩ := h; rfl) (by decide) (fun cdv A outer s H E hr => w__law_cells T  hr) law__law_cells⟩
theorem j__law_of (T : Bt mg) (a : At K mg "_law_of" 40) (h__law_take : Has P w K mg base "_law_take" 1 ["_law_tub", "_law_top_to"] g__law_take) : Has P w K mg base "_law_of" 2 ["_law_tub", "_law_few_so"] g__law_of := by
  obtain ⟨f, fd, hm, F⟩ := a
  exact ⟨f, fd, hm, F.kp, F.binds (ps := ["_law_tub", "_law_few_so"]) fun _ _ _ _ _ _ us hl => match us, hl with | [_, _], _ => rfl, fn_d (k := 1) F sc__law_of (fun ds n Q h => by obtain ⟨_, _, rfl, _⟩ := h; rfl) (by decide) (fun cdv A outer s H E hr => w__law_of T h__law_take hr) law__law_of⟩
theorem j__law_pick (T : Bt mg) (a : At K mg "_law_pick" 41) (h__law_take : Has P w K mg base "_law_take" 1 ["_law_tub", "_law_top_to"] g__law_take) : Has P w K mg base "_law_pick" 2 ["_law_tub", "_law_few_so", "_law_much_so"] g__law_pick := by
  obtain ⟨f, fd, hm, F⟩ := a
  exact ⟨f, fd, hm, F.kp, F.binds (ps := ["_law_tub", "_law_few_so", "_law_much_so"]) fun _ _ _ _ _ _ us hl => match us, hl with | [_, _, _], _ => rfl, fn_d (k := 1) F sc__law_pick (fun ds n Q h => by obtain ⟨_, _, rfl, _⟩ := h; rfl) (by decide) (fun cdv A outer s H E hr => w__law_pick T h__law_take hr) law__law_pick⟩
theorem j__law_same (T : Bt mg) (a : At K mg "_law_same" 42) : ∀ k, Has P w K mg base "_law_same" (k + 1) ["_law_got", "_law_due"] (g__law_same k) := by
  obtain ⟨f, fd, hm, F⟩ := a
  have hb : Binds K fd ["_law_got", "_law_due"] [] := F.binds (ps := ["_law_got", "_law_due"]) fun _ _ _ _ _ _ us hl => match us, hl with | [_, _], _ => rfl
  have st : ∀ (k : Nat) (g : GF), Has P w K mg base "_law_same" k ["_law_got", "_law_due"] g → (∀ k', k = k' + 1 → g = g__law_same k') → Has P w K mg base "_law_same" (k + 1) ["_law_got", "_law_due"] (g__law_same k) := fun k g h hg =>
    ⟨f, fd, hm, F.kp, hb, fn_d (k := k) F sc__law_same (fun ds n Q h => by obtain ⟨_, rfl, _⟩ := h; rfl) (by decide) (fun cdv A outer s H E hr => w__law_same T h hr) (law__law_same hg)⟩
  intro k
  induction k with
  | zero => exact st 0 (fun _ _ _ => False) ⟨f, fd, hm, F.kp, hb, ⟨fun vs H Q E ⟨_, _, _, _, _, _, _, _, _, h, _⟩ => h.elim, fun A outer s H args us vs Q E _ _ _ _ ⟨_, _, _, _, _, _, _, _, _, h, _⟩ => h.elim⟩⟩ (fun k' e => by cases e)
  | succ k ih => exact st (k + 1) _ ih (fun k' e => by cases e; rfl)
theorem j__law_lists (T : Bt mg) (a : At K mg "_law_lists" 43) : ∀ k, Has P w K mg base "_law_lists" (k + 1) ["_law_matter"] (g__law_lists k) := by
  obtain ⟨f, fd, hm, F⟩ := a
  have hb : Binds K fd ["_law_matter"] [] := F.binds (ps := ["_law_matter"]) fun _ _ _ _ _ _ us hl => match us, hl with | [_], _ => rfl
  have st : ∀ (k : Nat) (g : GF), Has P w K mg base "_law_lists" k ["_law_matter"] g → (∀ k', k = k' + 1 → g = g__law_lists k') → Has P w K mg base "_law_lists" (k + 1) ["_law_matter"] (g__law_lists k) := fun k g h hg =>
    ⟨f, fd, hm, F.kp, hb, fn_d (k := k) F sc__law_lists (fun ds n Q h => by obtain ⟨_, rfl, _⟩ := h; rfl) (by decide) (fun cdv A outer s H E hr => w__law_lists T h hr) (law__law_lists hg)⟩
  intro k
  induction k with
  | zero => exact st 0 (fun _ _ _ => False) ⟨f, fd, hm, F.kp, hb, ⟨fun vs H Q E ⟨_, _, _, _, _, _, _, _, _, h, _⟩ => h.elim, fun A outer s H args us vs Q E _ _ _ _ ⟨_, _, _, _, _, _, _, _, _, h, _⟩ => h.elim⟩⟩ (fun k' e => by cases e)
  | succ k ih => exact st (k + 1) _ ih (fun k' e => by cases e; rfl)
theorem j__law_half (T : Bt mg) (a : At K mg "_law_half" 44) (h__law_lists : Has P w K mg base "_law_lists" 10 ["_law_matter"] (g__law_lists 9)) : Has P w K mg base "_law_half" 11 ["_law_matter"] (g__law_half 9) := by
  obtain ⟨f, fd, hm, F⟩ := a
  exact ⟨f, fd, hm, F.kp, F.binds (ps := ["_law_matter"]) fun _ _ _ _ _ _ us hl => match us, hl with | [_], _ => rfl, fn_d (k := 10) F sc__law_half (fun ds n Q h => by obtain ⟨_, rfl, _⟩ := h; rfl) (by decide) (fun cdv A outer s H E hr => w__law_half T h__law_lists hr) law__law_half⟩
theorem j__law_web (T : Bt mg) (a : At K mg "_law_web" 45) (h__law_take : Has P w K mg base "_law_take" 1 ["_law_tub", "_law_top_to"] g__law_take) (h__law_pick : Has P w K mg base "_law_pick" 2 ["_law_tub", "_law_few_so", "_law_much_so"] g__law_pick) : Has P w K mg base "_law_web" 3 ["_law_tub", "_law_wide_so", "_law_many_so"] g__law_web := by
  obtain ⟨f, fd, hm, F⟩ := a
  exact ⟨f, fd, hm, F.kp, F.binds (ps := ["_law_tub", "_law_wide_so", "_law_many_so"]) fun _ _ _ _ _ _ us hl => match us, hl with | [_, _, _], _ => rfl, fn_d (k := 2) F sc__law_web (fun ds n Q h => by obtain ⟨rfl, _⟩ := h; rfl) (by decide) (fun cdv A outer s H E hr => w__law_web T h__law_take h__law_pick hr) law__law_web⟩
theorem j__law_row (T : Bt mg) (a : At K mg "_law_row" 46) (h__law_pick : Has P w K mg base "_law_pick" 2 ["_law_tub", "_law_few_so", "_law_much_so"] g__law_pick) (h__law_take : Has P w K mg base "_law_take" 1 ["_law_tub", "_law_top_to"] g__law_take) (h__law_of : Has P w K mg base "_law_of" 2 ["_law_tub", "_law_few_so"] g__law_of) : Has P w K mg base "_law_row" 3 ["_law_tub", "_law_web_here", "_law_most_so"] g__law_row := by
  obtain ⟨f, fd, hm, F⟩ := a
  exact ⟨f, fd, hm, F.kp, F.binds (ps := ["_law_tub", "_law_web_here", "_law_most_so"]) fun _ _ _ _ _ _ us hl => match us, hl with | [_, _, _], _ => rfl, fn_d (k := 2) F sc__law_row (fun ds n Q h => by obtain ⟨_, _, rfl, _⟩ := h; rfl) (by decide) (fun cdv A outer s H E hr => w__law_row T h__law_pick h__law_take h__law_of hr) law__law_row⟩
theorem j__law_may (T : Bt mg) (a : At K mg "_law_may" 47) : Has P w K mg base "_law_may" 1 ["_law_web_here", "_law_row_so"] g__law_may := by
  obtain ⟨f, fd, hm, F⟩ := a
  exact ⟨f, fd, hm, F.kp, F.binds (ps := ["_law_web_here", "_law_row_so"]) fun _ _ _ _ _ _ us hl => match us, hl with | [_, _], _ => rfl, fn_d (k := 0) F sc__law_may (fun ds n Q h => by obtain ⟨_, _, _, rfl, _⟩ := h; rfl) (by decide) (fun cdv A outer s H E hr => w__law_may T  hr) law__law_may⟩
theorem j__law_ways (T : Bt mg) (a : At K mg "_law_ways" 48) : Has P w K mg base "_law_ways" 1 ["_law_may_so", "_law_some_so"] g__law_ways := by
  obtain ⟨f, fd, hm, F⟩ := a
  exact ⟨f, fd, hm, F.kp, F.binds (ps := ["_law_may_so", "_law_some_so"]) fun _ _ _ _ _ _ us hl => match us, hl with | [_, _], _ => rfl, fn_d (k := 0) F sc__law_ways (fun ds n Q h => by obtain ⟨_, _, _, _, rfl, _⟩ := h; rfl) (by decide) (fun cdv A outer s H E hr => w__law_ways T  hr) law__law_ways⟩
theorem j__law_best (T : Bt mg) (a : At K mg "_law_best" 49) (h__law_may : Has P w K mg base "_law_may" 1 ["_law_web_here", "_law_row_so"] g__law_may) (h__law_ways : Has P w K mg base "_law_ways" 1 ["_law_may_so", "_law_some_so"] g__law_ways) : Has P w K mg base "_law_best" 2 ["_law_web_here", "_law_row_so"] g__law_best := by
  obtain ⟨f, fd, hm, F⟩ := a
  exact ⟨f, fd, hm, F.kp, F.binds (ps := ["_law_web_here", "_law_row_so"]) fun _ _ _ _ _ _ us hl => match us, hl with | [_, _], _ => rfl, fn_d (k := 1) F sc__law_best (fun ds n Q h => by obtain ⟨_, _, _, _, rfl, _⟩ := h; rfl) (by decide) (fun cdv A outer s H E hr => w__law_best T h__law_may h__law_ways hr) law__law_best⟩
theorem j__law_seats (T : Bt mg) (a : At K mg "_law_seats" 50) (h__law_may : Has P w K mg base "_law_may" 1 ["_law_web_here", "_law_row_so"] g__law_may) (h__law_pick : Has P w K mg base "_law_pick" 2 ["_law_tub", "_law_few_so", "_law_much_so"] g__law_pick) (h__law_take : Has P w K mg base "_law_take" 1 ["_law_tub", "_law_top_to"] g__law_take) (h__law_of : Has P w K mg base "_law_of" 2 ["_law_tub", "_law_few_so"] g__law_of) : Has P w K mg base "_law_seats" 3 ["_law_tub", "_law_web_here", "_law_row_so"] g__law_seats := by
  obtain ⟨f, fd, hm, F⟩ := a
  exact ⟨f, fd, hm, F.kp, F.binds (ps := ["_law_tub", "_law_web_here", "_law_row_so"]) fun _ _ _ _ _ _ us hl => match us, hl with | [_, _, _], _ => rfl, fn_d (k := 2) F sc__law_seats (fun ds n Q h => by obtain ⟨_, _, _, _, rfl, _⟩ := h; rfl) (by decide) (fun cdv A outer s H E hr => w__law_seats T h__law_may h__law_pick h__law_take h__law_of hr) law__law_seats⟩
theorem j__law_goes (T : Bt mg) (a : At K mg "_law_goes" 51) : Has P w K mg base "_law_goes" 1 ["_law_may_so", "_law_seats_so", "_law_tag"] g__law_goes := by
  obtain ⟨f, fd, hm, F⟩ := a
  exact ⟨f, fd, hm, F.kp, F.binds (ps := ["_law_may_so", "_law_seats_so", "_law_tag"]) fun _ _ _ _ _ _ us hl => match us, hl with | [_, _, _], _ => rfl, fn_d (k := 0) F sc__law_goes (fun ds n Q h => by obtain ⟨_, _, _, _, rfl, _⟩ := h; rfl) (by decide) (fun cdv A outer s H E hr => w__law_goes T  hr) law__law_goes⟩
theorem j__law_shifts (T : Bt mg) (a : At K mg "_law_shifts" 52) : Has P w K mg base "_law_shifts" 1 ["_law_row_so", "_law_may_so", "_law_seats_so", "_law_tag"] g__law_shifts := by
  obtain ⟨f, fd, hm, F⟩ := a
  exact ⟨f, fd, hm, F.kp, F.binds (ps := ["_law_row_so", "_law_may_so", "_law_seats_so", "_law_tag"]) fun _ _ _ _ _ _ us hl => match us, hl with | [_, _, _, _], _ => rfl, fn_d (k := 0) F sc__law_shifts (fun ds n Q h => by obtain ⟨_, _, _, _, _, rfl, _⟩ := h; rfl) (by decide) (fun cdv A outer s H E hr => w__law_shifts T  hr) law__law_shifts⟩
theorem j__law_kit (T : Bt mg) (a : At K mg "_law_kit" 53) : Has P w K mg base "_law_kit" 1 [] g__law_kit := by
  obtain ⟨f, fd, hm, F⟩ := a
  exact ⟨f, fd, hm, F.kp, F.binds (ps := []) fun _ _ _ _ _ _ us hl => match us, hl with | [], _ => rfl, fn_d (k := 0) F sc__law_kit (fun ds n Q h => by obtain ⟨rfl, _⟩ := h; rfl) (by decide) (fun cdv A outer s H E hr => w__law_kit T  hr) law__law_kit⟩
theorem j__law_ends (T : Bt mg) (a : At K mg "_law_ends" 54) (h__law_goes : Has P w K mg base "_law_goes" 1 ["_law_may_so", "_law_seats_so", "_law_tag"] g__law_goes) : Has P w K mg base "_law_ends" 2 ["_law_row_so", "_law_may_so", "_law_seats_so", "_law_tag"] g__law_ends := by
  obtain ⟨f, fd, hm, F⟩ := a
  exact ⟨f, fd, hm, F.kp, F.binds (ps := ["_law_row_so", "_law_may_so", "_law_seats_so", "_law_tag"]) fun _ _ _ _ _ _ us hl => match us, hl with | [_, _, _, _], _ => rfl, fn_d (k := 1) F sc__law_ends (fun ds n Q h => by obtain ⟨_, _, _, _, _, rfl, _⟩ := h; rfl) (by decide) (fun cdv A outer s H E hr => w__law_ends T h__law_goes hr) law__law_ends⟩
theorem j__law_moved (T : Bt mg) (a : At K mg "_law_moved" 55) : Has P w K mg base "_law_moved" 1 ["_law_seats_so", "_law_way_so"] g__law_moved := by
  obtain ⟨f, fd, hm, F⟩ := a
  exact ⟨f, fd, hm, F.kp, F.binds (ps := ["_law_seats_so", "_law_way_so"]) fun _ _ _ _ _ _ us hl => match us, hl with | [_, _], _ => rfl, fn_d (k := 0) F sc__law_moved (fun ds n Q h => by obtain ⟨_, _, _, rfl, _⟩ := h; rfl) (by decide) (fun cdv A outer s H E hr => w__law_moved T  hr) law__law_moved⟩
theorem j__law_case_right (T : Bt mg) (a : At K mg "_law_case_right" 57) (h__law_may : Has P w K mg base "_law_may" 1 ["_law_web_here", "_law_row_so"] g__law_may) (h__law_ends : Has P w K mg base "_law_ends" 2 ["_law_row_so", "_law_may_so", "_law_seats_so", "_law_tag"] g__law_ends) (h__law_shifts : Has P w K mg base "_law_shifts" 1 ["_law_row_so", "_law_may_so", "_law_seats_so", "_law_tag"] g__law_shifts) (h_a_right_shift : Has P w K mg base "a_right_shift" 14 ["book", "ready", "seating", "task"] g_a_right_shift) (h__law_same : Has P w K mg base "_law_same" 10 ["_law_got", "_law_due"] (g__law_same 9)) (h_right_moves : Has P w K mg base "right_moves" 14 ["book", "ready", "seating", "task"] g_right_moves) (h_is_right : Has P w K mg base "is_right" 14 ["book", "ready", "seating", "thing"] g_is_right) (h__law_lists : Has P w K mg base "_law_lists" 10 ["_law_matter"] (g__law_lists 9)) (hK_a_right_shift : HasK P w K mg base "a_right_shift" 14 ["book", "ready", "seating", "task"] g_a_right_shift) : Has P w K mg base "_law_case_right" 15 ["_law_web_here", "_law_row_so", "_law_seats_so"] g__law_case_right := by
  obtain ⟨f, fd, hm, F⟩ := a
  exact ⟨f, fd, hm, F.kp, F.binds (ps := ["_law_web_here", "_law_row_so", "_law_seats_so"]) fun _ _ _ _ _ _ us hl => match us, hl with | [_, _, _], _ => rfl, fn_d (k := 14) F sc__law_case_right (fun ds n Q h => by obtain ⟨_, _, _, _, _, rfl, _⟩ := h; rfl) (by decide) (fun cdv A outer s H E hr => w__law_case_right T h__law_may h__law_ends h__law_shifts h_a_right_shift h__law_same h_right_moves h_is_right h__law_lists hK_a_right_shift hr) law__law_case_right⟩
theorem j__law_alone_right (T : Bt mg) (a : At K mg "_law_alone_right" 58) (h__law_may : Has P w K mg base "_law_may" 1 ["_law_web_here", "_law_row_so"] g__law_may) (h__law_best : Has P w K mg base "_law_best" 2 ["_law_web_here", "_law_row_so"] g__law_best) (h__law_ways : Has P w K mg base "_law_ways" 1 ["_law_may_so", "_law_some_so"] g__law_ways) (h__law_shifts : Has P w K mg base "_law_shifts" 1 ["_law_row_so", "_law_may_so", "_law_seats_so", "_law_tag"] g__law_shifts) (h__law_moved : Has P w K mg base "_law_moved" 1 ["_law_seats_so", "_law_way_so"] g__law_moved) (h_shifted : Has P w K mg base "shifted" 12 ["seating", "shift"] g_shifted) (h_is_right : Has P w K mg base "is_right" 14 ["book", "ready", "seating", "thing"] g_is_right) (h_is_settled : Has P w K mg base "is_settled" 16 ["book", "ready", "seating"] g_is_settled) (h__law_same : Has P w K mg base "_law_same" 10 ["_law_got", "_law_due"] (g__law_same 9)) : Has P w K mg base "_law_alone_right" 17 ["_law_web_here", "_law_row_so", "_law_tag"] g__law_alone_right := by
  obtain ⟨f, fd, hm, F⟩ := a
  exact ⟨f, fd, hm, F.kp, F.binds (ps := ["_law_web_here", "_law_row_so", "_law_tag"]) fun _ _ _ _ _ _ us hl => match us, hl with | [_, _, _], _ => rfl, fn_d (k := 16) F sc__law_alone_right (fun ds n Q h => by obtain ⟨_, _, _, _, _, rfl, _⟩ := h; rfl) (by decide) (fun cdv A outer s H E hr => w__law_alone_right T h__law_may h__law_best h__law_ways h__law_shifts h__law_moved h_shifted h_is_right h_is_settled h__law_same hr) law__law_alone_right⟩
theorem j__law_by_hand_right (T : Bt mg) (a : At K mg "_law_by_hand_right" 59) (h__law_kit : Has P w K mg base "_law_kit" 1 [] g__law_kit) (h_right_moves : Has P w K mg base "right_moves" 14 ["book", "ready", "seating", "task"] g_right_moves) (h_a_right_shift : Has P w K mg base "a_right_shift" 14 ["book", "ready", "seating", "task"] g_a_right_shift) (h_ideal : Has P w K mg base "ideal" 14 ["book", "ready"] g_ideal) (h__law_heard : Has P w K mg base "_law_heard" 15 ["_law_door", "_law_web_here", "_law_row_so", "_law_seats_so", "_law_tag"] g__law_heard) (h__law_lists : Has P w K mg base "_law_lists" 10 ["_law_matter"] (g__law_lists 9)) (h__law_half : Has P w K mg base "_law_half" 11 ["_law_matter"] (g__law_half 9)) (hK_right_moves : HasK P w K mg base "right_moves" 14 ["book", "ready", "seating", "task"] g_right_moves) (hK_a_right_shift : HasK P w K mg base "a_right_shift" 14 ["book", "ready", "seating", "task"] g_a_right_shift) (h__law_same : Has P w K mg base "_law_same" 10 ["_law_got", "_law_due"] (g__law_same 9)) (h__law_case_right : Has P w K mg base "_law_case_right" 15 ["_law_web_here", "_law_row_so", "_law_seats_so"] g__law_case_right) (h__law_alone_right : Has P w K mg base "_law_alone_right" 17 ["_law_web_here", "_law_row_so", "_law_tag"] g__law_alone_right) : Has P w K mg base "_law_by_hand_right" 18 [] g__law_by_hand_right := by
  obtain ⟨f, fd, hm, F⟩ := a
  exact ⟨f, fd, hm, F.kp, F.binds (ps := []) fun _ _ _ _ _ _ us hl => match us, hl with | [], _ => rfl, fn_d (k := 17) F sc__law_by_hand_right (fun ds n Q h => by obtain ⟨rfl, _⟩ := h; rfl) (by decide) (fun cdv A outer s H E hr => w__law_by_hand_right T h__law_kit h_right_moves h_a_right_shift h_ideal h__law_heard h__law_lists h__law_half hK_right_moves hK_a_right_shift h__law_same h__law_case_right h__law_alone_right hr) law__law_by_hand_right⟩
theorem j__law_right (T : Bt mg) (a : At K mg "_law_right" 60) (h__law_web : Has P w K mg base "_law_web" 3 ["_law_tub", "_law_wide_so", "_law_many_so"] g__law_web) (h__law_row : Has P w K mg base "_law_row" 3 ["_law_tub", "_law_web_here", "_law_most_so"] g__law_row) (h__law_case_right : Has P w K mg base "_law_case_right" 15 ["_law_web_here", "_law_row_so", "_law_seats_so"] g__law_case_right) (h__law_seats : Has P w K mg base "_law_seats" 3 ["_law_tub", "_law_web_here", "_law_row_so"] g__law_seats) (h__law_alone_right : Has P w K mg base "_law_alone_right" 17 ["_law_web_here", "_law_row_so", "_law_tag"] g__law_alone_right) (h__law_of : Has P w K mg base "_law_of" 2 ["_law_tub", "_law_few_so"] g__law_of) : Has P w K mg base "_law_right" 18 ["_law_tub"] g__law_right := by
  obtain ⟨f, fd, hm, F⟩ := a
  exact ⟨f, fd, hm, F.kp, F.binds (ps := ["_law_tub"]) fun _ _ _ _ _ _ us hl => match us, hl with | [_], _ => rfl, fn_d (k := 17) F sc__law_right (fun ds n Q h => by obtain ⟨rfl, _⟩ := h; rfl) (by decide) (fun cdv A outer s H E hr => w__law_right T h__law_web h__law_row h__law_case_right h__law_seats h__law_alone_right h__law_of hr) law__law_right⟩
theorem j_law (T : Bt mg) (a : At K mg "law" 61) (h__law_by_hand_right : Has P w K mg base "_law_by_hand_right" 18 [] g__law_by_hand_right) (h__law_cells : Has P w K mg base "_law_cells" 1 ["_law_script", "_law_most_so"] g__law_cells) (h__law_right : Has P w K mg base "_law_right" 18 ["_law_tub"] g__law_right) (h__law_box : HasF P w K mg base "_law_box" 1 ["_law_script", "_law_k"] g__law_box) : Has P w K mg base "law" 19 ["_law_script"] g_law := by
  obtain ⟨f, fd, hm, F⟩ := a
  exact ⟨f, fd, hm, F.kp, F.binds (ps := ["_law_script"]) fun _ _ _ _ _ _ us hl => match us, hl with | [_], _ => rfl, fn_d (k := 18) F sc_law (fun ds n Q h => by obtain ⟨_, rfl, _⟩ := h; rfl) (by decide) (fun cdv A outer s H E hr => w_law T h__law_by_hand_right h__law_cells h__law_right h__law_box hr) law_law⟩
theorem j__law_heard (T : Bt mg) {C : Addr} (NK : NtK K C) (hnt : mg "NoTask" = some (.ref C)) (a : At K mg "_law_heard" 56) (h1 : HasX P w K mg base "right_moves" 4 ["book", "ready", "seating", "task"] C gx_shift) (h2 : HasX P w K mg base "a_right_shift" 4 ["book", "ready", "seating", "task"] C gx_shift) : Has P w K mg base "_law_heard" 5 ["_law_door", "_law_web_here", "_law_row_so", "_law_seats_so", "_law_tag"] g__law_heard := by
  obtain ⟨f, fd, hm, F⟩ := a
  exact ⟨f, fd, hm, F.kp, F.binds (ps := ["_law_door", "_law_web_here", "_law_row_so", "_law_seats_so", "_law_tag"]) fun _ _ _ _ _ _ us hl => match us, hl with | [_, _, _, _, _], _ => rfl, fn_d (k := 4) F sc__law_heard (fun ds n Q h => by obtain ⟨_, _, _, _, _, _, rfl, _⟩ := h; rfl) (by decide) (fun cdv A outer s H E hr => w__law_heard T NK hnt h1 h2 hr) law__law_heard⟩
theorem jx_check_task {C fI cc cda : Addr} (T : Bt mg) (a : At K mg "check_task" 13) (h : Has P w K mg base "tasks_of" 1 ["ready"] g_tasks_of) (TN : NtC P K C fI cc cda) (R : NtR K C) (hnt : mg "NoTask" = some (.ref C)) : HasX P w K mg base "check_task" 2 ["ready", "task"] C gx_check_task := by
  obtain ⟨f, fd, hm, F⟩ := a
  exact ⟨f, fd, hm, F.kp, F.binds (ps := ["ready", "task"]) fun _ _ _ _ _ _ us hl => match us, hl with | [_, _], _ => rfl, fx_check_task T h TN R hnt F⟩
theorem jx_best_way {C fI cc cda : Addr} (T : Bt mg) (a : At K mg "best_way" 28) (h : HasX P w K mg base "check_task" 2 ["ready", "task"] C gx_check_task) : HasX P w K mg base "best_way" 3 ["book", "ready", "seating", "task", "right"] C gx_best_way := by
  obtain ⟨f, fd, hm, F⟩ := a
  exact ⟨f, fd, hm, F.kp, F.binds (ps := ["book", "ready", "seating", "task", "right"]) fun _ _ _ _ _ _ us hl => match us, hl with | [_, _, _, _, _], _ => rfl, fx_best_way h F⟩
theorem jx_a_right_shift {C fI cc cda : Addr} (T : Bt mg) (a : At K mg "a_right_shift" 30) (h : HasX P w K mg base "best_way" 3 ["book", "ready", "seating", "task", "right"] C gx_best_way) : HasX P w K mg base "a_right_shift" 4 ["book", "ready", "seating", "task"] C gx_shift := by
  obtain ⟨f, fd, hm, F⟩ := a
  exact ⟨f, fd, hm, F.kp, F.binds (ps := ["book", "ready", "seating", "task"]) fun _ _ _ _ _ _ us hl => match us, hl with | [_, _, _, _], _ => rfl, fx_a_right_shift h F⟩
theorem jx_right_moves {C fI cc cda : Addr} (T : Bt mg) (a : At K mg "right_moves" 31) (h0 : Has P w K mg base "moves_of" 1 ["way"] g_moves_of) (h : HasX P w K mg base "best_way" 3 ["book", "ready", "seating", "task", "right"] C gx_best_way) : HasX P w K mg base "right_moves" 4 ["book", "ready", "seating", "task"] C gx_shift := by
  obtain ⟨f, fd, hm, F⟩ := a
  exact ⟨f, fd, hm, F.kp, F.binds (ps := ["book", "ready", "seating", "task"]) fun _ _ _ _ _ _ us hl => match us, hl with | [_, _, _, _], _ => rfl, fx_right_moves h0 h F⟩
/-- every def of the text -/
def defs : List (Str × Nat) := ([("is_name", 5), ("tupled", 6), ("masks_table", 8), ("may_table", 10), ("tasks_of", 12), ("check_task", 13), ("seat_more", 14), ("seat_all", 15), ("ideal", 16), ("seats_of", 18), ("does_wait", 19), ("reach", 20)] : List (Str × Nat)) ++ ([("is_end", 21), ("is_row_of", 22), ("is_shift", 23), ("ways_on", 24), ("shortest", 25), ("right_ends_of", 27), ("best_way", 28), ("moves_of", 29), ("a_right_shift", 30), ("right_moves", 31), ("is_right", 32), ("shifted", 33)] : List (Str × Nat)) ++ ([("next_shift", 34), ("is_settled", 35), ("_law_box", 37), ("_law_take", 38), ("_law_cells", 39), ("_law_of", 40), ("_law_pick", 41), ("_law_same", 42), ("_law_lists", 43), ("_law_half", 44), ("_law_web", 45), ("_law_row", 46)] : List (Str × Nat)) ++ ([("_law_may", 47), ("_law_ways", 48), ("_law_best", 49), ("_law_seats", 50), ("_law_goes", 51), ("_law_shifts", 52), ("_law_kit", 53), ("_law_ends", 54), ("_law_moved", 55), ("_law_case_right", 57), ("_law_alone_right", 58), ("_law_by_hand_right", 59)] : List (Str × Nat)) ++ ([("_law_right", 60), ("law", 61), ("_law_heard", 56)] : List (Str × Nat))
theorem j_all {C fI cc cda c P0 : Addr} (T : Bt mg) (A : ∀ p ∈ defs, At K mg p.1 p.2) {t1 t2 : Tok} (hL1 : mg "LONGEST" = some (.int cLONGEST t1)) (hL2 : mg "LETTERS" = some (.str cLETTERS t2)) (TN : NtC P K C fI cc cda) (R : NtR K C) (NK : NtK K C) (hnt : mg "NoTask" = some (.ref C))
    (hc : ∀ f fd, mg "right_ends_of" = some (.ref f) → Fun K "right_ends_of" "right_ends_of" (top 27) f fd → fd.code = .ref c) (TB : LamX.TabB base mg c P0) (hT : TabsOf.tt = [(P0, qLam)]) {f : Addr} {fd : FuncData} (F : Fun K "law" "law" (top 61) f fd) : FnOk P w K mg base CX0 19 f fd ["_law_script"] (spD K g_law) := by
  have h_is_name := j_is_name (P := P) (w := w) (base := base) T (A ("is_name", 5) (by decide +kernel)) hL1 hL2
  have h_tupled := j_tupled (P := P) (w := w) (base := base) T (A ("tupled", 6) (by decide +kernel)) 9
  have h_masks_table := j_masks_table (P := P) (w := w) (base := base) T (A ("masks_table", 8) (by decide +kernel)) h_tupled
  have h_may_table := j_may_table (P := P) (w := w) (base := base) T (A ("may_table", 10) (by decide +kernel)) h_masks_table
  have h_tasks_of := j_tasks_of (P := P) (w := w) (base := base) T (A ("tasks_of", 12) (by decide +kernel)) 
  have h_check_task := j_check_task (P := P) (w := w) (base := base) T (A ("check_task", 13) (by decide +kernel)) h_tasks_of
  have h_seat_more := j_seat_more (P := P) (w := w) (base := base) T (A ("seat_more", 14) (by decide +kernel)) 
  have h_seat_all := j_seat_all (P := P) (w := w) (base := base) T (A ("seat_all", 15) (by decide +kernel)) h_may_table h_tasks_of h_seat_more
  have h_ideal := j_ideal (P := P) (w := w) (base := base) T (A ("ideal", 16) (by decide +kernel)) h_seat_all
  have h_seats_of := j_seats_of (P := P) (w := w) (base := base) T (A ("seats_of", 18) (by decide +kernel)) h_tupled
  have h_does_wait := j_does_wait (P := P) (w := w) (base := base) T (A ("does_wait", 19) (by decide +kernel)) 
  have h_reach := j_reach (P := P) (w := w) (base := base) T (A ("reach", 20) (by decide +kernel)) 
  have h_is_end := j_is_end (P := P) (w := w) (base := base) T (A ("is_end", 21) (by decide +kernel)) 
  have h_is_row_of := j_is_row_of (P := P) (w := w) (base := base) T (A ("is_row_of", 22) (by decide +kernel)) h_does_wait
  have h_is_shift := j_is_shift (P := P) (w := w) (base := base) T (A ("is_shift", 23) (by decide +kernel)) h_is_name h_tasks_of h_seats_of h_may_table h_is_row_of h_is_end
  have h_ways_on := j_ways_on (P := P) (w := w) (base := base) T (A ("ways_on", 24) (by decide +kernel)) 
  have h_shortest := j_shortest (P := P) (w := w) (base := base) T (A ("shortest", 25) (by decide +kernel)) h_ways_on
  have h_right_ends_of := j_right_ends_of (P := P) (w := w) T (A ("right_ends_of", 27) (by decide +kernel)) hc TB hT h_reach h_is_end
  have h_best_way := j_best_way (P := P) (w := w) (base := base) T (A ("best_way", 28) (by decide +kernel)) h_check_task h_tasks_of h_seats_of h_may_table h_does_wait h_right_ends_of h_shortest
  have h_moves_of := j_moves_of (P := P) (w := w) (base := base) T (A ("moves_of", 29) (by decide +kernel)) 
  have h_a_right_shift := j_a_right_shift (P := P) (w := w) (base := base) T (A ("a_right_shift", 30) (by decide +kernel)) h_best_way
  have hK_a_right_shift := jk_a_right_shift (P := P) (w := w) (base := base) T (A ("a_right_shift", 30) (by decide +kernel)) h_best_way
  have h_right_moves := j_right_moves (P := P) (w := w) (base := base) T (A ("right_moves", 31) (by decide +kernel)) h_moves_of h_best_way
  have hK_right_moves := jk_right_moves (P := P) (w := w) (base := base) T (A ("right_moves", 31) (by decide +kernel)) h_moves_of h_best_way
  have h_is_right := j_is_right (P := P) (w := w) (base := base) T (A ("is_right", 32) (by decide +kernel)) h_is_shift h_right_ends_of h_may_table h_seats_of h_tasks_of
  have h_shifted := j_shifted (P := P) (w := w) (base := base) T (A ("shifted", 33) (by decide +kernel)) h_seats_of
  have h_next_shift := j_next_shift (P := P) (w := w) (base := base) T (A ("next_shift", 34) (by decide +kernel)) h_tasks_of h_a_right_shift
  have h_is_settled := j_is_settled (P := P) (w := w) (base := base) T (A ("is_settled", 35) (by decide +kernel)) h_next_shift
  have h__law_box := j__law_box (P := P) (w := w) (base := base) T (A ("_law_box", 37) (by decide +kernel)) 
  have h__law_take := j__law_take (P := P) (w := w) (base := base) T (A ("_law_take", 38) (by decide +kernel)) 
  have h__law_cells := j__law_cells (P := P) (w := w) (base := base) T (A ("_law_cells", 39) (by decide +kernel)) 
  have h__law_of := j__law_of (P := P) (w := w) (base := base) T (A ("_law_of", 40) (by decide +kernel)) h__law_take
  have h__law_pick := j__law_pick (P := P) (w := w) (base := base) T (A ("_law_pick", 41) (by decide +kernel)) h__law_take
  have h__law_same := j__law_same (P := P) (w := w) (base := base) T (A ("_law_same", 42) (by decide +kernel)) 9
  have h__law_lists := j__law_lists (P := P) (w := w) (base := base) T (A ("_law_lists", 43) (by decide +kernel)) 9
  have h__law_half := j__law_half (P := P) (w := w) (base := base) T (A ("_law_half", 44) (by decide +kernel)) h__law_lists
  have h__law_web := j__law_web (P := P) (w := w) (base := base) T (A ("_law_web", 45) (by decide +kernel)) h__law_take h__law_pick
  have h__law_row := j__law_row (P := P) (w := w) (base := base) T (A ("_law_row", 46) (by decide +kernel)) h__law_pick h__law_take h__law_of
  have h__law_may := j__law_may (P := P) (w := w) (base := base) T (A ("_law_may", 47) (by decide +kernel)) 
  have h__law_ways := j__law_ways (P := P) (w := w) (base := base) T (A ("_law_ways", 48) (by decide +kernel)) 
  have h__law_best := j__law_best (P := P) (w := w) (base := base) T (A ("_law_best", 49) (by decide +kernel)) h__law_may h__law_ways
  have h__law_seats := j__law_seats (P := P) (w := w) (base := base) T (A ("_law_seats", 50) (by decide +kernel)) h__law_may h__law_pick h__law_take h__law_of
  have h__law_goes := j__law_goes (P := P) (w := w) (base := base) T (A ("_law_goes", 51) (by decide +kernel)) 
  have h__law_shifts := j__law_shifts (P := P) (w := w) (base := base) T (A ("_law_shifts", 52) (by decide +kernel)) 
  have h__law_kit := j__law_kit (P := P) (w := w) (base := base) T (A ("_law_kit", 53) (by decide +kernel)) 
  have h__law_ends := j__law_ends (P := P) (w := w) (base := base) T (A ("_law_ends", 54) (by decide +kernel)) h__law_goes
  have h__law_moved := j__law_moved (P := P) (w := w) (base := base) T (A ("_law_moved", 55) (by decide +kernel)) 
  have h__law_case_right := j__law_case_right (P := P) (w := w) (base := base) T (A ("_law_case_right", 57) (by decide +kernel)) h__law_may h__law_ends h__law_shifts h_a_right_shift h__law_same h_right_moves h_is_right h__law_lists hK_a_right_shift
  have h__law_alone_right := j__law_alone_right (P := P) (w := w) (base := base) T (A ("_law_alone_right", 58) (by decide +kernel)) h__law_may h__law_best h__law_ways h__law_shifts h__law_moved h_shifted h_is_right h_is_settled h__law_same
  have x1 := jx_check_task (P := P) (w := w) (base := base) T (A ("check_task", 13) (by decide +kernel)) h_tasks_of TN R hnt
  have x2 := jx_best_way (fI := fI) (cc := cc) (cda := cda) T (A ("best_way", 28) (by decide +kernel)) x1
  have x3 := jx_a_right_shift (fI := fI) (cc := cc) (cda := cda) T (A ("a_right_shift", 30) (by decide +kernel)) x2
  have x4 := jx_right_moves (fI := fI) (cc := cc) (cda := cda) T (A ("right_moves", 31) (by decide +kernel)) h_moves_of x2
  have h__law_heard := has_up (k := 15) (j__law_heard T NK hnt (A ("_law_heard", 56) (by decide +kernel)) x4 x3) (by decide)
  have h__law_by_hand_right := j__law_by_hand_right (P := P) (w := w) (base := base) T (A ("_law_by_hand_right", 59) (by decide +kernel)) h__law_kit h_right_moves h_a_right_shift h_ideal h__law_heard h__law_lists h__law_half hK_right_moves hK_a_right_shift h__law_same h__law_case_right h__law_alone_right
  have h__law_right := j__law_right (P := P) (w := w) (base := base) T (A ("_law_right", 60) (by decide +kernel)) h__law_web h__law_row h__law_case_right h__law_seats h__law_alone_right h__law_of
  exact fn_d (k := 18) F sc_law (fun ds n Q h => by obtain ⟨_, rfl, _⟩ := h; rfl) (by decide) (fun cdv A outer s H E hr => w_law T h__law_by_hand_right h__law_cells h__law_right h__law_box hr) law_law
end
end M
end

section
namespace M
open PySem PySem.Spec PySem.Calls PyProof.Rows L2 L2.DL Mq

/-! ### what the top leaves of NoTask -/
section
variable (K : PySem.W.Frag)
def c0 : Addr := He.ga K "NoTask"
def f0 : Addr := He.ma K (c0 K) "__init__"
abbrev NtV : Type := Option (Str × Str × Arguments × FuncBody × Scope × Addr × List Str × Addr)
def ntV : NtV := match K.lookup (f0 K) with
  | some ⟨_, _, .func fd, _⟩ => some (fd.name, fd.qualname, fd.params, fd.body, fd.scope, fd.globals, fd.closure.map (·.1), fd.builtins)
  | _ => none
def ntVal : NtV := some ("__init__", "NoTask.__init__", ntArgs, .stmts ntBody, ntScope, mainGlobals, ["__class__"], builtinsNs)
def ccOf : Addr := match K.lookup (f0 K) with
  | some ⟨_, _, .func fd, _⟩ => (match fd.closure with
    | [(_, c)] => c
    | _ => 0)
  | _ => 0
def cdOf : Addr := match K.lookup (f0 K) with
  | some ⟨_, _, .func fe, _⟩ => (match fe.code with
    | .ref c => c
    | _ => 0)
  | _ => 0
def isRef : Value → Bool
  | .ref _ => true
  | _ => false
def isNon : Value → Bool
  | .none => true
  | _ => false
def nt1 : Bool := match K.lookup (f0 K) with
  | some ⟨_, _, .func fd, _⟩ => isNon fd.defaults && isRef fd.code
  | _ => false
def nt2 (file : Str) : Bool := match K.lookup (cdOf K) with
  | some ⟨_, _, .fields vs, _⟩ => (match (vs[2]? : Option Value) with
    | some (.str fl _) => file == fl
    | _ => false)
  | _ => false
def nt3 : Bool := match K.lookup (ccOf K) with
  | some ⟨_, _, .cell (some v), _⟩ => decide (v = .ref (c0 K))
  | _ => false
def nt4 : List Bool := [PySem.W.codeIn K (.ref (cdOf K)) "NoTask.__init__", (PySem.W.clsIn K (c0 K)).isSome, PySem.W.excInitIn K (c0 K) leMro "LookupError.__new__", PySem.W.excOver K (c0 K) leMro, PySem.W.hasDictIn K (c0 K),
  decide (PySem.W.findIn K (.ref (c0 K)) "__init__" = some (some (.ref (f0 K)))), decide (PySem.W.typeIn K (.ref (f0 K)) = some (.type "function")), decide (PySem.W.findIn K (.ref (c0 K)) "__setattr__" = some (some (.builtin "object.__setattr__"))),
  decide (PySem.W.takerIn K (c0 K) "name" = some none), decide (PySem.W.ks_superIn K (c0 K) (c0 K) "__init__" = some (some (.builtin "LookupError.__init__"))), decide (PySem.W.nsIn K cStatics "thirdparty.any" = some none),
  decide (PySem.W.subIn K (.ref (c0 K)) (.type "LookupError") = some true), decide (PySem.W.mroIn K (c0 K) (.ref (c0 K)) = some true), decide (PySem.W.nsIn K mainGlobals "super" = some none),
  decide (PySem.W.subIn K (.ref (c0 K)) (.type "BaseException") = some true), decide (PySem.W.typeIn K (.ref (c0 K)) = some (.type "type")), PySem.W.keepIn K (.ref (c0 K)),
  decide (PySem.W.findIn K (.ref (c0 K)) "__getattribute__" = some (some (.builtin "BaseException.__getattribute__"))), decide (PySem.W.findIn K (.ref (c0 K)) "__getattr__" = some none), decide (PySem.W.findIn K (.ref (c0 K)) "name" = some none),
  decide (PySem.W.findIn K (.ref (c0 K)) "__class__" = some (some (.builtin "object.__class__"))), decide (PySem.W.specialIn K (.builtin "object.__class__") "__get__" = some (some (.builtin "getset_descriptor.__get__"))), decide (PySem.W.takesIn K (.builtin "object.__class__") = some true),
  decide (PySem.W.mroIn K (c0 K) (.type "object") = some true), decide (PySem.W.exmOne K (.ref (c0 K)) (.ref (c0 K)) = some true), decide (PySem.W.kitOne K (.ref (c0 K)) (.type "LookupError") = some true)]
def ntB (file : Str) : Bool := nt1 K && (nt2 K file && (nt3 K && (nt4 K).all id))
end
section
variable {K : PySem.W.Frag}
theorem nt_ok {P : Program} (hv : ntV K = ntVal) (h : ntB K P.main.file = true) (hs : (P.main.scope.names.lookup ("super" : Str)).isSome = false) : NtC P K (c0 K) (f0 K) (ccOf K) (cdOf K) ∧ NtR K (c0 K) ∧ NtK K (c0 K) := by
  unfold ntB at h
  rw [Bool.and_eq_true, Bool.and_eq_true, Bool.and_eq_true] at h
  obtain ⟨h1, h2, h3, h4⟩ := h
  have g : ∀ (i : Nat) {b : Bool}, (nt4 K)[i]? = some b → b = true := fun i b e => List.all_eq_true.mp h4 b (List.mem_of_getElem? e)
  have fnn : ∃ (oc : Value) (od : Option Addr) (kV doc pm : Value) (an : Option Addr) (ct : Value) (osl : Array (Option Value)),
    K.lookup (f0 K) = some ⟨oc, od, .func (PySem.W.fnX "__init__" "NoTask.__init__" ntArgs ntBody ntScope [("__class__", ccOf K)] .none kV doc pm an (.ref (cdOf K)) ct), osl⟩ := by
    unfold ntV at hv
    unfold nt1 at h1
    unfold ccOf cdOf
    cases q : K.lookup (f0 K) with
    | none => rw [q] at hv; cases hv
    | some o =>
      obtain ⟨oc, od, dt, osl⟩ := o
      rw [q] at hv h1
      cases dt with
      | func fdz =>
        obtain ⟨n1z, n2z, n3z, n4z, n5z, n6z, n7z, n8z, n9z, n10z, n11z, n12z, n13z, n14z, n15z⟩ := fdz
        have e2z : (some (n1z, n2z, n3z, n4z, n5z, n6z, n7z.map (·.1), n15z) : NtV) = ntVal := hv
        unfold ntVal at e2z
        simp only [Option.some.injEq, Prod.mk.injEq] at e2z
        obtain ⟨e1, e2z, e3, e4, e5, e6, e7, e8⟩ := e2z
        have h1' : (isNon n8z && isRef n13z) = true := h1
        rw [Bool.and_eq_true] at h1'
        obtain ⟨k1, k2⟩ := h1'
        cases n8z <;> first | cases k1 | skip
        cases n13z <;> first | cases k2 | skip
        match n7z, e7 with
        | [(x, c)], e7 =>
          have ex : x = "__class__" := by
            have e7' : [x] = ((["__class__"] : List Str)) := e7
            injection e7'
          subst e1 e2z e3 e4 e5 e6 ex e8
          exact ⟨oc, od, n9z, n10z, n11z, n12z, n14z, osl, rfl⟩
      | _ => cases hv
  have fil : ∃ (ccl : Value) (cdd : Option Addr) (vs : Array Value) (ccs : Array (Option Value)) (file : Str) (tf : Tok), K.lookup (cdOf K) = some ⟨ccl, cdd, .fields vs, ccs⟩ ∧ vs[2]? = some (.str file tf) ∧ ((P.main.file : Str) == file) = true := by
    unfold nt2 at h2
    cases q : K.lookup (cdOf K) with
    | none => rw [q] at h2; cases h2
    | some o =>
      obtain ⟨oc, od, dt, osl⟩ := o
      rw [q] at h2
      cases dt with
      | fields vs =>
        have h2' : (match (vs[2]? : Option Value) with
          | some (.str fl _) => P.main.file == fl
          | _ => false) = true := h2
        cases e : vs[2]? with
        | none => rw [e] at h2'; cases h2'
        | some v =>
          rw [e] at h2'
          cases v with
          | str fl t => exact ⟨oc, od, vs, osl, fl, t, rfl, e, h2'⟩
          | _ => cases h2'
      | _ => cases h2
  have cel : ∃ (cl : Value) (cld : Option Addr) (csl : Array (Option Value)), K.lookup (ccOf K) = some ⟨cl, cld, .cell (some (.ref (c0 K))), csl⟩ := by
    unfold nt3 at h3
    cases q : K.lookup (ccOf K) with
    | none => rw [q] at h3; cases h3
    | some o =>
      obtain ⟨oc, od, dt, osl⟩ := o
      rw [q] at h3
      cases dt with
      | cell v =>
        cases v with
        | none => cases h3
        | some v =>
          have h3' : decide (v = .ref (c0 K)) = true := h3
          rw [of_decide_eq_true h3']
          exact ⟨oc, od, osl, rfl⟩
      | _ => cases h3
  have sub := of_decide_eq_true (g 14 rfl)
  have hga := of_decide_eq_true (g 17 rfl)
  have hgg := of_decide_eq_true (g 18 rfl)
  refine ⟨⟨fnn, g 0 rfl, fil, cel, Option.isSome_iff_exists.mp (g 1 rfl), g 2 rfl, g 3 rfl, g 4 rfl, of_decide_eq_true (g 5 rfl), of_decide_eq_true (g 6 rfl), of_decide_eq_true (g 7 rfl), of_decide_eq_true (g 8 rfl), of_decide_eq_true (g 9 rfl), of_decide_eq_true (g 10 rfl), of_decide_eq_true (g 11 rfl), of_decide_eq_true (g 12 rfl), of_decide_eq_true (g 13 rfl), hs⟩,
    ⟨sub, of_decide_eq_true (g 15 rfl), g 16 rfl⟩, ⟨⟨hga, hgg, sub, g 4 rfl⟩, of_decide_eq_true (g 19 rfl), ⟨hga, hgg, sub, g 4 rfl, of_decide_eq_true (g 20 rfl), of_decide_eq_true (g 21 rfl), of_decide_eq_true (g 22 rfl), of_decide_eq_true (g 23 rfl)⟩, of_decide_eq_true (g 24 rfl), of_decide_eq_true (g 25 rfl)⟩⟩
end
/-! ### the head's look -/
def builtinsUsed : List Str := ["len", "abs", "int", "all", "min", "max", "list", "tuple", "dict", "sorted", "set", "isinstance", "range", "enumerate", "zip", "str", "bool", "LookupError"]
def faL : List He.Fa := (defs.map fun p => He.Fa.glo p.1) ++ [.glo "NoTask", .str "LETTERS" cLETTERS, .int "LONGEST" cLONGEST] ++ builtinsUsed.map He.Fa.free
def dOf (p : Str × Nat) : He.DefD := ⟨(p.1, none), p.1, p.1, defArgs (top p.2), defBody (top p.2), defScope (top p.2), [], []⟩
def fnL : List He.DefD := defs.map dOf
def tfL : List He.Defn := [("right_ends_of", none)]
abbrev R0 : PySem.W.OpenRow := PySem.W.OpenLaw.row PySem.Challenge.rw_masksmoved_k27_whole_right_shifts_settle
def asY (g : Addr → Option Obj) (n : Nat) : List Addr := He.asD g n ++ [cStatics]
def lookY (g : Addr → Option Obj) (n : Nat) : PySem.W.Frag := He.frT g (asY g n)
abbrev AlY : Type := (He.AlD × NtV) × Bool
def seeY (n : Nat) (g : Addr → Option Obj) : AlY := ((He.obsD faL fnL (lookY g n), ntV (lookY g n)), ntB (lookY g n) R0.prog.main.file && He.tabsB g tfL (lookY g n))
def dueY : AlY := ((He.valD fnL, ntVal), true)
structure SaysY (h : Heap) (K : PySem.W.Frag) : Prop where
  d : He.SaysD faL fnL K
  v : ntV K = ntVal
  b : ntB K R0.prog.main.file = true
  hd : ∀ p ∈ tfL, PySem.W.codeHdIn K (He.cT K p).1 (He.cT K p).2 = true
  no : ∀ p ∈ tfL, K.lookup (He.cT K p).2 = none
  nil : ∀ p ∈ tfL, h.get? (He.cT K p).2 = some { cls := .none, data := .fields #[] }
theorem saysY_of {n : Nat} {h : Heap} (e : seeY n h.get? = dueY) : SaysY h (lookY h.get? n) := by
  have e1 : He.obsD faL fnL (lookY h.get? n) = He.valD fnL := congrArg (fun z : AlY => z.1.1) e
  have e2 : ntV (lookY h.get? n) = ntVal := congrArg (fun z : AlY => z.1.2) e
  have e3 : (ntB (lookY h.get? n) R0.prog.main.file && He.tabsB h.get? tfL (lookY h.get? n)) = true := congrArg (fun z : AlY => z.2) e
  rw [Bool.and_eq_true] at e3
  have each : ∀ p ∈ tfL, PySem.W.codeHdIn (lookY h.get? n) (He.cT (lookY h.get? n) p).1 (He.cT (lookY h.get? n) p).2 = true ∧ ∃ o, h.get? (He.cT (lookY h.get? n) p).2 = some o ∧ He.emptyTab o = true := fun p hp => by
    have h0 := List.all_eq_true.mp e3.2 p hp
    rw [Bool.and_eq_true] at h0
    refine ⟨h0.1, ?_⟩
    have h1 := h0.2
    cases q : h.get? (He.cT (lookY h.get? n) p).2 with
    | none => rw [q] at h1; cases h1
    | some o => rw [q] at h1; exact ⟨o, rfl, h1⟩
  refine ⟨e1, e2, e3.1, fun p hp => (each p hp).1, fun p hp => ?_, fun p hp => ?_⟩
  · obtain ⟨_, o, q, z⟩ := each p hp
    exact He.frT_none q z
  · obtain ⟨_, o, q, z⟩ := each p hp
    rw [q, He.emptyTab_eq z]
def hookY (n : Nat) : PySem.W.Hook where
  α := AlY
  obs := fun s => seeY n s.heap.get?
  val := fun _ => dueY
  says := fun _ h => ∃ K : PySem.W.Frag, K.In h ∧ SaysY h K
  of := fun _ _ e => ⟨_, He.frT_in, saysY_of e⟩
  keeps := fun _ _ _ ⟨K, hK, c⟩ k => ⟨K, PySem.W.Frag.In.keeps hK k, ⟨c.d, c.v, c.b, c.hd, c.no, fun p hp => k _ _ (c.nil p hp)⟩⟩
def obY (n : Nat) (s : PySem.W.SharedT) : AlY := seeY n (HandSHeadRun.getT s)
theorem obY_eq (n : Nat) (s : PySem.W.SharedT) : obY n s = (hookY n).obs s.abs := by
  have e : HandSHeadRun.getT s = s.abs.heap.get? := funext (HandSHeadRun.getT_eq s)
  unfold obY
  rw [e] <;> rfl
end M
end

section
namespace M
open PySem PySem.Spec PySem.Calls PyProof.Rows L2 L2.DL Mq

theorem fa_glo {x : Str} {i : Nat} (h : (x, i) ∈ defs) : He.Fa.glo x ∈ faL := List.mem_append.mpr (Or.inl (List.mem_append.mpr (Or.inl (List.mem_map.mpr ⟨_, h, rfl⟩))))
theorem fa_free {x : Str} (h : x ∈ builtinsUsed) : He.Fa.free x ∈ faL := List.mem_append.mpr (Or.inr (List.mem_map.mpr ⟨_, h, rfl⟩))
theorem law_at (w : World) (mg : Str → Option Value) (fa : Addr) (h : Heap) (Y : ∃ K : PySem.W.Frag, K.In h ∧ SaysY h K) (G : h.Ns mainGlobals mg) (hfa : mg ("law" : Str) = some (.ref fa)) :
    ∃ K : PySem.W.Frag, K.In h ∧ LamX.LawAtS PySem.Challenge.rw_masksmoved_k27_whole_right_shifts_settle w K CX0 19 63 "_law_script" mg fa h := by
  obtain ⟨K, KX, S⟩ := Y
  have AA : ∀ p ∈ defs, At K mg p.1 p.2 := fun p hp => by
    obtain ⟨fd, Fz⟩ := S.d.defs (d := dOf p) (List.mem_map.mpr ⟨p, hp, rfl⟩)
    exact ⟨_, fd, He.glo_ok KX G (S.d.facts (f := .glo p.1) (fa_glo hp)), He5.fun_of (kws := []) Fz⟩
  have fr : ∀ x ∈ builtinsUsed, mg x = none := fun x hx => He.free_ok KX G (S.d.facts (fa_free hx))
  have T : Bt mg := ⟨fr _ (by decide +kernel), fr _ (by decide +kernel), fr _ (by decide +kernel), fr _ (by decide +kernel), fr _ (by decide +kernel), fr _ (by decide +kernel), fr _ (by decide +kernel), fr _ (by decide +kernel), fr _ (by decide +kernel), fr _ (by decide +kernel), fr _ (by decide +kernel), fr _ (by decide +kernel), fr _ (by decide +kernel), fr _ (by decide +kernel), fr _ (by decide +kernel), fr _ (by decide +kernel), fr _ (by decide +kernel), fr _ (by decide +kernel)⟩
  have mid : ∀ f ∈ ([.glo "NoTask", .str "LETTERS" cLETTERS, .int "LONGEST" cLONGEST] : List He.Fa), f ∈ faL := fun f hf => List.mem_append.mpr (Or.inl (List.mem_append.mpr (Or.inr hf)))
  have hnt : mg "NoTask" = some (.ref (c0 K)) := He.glo_ok KX G (S.d.facts (mid _ List.mem_cons_self))
  obtain ⟨t2, hL2⟩ := He.str_ok (x := "LETTERS") (z := cLETTERS) KX G (S.d.facts (mid _ (List.mem_cons_of_mem _ List.mem_cons_self)))
  obtain ⟨t1, hL1⟩ := He.int_ok (x := "LONGEST") (i := cLONGEST) KX G (S.d.facts (mid _ (List.mem_cons_of_mem _ (List.mem_cons_of_mem _ List.mem_cons_self))))
  obtain ⟨TN, RN, NK⟩ := nt_ok (P := R0.prog) S.v S.b (by decide +kernel)
  have hp0 : (("right_ends_of", none) : He.Defn) ∈ tfL := List.mem_singleton.mpr rfl
  have hc : ∀ f fd, mg "right_ends_of" = some (.ref f) → Fun K "right_ends_of" "right_ends_of" (top 27) f fd → fd.code = .ref (He.cT K ("right_ends_of", none)).1 := fun f fd hm Fz => by
    have hg : mg "right_ends_of" = some (.ref (He.ga K "right_ends_of")) := He.glo_ok KX G (S.d.facts (f := .glo "right_ends_of") (fa_glo (i := 27) (by decide +kernel)))
    rw [hg] at hm
    cases hm
    obtain ⟨ocz, odz, kVz, docz, pmz, anz, cdvz, ctz, oslz, rfl, lkz, hcdz⟩ := Fz.ex
    obtain ⟨c, ec⟩ := He.codeIn_ref hcdz
    subst ec
    have := He.codeOf_eq (p := ("right_ends_of", none)) lkz rfl
    show Value.ref c = .ref (He.codeOf K ("right_ends_of", none))
    rw [this]
  obtain ⟨f, fd, hm, Fz⟩ := AA ("law", 61) (by decide +kernel)
  have hm : mg "law" = some (.ref f) := hm
  rw [hfa] at hm
  cases hm
  letI : TabsOf := ⟨[((He.cT K ("right_ends_of", none)).2, qLam)]⟩
  refine ⟨K, KX, fd, [He.cT K ("right_ends_of", none)], spD K g_law, fun p hp => ?_, fun p hp => ?_, fun p hp => ?_, ?_, ?_, fun base Kb Nb TB => j_all T AA hL1 hL2 TN RN NK hnt hc (TB _ (List.mem_singleton.mpr rfl)) rfl Fz⟩
  · obtain rfl := List.mem_singleton.mp hp
    exact S.nil _ hp0
  · obtain rfl := List.mem_singleton.mp hp
    exact S.no _ hp0
  · obtain rfl := List.mem_singleton.mp hp
    exact PySem.W.codeHd_of_K KX (S.hd _ hp0)
  · obtain ⟨ocz, odz, kVz, docz, pmz, anz, cdvz, ctz, oslz, rfl, lkz, hcdz⟩ := Fz.ex
    exact fun s u => .of_eq rfl
  · intro H a ns hl _ hH hS
    refine ⟨fun _ => False, ⟨none⟩, 0, [scrD ns], fun d _ => d = .bool true, fun a h => h.elim, fun a e => (by cases e), ⟨fun a e => (by cases e), fun p hp => ?_⟩, .cons (.scr ?_) .nil, ⟨ns, rfl, hl, fun n' => rfl⟩, fun v d H' n' x t r e => ?_⟩
    · obtain rfl := List.mem_singleton.mp hp
      exact ⟨#[], hH _ (List.mem_singleton.mpr rfl), trivial, fun pos cv hc => (by have e : (none : Option Value) = some cv := hc; cases e)⟩
    · rcases hS with h | h
      · exact .inl ⟨id, h⟩
      · exact .inr h
    · subst e
      cases r
      rfl
end M
end

section
set_option maxHeartbeats 0
namespace M
open PySem PySem.Spec PySem.Calls PyProof.Rows L2 L2.DL
def nA : List Str := ["NoTask", "LETTERS", "LONGEST", "is_name", "tupled", "masks_table", "may_table", "tasks_of", "check_task", "seat_more", "seat_all", "ideal", "seats_of", "does_wait", "reach", "is_end", "is_row_of", "is_shift", "ways_on", "shortest", "ends_of", "right_ends_of", "best_way", "moves_of", "a_right_shift", "right_moves", "is_right", "shifted", "next_shift", "is_settled"]
def nB : List Str := ["_law_box", "_law_take", "_law_cells", "_law_of", "_law_pick", "_law_same", "_law_lists", "_law_half", "_law_web", "_law_row", "_law_may", "_law_ways", "_law_best", "_law_seats", "_law_goes", "_law_shifts", "_law_kit", "_law_ends", "_law_moved", "_law_heard", "_law_case_right", "_law_alone_right", "_law_by_hand_right", "_law_right"]
abbrev viewY : Program := PySem.W.view R0.prog [61]
theorem run (w : World) : HandSHeadRun.RunEq R0 viewY (hookY 5) (obY 5) 6000 (nA ++ nB) w := by
  intro os
  kernel_rfl
end M
end

section
set_option maxHeartbeats 0
open PySem PyProof.Rows PySem.W PySem.Calls
theorem PySem.Challenge.cw_masksmoved_k27_whole_right_shifts_settle_holds : PySem.Challenge.rw_masksmoved_k27_whole_right_shifts_settle.Holds := by
  w_on; o_law
  refine HandSHeadRun.head_any (r := M.R0) (q := M.viewY) (H := M.hookY 5) (ob := M.obY 5) (M := 6000) (loose := M.nA ++ M.nB) (d := HandSHeadRun.topDef M.R0.prog 61) (kwd := []) (M.obY_eq 5)
    (by kernel_rfl) (fun s => by kernel_rfl) M.run (by kernel_rfl) (by kernel_rfl) (by kernel_rfl) (by rfl) (by first | assumption | decide +kernel) (by decide +kernel) ⟨rfl, rfl, rfl, rfl, rfl, by decide +kernel⟩ ?hw ?hc
  case hw => w_witness2
  case hc =>
    refine LamX.walk_ofTsE (l := PySem.Challenge.rw_masksmoved_k27_whole_right_shifts_settle) (n := 63) (k := 19) (x := "_law_script") (CX := fun _ => L2.CX0) rfl (by decide) (by kernel_rfl) ⟨rfl, by decide, by decide⟩ ?F (fun _ _ _ _ _ z => z)
    intro w mg fa h Y G hm0
    have hm : mg ("law" : PySem.Str) = some (.ref fa) := by
      have e : (HandSHeadRun.topDef M.R0.prog 61).name = ("law" : PySem.Str) := by kernel_rfl
      rw [← e]
      exact hm0
    exact M.law_at w mg fa h Y G hm
end
