import PyProof.Rows.All
import Wide.All
import OpenK.AllK
import Wide.FinOn
import KE.KeyNested
import KE.KDictKeyed
import KE.KDictWalk
import KE.SortData
import KE.DataCmp
import HandS.ForMost
import HandS.TupAny
import HandS.TupMul
import HandS.TupLe
import HandS.IsInst
import HandS.Deep
import HandS.Wide
import HandS.Style
import PyProof.Rows.TupTab
import HandS.Conv
import KE.KTupSum
import HandS.Flt
import KE.KDictCopyH
import KE.KIndexOf
import PySem.Challenge.RW_nothiefin_k57_what_comes_of_deeds
set_option Elab.async false
set_option linter.all false
set_option maxRecDepth 100000
set_option autoImplicit false
namespace MP
open PySem L2

/-! ### pure data -/
inductive D where
  | non | bl (b : Bool) | int (i : Int) | str (x : Str) | tup (xs : List D) | lst (xs : List D) | tpx (xs : List D)
  | dct (t : Bool) (kvs : List (D × D)) | set (xs : List D) | scr (xs : List D)

mutual
def D.beq : D → D → Bool
  | .non, .non => true
  | .bl a, .bl b => a == b
  | .int a, .int b => decide (a = b)
  | .str a, .str b => decide (a = b)
  | .tup a, .tup b => D.beqs a b
  | .lst a, .lst b => D.beqs a b
  | .tpx a, .tpx b => D.beqs a b
  | .dct t a, .dct u b => (t == u) && D.beqk a b
  | .set a, .set b => D.beqs a b
  | .scr a, .scr b => D.beqs a b
  | _, _ => false
def D.beqs : List D → List D → Bool
  | [], [] => true
  | a :: as, b :: bs => D.beq a b && D.beqs as bs
  | _, _ => false
def D.beqk : List (D × D) → List (D × D) → Bool
  | [], [] => true
  | (a, c) :: as, (b, d) :: bs => D.beq a b && D.beq c d && D.beqk as bs
  | _, _ => false
end
mutual
theorem D.beq_self : ∀ a : D, D.beq a a = true
  | .non => rfl
  | .bl a => by simp [D.beq]
  | .int a => by simp [D.beq]
  | .str a => by simp [D.beq]
  | .tup a => by rw [D.beq]; exact D.beqs_self a
  | .lst a => by rw [D.beq]; exact D.beqs_self a
  | .tpx a => by rw [D.beq]; exact D.beqs_self a
  | .dct t a => by rw [D.beq, D.beqk_self a]; simp
  | .set a => by rw [D.beq]; exact D.beqs_self a
  | .scr a => by rw [D.beq]; exact D.beqs_self a
theorem D.beqs_self : ∀ a : List D, D.beqs a a = true
  | [] => rfl
  | a :: as => by rw [D.beqs, D.beq_self a, D.beqs_self as]; rfl
theorem D.beqk_self : ∀ a : List (D × D), D.beqk a a = true
  | [] => rfl
  | (a, c) :: as => by rw [D.beqk, D.beq_self a, D.beq_self c, D.beqk_self as]; rfl
end
mutual
theorem D.eq_of : ∀ a b : D, D.beq a b = true → a = b
  | .non, b, h => by cases b <;> first | rfl | simp [D.beq] at h
  | .bl a, b, h => by cases b <;> simp [D.beq] at h; rw [h]
  | .int a, b, h => by cases b <;> simp [D.beq] at h; rw [h]
  | .str a, b, h => by cases b <;> simp [D.beq] at h; rw [h]
  | .tup a, b, h => by cases b <;> simp [D.beq] at h; rw [D.eqs_of a _ h]
  | .lst a, b, h => by cases b <;> simp [D.beq] at h; rw [D.eqs_of a _ h]
  | .tpx a, b, h => by cases b <;> simp [D.beq] at h; rw [D.eqs_of a _ h]
  | .dct t a, b, h => by cases b <;> simp [D.beq] at h; rw [D.eqk_of a _ h.2, h.1]
  | .set a, b, h => by cases b <;> simp [D.beq] at h; rw [D.eqs_of a _ h]
  | .scr a, b, h => by cases b <;> simp [D.beq] at h; rw [D.eqs_of a _ h]
theorem D.eqs_of : ∀ a b : List D, D.beqs a b = true → a = b
  | [], b, h => by cases b <;> first | rfl | simp [D.beqs] at h
  | a :: as, b, h => by
    cases b with
    | nil => simp [D.beqs] at h
    | cons b bs =>
      simp [D.beqs] at h
      rw [D.eq_of a b h.1, D.eqs_of as bs h.2]
theorem D.eqk_of : ∀ a b : List (D × D), D.beqk a b = true → a = b
  | [], b, h => by cases b <;> first | rfl | simp [D.beqk] at h
  | (a, c) :: as, b, h => by
    cases b with
    | nil => simp [D.beqk] at h
    | cons b bs =>
      obtain ⟨b, d⟩ := b
      simp [D.beqk] at h
      rw [D.eq_of a b h.1.1, D.eq_of c d h.1.2, D.eqk_of as bs h.2]
end
instance : DecidableEq D := fun a b => if h : D.beq a b = true then .isTrue (D.eq_of a b h) else .isFalse fun e => h (e ▸ D.beq_self a)
instance : Inhabited D := ⟨.non⟩

mutual
/-- the kit's datum -/
def D.pd : D → PyData
  | .non => .none
  | .bl b => .bool b
  | .int i => .int i
  | .str x => .str x
  | .tup xs => .tuple (D.pds xs)
  | .lst xs => .list (D.pds xs)
  | .dct _ _ => .dict []
  | .set _ => .dict []
  | .scr _ => .dict []
  | .tpx _ => .dict []
def D.pds : List D → List PyData
  | [] => []
  | x :: xs => D.pd x :: D.pds xs
end
theorem D.pds_map : ∀ xs : List D, D.pds xs = xs.map D.pd
  | [] => rfl
  | x :: xs => by rw [D.pds, D.pds_map xs]; rfl
mutual
/-- the key that a datum is -/
def D.nk : D → Option NestedKey
  | .non => some .none
  | .int i => some (.num i)
  | .str x => some (.text x)
  | .tup xs => (D.nks xs).map .tup
  | _ => none
def D.nks : List D → Option (List NestedKey)
  | [] => some []
  | x :: xs => match D.nk x, D.nks xs with
    | some a, some b => some (a :: b)
    | _, _ => none
end
def D.isTup : D → Bool
  | .tup _ => true
  | _ => false
/-- a list or dict that may be changed -/
def D.isMut : D → Bool
  | .lst _ => true
  | .dct _ _ => true
  | _ => false
def D.isSc : D → Bool
  | .int _ => true
  | .str _ => true
  | _ => false
/-- a key of a dict of tuples (t), or of ints and texts -/
def D.keyOk (t : Bool) (k : D) : Bool := match k.nk with
  | some z => decide (z.depth ≤ 8) && (if t then k.isTup else k.isSc)
  | none => false

/-! ### results -/
inductive Slot where
  | no | sh (d : D) | ow (d : D) | io (d : D)
/-- what may be looked at; what may be changed -/
def Slot.see : Slot → Option D
  | .no => none
  | .sh d => some d
  | .ow d => some d
  | .io d => some d
def Slot.mut : Slot → Option D
  | .ow d => some d
  | .io d => some d
  | _ => none
def Slot.with : Slot → D → Slot
  | .ow _, d => .ow d
  | .io _, d => .io d
  | s, _ => s
abbrev En := List Slot
abbrev Exn := String
inductive Res (α : Type) where
  | ok (a : α) (e : En)
  | ex (c : Exn) (e : En)
  | stuck
def Res.bind {α β : Type} : Res α → (α → En → Res β) → Res β
  | .ok a e, f => f a e
  | .ex c e, _ => .ex c e
  | .stuck, _ => .stuck
def Res.opt {α : Type} (o : Option α) (e : En) : Res α := match o with
  | some a => .ok a e
  | none => .stuck
def eat : En → Nat → Slot
  | [], _ => .no
  | s :: _, 0 => s
  | _ :: e, n + 1 => eat e n
theorem eat_eq : ∀ (e : En) (n : Nat), eat e n = (e[n]?).getD .no
  | [], n => by simp [eat]
  | s :: e, 0 => by simp [eat]
  | s :: e, n + 1 => by simp [eat, eat_eq e n]
def eput : En → Nat → Slot → En
  | [], _, _ => []
  | _ :: e, 0, x => x :: e
  | s :: e, n + 1, x => s :: eput e n x
theorem eput_length : ∀ (e : En) (n : Nat) (x : Slot), (eput e n x).length = e.length
  | [], _, _ => rfl
  | _ :: e, 0, x => rfl
  | s :: e, n + 1, x => by simp [eput, eput_length e n x]
theorem eat_put_ne : ∀ (e : En) (n m : Nat) (x : Slot), m ≠ n → eat (eput e n x) m = eat e m
  | [], _, _, _, _ => rfl
  | _ :: e, 0, 0, x, h => absurd rfl h
  | _ :: e, 0, m + 1, x, _ => rfl
  | s :: e, n + 1, 0, x, _ => rfl
  | s :: e, n + 1, m + 1, x, h => by
    show eat (eput e n x) m = eat e m
    exact eat_put_ne e n m x fun q => h (by rw [q])
theorem eat_put_same : ∀ (e : En) (n : Nat) (x : Slot), n < e.length → eat (eput e n x) n = x
  | [], _, _, h => absurd h (Nat.not_lt_zero _)
  | _ :: e, 0, x, _ => rfl
  | s :: e, n + 1, x, h => by
    show eat (eput e n x) n = x
    exact eat_put_same e n x (Nat.lt_of_succ_lt_succ h)
theorem eat_lt : ∀ (e : En) (n : Nat), eat e n ≠ .no → n < e.length
  | [], _, h => absurd rfl h
  | _ :: e, 0, _ => Nat.succ_pos _
  | s :: e, n + 1, h => Nat.succ_lt_succ (eat_lt e n h)
theorem eput_put : ∀ (e : En) (n : Nat) (x y : Slot), eput (eput e n x) n y = eput e n y
  | [], _, _, _ => rfl
  | _ :: e, 0, x, y => rfl
  | s :: e, n + 1, x, y => by simp [eput, eput_put e n x y]
theorem eput_self : ∀ (e : En) (n : Nat), eput e n (eat e n) = e
  | [], _ => rfl
  | _ :: e, 0 => rfl
  | s :: e, n + 1 => by simp [eput, eat, eput_self e n]

/-! ### what a value stands for -/
def exactHO (a : Addr) (o : Obj) : HO := .ext fun h => h.get? a = some o
/-- a tuple, the object known or not -/
def TupAt (F : Hp) (a : Addr) (vs : List V) : Prop := F a = some (.tup vs) ∨ ∃ o, F a = some (.frz o (.tup vs))
section
variable (w : World) (K : PySem.W.Frag) (F : Hp)
mutual
inductive Rep : V → D → Prop
  | non : Rep .non .non
  | bl (b : Bool) : Rep (.bl b) (.bl b)
  | int (i : Int) : Rep (.int i) (.int i)
  | str (x : Str) : Rep (.str x) (.str x)
  | tup {a : Addr} {vs : List V} {ds : List D} : TupAt F a vs → ds.length ≤ sizeLine → RepL vs ds → Rep (.ref a) (.tup ds)
  | tpx {a : Addr} {o : Obj} {vs : List V} {ds : List D} : F a = some (.frz o (.tup vs)) → o.dict = none → ds.length ≤ sizeLine → RepL vs ds → Rep (.ref a) (.tpx ds)
  | lst {a : Addr} {vs : List V} {ds : List D} : F a = some (.lst vs) → ds.length ≤ sizeLine → RepL vs ds → Rep (.ref a) (.lst ds)
  | scr {a : Addr} {vs : List V} {ds : List D} : SqL K F a vs → ds.length ≤ sizeLine → RepL vs ds → Rep (.ref a) (.scr ds)
  | dct {a : Addr} {o : Obj} {es : Array DictEntry} {ep : Nat} {t : Bool} {kvs : List (D × D)} : F a = some (exactHO a o) → (a == sysModules) = false → o.ExactDict → o.data = .dict es ep →
      kvs.length ≤ sizeLine → (kvs.map (·.1)).Nodup → RepE t es.toList kvs → Rep (.ref a) (.dct t kvs)
inductive RepL : List V → List D → Prop
  | nil : RepL [] []
  | cons {v : V} {d : D} {vs : List V} {ds : List D} : Rep v d → RepL vs ds → RepL (v :: vs) (d :: ds)
inductive RepE : Bool → List DictEntry → List (D × D) → Prop
  | nil {t : Bool} : RepE t [] []
  | cons {t : Bool} {e : DictEntry} {kv vv : V} {k d : D} {z : NestedKey} {es : List DictEntry} {kvs : List (D × D)} : RelV kv e.key → Rep kv k → RelV vv e.val → Rep vv d → k.nk = some z → k.keyOk t = true → e.hash = z.hash w →
      RepE t es kvs → RepE t (e :: es) ((k, d) :: kvs)
end
end
/-- a list or dict that is one's own: what stands at a in H, its parts in F -/
def Own (w : World) (K : PySem.W.Frag) (F H : Hp) (a : Addr) : D → Prop
  | .lst ds => ∃ vs, H a = some (.lst vs) ∧ ds.length ≤ sizeLine ∧ RepL w K F vs ds
  | .dct t kvs => ∃ o es ep, H a = some (exactHO a o) ∧ (a == sysModules) = false ∧ Obj.ExactDict o ∧ o.data = .dict es ep ∧ kvs.length ≤ sizeLine ∧ (kvs.map (·.1)).Nodup ∧ RepE w K F t es.toList kvs
  | _ => False

/-- F lies within H -/
def Sub (F H : Hp) : Prop := ∀ a o, F a = some o → H a = some o
theorem Sub.refl (F : Hp) : Sub F F := fun _ _ h => h
theorem Sub.trans {F G H : Hp} (a : Sub F G) (b : Sub G H) : Sub F H := fun x o h => b x o (a x o h)
theorem TupAt.mono {F G : Hp} {a : Addr} {vs : List V} (s : Sub F G) (h : TupAt F a vs) : TupAt G a vs := by
  rcases h with h | ⟨o, h⟩
  · exact .inl (s _ _ h)
  · exact .inr ⟨o, s _ _ h⟩
theorem TupAt.sqT {K : PySem.W.Frag} {F : Hp} {a : Addr} {vs : List V} (h : TupAt F a vs) : SqT K F a vs := .inl h
theorem Sub.sqL {K : PySem.W.Frag} {F H : Hp} {a : Addr} {xs : List V} (s : Sub F H) (h : SqL K F a xs) : SqL K H a xs := by
  rcases h with (h | ⟨o, h⟩) | h
  · exact .inl (.inl (s _ _ h))
  · exact .inl (.inr ⟨o, s _ _ h⟩)
  · exact .inr h
theorem Sub.sqT {K : PySem.W.Frag} {F H : Hp} {a : Addr} {xs : List V} (s : Sub F H) (h : SqT K F a xs) : SqT K H a xs := by
  rcases h with (h | ⟨o, h⟩) | h
  · exact .inl (.inl (s _ _ h))
  · exact .inl (.inr ⟨o, s _ _ h⟩)
  · exact .inr h
section
variable {w : World} {K : PySem.W.Frag} {F G H : Hp}
mutual
theorem Rep.mono (s : Sub F G) : ∀ {v : V} {d : D}, Rep w K F v d → Rep w K G v d
  | _, _, .non => .non
  | _, _, .bl b => .bl b
  | _, _, .int i => .int i
  | _, _, .str x => .str x
  | _, _, .tup h z l => .tup (TupAt.mono s h) z (RepL.mono s l)
  | _, _, .tpx h d z l => .tpx (s _ _ h) d z (RepL.mono s l)
  | _, _, .lst h z l => .lst (s _ _ h) z (RepL.mono s l)
  | _, _, .scr h z l => .scr (s.sqL h) z (RepL.mono s l)
  | _, _, .dct h y e q z n l => .dct (s _ _ h) y e q z n (RepE.mono s l)
theorem RepL.mono (s : Sub F G) : ∀ {vs : List V} {ds : List D}, RepL w K F vs ds → RepL w K G vs ds
  | _, _, .nil => .nil
  | _, _, .cons h t => .cons (Rep.mono s h) (RepL.mono s t)
theorem RepE.mono (s : Sub F G) : ∀ {t : Bool} {es : List DictEntry} {kvs : List (D × D)}, RepE w K F t es kvs → RepE w K G t es kvs
  | _, _, _, .nil => .nil
  | _, _, _, .cons a b c d e f g t => .cons a (Rep.mono s b) c (Rep.mono s d) e f g (RepE.mono s t)
end
theorem RepL.length : ∀ {vs : List V} {ds : List D}, RepL w K F vs ds → vs.length = ds.length
  | _, _, .nil => rfl
  | _, _, .cons _ t => by simp [RepL.length t]
theorem RepL.get : ∀ {vs : List V} {ds : List D} {i : Nat} {d : D}, RepL w K F vs ds → ds[i]? = some d → ∃ v, vs[i]? = some v ∧ Rep w K F v d
  | _, _, _, _, .nil, e => by simp at e
  | _, _, 0, _, .cons r _, e => by simp at e; subst e; exact ⟨_, rfl, r⟩
  | _, _, i + 1, d, .cons _ t, e => by
    obtain ⟨u, h1, h2⟩ := RepL.get (i := i) (d := d) t (by simpa using e)
    exact ⟨u, by simpa using h1, h2⟩
theorem RepL.getV : ∀ {vs : List V} {ds : List D} {i : Nat} {v : V}, RepL w K F vs ds → vs[i]? = some v → ∃ d, ds[i]? = some d ∧ Rep w K F v d
  | _, _, _, _, .nil, e => by simp at e
  | _, _, 0, _, .cons r _, e => by simp at e; subst e; exact ⟨_, rfl, r⟩
  | _, _, i + 1, d, .cons _ t, e => by
    obtain ⟨u, h1, h2⟩ := RepL.getV (i := i) (v := d) t (by simpa using e)
    exact ⟨u, by simpa using h1, h2⟩
theorem RepL.append : ∀ {vs ws : List V} {ds es : List D}, RepL w K F vs ds → RepL w K F ws es → RepL w K F (vs ++ ws) (ds ++ es)
  | _, _, _, _, .nil, s => s
  | _, _, _, _, .cons r t, s => .cons r (RepL.append t s)
theorem RepL.take : ∀ {vs : List V} {ds : List D} (n : Nat), RepL w K F vs ds → RepL w K F (vs.take n) (ds.take n)
  | _, _, 0, _ => .nil
  | _, _, _ + 1, .nil => .nil
  | _, _, n + 1, .cons r t => .cons r (RepL.take n t)
theorem RepL.drop : ∀ {vs : List V} {ds : List D} (n : Nat), RepL w K F vs ds → RepL w K F (vs.drop n) (ds.drop n)
  | _, _, 0, r => r
  | _, _, _ + 1, .nil => .nil
  | _, _, n + 1, .cons _ t => RepL.drop n t
theorem RepL.set {v : V} {d : D} (r : Rep w K F v d) : ∀ {vs : List V} {ds : List D} (n : Nat), RepL w K F vs ds → RepL w K F (vs.set n v) (ds.set n d)
  | _, _, _, .nil => .nil
  | _, _, 0, .cons _ t => .cons r t
  | _, _, n + 1, .cons q t => .cons q (RepL.set r n t)
theorem RepL.reverse : ∀ {vs : List V} {ds : List D}, RepL w K F vs ds → RepL w K F vs.reverse ds.reverse
  | _, _, .nil => .nil
  | _, _, .cons r t => by
    rw [List.reverse_cons, List.reverse_cons]
    exact (RepL.reverse t).append (.cons r .nil)
theorem RepL.eraseIdx : ∀ {vs : List V} {ds : List D} (n : Nat), RepL w K F vs ds → RepL w K F (vs.eraseIdx n) (ds.eraseIdx n)
  | _, _, _, .nil => .nil
  | _, _, 0, .cons _ t => t
  | _, _, n + 1, .cons q t => .cons q (RepL.eraseIdx n t)
theorem RepL.dropLast {vs : List V} {ds : List D} (r : RepL w K F vs ds) : RepL w K F vs.dropLast ds.dropLast := by
  rw [List.dropLast_eq_take, List.dropLast_eq_take, r.length]
  exact r.take _
theorem RepL.flat {vs : List V} {ds : List D} (r : RepL w K F vs ds) : ∀ n : Nat, RepL w K F (List.replicate n vs).flatten (List.replicate n ds).flatten
  | 0 => .nil
  | n + 1 => by
    rw [List.replicate_succ, List.replicate_succ, List.flatten_cons, List.flatten_cons]
    exact r.append (RepL.flat r n)
theorem Own.mono {a : Addr} : ∀ {d : D}, Sub F G → Own w K F H a d → Own w K G H a d
  | .lst ds, s, h => by
    obtain ⟨vs, e, z, r⟩ := h
    exact ⟨vs, e, z, r.mono s⟩
  | .dct t kvs, s, h => by
    obtain ⟨o, es, ep, e, y, x, q, z, n, r⟩ := h
    exact ⟨o, es, ep, e, y, x, q, z, n, r.mono s⟩
theorem Own.congr {H' : Hp} {a : Addr} (e : H' a = H a) : ∀ {d : D}, Own w K F H a d → Own w K F H' a d
  | .lst ds, h => by
    obtain ⟨vs, q, z, r⟩ := h
    exact ⟨vs, e.trans q, z, r⟩
  | .dct t kvs, h => by
    obtain ⟨o, es, ep, h1, y, x, q, z, n, r⟩ := h
    exact ⟨o, es, ep, e.trans h1, y, x, q, z, n, r⟩
/-- what is one's own, frozen -/
theorem Own.rep {a : Addr} {o : HO} : ∀ {d : D}, Own w K F H a d → F a = none → H a = some o → Rep w K (upd F a o) (.ref a) d
  | .lst ds, h, n, e => by
    obtain ⟨vs, q, z, r⟩ := h
    rw [q] at e
    cases e
    have s : Sub F (upd F a (.lst vs)) := fun b u hb => by rw [upd_ne (ne_of_none hb n)]; exact hb
    exact .lst upd_same z (r.mono s)
  | .dct t kvs, h, n, e => by
    obtain ⟨o', es, ep, q, y, x, dd, z, nd, r⟩ := h
    rw [q] at e
    cases e
    have s : Sub F (upd F a (exactHO a o')) := fun b u hb => by rw [upd_ne (ne_of_none hb n)]; exact hb
    exact .dct upd_same y x dd z nd (r.mono s)
theorem Own.some {a : Addr} : ∀ {d : D}, Own w K F H a d → ∃ o, H a = some o
  | .lst ds, h => by
    obtain ⟨vs, e, _⟩ := h
    exact ⟨_, e⟩
  | .dct t kvs, h => by
    obtain ⟨o, es, ep, e, _⟩ := h
    exact ⟨_, e⟩
end
theorem sub_upd {F : Hp} {a : Addr} {o : HO} (n : F a = none) : Sub F (upd F a o) := fun b u hb => by rw [upd_ne (ne_of_none hb n)]; exact hb

/-! ### growth: F and H grow by new frozen objects alone -/
structure Ext (F H F' H' : Hp) : Prop where
  f : Sub F F'
  h : Sub H H'
  s : Sub F' H'
  new : ∀ a, F' a ≠ none → F a = none → H a = none
theorem Ext.refl {F H : Hp} (s : Sub F H) : Ext F H F H := ⟨Sub.refl F, Sub.refl H, s, fun _ a b => absurd b a⟩
theorem Ext.trans {F H F1 H1 F2 H2 : Hp} (a : Ext F H F1 H1) (b : Ext F1 H1 F2 H2) : Ext F H F2 H2 :=
  ⟨a.f.trans b.f, a.h.trans b.h, b.s, fun x h n => by
    cases q : F1 x with
    | none =>
      cases r : H x with
      | none => rfl
      | some u =>
        have z := b.new x h q
        rw [a.h x u r] at z
        cases z
    | some u => exact a.new x (by rw [q]; simp) n⟩
theorem Ext.alloc {F H : Hp} {p : Addr} {o : HO} (s : Sub F H) (n : H p = none) : Ext F H (upd F p o) (upd H p o) := by
  have nf : F p = none := by
    cases q : F p with
    | none => rfl
    | some u => rw [s p u q] at n; cases n
  refine ⟨sub_upd nf, sub_upd n, fun b u hb => ?_, fun a h e => ?_⟩
  · by_cases e : b = p
    · subst e; rw [upd_same] at hb ⊢; exact hb
    · rw [upd_ne e] at hb ⊢; exact s b u hb
  · by_cases q : a = p
    · subst q; exact n
    · rw [upd_ne q] at h; exact absurd e h
/-- a new object that is not frozen -/
theorem Ext.allocOwn {F H : Hp} {p : Addr} {o : HO} (s : Sub F H) (n : H p = none) : Ext F H F (upd H p o) :=
  ⟨Sub.refl F, sub_upd n, fun b u hb => by
    rw [upd_ne (ne_of_none (s b u hb) n)]
    exact s b u hb, fun _ a b => absurd b a⟩
end MP

set_option Elab.async false
set_option linter.all false
set_option maxRecDepth 100000
set_option autoImplicit false
namespace MP
open PySem L2

/-! ### a body that runs -/
structure Bd where
  w : World
  K : PySem.W.Frag
  /-- the entry -/
  H0 : Hp
  F0 : Hp
  /-- the objects that were handed over, by the slot -/
  ad : Nat → Addr
  ioA : List Addr
  /-- what is wanted of an exception -/
  W : Exn → St → En → Hp → Hp → Prop

structure Ok (B : Bd) (F H : Hp) (σ : St) (e : En) : Prop where
  sub : Sub F H
  f0 : Sub B.F0 F
  dom : ∀ a o, B.H0 a = some o → ∃ o', H a = some o'
  res : ∀ a o, B.H0 a = some o → B.F0 a = none → a ∉ B.ioA → F a = none ∧ H a = some o
  ent : ∀ a, F a ≠ none → B.F0 a = none → B.H0 a = none
  len : σ.length = e.length
  shd : ∀ i d, eat e i = .sh d → ∃ v, σ[i]? = some (some v) ∧ Rep B.w B.K F v d
  own : ∀ i d, eat e i = .ow d → ∃ a, σ[i]? = some (some (.ref a)) ∧ F a = none ∧ Own B.w B.K F H a d ∧ B.H0 a = none
  ios : ∀ i d, eat e i = .io d → σ[i]? = some (some (.ref (B.ad i))) ∧ F (B.ad i) = none ∧ Own B.w B.K F H (B.ad i) d ∧ B.ad i ∈ B.ioA ∧ ∃ o, B.H0 (B.ad i) = some o
  inj : ∀ i j d d' a, eat e i = .ow d → eat e j = .ow d' → σ[i]? = some (some (.ref a)) → σ[j]? = some (some (.ref a)) → i = j
  ioi : ∀ i j d d', eat e i = .io d → eat e j = .io d' → B.ad i = B.ad j → i = j

section
variable {B : Bd} {F H F' H' : Hp} {σ : St} {e : En}

theorem Ok.ext (k : Ok B F H σ e) (x : Ext F H F' H') : Ok B F' H' σ e := by
  have keepF : ∀ a o, H a = some o → F a = none → F' a = none := fun a o h n => by
    cases q : F' a with
    | none => rfl
    | some u =>
      have z := x.new a (by rw [q]; simp) n
      rw [h] at z
      cases z
  have ownK : ∀ a d, F a = none → Own B.w B.K F H a d → F' a = none ∧ Own B.w B.K F' H' a d := fun a d n h => by
    obtain ⟨o, ho⟩ := h.some
    exact ⟨keepF a o ho n, (h.congr (by rw [ho, x.h a o ho])).mono x.f⟩
  refine ⟨x.s, k.f0.trans x.f, fun a o h => ?_, fun a o h n m => ?_, fun a h n => ?_, k.len, fun i d h => ?_, fun i d h => ?_, fun i d h => ?_, k.inj, k.ioi⟩
  · obtain ⟨o', q⟩ := k.dom a o h
    exact ⟨o', x.h a o' q⟩
  · obtain ⟨h1, h2⟩ := k.res a o h n m
    exact ⟨keepF a o h2 h1, x.h a o h2⟩
  · cases q : F a with
    | some u => exact k.ent a (by rw [q]; simp) n
    | none =>
      have z := x.new a h q
      cases r : B.H0 a with
      | none => rfl
      | some u =>
        obtain ⟨o', q'⟩ := k.dom a u r
        rw [z] at q'
        cases q'
  · obtain ⟨v, h1, h2⟩ := k.shd i d h
    exact ⟨v, h1, h2.mono x.f⟩
  · obtain ⟨a, h1, h2, h3, h4⟩ := k.own i d h
    obtain ⟨h5, h6⟩ := ownK a d h2 h3
    exact ⟨a, h1, h5, h6, h4⟩
  · obtain ⟨h1, h2, h3, h4⟩ := k.ios i d h
    obtain ⟨h5, h6⟩ := ownK _ d h2 h3
    exact ⟨h1, h5, h6, h4⟩

theorem eat_put (e : En) (i j : Nat) (s : Slot) : eat (eput e i s) j = if j = i ∧ i < e.length then s else eat e j := by
  by_cases h : j = i
  · subst h
    by_cases q : j < e.length
    · rw [if_pos ⟨rfl, q⟩, eat_put_same e j s q]
    · rw [if_neg (fun z => q z.2)]
      have : ∀ (e : En) (j : Nat), ¬ j < e.length → eput e j s = e := by
        intro e
        induction e with
        | nil => intro _ _; rfl
        | cons x e ih =>
          intro j hj
          cases j with
          | zero => exact absurd (Nat.succ_pos _) hj
          | succ j => show x :: eput e j s = x :: e; rw [ih j (fun z => hj (Nat.succ_lt_succ z))]
      rw [this e j q]
  · rw [if_neg (fun z => h z.1), eat_put_ne e i j s h]

/-- what a slot was is known to be no object that was handed over -/
def notIo : Slot → Bool
  | .io _ => false
  | _ => true

/-- a slot is stored with a frozen value -/
theorem Ok.put (k : Ok B F H σ e) {i : Nat} {v : V} {d : D} (r : Rep B.w B.K F v d) : Ok B F H (σ.set i (some v)) (eput e i (.sh d)) := by
  have other : ∀ j, j ≠ i → (σ.set i (some v))[j]? = σ[j]? := fun j h => List.getElem?_set_ne (Ne.symm h)
  have old : ∀ j s, eat (eput e i (.sh d)) j = s → (∀ d, s ≠ .sh d) → j ≠ i ∨ ¬ i < e.length := fun j s h n => by
    rw [eat_put] at h
    by_cases q : j = i ∧ i < e.length
    · rw [if_pos q] at h
      exact absurd h.symm (n d)
    · by_cases z : j = i
      · exact .inr fun y => q ⟨z, y⟩
      · exact .inl z
  have back : ∀ j s, eat (eput e i (.sh d)) j = s → (∀ d, s ≠ .sh d) → s ≠ .no → eat e j = s ∧ (σ.set i (some v))[j]? = σ[j]? := fun j s h n m => by
    rcases old j s h n with z | z
    · rw [eat_put, if_neg (fun y => z y.1)] at h
      exact ⟨h, other j z⟩
    · rw [eat_put, if_neg (fun y => z y.2)] at h
      refine ⟨h, ?_⟩
      by_cases y : j = i
      · subst y
        have := eat_lt e j (by rw [h]; exact m)
        exact absurd this z
      · exact other j y
  refine ⟨k.sub, k.f0, k.dom, k.res, k.ent, by rw [List.length_set, eput_length, k.len], fun j d' h => ?_, fun j d' h => ?_, fun j d' h => ?_, fun i1 i2 d1 d2 a h1 h2 h3 h4 => ?_, fun i1 i2 d1 d2 h1 h2 h3 => ?_⟩
  · rw [eat_put] at h
    by_cases q : j = i ∧ i < e.length
    · rw [if_pos q] at h
      cases h
      obtain ⟨rfl, q⟩ := q
      exact ⟨v, by rw [List.getElem?_set_self (by rw [k.len]; exact q)], r⟩
    · rw [if_neg q] at h
      obtain ⟨u, h1, h2⟩ := k.shd j d' h
      by_cases z : j = i
      · subst z
        have := eat_lt e j (by rw [h]; simp)
        exact absurd ⟨rfl, this⟩ q
      · exact ⟨u, by rw [other j z]; exact h1, h2⟩
  · obtain ⟨h1, h2⟩ := back j _ h (fun _ z => by cases z) (fun z => by cases z)
    obtain ⟨a, q1, q2⟩ := k.own j d' h1
    exact ⟨a, by rw [h2]; exact q1, q2⟩
  · obtain ⟨h1, h2⟩ := back j _ h (fun _ z => by cases z) (fun z => by cases z)
    obtain ⟨q1, q2⟩ := k.ios j d' h1
    exact ⟨by rw [h2]; exact q1, q2⟩
  · obtain ⟨b1, b2⟩ := back i1 _ h1 (fun _ z => by cases z) (fun z => by cases z)
    obtain ⟨c1, c2⟩ := back i2 _ h2 (fun _ z => by cases z) (fun z => by cases z)
    rw [b2] at h3
    rw [c2] at h4
    exact k.inj i1 i2 d1 d2 a b1 c1 h3 h4
  · obtain ⟨b1, b2⟩ := back i1 _ h1 (fun _ z => by cases z) (fun z => by cases z)
    obtain ⟨c1, c2⟩ := back i2 _ h2 (fun _ z => by cases z) (fun z => by cases z)
    exact k.ioi i1 i2 d1 d2 b1 c1 h3

/-- a new object of one's own -/
structure Fr (B : Bd) (F H : Hp) (σ : St) (e : En) (p : Addr) (d : D) : Prop where
  n : F p = none
  n0 : B.H0 p = none
  own : Own B.w B.K F H p d
  ne : ∀ i d', eat e i = .ow d' → σ[i]? ≠ some (some (.ref p))

theorem Ok.putOwn (k : Ok B F H σ e) {i : Nat} {p : Addr} {d : D} (r : Fr B F H σ e p d) : Ok B F H (σ.set i (some (.ref p))) (eput e i (.ow d)) := by
  have other : ∀ j, j ≠ i → (σ.set i (some (V.ref p)))[j]? = σ[j]? := fun j h => List.getElem?_set_ne (Ne.symm h)
  have cs : ∀ j s, eat (eput e i (.ow d)) j = s → s ≠ .no → (j = i ∧ i < e.length ∧ s = .ow d) ∨ (j ≠ i ∧ eat e j = s) := fun j s h m => by
    rw [eat_put] at h
    by_cases q : j = i ∧ i < e.length
    · rw [if_pos q] at h
      exact .inl ⟨q.1, q.2, h.symm⟩
    · rw [if_neg q] at h
      by_cases z : j = i
      · subst z
        exact absurd ⟨rfl, eat_lt e j (by rw [h]; exact m)⟩ q
      · exact .inr ⟨z, h⟩
  have self : i < e.length → (σ.set i (some (V.ref p)))[i]? = some (some (.ref p)) := fun q => by rw [List.getElem?_set_self (by rw [k.len]; exact q)]
  refine ⟨k.sub, k.f0, k.dom, k.res, k.ent, by rw [List.length_set, eput_length, k.len], fun j d' h => ?_, fun j d' h => ?_, fun j d' h => ?_, fun i1 i2 d1 d2 a h1 h2 h3 h4 => ?_, fun i1 i2 d1 d2 h1 h2 h3 => ?_⟩
  · rcases cs j _ h (by simp) with ⟨_, _, z⟩ | ⟨z, q⟩
    · cases z
    · obtain ⟨u, h1, h2⟩ := k.shd j d' q
      exact ⟨u, by rw [other j z]; exact h1, h2⟩
  · rcases cs j _ h (by simp) with ⟨z1, z2, z⟩ | ⟨z, q⟩
    · cases z
      subst z1
      exact ⟨p, self z2, r.n, r.own, r.n0⟩
    · obtain ⟨a, h1, h2⟩ := k.own j d' q
      exact ⟨a, by rw [other j z]; exact h1, h2⟩
  · rcases cs j _ h (by simp) with ⟨_, _, z⟩ | ⟨z, q⟩
    · cases z
    · obtain ⟨h1, h2⟩ := k.ios j d' q
      exact ⟨by rw [other j z]; exact h1, h2⟩
  · rcases cs i1 _ h1 (by simp) with ⟨z1, y1, x1⟩ | ⟨z1, q1⟩
    · rcases cs i2 _ h2 (by simp) with ⟨z2, _, _⟩ | ⟨z2, q2⟩
      · rw [z1, z2]
      · subst z1
        rw [self y1] at h3
        cases h3
        rw [other i2 z2] at h4
        exact absurd h4 (r.ne i2 _ q2)
    · rcases cs i2 _ h2 (by simp) with ⟨z2, y2, _⟩ | ⟨z2, q2⟩
      · subst z2
        rw [self y2] at h4
        cases h4
        rw [other i1 z1] at h3
        exact absurd h3 (r.ne i1 _ q1)
      · rw [other i1 z1] at h3
        rw [other i2 z2] at h4
        exact k.inj i1 i2 d1 d2 a q1 q2 h3 h4
  · rcases cs i1 _ h1 (by simp) with ⟨_, _, z⟩ | ⟨z1, q1⟩
    · cases z
    · rcases cs i2 _ h2 (by simp) with ⟨_, _, z⟩ | ⟨z2, q2⟩
      · cases z
      · exact k.ioi i1 i2 d1 d2 q1 q2 h3

/-- slots are forgotten -/
theorem Ok.weak (k : Ok B F H σ e) {e' : En} (hl : e'.length = e.length) (h : ∀ i, eat e' i = eat e i ∨ eat e' i = .no) : Ok B F H σ e' := by
  have back : ∀ i s, eat e' i = s → s ≠ .no → eat e i = s := fun i s q m => by
    rcases h i with z | z
    · rw [← z]; exact q
    · rw [z] at q; exact absurd q.symm m
  exact ⟨k.sub, k.f0, k.dom, k.res, k.ent, k.len.trans hl.symm, fun i d q => k.shd i d (back i _ q (by simp)), fun i d q => k.own i d (back i _ q (by simp)), fun i d q => k.ios i d (back i _ q (by simp)),
    fun i j d d' a p q => k.inj i j d d' a (back i _ p (by simp)) (back j _ q (by simp)), fun i j d d' p q => k.ioi i j d d' (back i _ p (by simp)) (back j _ q (by simp))⟩
theorem Ok.drop (k : Ok B F H σ e) (i : Nat) : Ok B F H σ (eput e i .no) := k.weak (eput_length _ _ _) fun j => by
  rw [eat_put]
  split
  · exact .inr rfl
  · exact .inl rfl
/-- what was dropped, frozen again (a slot whose value is still known) -/
theorem Ok.shAgain (k : Ok B F H σ e) {i : Nat} {v : V} {d : D} (hv : σ[i]? = some (some v)) (r : Rep B.w B.K F v d) : Ok B F H σ (eput e i (.sh d)) := by
  have q := k.put (i := i) r
  have z : σ.set i (some v) = σ := by
    apply List.ext_getElem?
    intro j
    by_cases h : j = i
    · subst h
      have := (List.getElem?_eq_some_iff.mp hv).1
      rw [List.getElem?_set_self this, hv]
    · rw [List.getElem?_set_ne (Ne.symm h)]
  rw [z] at q
  exact q

/-- an own object is frozen -/
theorem Ok.freeze (k : Ok B F H σ e) {i : Nat} {d : D} (h : eat e i = .ow d) : ∃ a F', σ[i]? = some (some (.ref a)) ∧ Ok B F' H σ (eput e i (.sh d)) ∧ Sub F F' ∧ Rep B.w B.K F' (.ref a) d := by
  obtain ⟨a, h1, h2, h3, h4⟩ := k.own i d h
  obtain ⟨o, ho⟩ := h3.some
  have s : Sub F (upd F a o) := sub_upd h2
  have hr : Rep B.w B.K (upd F a o) (.ref a) d := h3.rep h2 ho
  refine ⟨a, upd F a o, h1, ?_, s, hr⟩
  have nu : ∀ b, b ≠ a → F b = none → (upd F a o) b = none := fun b hb n => by rw [upd_ne hb]; exact n
  have k1 : Ok B F H σ (eput e i .no) := k.drop i
  have k2 : Ok B (upd F a o) H σ (eput e i .no) := by
    refine ⟨fun b u hb => ?_, k.f0.trans s, k.dom, fun b u q1 q2 q3 => ?_, fun b q n => ?_, k1.len, fun j d' q => ?_, fun j d' q => ?_, fun j d' q => ?_, k1.inj, k1.ioi⟩
    · by_cases z : b = a
      · subst z; rw [upd_same] at hb; cases hb; exact ho
      · rw [upd_ne z] at hb; exact k.sub b u hb
    · obtain ⟨r1, r2⟩ := k.res b u q1 q2 q3
      refine ⟨nu b (fun z => ?_) r1, r2⟩
      subst z
      rw [h4] at q1
      cases q1
    · by_cases z : b = a
      · subst z; exact h4
      · rw [upd_ne z] at q; exact k.ent b q n
    · obtain ⟨v, r1, r2⟩ := k1.shd j d' q
      exact ⟨v, r1, r2.mono s⟩
    · obtain ⟨b, r1, r2, r3, r4⟩ := k1.own j d' q
      have hb : b ≠ a := fun z => by
        subst z
        have hj : eat e j = .ow d' := by
          rw [eat_put] at q
          split at q
          · cases q
          · exact q
        have := k.inj j i d' d b hj h r1 h1
        subst this
        rw [eat_put, if_pos ⟨rfl, eat_lt e j (by rw [hj]; simp)⟩] at q
        cases q
      exact ⟨b, r1, nu b hb r2, r3.mono s, r4⟩
    · obtain ⟨r1, r2, r3, r4, u, r5⟩ := k1.ios j d' q
      have hb : B.ad j ≠ a := fun z => by
        rw [z, h4] at r5
        cases r5
      exact ⟨r1, nu _ hb r2, r3.mono s, r4, u, r5⟩
  have := k2.shAgain (i := i) h1 hr
  rw [eput_put] at this
  exact this

/-- a new own object is frozen at once -/
theorem Ok.freezeFr (k : Ok B F H σ e) {p : Addr} {d : D} (r : Fr B F H σ e p d) : ∃ F', Ok B F' H σ e ∧ Sub F F' ∧ Rep B.w B.K F' (.ref p) d := by
  obtain ⟨o, ho⟩ := r.own.some
  have s : Sub F (upd F p o) := sub_upd r.n
  have hr : Rep B.w B.K (upd F p o) (.ref p) d := r.own.rep r.n ho
  have nu : ∀ b, b ≠ p → F b = none → (upd F p o) b = none := fun b hb n => by rw [upd_ne hb]; exact n
  refine ⟨upd F p o, ⟨fun b u hb => ?_, k.f0.trans s, k.dom, fun b u q1 q2 q3 => ?_, fun b q n => ?_, k.len, fun j d' q => ?_, fun j d' q => ?_, fun j d' q => ?_, k.inj, k.ioi⟩, s, hr⟩
  · by_cases z : b = p
    · subst z; rw [upd_same] at hb; cases hb; exact ho
    · rw [upd_ne z] at hb; exact k.sub b u hb
  · obtain ⟨r1, r2⟩ := k.res b u q1 q2 q3
    refine ⟨nu b (fun z => ?_) r1, r2⟩
    subst z
    rw [r.n0] at q1
    cases q1
  · by_cases z : b = p
    · subst z; exact r.n0
    · rw [upd_ne z] at q; exact k.ent b q n
  · obtain ⟨v, r1, r2⟩ := k.shd j d' q
    exact ⟨v, r1, r2.mono s⟩
  · obtain ⟨b, r1, r2, r3, r4⟩ := k.own j d' q
    have hb : b ≠ p := fun z => by
      subst z
      exact r.ne j d' q r1
    exact ⟨b, r1, nu b hb r2, r3.mono s, r4⟩
  · obtain ⟨r1, r2, r3, r4, u, r5⟩ := k.ios j d' q
    have hb : B.ad j ≠ p := fun z => by
      rw [z, r.n0] at r5
      cases r5
    exact ⟨r1, nu _ hb r2, r3.mono s, r4, u, r5⟩

/-- where what may be changed in slot i stands -/
theorem Ok.mutAt (k : Ok B F H σ e) {i : Nat} {d : D} (h : (eat e i).mut = some d) : ∃ a, σ[i]? = some (some (.ref a)) ∧ F a = none ∧ Own B.w B.K F H a d := by
  cases q : eat e i with
  | no => rw [q] at h; cases h
  | sh _ => rw [q] at h; cases h
  | ow d' =>
    rw [q] at h
    have z : d' = d := Option.some.inj h
    subst z
    obtain ⟨a, h1, h2, h3, _⟩ := k.own i d' q
    exact ⟨a, h1, h2, h3⟩
  | io d' =>
    rw [q] at h
    have z : d' = d := Option.some.inj h
    subst z
    obtain ⟨h1, h2, h3, _⟩ := k.ios i d' q
    exact ⟨_, h1, h2, h3⟩
/-- .. it is changed -/
theorem Ok.change (k : Ok B F H σ e) {i : Nat} {d d' : D} {a : Addr} {o : HO} (h : (eat e i).mut = some d) (hs : σ[i]? = some (some (.ref a))) (hn : Own B.w B.K F (upd H a o) a d') : Ok B F (upd H a o) σ (eput e i ((eat e i).with d')) := by
  obtain ⟨a', h1, h2, h3⟩ := k.mutAt h
  rw [hs] at h1
  cases h1
  have hl : i < e.length := eat_lt e i fun z => by rw [z] at h; cases h
  obtain ⟨u0, hu0⟩ := h3.some
  -- every other own object stands elsewhere
  have apart : ∀ j d1 b, (eat e j).mut = some d1 → σ[j]? = some (some (.ref b)) → j ≠ i → b ≠ a := fun j d1 b q r ne z => by
    subst z
    cases x : eat e i with
    | no => rw [x] at h; cases h
    | sh _ => rw [x] at h; cases h
    | ow y =>
      cases x' : eat e j with
      | no => rw [x'] at q; cases q
      | sh _ => rw [x'] at q; cases q
      | ow y' => exact ne (k.inj j i _ _ b x' x r hs)
      | io y' =>
        obtain ⟨c1, _, _, _, u, c2⟩ := k.ios j y' x'
        obtain ⟨b1, b2, _, _, b3⟩ := k.own i y x
        rw [hs] at b2
        cases b2
        rw [r] at c1
        cases c1
        rw [b3] at c2
        cases c2
    | io y =>
      cases x' : eat e j with
      | no => rw [x'] at q; cases q
      | sh _ => rw [x'] at q; cases q
      | ow y' =>
        obtain ⟨c1, _, _, _, u, c2⟩ := k.ios i y x
        obtain ⟨b1, b2, _, _, b3⟩ := k.own j y' x'
        rw [r] at b2
        cases b2
        rw [hs] at c1
        cases c1
        rw [b3] at c2
        cases c2
      | io y' =>
        obtain ⟨c1, _⟩ := k.ios i y x
        obtain ⟨b1, _⟩ := k.ios j y' x'
        rw [hs] at c1
        rw [r] at b1
        cases c1
        exact ne (k.ioi j i y' y x' x (V.ref.inj (Option.some.inj (Option.some.inj b1))).symm)
  have hsub : Sub F (upd H a o) := fun b u hb => by rw [upd_ne (ne_of_none hb h2)]; exact k.sub b u hb
  have at_i : eat (eput e i ((eat e i).with d')) i = (eat e i).with d' := by rw [eat_put, if_pos ⟨rfl, hl⟩]
  have at_j : ∀ j, j ≠ i → eat (eput e i ((eat e i).with d')) j = eat e j := fun j q => by rw [eat_put, if_neg fun z => q z.1]
  refine ⟨hsub, k.f0, fun b u q => ?_, fun b u q1 q2 q3 => ?_, k.ent, by rw [eput_length]; exact k.len, fun j d1 q => ?_, fun j d1 q => ?_, fun j d1 q => ?_, fun i1 i2 d1 d2 b q1 q2 => ?_, fun i1 i2 d1 d2 q1 q2 => ?_⟩
  · by_cases z : b = a
    · subst z; exact ⟨o, upd_same⟩
    · rw [upd_ne z]; exact k.dom b u q
  · obtain ⟨r1, r2⟩ := k.res b u q1 q2 q3
    refine ⟨r1, ?_⟩
    have z : b ≠ a := fun z => by
      subst z
      cases x : eat e i with
      | no => rw [x] at h; cases h
      | sh _ => rw [x] at h; cases h
      | ow y =>
        obtain ⟨b1, b2, _, _, b3⟩ := k.own i y x
        rw [hs] at b2
        cases b2
        rw [b3] at q1
        cases q1
      | io y =>
        obtain ⟨c1, _, _, c2, _⟩ := k.ios i y x
        rw [hs] at c1
        cases c1
        exact q3 c2
    rw [upd_ne z]
    exact r2
  · by_cases z : j = i
    · subst z
      rw [at_i] at q
      cases x : eat e j with
      | no => rw [x] at h; cases h
      | sh _ => rw [x] at h; cases h
      | ow _ => rw [x] at q; cases q
      | io _ => rw [x] at q; cases q
    · rw [at_j j z] at q
      exact k.shd j d1 q
  · by_cases z : j = i
    · subst z
      rw [at_i] at q
      cases x : eat e j with
      | no => rw [x] at h; cases h
      | sh _ => rw [x] at h; cases h
      | io _ => rw [x] at q; cases q
      | ow y =>
        rw [x] at q
        have z : d' = d1 := Slot.ow.inj q
        subst z
        obtain ⟨b1, b2, b4, _, b3⟩ := k.own j y x
        rw [hs] at b2
        cases b2
        exact ⟨a, hs, h2, hn, b3⟩
    · rw [at_j j z] at q
      obtain ⟨b, r1, r2, r3, r4⟩ := k.own j d1 q
      have nb := apart j d1 b (by rw [q]; rfl) r1 z
      exact ⟨b, r1, r2, r3.congr (upd_ne nb), r4⟩
  · by_cases z : j = i
    · subst z
      rw [at_i] at q
      cases x : eat e j with
      | no => rw [x] at h; cases h
      | sh _ => rw [x] at h; cases h
      | ow _ => rw [x] at q; cases q
      | io y =>
        rw [x] at q
        have z : d' = d1 := Slot.io.inj q
        subst z
        obtain ⟨c1, c2, c3, c4⟩ := k.ios j y x
        have c1' := c1
        rw [hs] at c1'
        cases c1'
        exact ⟨c1, c2, hn, c4⟩
    · rw [at_j j z] at q
      obtain ⟨r1, r2, r3, r4⟩ := k.ios j d1 q
      have nb := apart j d1 _ (by rw [q]; rfl) r1 z
      exact ⟨r1, r2, r3.congr (upd_ne nb), r4⟩
  · have un : ∀ j d1, eat (eput e i ((eat e i).with d')) j = .ow d1 → ∃ d2, eat e j = .ow d2 := fun j d1 q => by
      by_cases z : j = i
      · subst z
        rw [at_i] at q
        cases x : eat e j with
        | no => rw [x] at q; cases q
        | sh _ => rw [x] at q; cases q
        | io _ => rw [x] at q; cases q
        | ow y => exact ⟨y, rfl⟩
      · rw [at_j j z] at q; exact ⟨_, q⟩
    obtain ⟨y1, z1⟩ := un i1 d1 q1
    obtain ⟨y2, z2⟩ := un i2 d2 q2
    exact k.inj i1 i2 y1 y2 b z1 z2
  · have un : ∀ j d1, eat (eput e i ((eat e i).with d')) j = .io d1 → ∃ d2, eat e j = .io d2 := fun j d1 q => by
      by_cases z : j = i
      · subst z
        rw [at_i] at q
        cases x : eat e j with
        | no => rw [x] at q; cases q
        | sh _ => rw [x] at q; cases q
        | ow _ => rw [x] at q; cases q
        | io y => exact ⟨y, rfl⟩
      · rw [at_j j z] at q; exact ⟨_, q⟩
    obtain ⟨y1, z1⟩ := un i1 d1 q1
    obtain ⟨y2, z2⟩ := un i2 d2 q2
    exact k.ioi i1 i2 y1 y2 z1 z2
end
end MP

set_option Elab.async false
set_option linter.all false
set_option maxRecDepth 100000
set_option autoImplicit false
namespace MP
open PySem L2

structure Bd0 where
  H0 : Hp
  F0 : Hp
  ad : Nat → Addr
  ioA : List Addr
  W : Exn → St → En → Hp → Hp → Prop
  io0 : ∀ a, a ∈ ioA → ∃ o, H0 a = some o
abbrev bd (X : Cx) (b : Bd0) : Bd := ⟨X.w, X.K, b.H0, b.F0, b.ad, b.ioA, b.W⟩
/-- a new object is kept from harm for a while -/
theorem Bd0.rsv_io (b : Bd0) (p : Addr) (o : HO) : ∀ a, a ∈ b.ioA → ∃ u, (upd b.H0 p o) a = some u := fun a h => by
  by_cases z : a = p
  · subst z; exact ⟨o, upd_same⟩
  · obtain ⟨u, hu⟩ := b.io0 a h
    exact ⟨u, (upd_ne z).trans hu⟩
def Bd0.rsv (b : Bd0) (p : Addr) (o : HO) : Bd0 := { b with H0 := upd b.H0 p o, io0 := b.rsv_io p o }
theorem Bd0.nio {b : Bd0} {p : Addr} (h : b.H0 p = none) : p ∉ b.ioA := fun m => by
  obtain ⟨u, hu⟩ := b.io0 p m
  rw [h] at hu
  cases hu
section
variable {X : Cx} {b : Bd0} {F H : Hp} {σ : St} {e : En} {p : Addr} {o : HO}
theorem Ok.rsv (k : Ok (bd X b) F H σ e) (n0 : b.H0 p = none) (f0 : b.F0 p = none) (nf : F p = none) (hp : H p = some o) (ne : ∀ i d, eat e i = .ow d → σ[i]? ≠ some (some (.ref p))) (ni : p ∉ b.ioA) : Ok (bd X (b.rsv p o)) F H σ e := by
  have at_ne : ∀ a, a ≠ p → (b.rsv p o).H0 a = b.H0 a := fun a h => upd_ne h
  refine ⟨k.sub, k.f0, fun a u q => ?_, fun a u q1 q2 q3 => ?_, fun a q1 q2 => ?_, k.len, k.shd, fun i d q => ?_, fun i d q => ?_, k.inj, k.ioi⟩
  · by_cases z : a = p
    · subst z; exact ⟨o, hp⟩
    · exact k.dom a u ((at_ne a z).symm.trans q)
  · by_cases z : a = p
    · subst z
      have : (upd b.H0 a o) a = some u := q1
      rw [upd_same] at this
      cases this
      exact ⟨nf, hp⟩
    · exact k.res a u ((at_ne a z).symm.trans q1) q2 q3
  · by_cases z : a = p
    · subst z; exact absurd nf q1
    · exact (at_ne a z).trans (k.ent a q1 q2)
  · obtain ⟨a, h1, h2, h3, h4⟩ := k.own i d q
    refine ⟨a, h1, h2, h3, (at_ne a fun z => ?_).trans h4⟩
    subst z
    exact ne i d q h1
  · obtain ⟨h1, h2, h3, h4, u, h5⟩ := k.ios i d q
    refine ⟨h1, h2, h3, h4, u, (at_ne _ fun z => ?_).trans h5⟩
    exact ni (z ▸ h4)
theorem Ok.unrsv (k : Ok (bd X (b.rsv p o)) F H σ e) (n0 : b.H0 p = none) (f0 : b.F0 p = none) (ni : p ∉ b.ioA) : Ok (bd X b) F H σ e ∧ F p = none ∧ H p = some o ∧ (∀ i d, eat e i = .ow d → σ[i]? ≠ some (some (.ref p))) := by
  have at_ne : ∀ a, a ≠ p → (b.rsv p o).H0 a = b.H0 a := fun a h => upd_ne h
  have at_p : (b.rsv p o).H0 p = some o := upd_same
  obtain ⟨r1, r2⟩ := k.res p o at_p f0 ni
  refine ⟨⟨k.sub, k.f0, fun a u q => ?_, fun a u q1 q2 q3 => ?_, fun a q1 q2 => ?_, k.len, k.shd, fun i d q => ?_, fun i d q => ?_, k.inj, k.ioi⟩, r1, r2, fun i d q h => ?_⟩
  · have z : a ≠ p := fun z => by subst z; rw [show (bd X b).H0 a = none from n0] at q; cases q
    exact k.dom a u ((at_ne a z).trans q)
  · have z : a ≠ p := fun z => by subst z; rw [show (bd X b).H0 a = none from n0] at q1; cases q1
    exact k.res a u ((at_ne a z).trans q1) q2 q3
  · have z : a ≠ p := fun z => by subst z; exact q1 r1
    exact (at_ne a z).symm.trans (k.ent a q1 q2)
  · obtain ⟨a, h1, h2, h3, h4⟩ := k.own i d q
    have z : a ≠ p := fun z => by subst z; rw [show (bd X (b.rsv a o)).H0 a = some o from at_p] at h4; cases h4
    exact ⟨a, h1, h2, h3, (at_ne a z).symm.trans h4⟩
  · obtain ⟨h1, h2, h3, h4, u, h5⟩ := k.ios i d q
    have z : b.ad i ≠ p := fun z => ni (z ▸ h4)
    exact ⟨h1, h2, h3, h4, u, (at_ne _ z).symm.trans h5⟩
  · obtain ⟨a, h1, h2, h3, h4⟩ := k.own i d q
    rw [h] at h1
    cases h1
    rw [show (bd X (b.rsv p o)).H0 p = some o from at_p] at h4
    cases h4
end

/-! ### readings -/
def Pk (w : World) (K : PySem.W.Frag) (F H : Hp) (v : V) (d : D) : Prop := Rep w K F v d ∨ ∃ a, v = .ref a ∧ F a = none ∧ Own w K F H a d
inductive PkL (w : World) (K : PySem.W.Frag) (F H : Hp) : List V → List D → Prop
  | nil : PkL w K F H [] []
  | cons {v : V} {d : D} {vs : List V} {ds : List D} : Pk w K F H v d → PkL w K F H vs ds → PkL w K F H (v :: vs) (d :: ds)

def aft {α : Type} (X : Cx) (b : Bd0) (F : Hp) (σ : St) (r : Res α) (k : α → En → Prop) : Prop :=
  match r with
  | .ok a e => k a e
  | .ex c e => ∀ F' H', Ok (bd X b) F' H' σ e → Sub F F' → b.W c σ e F' H'
  | .stuck => False
/-- a frozen value | what may be looked at, in a slot | a new object | a test | arguments -/
def tE (X : Cx) (b : Bd0) (f : En → Res D) : TE := fun σ H Q => ∃ e F, Ok (bd X b) F H σ e ∧ aft X b F σ (f e) fun d e' => ∀ v F' H', Ok (bd X b) F' H' σ e' → Sub F F' → Rep X.w X.K F' v d → Q v H'
/-- a value given out: a list or dict is new -/
def Mv (B : Bd) (F H : Hp) (σ : St) (e : En) (v : V) (d : D) : Prop := (d.isMut = false ∧ Rep B.w B.K F v d) ∨ (d.isMut = true ∧ ∃ p, v = .ref p ∧ Fr B F H σ e p d)
def tM (X : Cx) (b : Bd0) (f : En → Res D) : TE := fun σ H Q => ∃ e F, Ok (bd X b) F H σ e ∧ aft X b F σ (f e) fun d e' => ∀ v F' H', Ok (bd X b) F' H' σ e' → Sub F F' → Mv (bd X b) F' H' σ e' v d → Q v H'
def tT (X : Cx) (b : Bd0) (f : En → Res Bool) : TT := fun σ H Q => ∃ e F, Ok (bd X b) F H σ e ∧ aft X b F σ (f e) fun c e' => ∀ F' H', Ok (bd X b) F' H' σ e' → Sub F F' → Q c H'
inductive Opd where
  | f (g : En → Res D) | n (i : Nat)
def tO (X : Cx) (b : Bd0) : Opd → TE
  | .f g => tE X b g
  | .n i => tVar i
/-- what a slot holds, looked at -/
def seeAt {α : Type} (i : Nat) (e : En) (k : D → Res α) : Res α := match (eat e i).see with
  | some d => k d
  | none => .stuck
def args : List Opd → En → Res (List D)
  | [], e => .ok [] e
  | .f g :: r, e => (g e).bind fun a e => (args r e).bind fun l e => .ok (a :: l) e
  | .n i :: r, e => seeAt i e fun _ => (args r e).bind fun l e => seeAt i e fun a => .ok (a :: l) e
def tAr (X : Cx) (b : Bd0) (os : List Opd) : TA := fun σ H Q => ∃ e F, Ok (bd X b) F H σ e ∧ aft X b F σ (args os e) fun ds e' => ∀ vs F' H', Ok (bd X b) F' H' σ e' → Sub F F' → PkL X.w X.K F' H' vs ds → Q vs H'

theorem pe_of {X : Cx} {e : Expr} {t t' : TE} (h : PE X e t) (i : ∀ σ H Q, t' σ H Q → t σ H Q) : PE X e t' := ⟨fun pins s σ H Q I q => h.run pins s σ H Q I (i σ H Q q)⟩
theorem pt_of {X : Cx} {e : Expr} {t t' : TT} (h : PT X e t) (i : ∀ σ H Q, t' σ H Q → t σ H Q) : PT X e t' := ⟨fun pins s σ H Q I q => h.run pins s σ H Q I (i σ H Q q)⟩
theorem pa_of {X : Cx} {e : List Expr} {t t' : TA} (h : PA X e t) (i : ∀ σ H Q, t' σ H Q → t σ H Q) : PA X e t' := ⟨fun p pins s σ H Q I q => h.run p pins s σ H Q I (i σ H Q q)⟩

section
variable {X : Cx} {b : Bd0} {F F1 H : Hp} {σ : St} {e : En}
theorem aft.sub {α : Type} {r : Res α} {k : α → En → Prop} (s : Sub F F1) (h : aft X b F σ r k) : aft X b F1 σ r k := by
  cases r with
  | ok a e => exact h
  | ex c e => exact fun F' H' q z => h F' H' q (s.trans z)
  | stuck => exact h
theorem aft.mono {α : Type} {r : Res α} {k k' : α → En → Prop} (h : aft X b F σ r k) (i : ∀ a e, k a e → k' a e) : aft X b F σ r k' := by
  cases r with
  | ok a e => exact i a e h
  | ex c e => exact h
  | stuck => exact h
/-- a step, then the rest -/
theorem aft.bind {α β : Type} {r : Res α} {f : α → En → Res β} {k : β → En → Prop} (h : aft X b F σ (r.bind f) k) : aft X b F σ r fun a e => aft X b F σ (f a e) k := by
  cases r with
  | ok a e => exact h
  | ex c e => exact h
  | stuck => exact h
theorem aft.opt {α : Type} {o : Option α} {k : α → En → Prop} (h : aft X b F σ (Res.opt o e) k) : ∃ a, o = some a ∧ k a e := by
  cases o with
  | some a => exact ⟨a, rfl, h⟩
  | none => exact h.elim
theorem aft.see {α : Type} {i : Nat} {f : D → Res α} {k : α → En → Prop} (h : aft X b F σ (seeAt i e f) k) : ∃ d, (eat e i).see = some d ∧ aft X b F σ (f d) k := by
  unfold seeAt at h
  cases q : (eat e i).see with
  | some d =>
    rw [q] at h
    exact ⟨d, rfl, h⟩
  | none =>
    rw [q] at h
    exact h.elim
theorem Ok.seeAt {d : D} (k : Ok (bd X b) F H σ e) {i : Nat} (h : (eat e i).see = some d) : ∃ v, σ[i]? = some (some v) ∧ Pk X.w X.K F H v d := by
  cases q : eat e i with
  | no => rw [q] at h; cases h
  | sh d' =>
    rw [q] at h
    have z : d' = d := Option.some.inj h
    subst z
    obtain ⟨v, h1, h2⟩ := k.shd i d' q
    exact ⟨v, h1, .inl h2⟩
  | ow d' =>
    rw [q] at h
    have z : d' = d := Option.some.inj h
    subst z
    obtain ⟨a, h1, h2, h3, _⟩ := k.own i d' q
    exact ⟨_, h1, .inr ⟨a, rfl, h2, h3⟩⟩
  | io d' =>
    rw [q] at h
    have z : d' = d := Option.some.inj h
    subst z
    obtain ⟨h1, h2, h3, _⟩ := k.ios i d' q
    exact ⟨_, h1, .inr ⟨_, rfl, h2, h3⟩⟩

/-! ### a new object is frozen -/
theorem e_m {a : Expr} {f : En → Res D} (h : PE X a (tM X b f)) : PE X a (tE X b f) := pe_of h fun σ H Q ⟨e, F, k, q⟩ => ⟨e, F, k, q.mono fun d e' z v F' H' k' s r => by
  rcases r with ⟨_, r⟩ | ⟨_, p, rfl, r⟩
  · exact z v F' H' k' s r
  · obtain ⟨F2, k2, s2, r2⟩ := k'.freezeFr r
    exact z _ F2 H' k2 (s.trans s2) r2⟩
/-- .. and back where it is no list or dict -/
def eM (f : En → Res D) : En → Res D := fun e => (f e).bind fun d e => if d.isMut then .stuck else .ok d e
theorem m_e {a : Expr} {f : En → Res D} (h : PE X a (tE X b f)) : PE X a (tM X b (eM f)) := pe_of h fun σ H Q ⟨e, F, k, q⟩ => ⟨e, F, k, (aft.bind q).mono fun d e' z v F' H' k' s r => by
  cases y : d.isMut with
  | true => rw [y] at z; exact z.elim
  | false =>
    rw [y] at z
    exact z v F' H' k' s (.inl ⟨y, r⟩)⟩

/-! ### names and constants -/
/-- a slot's value, frozen from now on -/
def eN (i : Nat) : En → Res D := fun e => match eat e i with
  | .sh d => .ok d e
  | .ow d => .ok d (eput e i (.sh d))
  | _ => .stuck
theorem e_n {a : Expr} (i : Nat) (h : PE X a (tVar i)) : PE X a (tE X b (eN i)) := pe_of h fun σ H Q ⟨e, F, k, q⟩ => by
  unfold eN at q
  cases z : eat e i with
  | no => rw [z] at q; exact q.elim
  | io d => rw [z] at q; exact q.elim
  | sh d =>
    rw [z] at q
    obtain ⟨v, h1, h2⟩ := k.shd i d z
    exact ⟨v, h1, q v F H k (Sub.refl F) h2⟩
  | ow d =>
    rw [z] at q
    obtain ⟨a, F', h1, h2, h3, h4⟩ := k.freeze z
    exact ⟨_, h1, q _ F' H h2 h3 h4⟩
/-- a slot's value given out: an own object as new (the slot is empty from now on) -/
def eNM (i : Nat) : En → Res D := fun e => match eat e i with
  | .ow d => if d.isMut then .ok d (eput e i .no) else .stuck
  | .sh d => if d.isMut then .stuck else .ok d e
  | _ => .stuck
theorem m_n {a : Expr} (i : Nat) (h : PE X a (tVar i)) : PE X a (tM X b (eNM i)) := pe_of h fun σ H Q ⟨e, F, k, q⟩ => by
  unfold eNM at q
  cases z : eat e i with
  | no => rw [z] at q; exact q.elim
  | io d => rw [z] at q; exact q.elim
  | sh d =>
    rw [z] at q
    obtain ⟨v, h1, h2⟩ := k.shd i d z
    cases y : d.isMut with
    | true => simp only [y] at q; exact q.elim
    | false =>
      simp only [y] at q
      exact ⟨v, h1, q v F H k (Sub.refl F) (.inl ⟨y, h2⟩)⟩
  | ow d =>
    rw [z] at q
    obtain ⟨a, h1, h2, h3, h4⟩ := k.own i d z
    cases y : d.isMut with
    | false => simp only [y] at q; exact q.elim
    | true =>
      simp only [y] at q
      refine ⟨_, h1, q _ F H (k.drop i) (Sub.refl F) (.inr ⟨y, a, rfl, h2, h4, h3, fun j d' hj hs => ?_⟩)⟩
      rw [eat_put] at hj
      by_cases y : j = i ∧ i < e.length
      · rw [if_pos y] at hj
        cases hj
      · rw [if_neg y] at hj
        have := k.inj j i d' d a hj z hs h1
        exact y ⟨this, eat_lt e i (by rw [z]; simp)⟩
def eC (d : D) : En → Res D := fun e => .ok d e
theorem e_c {a : Expr} {v : V} {d : D} (h : PE X a (tC v)) (r : ∀ w K F, Rep w K F v d) : PE X a (tE X b (eC d)) := pe_of h fun σ H Q ⟨e, F, k, q⟩ => q v F H k (Sub.refl F) (r _ _ _)
theorem e_int {i : Int} {j pos} : PE X (.Constant (.int i) j pos) (tE X b (eC (.int i))) := e_c pe_int fun _ _ _ => .int i
theorem e_bl {i : Bool} {j pos} : PE X (.Constant (.bool i) j pos) (tE X b (eC (.bl i))) := e_c pe_bl fun _ _ _ => .bl i
theorem e_non {j pos} : PE X (.Constant .none j pos) (tE X b (eC .non)) := e_c pe_non fun _ _ _ => .non
theorem e_str {x : Str} {j pos} : PE X (.Constant (.str x) j pos) (tE X b (eC (.str x))) := e_c pe_str fun _ _ _ => .str x

/-! ### operations on values -/
/-- behind an operation: a list or dict is new, all else is frozen -/
def Post (w : World) (K : PySem.W.Frag) (F H F' H' : Hp) (v : V) (d : D) : Prop := Ext F H F' H' ∧ ((d.isMut = false ∧ Rep w K F' v d) ∨ (d.isMut = true ∧ ∃ p, v = .ref p ∧ H p = none ∧ F' p = none ∧ Own w K F' H' p d))
/-- what an operation by data asks: M: a list or dict that comes out is new; E: what comes out is frozen -/
def rG (X : Cx) (g : D → D → Option D) : R2 := fun x y H Q => ∃ F a b d, Sub F H ∧ Pk X.w X.K F H x a ∧ Pk X.w X.K F H y b ∧ g a b = some d ∧ ∀ v F' H', Post X.w X.K F H F' H' v d → Q v H'
def rGE (X : Cx) (g : D → D → Option D) : R2 := fun x y H Q => ∃ F a b d, Sub F H ∧ Pk X.w X.K F H x a ∧ Pk X.w X.K F H y b ∧ g a b = some d ∧ ∀ v F' H', Ext F H F' H' → Rep X.w X.K F' v d → Q v H'
def rN (X : Cx) (g : List D → Option D) : List V → Hp → VK → Prop := fun xs H Q => ∃ F as d, Sub F H ∧ PkL X.w X.K F H xs as ∧ g as = some d ∧ ∀ v F' H', Post X.w X.K F H F' H' v d → Q v H'
def rNE (X : Cx) (g : List D → Option D) : List V → Hp → VK → Prop := fun xs H Q => ∃ F as d, Sub F H ∧ PkL X.w X.K F H xs as ∧ g as = some d ∧ ∀ v F' H', Ext F H F' H' → Rep X.w X.K F' v d → Q v H'
section
variable {w : World} {K : PySem.W.Frag} {v : V} {d : D} {p : Addr} {o : HO}
theorem Post.same (s : Sub F H) (r : Rep w K F v d) (m : d.isMut = false) : Post w K F H F H v d := ⟨Ext.refl s, .inl ⟨m, r⟩⟩
theorem free_sub (s : Sub F H) (n : H p = none) : F p = none := by
  cases q : F p with
  | none => rfl
  | some u => rw [s p u q] at n; cases n
/-- a new frozen object -/
theorem Post.froz (s : Sub F H) (n : H p = none) (m : d.isMut = false) (r : Rep w K (upd F p o) (.ref p) d) : Post w K F H (upd F p o) (upd H p o) (.ref p) d := ⟨Ext.alloc s n, .inl ⟨m, r⟩⟩
/-- a new own object -/
theorem Post.new (s : Sub F H) (n : H p = none) (m : d.isMut = true) (r : Own w K F (upd H p o) p d) : Post w K F H F (upd H p o) (.ref p) d := ⟨Ext.allocOwn s n, .inr ⟨m, p, rfl, n, free_sub s n, r⟩⟩
theorem Post.lst (s : Sub F H) (n : H p = none) {vs : List V} {ds : List D} (z : ds.length ≤ sizeLine) (r : RepL w K F vs ds) : Post w K F H F (upd H p (.lst vs)) (.ref p) (.lst ds) := .new s n rfl ⟨vs, upd_same, z, r⟩
theorem Post.tup (s : Sub F H) (n : H p = none) {vs : List V} {ds : List D} (z : ds.length ≤ sizeLine) (r : RepL w K F vs ds) : Post w K F H (upd F p (.tup vs)) (upd H p (.tup vs)) (.ref p) (.tup ds) :=
  .froz s n rfl (.tup (.inl upd_same) z (r.mono (sub_upd (free_sub s n))))
end
/-- the state behind an operation -/
theorem Ok.post {v : V} {d : D} (k : Ok (bd X b) F H σ e) {F' H' : Hp} (h : Post X.w X.K F H F' H' v d) : Ok (bd X b) F' H' σ e ∧ Mv (bd X b) F' H' σ e v d := by
  obtain ⟨x, h⟩ := h
  refine ⟨k.ext x, ?_⟩
  rcases h with h | ⟨m, p, rfl, n, nf, ow⟩
  · exact .inl h
  · refine .inr ⟨m, p, rfl, nf, ?_, ow, fun i d' q z => ?_⟩
    · cases r : b.H0 p with
      | none => exact r
      | some u =>
        obtain ⟨o', q⟩ := k.dom p u r
        rw [n] at q
        cases q
    · obtain ⟨a, h1, h2, h3, _⟩ := k.own i d' q
      rw [z] at h1
      cases h1
      obtain ⟨o, ho⟩ := h3.some
      rw [n] at ho
      cases ho
theorem Pk.sub {w : World} {K : PySem.W.Frag} {F F' H : Hp} {v : V} {d : D} (s : Sub F F') (h : Rep w K F v d) : Pk w K F' H v d := .inl (h.mono s)

/-- two operands; a name's value is looked at when both are there -/
def o2 (oa ob : Opd) (g : D → D → Option D) : En → Res D := fun e => (args [oa, ob] e).bind fun l e => match l with
  | [a, b] => Res.opt (g a b) e
  | _ => .stuck
theorem o2_run {oa ob : Opd} {σ : St} {H : Hp} {k : D → D → En → Prop} (Q : V → V → Hp → Prop) (e : En) (F : Hp) (ok : Ok (bd X b) F H σ e)
    (h : aft X b F σ (args [oa, ob] e) fun l e' => ∃ a c, l = [a, c] ∧ k a c e') (hQ : ∀ a c e' x y F' H', k a c e' → Ok (bd X b) F' H' σ e' → Sub F F' → Pk X.w X.K F' H' x a → Pk X.w X.K F' H' y c → Q x y H') :
    tO X b oa σ H fun x H1 => tO X b ob σ H1 fun y H2 => Q x y H2 := by
  cases oa with
  | f fa =>
    have h1 := aft.bind (show aft X b F σ ((fa e).bind fun a e => (args [ob] e).bind fun l e => .ok (a :: l) e) _ from h)
    refine ⟨e, F, ok, h1.mono fun a e1 q1 v1 F1 H1 ok1 s1 r1 => ?_⟩
    have q1' := q1.sub s1
    cases ob with
    | f fb =>
      have h2 := aft.bind (aft.bind (show aft X b F1 σ (((fb e1).bind fun a e => (args [] e).bind fun l e => .ok (a :: l) e).bind fun l e => .ok (a :: l) e) _ from q1'))
      refine ⟨e1, F1, ok1, h2.mono fun c e2 q2 v2 F2 H2 ok2 s2 r2 => ?_⟩
      obtain ⟨a', c', hl, hk⟩ : ∃ a' c', [a, c] = [a', c'] ∧ k a' c' e2 := q2
      simp only [List.cons.injEq, and_true] at hl
      obtain ⟨rfl, rfl⟩ := hl
      exact hQ a c e2 v1 v2 F2 H2 hk ok2 (s1.trans s2) (Pk.sub s2 r1) (.inl r2)
    | n j =>
      obtain ⟨_, _, h2'⟩ := aft.see (aft.bind (show aft X b F1 σ ((seeAt j e1 fun _ => (args [] e1).bind fun l e => seeAt j e fun a => .ok (a :: l) e).bind fun l e => .ok (a :: l) e) _ from q1'))
      obtain ⟨c, hc, h2⟩ := aft.see (show aft X b F1 σ (seeAt j e1 fun a => .ok (a :: []) e1) _ from h2')
      obtain ⟨a', c', hl, hk⟩ : ∃ a' c', [a, c] = [a', c'] ∧ k a' c' e1 := h2
      simp only [List.cons.injEq, and_true] at hl
      obtain ⟨rfl, rfl⟩ := hl
      obtain ⟨v2, hv2, p2⟩ := ok1.seeAt hc
      exact ⟨v2, hv2, hQ a c e1 v1 v2 F1 H1 hk ok1 s1 (.inl r1) p2⟩
  | n i =>
    obtain ⟨a0, ha0, h0⟩ := aft.see (show aft X b F σ (seeAt i e fun _ => (args [ob] e).bind fun l e => seeAt i e fun a => .ok (a :: l) e) _ from h)
    obtain ⟨v, hv, p0⟩ := ok.seeAt ha0
    have h1 := aft.bind h0
    have look : ∀ {c e' F' H'} {y : V}, aft X b F' σ (seeAt i e' fun a => .ok (a :: [c]) e') (fun l e' => ∃ a c, l = [a, c] ∧ k a c e') → Ok (bd X b) F' H' σ e' → Sub F F' → Pk X.w X.K F' H' y c → Q v y H' := by
      intro c e' F' H' y q ok' s p2
      obtain ⟨a, ha, q⟩ := aft.see q
      obtain ⟨a', c', hl, hk⟩ : ∃ a' c', [a, c] = [a', c'] ∧ k a' c' e' := q
      simp only [List.cons.injEq, and_true] at hl
      obtain ⟨rfl, rfl⟩ := hl
      obtain ⟨v', hv', p1⟩ := ok'.seeAt ha
      rw [hv] at hv'
      cases hv'
      exact hQ a c e' v y F' H' hk ok' s p1 p2
    refine ⟨v, hv, ?_⟩
    cases ob with
    | f fb =>
      have h2 := aft.bind (show aft X b F σ ((fb e).bind fun a e => (args [] e).bind fun l e => .ok (a :: l) e) _ from h1)
      refine ⟨e, F, ok, h2.mono fun c e2 q2 v2 F2 H2 ok2 s2 r2 => ?_⟩
      exact look (q2.sub s2) ok2 s2 (.inl r2)
    | n j =>
      obtain ⟨_, _, h2⟩ := aft.see (show aft X b F σ (seeAt j e fun _ => (args [] e).bind fun l e => seeAt j e fun a => .ok (a :: l) e) _ from h1)
      obtain ⟨c, hc, h3⟩ := aft.see (show aft X b F σ (seeAt j e fun a => .ok (a :: []) e) _ from h2)
      obtain ⟨v2, hv2, p2⟩ := ok.seeAt hc
      exact ⟨v2, hv2, look h3 ok (Sub.refl F) p2⟩

/-! ### operators -/
theorem o2_out {g : D → D → Option D} {oa ob : Opd} {k : D → En → Prop} (h : aft X b F σ (o2 oa ob g e) k) : aft X b F σ (args [oa, ob] e) fun l e' => ∃ a c, l = [a, c] ∧ ∃ d, g a c = some d ∧ k d e' := (aft.bind h).mono fun l e' z => by
  match l, z with
  | [a, c], z =>
    obtain ⟨d, hd, z⟩ := aft.opt z
    exact ⟨a, c, rfl, d, hd, z⟩
  | [], z => exact z.elim
  | [_], z => exact z.elim
  | _ :: _ :: _ :: _, z => exact z.elim
theorem tM_o2 {g : D → D → Option D} {oa ob : Opd} (Q : VK) (h : tM X b (o2 oa ob g) σ H Q) : tO X b oa σ H fun x H1 => tO X b ob σ H1 fun y H2 => rG X g x y H2 Q := by
  obtain ⟨e, F, ok, q⟩ := h
  exact o2_run (fun x y H2 => rG X g x y H2 Q) e F ok (o2_out q) fun a c e' x y F' H' ⟨d, hd, z⟩ ok' s p1 p2 => ⟨F', a, c, d, ok'.sub, p1, p2, hd, fun v F2 H2 po => by
    obtain ⟨ok2, mv⟩ := ok'.post po
    exact z v F2 H2 ok2 (s.trans po.1.f) mv⟩
theorem tE_o2 {g : D → D → Option D} {oa ob : Opd} (Q : VK) (h : tE X b (o2 oa ob g) σ H Q) : tO X b oa σ H fun x H1 => tO X b ob σ H1 fun y H2 => rGE X g x y H2 Q := by
  obtain ⟨e, F, ok, q⟩ := h
  exact o2_run (fun x y H2 => rGE X g x y H2 Q) e F ok (o2_out q) fun a c e' x y F' H' ⟨d, hd, z⟩ ok' s p1 p2 => ⟨F', a, c, d, ok'.sub, p1, p2, hd, fun v F2 H2 ex r => z v F2 H2 (ok'.ext ex) (s.trans ex.f) r⟩
theorem m_op {op : Operator} {g : D → D → Option D} {oa ob : Opd} {a c : Expr} {pos : Pos} (hr : OpR X (binaryOp op) (rG X g)) (ha : PE X a (tO X b oa)) (hc : PE X c (tO X b ob)) : PE X (.BinOp a op c pos) (tM X b (o2 oa ob g)) :=
  pe_of (pe_op hr ha hc) fun _ _ Q h => tM_o2 Q h
theorem m_cmp {op : CmpOp} {g : D → D → Option D} {oa ob : Opd} {a c : Expr} {pos : Pos} (hr : OpR X (compareOp op) (rG X g)) (ha : PE X a (tO X b oa)) (hc : PE X c (tO X b ob)) (hm : behindInMarks op c = false) : PE X (.Compare a [op] [c] pos) (tM X b (o2 oa ob g)) :=
  pe_of (pe_cmpR hr ha hc hm) fun _ _ Q h => tM_o2 Q h
theorem e_ix {g : D → D → Option D} {oa ob : Opd} {a c : Expr} {pos : Pos} (hr : IxR X (rGE X g)) (ha : PE X a (tO X b oa)) (hc : PE X c (tO X b ob)) (hs : PlainIx c := by exact fun _ _ => rfl) : PE X (.Subscript a c pos) (tE X b (o2 oa ob g)) :=
  pe_of (pe_ix hr ha hc hs) fun _ _ Q h => tE_o2 Q h
/-- a test: the value is True or False -/
def asB (f : En → Res D) : En → Res Bool := fun e => (f e).bind fun d e => match d with
  | .bl c => .ok c e
  | _ => .stuck
theorem asB_out {f : En → Res D} {k : Bool → En → Prop} (h : aft X b F σ (asB f e) k) : aft X b F σ (f e) fun d e' => ∃ c, d = .bl c ∧ k c e' := (aft.bind h).mono fun d e' z => by
  cases d <;> first | exact z.elim | exact ⟨_, rfl, z⟩
theorem t_cmp {op : CmpOp} {g : D → D → Option D} {oa ob : Opd} {a c : Expr} {pos : Pos} (hr : OpR X (compareOp op) (rG X g)) (ha : PE X a (tO X b oa)) (hc : PE X c (tO X b ob)) (hm : behindInMarks op c = false) : PT X (.Compare a [op] [c] pos) (tT X b (asB (o2 oa ob g))) :=
  pt_of (pt_cmpR hr ha hc hm) fun σ H Q ⟨e, F, ok, q⟩ => tM_o2 _ ⟨e, F, ok, (asB_out q).mono fun d e' ⟨c, hc, z⟩ v F' H' ok' s mv => by
    subst hc
    rcases mv with ⟨_, r⟩ | ⟨m, _⟩
    · cases r
      exact ⟨c, rfl, z F' H' ok' s⟩
    · cases m⟩
/-- any expression as a test -/
theorem t_val {a : Expr} {f : En → Res D} (h : PE X a (tE X b f)) (he : ∀ whole, isTrue a X.env whole = (do let v ← whole; standAt a.pos; holding [v] (truthy v)) := by intro _; rfl) : PT X a (tT X b (asB f)) :=
  pt_of (pt_val h he) fun σ H Q ⟨e, F, ok, q⟩ => ⟨e, F, ok, (asB_out q).mono fun d e' ⟨c, hc, z⟩ v F' H' ok' s r => by
    subst hc
    cases r
    exact ⟨c, rfl, z F' H' ok' s⟩⟩

/-! ### arguments, built-in functions -/
theorem a_nil : PA X [] (tAr X b []) := pa_of pa_nil fun σ H Q ⟨e, F, ok, q⟩ => q [] F H ok (Sub.refl F) .nil
theorem PkL.grow {w : World} {K : PySem.W.Frag} {F H : Hp} {v : V} {d : D} {vs : List V} {ds : List D} (h : Pk w K F H v d) (t : PkL w K F H vs ds) : PkL w K F H (v :: vs) (d :: ds) := .cons h t
theorem a_f {a : Expr} {es : List Expr} {g : En → Res D} {os : List Opd} (h : PE X a (tE X b g)) (t : PA X es (tAr X b os)) (hs : starEach (a :: es) X.env = (false, eval a X.env) :: starEach es X.env := by rfl) : PA X (a :: es) (tAr X b (.f g :: os)) :=
  pa_of (pa_cons h t hs) fun σ H Q ⟨e, F, ok, q⟩ => ⟨e, F, ok, (aft.bind (show aft X b F σ ((g e).bind fun a e => (args os e).bind fun l e => .ok (a :: l) e) _ from q)).mono fun d e1 z v F1 H1 ok1 s1 r1 =>
    ⟨e1, F1, ok1, (aft.bind (z.sub s1)).mono fun ds e2 y vs F2 H2 ok2 s2 r2 => y (v :: vs) F2 H2 ok2 (s1.trans s2) (.cons (.inl (r1.mono s2)) r2)⟩⟩
theorem a_n {a : Expr} {es : List Expr} (i : Nat) {os : List Opd} (h : PE X a (tVar i)) (t : PA X es (tAr X b os)) (hs : starEach (a :: es) X.env = (false, eval a X.env) :: starEach es X.env := by rfl) : PA X (a :: es) (tAr X b (.n i :: os)) :=
  pa_of (pa_cons h t hs) fun σ H Q ⟨e, F, ok, q⟩ => by
    obtain ⟨a0, ha0, h0⟩ := aft.see (show aft X b F σ (seeAt i e fun _ => (args os e).bind fun l e => seeAt i e fun a => .ok (a :: l) e) _ from q)
    obtain ⟨v, hv, p0⟩ := ok.seeAt ha0
    refine ⟨v, hv, e, F, ok, (aft.bind h0).mono fun ds e2 y vs F2 H2 ok2 s2 r2 => ?_⟩
    obtain ⟨a1, ha1, h1⟩ := aft.see y
    obtain ⟨v', hv', p1⟩ := ok2.seeAt ha1
    rw [hv] at hv'
    cases hv'
    exact h1 (v :: vs) F2 H2 ok2 s2 (.cons p1 r2)
def oN (os : List Opd) (g : List D → Option D) : En → Res D := fun e => (args os e).bind fun l e => Res.opt (g l) e
theorem tM_oN {g : List D → Option D} {os : List Opd} (Q : VK) (h : tM X b (oN os g) σ H Q) : tAr X b os σ H fun vs H1 => rN X g vs H1 Q := by
  obtain ⟨e, F, ok, q⟩ := h
  refine ⟨e, F, ok, (aft.bind q).mono fun l e' z vs F1 H1 ok1 s1 r1 => ?_⟩
  obtain ⟨d, hd, z⟩ := aft.opt z
  exact ⟨F1, l, d, ok1.sub, r1, hd, fun v F2 H2 po => by
    obtain ⟨ok2, mv⟩ := ok1.post po
    exact z v F2 H2 ok2 (s1.trans po.1.f) mv⟩
theorem tE_oN {g : List D → Option D} {os : List Opd} (Q : VK) (h : tE X b (oN os g) σ H Q) : tAr X b os σ H fun vs H1 => rNE X g vs H1 Q := by
  obtain ⟨e, F, ok, q⟩ := h
  refine ⟨e, F, ok, (aft.bind q).mono fun l e' z vs F1 H1 ok1 s1 r1 => ?_⟩
  obtain ⟨d, hd, z⟩ := aft.opt z
  exact ⟨F1, l, d, ok1.sub, r1, hd, fun v F2 H2 ex r => z v F2 H2 (ok1.ext ex) (s1.trans ex.f) r⟩
section
variable {id T : String} {g : List D → Option D} {os : List Opd} {x : Str} {a : Expr} {es : List Expr} {p pos : Pos}
theorem m_callB (hc : CallR X (.builtin id) (rN X g)) (hg : Gl X x) (hm : X.mg x = none) (hb : bootBuiltins x = some (.builtin id)) (ha : PA X (a :: es) (tAr X b os))
    (hn : x ≠ "__name__" := by decide) (hdb : (x == ("__debug__" : Str)) = false := by decide) (he : starEach (a :: es) X.env = (false, eval a X.env) :: starEach es X.env := by rfl) (hpl : (backTo pos (starEach es X.env)).any (·.1) = false := by rfl) :
    PE X (.Call (.Name x p) (a :: es) [] pos) (tM X b (oN os g)) := pe_of (pe_callB hc hg hm hb ha hn hdb he hpl) fun _ _ Q h => tM_oN Q h
theorem e_callB (hc : CallR X (.builtin id) (rNE X g)) (hg : Gl X x) (hm : X.mg x = none) (hb : bootBuiltins x = some (.builtin id)) (ha : PA X (a :: es) (tAr X b os))
    (hn : x ≠ "__name__" := by decide) (hdb : (x == ("__debug__" : Str)) = false := by decide) (he : starEach (a :: es) X.env = (false, eval a X.env) :: starEach es X.env := by rfl) (hpl : (backTo pos (starEach es X.env)).any (·.1) = false := by rfl) :
    PE X (.Call (.Name x p) (a :: es) [] pos) (tE X b (oN os g)) := pe_of (pe_callB hc hg hm hb ha hn hdb he hpl) fun _ _ Q h => tE_oN Q h
theorem m_callTy (hc : CallR X (.type T) (rN X g)) (hg : Gl X x) (hm : X.mg x = none) (hb : bootBuiltins x = some (.type T)) (ha : PA X (a :: es) (tAr X b os))
    (hn : x ≠ "__name__" := by decide) (hdb : (x == ("__debug__" : Str)) = false := by decide) (he : starEach (a :: es) X.env = (false, eval a X.env) :: starEach es X.env := by rfl) (hpl : (backTo pos (starEach es X.env)).any (·.1) = false := by rfl) :
    PE X (.Call (.Name x p) (a :: es) [] pos) (tM X b (oN os g)) := pe_of (pe_callTy hc hg hm hb ha hn hdb he hpl) fun _ _ Q h => tM_oN Q h
end
/-! ### displays: the items are frozen -/
def seqE : List (En → Res D) → En → Res (List D)
  | [], e => .ok [] e
  | g :: r, e => (g e).bind fun a e => (seqE r e).bind fun l e => .ok (a :: l) e
def tAs (X : Cx) (b : Bd0) (gs : List (En → Res D)) : TA := fun σ H Q => ∃ e F, Ok (bd X b) F H σ e ∧ aft X b F σ (seqE gs e) fun ds e' => ∀ vs F' H', Ok (bd X b) F' H' σ e' → Sub F F' → RepL X.w X.K F' vs ds → Q vs H'
theorem d_nil : PA X [] (tAs X b []) := pa_of pa_nil fun σ H Q ⟨e, F, ok, q⟩ => q [] F H ok (Sub.refl F) .nil
theorem d_cons {a : Expr} {es : List Expr} {g : En → Res D} {gs : List (En → Res D)} (h : PE X a (tE X b g)) (t : PA X es (tAs X b gs)) (hs : starEach (a :: es) X.env = (false, eval a X.env) :: starEach es X.env := by rfl) : PA X (a :: es) (tAs X b (g :: gs)) :=
  pa_of (pa_cons h t hs) fun σ H Q ⟨e, F, ok, q⟩ => ⟨e, F, ok, (aft.bind (show aft X b F σ ((g e).bind fun a e => (seqE gs e).bind fun l e => .ok (a :: l) e) _ from q)).mono fun d e1 z v F1 H1 ok1 s1 r1 =>
    ⟨e1, F1, ok1, (aft.bind (z.sub s1)).mono fun ds e2 y vs F2 H2 ok2 s2 r2 => y (v :: vs) F2 H2 ok2 (s1.trans s2) (.cons (r1.mono s2) r2)⟩⟩
def eTup (gs : List (En → Res D)) : En → Res D := fun e => (seqE gs e).bind fun l e => if l.length ≤ sizeLine then .ok (.tup l) e else .stuck
def eLst (gs : List (En → Res D)) : En → Res D := fun e => (seqE gs e).bind fun l e => if l.length ≤ sizeLine then .ok (.lst l) e else .stuck
theorem e_tup {es : List Expr} {gs : List (En → Res D)} {k pos} (ha : PA X es (tAs X b gs)) : PE X (.Tuple es k pos) (tE X b (eTup gs)) := pe_of (pe_tup ha) fun σ H Q ⟨e, F, ok, q⟩ => ⟨e, F, ok, (aft.bind q).mono fun ds e1 z vs F1 H1 ok1 s1 r1 => by
  by_cases h : ds.length ≤ sizeLine
  · rw [if_pos h] at z
    refine ⟨by rw [r1.length]; exact h, fun p n => ?_⟩
    have po := Post.tup (w := X.w) (K := X.K) ok1.sub n h r1
    obtain ⟨ok2, mv⟩ := ok1.post po
    rcases mv with ⟨_, r⟩ | ⟨m, _⟩
    · exact z _ _ _ ok2 (s1.trans po.1.f) r
    · cases m
  · rw [if_neg h] at z
    exact z.elim⟩
theorem m_lst {es : List Expr} {gs : List (En → Res D)} {pos} (ha : PA X es (tAs X b gs)) : PE X (.List es pos) (tM X b (eLst gs)) := pe_of (pe_lst ha) fun σ H Q ⟨e, F, ok, q⟩ => ⟨e, F, ok, (aft.bind q).mono fun ds e1 z vs F1 H1 ok1 s1 r1 => by
  by_cases h : ds.length ≤ sizeLine
  · rw [if_pos h] at z
    refine ⟨by rw [r1.length]; exact h, fun p n => ?_⟩
    have po := Post.lst (w := X.w) (K := X.K) ok1.sub n h r1
    obtain ⟨ok2, mv⟩ := ok1.post po
    exact z _ _ _ ok2 (s1.trans po.1.f) mv
  · rw [if_neg h] at z
    exact z.elim⟩

/-! ### and, or, not, if else -/
def eAnd (f g : En → Res D) : En → Res D := fun e => (asB f e).bind fun c e => if c then g e else .ok (.bl false) e
def eOr (f g : En → Res D) : En → Res D := fun e => (asB f e).bind fun c e => if c then .ok (.bl true) e else g e
def eNot (f : En → Res D) : En → Res D := fun e => (asB f e).bind fun c e => .ok (.bl (!c)) e
theorem asB_in {f : En → Res D} {Q : VK} {k : Bool → En → Prop} {te : TE} (ok : Ok (bd X b) F H σ e) (h : aft X b F σ (asB f e) k) (hQ : ∀ c e' F' H', k c e' → Ok (bd X b) F' H' σ e' → Sub F F' → Q (.bl c) H') : tE X b f σ H Q :=
  ⟨e, F, ok, (asB_out h).mono fun d e' ⟨c, hc, z⟩ v F' H' ok' s r => by
    subst hc
    cases r
    exact hQ c e' F' H' z ok' s⟩
theorem e_and {a c : Expr} {rest : List Expr} {f g : En → Res D} {pos : Pos} (ha : PE X a (tE X b f)) (hb : PE X (.BoolOp .And (c :: rest) pos) (tE X b g)) : PE X (.BoolOp .And (a :: c :: rest) pos) (tE X b (eAnd f g)) :=
  pe_of (pe_and ha hb) fun σ H Q ⟨e, F, ok, q⟩ => asB_in (te := tE X b g) ok (aft.bind q) fun c e' F' H' z ok' s => ⟨c, rfl, by
    cases c with
    | true => exact ⟨e', F', ok', ((show aft X b F σ (g e') _ from z).sub s).mono fun d e2 y v F2 H2 ok2 s2 r => y v F2 H2 ok2 (s.trans s2) r⟩
    | false => exact (show ∀ v F' H', _ from z) _ F' H' ok' s (.bl false)⟩
theorem e_or {a c : Expr} {rest : List Expr} {f g : En → Res D} {pos : Pos} (ha : PE X a (tE X b f)) (hb : PE X (.BoolOp .Or (c :: rest) pos) (tE X b g)) : PE X (.BoolOp .Or (a :: c :: rest) pos) (tE X b (eOr f g)) :=
  pe_of (pe_or ha hb) fun σ H Q ⟨e, F, ok, q⟩ => asB_in (te := tE X b g) ok (aft.bind q) fun c e' F' H' z ok' s => ⟨c, rfl, by
    cases c with
    | false => exact ⟨e', F', ok', ((show aft X b F σ (g e') _ from z).sub s).mono fun d e2 y v F2 H2 ok2 s2 r => y v F2 H2 ok2 (s.trans s2) r⟩
    | true => exact (show ∀ v F' H', _ from z) _ F' H' ok' s (.bl true)⟩
theorem e_one {op} {a : Expr} {f : En → Res D} {pos : Pos} (ha : PE X a (tE X b f)) : PE X (.BoolOp op [a] pos) (tE X b f) := pe_one ha
theorem e_not {a : Expr} {f : En → Res D} {pos : Pos} (ha : PE X a (tE X b f)) : PE X (.UnaryOp .Not a pos) (tE X b (eNot f)) :=
  pe_of (pe_not ha) fun σ H Q ⟨e, F, ok, q⟩ => asB_in (te := tE X b f) ok (aft.bind q) fun c e' F' H' z ok' s => ⟨c, rfl, (show ∀ v F' H', _ from z) _ F' H' ok' s (.bl _)⟩
def eIf (c : En → Res Bool) (f g : En → Res D) : En → Res D := fun e => (c e).bind fun k e => if k then f e else g e
theorem e_if {c a d : Expr} {k : En → Res Bool} {f g : En → Res D} {pos : Pos} (hc : PT X c (tT X b k)) (ha : PE X a (tE X b f)) (hd : PE X d (tE X b g)) : PE X (.IfExp c a d pos) (tE X b (eIf k f g)) :=
  pe_of (pe_ifExp hc ha hd) fun σ H Q ⟨e, F, ok, q⟩ => ⟨e, F, ok, (aft.bind q).mono fun c e' z F' H' ok' s => by
    cases c with
    | true => exact ⟨e', F', ok', ((show aft X b F σ (f e') _ from z).sub s).mono fun d e2 y v F2 H2 ok2 s2 r => y v F2 H2 ok2 (s.trans s2) r⟩
    | false => exact ⟨e', F', ok', ((show aft X b F σ (g e') _ from z).sub s).mono fun d e2 y v F2 H2 ok2 s2 r => y v F2 H2 ok2 (s.trans s2) r⟩⟩
theorem m_if {c a d : Expr} {k : En → Res Bool} {f g : En → Res D} {pos : Pos} (hc : PT X c (tT X b k)) (ha : PE X a (tM X b f)) (hd : PE X d (tM X b g)) : PE X (.IfExp c a d pos) (tM X b (eIf k f g)) :=
  pe_of (pe_ifExp hc ha hd) fun σ H Q ⟨e, F, ok, q⟩ => ⟨e, F, ok, (aft.bind q).mono fun c e' z F' H' ok' s => by
    cases c with
    | true => exact ⟨e', F', ok', ((show aft X b F σ (f e') _ from z).sub s).mono fun d e2 y v F2 H2 ok2 s2 r => y v F2 H2 ok2 (s.trans s2) r⟩
    | false => exact ⟨e', F', ok', ((show aft X b F σ (g e') _ from z).sub s).mono fun d e2 y v F2 H2 ok2 s2 r => y v F2 H2 ok2 (s.trans s2) r⟩⟩
-- the same as tests
def cAnd (f g : En → Res Bool) : En → Res Bool := fun e => (f e).bind fun c e => if c then g e else .ok false e
def cOr (f g : En → Res Bool) : En → Res Bool := fun e => (f e).bind fun c e => if c then .ok true e else g e
def cNot (f : En → Res Bool) : En → Res Bool := fun e => (f e).bind fun c e => .ok (!c) e
structure PWt (X : Cx) (b : Bd0) (e : Expr) (f : En → Res Bool) : Prop where
  pw : PW X e (tT X b f)
theorem pw_of {e : Expr} {t t' : TT} (h : PW X e t) (i : ∀ σ H Q, t' σ H Q → t σ H Q) : PW X e t' := ⟨fun w pins s σ H Q I q => h.run w pins s σ H Q I (i σ H Q q)⟩
theorem t_and1 {a : Expr} {f : En → Res Bool} {pos : Pos} (h : PT X a (tT X b f)) : PW X (.BoolOp .And [a] pos) (tT X b f) := pw_and1 h
theorem t_or1 {a : Expr} {f : En → Res Bool} {pos : Pos} (h : PT X a (tT X b f)) : PW X (.BoolOp .Or [a] pos) (tT X b f) := pw_or1 h
theorem t_and {a c : Expr} {rest : List Expr} {f g : En → Res Bool} {pos : Pos} (ha : PT X a (tT X b f)) (hb : PW X (.BoolOp .And (c :: rest) pos) (tT X b g)) : PW X (.BoolOp .And (a :: c :: rest) pos) (tT X b (cAnd f g)) :=
  pw_of (pw_and ha hb) fun σ H Q ⟨e, F, ok, q⟩ => ⟨e, F, ok, (aft.bind q).mono fun c e' z F' H' ok' s => by
    cases c with
    | true => exact ⟨e', F', ok', ((show aft X b F σ (g e') _ from z).sub s).mono fun d e2 y F2 H2 ok2 s2 => y F2 H2 ok2 (s.trans s2)⟩
    | false => exact (show ∀ F' H', _ from z) F' H' ok' s⟩
theorem t_or {a c : Expr} {rest : List Expr} {f g : En → Res Bool} {pos : Pos} (ha : PT X a (tT X b f)) (hb : PW X (.BoolOp .Or (c :: rest) pos) (tT X b g)) : PW X (.BoolOp .Or (a :: c :: rest) pos) (tT X b (cOr f g)) :=
  pw_of (pw_or ha hb) fun σ H Q ⟨e, F, ok, q⟩ => ⟨e, F, ok, (aft.bind q).mono fun c e' z F' H' ok' s => by
    cases c with
    | false => exact ⟨e', F', ok', ((show aft X b F σ (g e') _ from z).sub s).mono fun d e2 y F2 H2 ok2 s2 => y F2 H2 ok2 (s.trans s2)⟩
    | true => exact (show ∀ F' H', _ from z) F' H' ok' s⟩
theorem t_not {a : Expr} {f : En → Res Bool} {pos : Pos} (ha : PT X a (tT X b f)) : PT X (.UnaryOp .Not a pos) (tT X b (cNot f)) :=
  pt_of (pt_not ha) fun σ H Q ⟨e, F, ok, q⟩ => ⟨e, F, ok, (aft.bind q).mono fun c e' z F' H' ok' s => (show ∀ F' H', _ from z) F' H' ok' s⟩
end
end MP

set_option Elab.async false
set_option linter.all false
set_option maxRecDepth 100000
set_option autoImplicit false
namespace MP
open PySem L2

section
variable {w : World} {K : PySem.W.Frag} {F H : Hp}
mutual
theorem Rep.dp (s : Sub F H) : ∀ {v : V} {d : D}, Rep w K F v d → d.pd.canLay0 = true → Dp K H v d.pd
  | _, _, .non, _ => .non
  | _, _, .bl b, _ => .bl b
  | _, _, .int i, _ => .int i
  | _, _, .str x, _ => .str x
  | _, _, .tup (ds := ds) h z l, c => .tup (TupAt.mono s h).sqT (RepL.dp s l c)
  | _, _, .tpx _ _ _ _, c => nomatch c
  | _, _, .lst (ds := ds) h z l, c => .lst (.inl (.inl (s _ _ h))) (RepL.dp s l c)
  | _, _, .scr _ _ _, c => nomatch c
  | _, _, .dct _ _ _ _ _ _ _, c => nomatch c
theorem RepL.dp (s : Sub F H) : ∀ {vs : List V} {ds : List D}, RepL w K F vs ds → PyData.canLayAll0 (D.pds ds) = true → DpAll K H vs (D.pds ds)
  | _, _, .nil, _ => .nil
  | _, _, .cons (d := d) (ds := ds) h t, c => by
    have c' : (d.pd.canLay0 && PyData.canLayAll0 (D.pds ds)) = true := c
    rw [Bool.and_eq_true] at c'
    exact .cons (Rep.dp s h c'.1) (RepL.dp s t c'.2)
end
theorem Pk.dp (s : Sub F H) {v : V} {d : D} (h : Pk w K F H v d) (c : d.pd.canLay0 = true) : Dp K H v d.pd := by
  rcases h with h | ⟨a, rfl, n, o⟩
  · exact h.dp s c
  · cases d with
    | lst ds =>
      obtain ⟨vs, e, z, r⟩ := o
      exact .lst (.inl (.inl e)) (r.dp s c)
    | dct t kvs => exact nomatch c
    | _ => exact o.elim
theorem Pk.int {v : V} {i : Int} (h : Pk w K F H v (.int i)) : v = .int i := by
  rcases h with h | ⟨a, rfl, n, o⟩
  · cases h; rfl
  · exact o.elim
theorem Pk.bl {v : V} {i : Bool} (h : Pk w K F H v (.bl i)) : v = .bl i := by
  rcases h with h | ⟨a, rfl, n, o⟩
  · cases h; rfl
  · exact o.elim
theorem Pk.str {v : V} {i : Str} (h : Pk w K F H v (.str i)) : v = .str i := by
  rcases h with h | ⟨a, rfl, n, o⟩
  · cases h; rfl
  · exact o.elim
theorem Pk.non {v : V} (h : Pk w K F H v .non) : v = .non := by
  rcases h with h | ⟨a, rfl, n, o⟩
  · cases h; rfl
  · exact o.elim
theorem Pk.tup {v : V} {ds : List D} (h : Pk w K F H v (.tup ds)) : ∃ a vs, v = .ref a ∧ TupAt F a vs ∧ ds.length ≤ sizeLine ∧ RepL w K F vs ds := by
  rcases h with h | ⟨a, rfl, n, o⟩
  · cases h with
    | tup h z l => exact ⟨_, _, rfl, h, z, l⟩
  · exact o.elim
theorem Pk.lst (s : Sub F H) {v : V} {ds : List D} (h : Pk w K F H v (.lst ds)) : ∃ a vs, v = .ref a ∧ H a = some (.lst vs) ∧ ds.length ≤ sizeLine ∧ RepL w K F vs ds := by
  rcases h with h | ⟨a, rfl, n, o⟩
  · cases h with
    | lst h z l => exact ⟨_, _, rfl, s _ _ h, z, l⟩
  · obtain ⟨vs, e, z, r⟩ := o
    exact ⟨a, vs, rfl, e, z, r⟩
theorem Pk.scr (s : Sub F H) {v : V} {ds : List D} (h : Pk w K F H v (.scr ds)) : ∃ a vs, v = .ref a ∧ SqL K H a vs ∧ ds.length ≤ sizeLine ∧ RepL w K F vs ds := by
  rcases h with h | ⟨a, rfl, n, o⟩
  · cases h with
    | scr h z l => exact ⟨_, _, rfl, s.sqL h, z, l⟩
  · exact o.elim
theorem Pk.dct (s : Sub F H) {v : V} {t : Bool} {kvs : List (D × D)} (h : Pk w K F H v (.dct t kvs)) : ∃ a o es ep, v = .ref a ∧ H a = some (exactHO a o) ∧ (a == sysModules) = false ∧ Obj.ExactDict o ∧ o.data = .dict es ep ∧ kvs.length ≤ sizeLine ∧ (kvs.map (·.1)).Nodup ∧ RepE w K F t es.toList kvs := by
  rcases h with h | ⟨a, rfl, n, o⟩
  · cases h with
    | dct h y e q z n l => exact ⟨_, _, _, _, rfl, s _ _ h, y, e, q, z, n, l⟩
  · obtain ⟨o, es, ep, e, y, x, q, z, nd, r⟩ := o
    exact ⟨a, o, es, ep, rfl, e, y, x, q, z, nd, r⟩
/-- the items of a list, tuple or the script -/
def D.seq : D → Option (List D)
  | .tup ds => some ds
  | .lst ds => some ds
  | .scr ds => some ds
  | _ => none
theorem Pk.seq (s : Sub F H) {v : V} {d : D} {ds : List D} (h : Pk w K F H v d) (e : d.seq = some ds) : ∃ a vs, v = .ref a ∧ (SqL K H a vs ∨ SqT K H a vs) ∧ ds.length ≤ sizeLine ∧ RepL w K F vs ds := by
  cases d <;> first | (cases e; done) | skip
  case tup xs =>
    cases e
    obtain ⟨a, vs, rfl, h1, h2, h3⟩ := h.tup
    exact ⟨a, vs, rfl, .inr (h1.mono s).sqT, h2, h3⟩
  case lst xs =>
    cases e
    obtain ⟨a, vs, rfl, h1, h2, h3⟩ := h.lst s
    exact ⟨a, vs, rfl, .inl (.inl (.inl h1)), h2, h3⟩
  case scr xs =>
    cases e
    obtain ⟨a, vs, rfl, h1, h2, h3⟩ := h.scr s
    exact ⟨a, vs, rfl, .inl h1, h2, h3⟩
theorem RepL.ints : ∀ {vs : List V} {ds : List D} {ns : List Int}, RepL w K F vs ds → ds = ns.map D.int → vs = ns.map V.int
  | _, _, [], .nil, _ => rfl
  | _, _, n :: ns, .cons h t, e => by
    cases e
    cases h
    rw [RepL.ints t rfl]
    rfl
  | _, _, _ :: _, .nil, e => nomatch e
  | _, _, [], .cons _ _, e => nomatch e
theorem RepL.bls : ∀ {vs : List V} {ds : List D} {ns : List Bool}, RepL w K F vs ds → ds = ns.map D.bl → vs = ns.map V.bl
  | _, _, [], .nil, _ => rfl
  | _, _, n :: ns, .cons h t, e => by
    cases e
    cases h
    rw [RepL.bls t rfl]
    rfl
  | _, _, _ :: _, .nil, e => nomatch e
  | _, _, [], .cons _ _, e => nomatch e
theorem RepL.strs : ∀ {vs : List V} {ds : List D} {ns : List Str}, RepL w K F vs ds → ds = ns.map D.str → vs = ns.map V.str
  | _, _, [], .nil, _ => rfl
  | _, _, n :: ns, .cons h t, e => by
    cases e
    cases h
    rw [RepL.strs t rfl]
    rfl
  | _, _, _ :: _, .nil, e => nomatch e
  | _, _, [], .cons _ _, e => nomatch e
end
/-- all are ints, bools, texts -/
def intsOf : List D → Option (List Int)
  | [] => some []
  | .int i :: r => (intsOf r).map (i :: ·)
  | _ :: _ => none
def blsOf : List D → Option (List Bool)
  | [] => some []
  | .bl i :: r => (blsOf r).map (i :: ·)
  | _ :: _ => none
def strsOf : List D → Option (List Str)
  | [] => some []
  | .str i :: r => (strsOf r).map (i :: ·)
  | _ :: _ => none
theorem intsOf_eq : ∀ {ds : List D} {ns : List Int}, intsOf ds = some ns → ds = ns.map D.int
  | [], ns, h => by cases h; rfl
  | .int i :: r, ns, h => by
    cases q : intsOf r with
    | none => rw [intsOf, q] at h; cases h
    | some m => rw [intsOf, q] at h; cases h; rw [intsOf_eq q]; rfl
  | .non :: _, _, h | .bl _ :: _, _, h | .str _ :: _, _, h | .tup _ :: _, _, h | .lst _ :: _, _, h | .dct _ _ :: _, _, h | .set _ :: _, _, h | .scr _ :: _, _, h => nomatch h
theorem blsOf_eq : ∀ {ds : List D} {ns : List Bool}, blsOf ds = some ns → ds = ns.map D.bl
  | [], ns, h => by cases h; rfl
  | .bl i :: r, ns, h => by
    cases q : blsOf r with
    | none => rw [blsOf, q] at h; cases h
    | some m => rw [blsOf, q] at h; cases h; rw [blsOf_eq q]; rfl
  | .non :: _, _, h | .int _ :: _, _, h | .str _ :: _, _, h | .tup _ :: _, _, h | .lst _ :: _, _, h | .dct _ _ :: _, _, h | .set _ :: _, _, h | .scr _ :: _, _, h => nomatch h
theorem strsOf_eq : ∀ {ds : List D} {ns : List Str}, strsOf ds = some ns → ds = ns.map D.str
  | [], ns, h => by cases h; rfl
  | .str i :: r, ns, h => by
    cases q : strsOf r with
    | none => rw [strsOf, q] at h; cases h
    | some m => rw [strsOf, q] at h; cases h; rw [strsOf_eq q]; rfl
  | .non :: _, _, h | .bl _ :: _, _, h | .int _ :: _, _, h | .tup _ :: _, _, h | .lst _ :: _, _, h | .dct _ _ :: _, _, h | .set _ :: _, _, h | .scr _ :: _, _, h => nomatch h
@[simp] theorem intsOf_map : ∀ ns : List Int, intsOf (ns.map D.int) = some ns
  | [] => rfl
  | n :: ns => by rw [List.map_cons, intsOf, intsOf_map ns]; rfl
@[simp] theorem blsOf_map : ∀ ns : List Bool, blsOf (ns.map D.bl) = some ns
  | [] => rfl
  | n :: ns => by rw [List.map_cons, blsOf, blsOf_map ns]; rfl
@[simp] theorem strsOf_map : ∀ ns : List Str, strsOf (ns.map D.str) = some ns
  | [] => rfl
  | n :: ns => by rw [List.map_cons, strsOf, strsOf_map ns]; rfl

/-! ### arithmetic -/
def dAdd : D → D → Option D
  | .int i, .int j => some (.int (i + j))
  | .str i, .str j => if i.length + j.length ≤ sizeLine then some (.str (i ++ j)) else none
  | .tup a, .tup b => if a.length + b.length ≤ sizeLine then some (.tup (a ++ b)) else none
  | .lst a, .lst b => if a.length + b.length ≤ sizeLine then some (.lst (a ++ b)) else none
  | _, _ => none
def dSub : D → D → Option D
  | .int i, .int j => some (.int (i - j))
  | _, _ => none
def mulOk (i j : Int) : Bool := decide (-(2 ^ 64) < i ∧ i < 2 ^ 64) || decide (-(2 ^ 64) < j ∧ j < 2 ^ 64) || decide (i.natAbs.log2 + j.natAbs.log2 < 1000000)
def dMulI : D → D → Option D
  | .int i, .int j => if mulOk i j then some (.int (i * j)) else none
  | _, _ => none
def dFdv : D → D → Option D
  | .int i, .int j => if 0 < j ∧ j < 1073741824 then some (.int (i / j)) else none
  | _, _ => none
def dMod : D → D → Option D
  | .int i, .int j => if 0 < j then some (.int (i % j)) else none
  | _, _ => none
def dPow : D → D → Option D
  | .int i, .int j => if 0 ≤ j ∧ j ≤ 1000000 ∧ i.natAbs < 2 ^ 64 then some (.int (i ^ j.toNat)) else none
  | _, _ => none
def dNeg : D → Option D
  | .int i => some (.int (-i))
  | _ => none
section
variable {X : Cx}
theorem g_add : OpR X (binaryOp .Add) (rG X dAdd) := by
  intro pins s σ H x y v u Q I rx ry ⟨F, a, b, d, sub, pa, pb, hg, q⟩
  cases a <;> cases b <;> first | (cases hg; done) | skip
  case int.int i j =>
    cases hg
    obtain rfl := pa.int
    obtain rfl := pb.int
    exact op_add pins s σ H _ _ v u Q I rx ry ⟨i, j, rfl, rfl, q _ F H (.same sub (.int _) rfl)⟩
  case str.str i j =>
    simp only [dAdd] at hg
    split at hg
    · cases hg
      obtain rfl := pa.str
      obtain rfl := pb.str
      exact op_add_str pins s σ H _ _ v u Q I rx ry ⟨i, j, rfl, rfl, by assumption, q _ F H (.same sub (.str _) rfl)⟩
    · cases hg
  case tup.tup xs ys =>
    simp only [dAdd] at hg
    split at hg
    case isFalse => cases hg
    case isTrue hz =>
      cases hg
      obtain ⟨p1, vs, rfl, h1, z1, r1⟩ := pa.tup
      obtain ⟨p2, ws, rfl, h2, z2, r2⟩ := pb.tup
      have hl : vs.length + ws.length ≤ sizeLine := by rw [r1.length, r2.length]; exact hz
      refine op_catA pins s σ H _ _ v u Q I rx ry ⟨p1, p2, vs, ws, rfl, rfl, .inl (h1.mono sub), .inl (h2.mono sub), hl, fun e => ?_, fun e e2 => ?_, fun e e2 p n => ?_⟩
      · subst e
        cases r1
        exact q _ F H (.same sub (.tup h2 z2 r2) rfl)
      · subst e2
        cases r2
        rw [List.append_nil] at q
        exact q _ F H (.same sub (.tup h1 z1 r1) rfl)
      · exact q _ _ _ (.tup sub n (by rw [List.length_append]; exact hz) (r1.append r2))
  case lst.lst xs ys =>
    simp only [dAdd] at hg
    split at hg
    case isFalse => cases hg
    case isTrue hz =>
      cases hg
      obtain ⟨p1, vs, rfl, h1, z1, r1⟩ := pa.lst sub
      obtain ⟨p2, ws, rfl, h2, z2, r2⟩ := pb.lst sub
      have hl : vs.length + ws.length ≤ sizeLine := by rw [r1.length, r2.length]; exact hz
      exact op_cat pins s σ H _ _ v u Q I rx ry ⟨p1, p2, vs, ws, rfl, rfl, h1, h2, hl, fun p n => q _ _ _ (.lst sub n (by rw [List.length_append]; exact hz) (r1.append r2))⟩
theorem g_sub : OpR X (binaryOp .Sub) (rG X dSub) := by
  intro pins s σ H x y v u Q I rx ry ⟨F, a, b, d, sub, pa, pb, hg, q⟩
  cases a <;> cases b <;> first | (cases hg; done) | skip
  case int.int i j =>
    cases hg
    obtain rfl := pa.int
    obtain rfl := pb.int
    exact op_sub pins s σ H _ _ v u Q I rx ry ⟨i, j, rfl, rfl, q _ F H (.same sub (.int _) rfl)⟩
theorem g_mulI : OpR X (binaryOp .Mult) (rG X dMulI) := by
  intro pins s σ H x y v u Q I rx ry ⟨F, a, b, d, sub, pa, pb, hg, q⟩
  cases a <;> cases b <;> first | (cases hg; done) | skip
  case int.int i j =>
    obtain rfl := pa.int
    obtain rfl := pb.int
    simp only [dMulI] at hg
    split at hg
    case isFalse => cases hg
    case isTrue h =>
      cases hg
      have q' := q _ F H (.same sub (.int _) rfl)
      unfold mulOk at h
      rw [Bool.or_eq_true, Bool.or_eq_true] at h
      rcases h with (h | h) | h
      · exact op_mul pins s σ H _ _ v u Q I rx ry ⟨i, j, rfl, rfl, .inl (of_decide_eq_true h), q'⟩
      · exact op_mul pins s σ H _ _ v u Q I rx ry ⟨i, j, rfl, rfl, .inr (of_decide_eq_true h), q'⟩
      · exact op_mulW pins s σ H _ _ v u Q I rx ry ⟨i, j, rfl, rfl, (of_decide_eq_true h : i.natAbs.log2 + j.natAbs.log2 < 1000000), q'⟩
theorem g_fdv : OpR X (binaryOp .FloorDiv) (rG X dFdv) := by
  intro pins s σ H x y v u Q I rx ry ⟨F, a, b, d, sub, pa, pb, hg, q⟩
  cases a <;> cases b <;> first | (cases hg; done) | skip
  case int.int i j =>
    obtain rfl := pa.int
    obtain rfl := pb.int
    simp only [dFdv] at hg
    split at hg
    case isFalse => cases hg
    case isTrue h =>
      cases hg
      exact op_fdiv pins s σ H _ _ v u Q I rx ry ⟨i, j, rfl, rfl, h, q _ F H (.same sub (.int _) rfl)⟩
theorem g_mod : OpR X (binaryOp .Mod) (rG X dMod) := by
  intro pins s σ H x y v u Q I rx ry ⟨F, a, b, d, sub, pa, pb, hg, q⟩
  cases a <;> cases b <;> first | (cases hg; done) | skip
  case int.int i j =>
    obtain rfl := pa.int
    obtain rfl := pb.int
    simp only [dMod] at hg
    split at hg
    case isFalse => cases hg
    case isTrue h =>
      cases hg
      exact op_mod pins s σ H _ _ v u Q I rx ry ⟨i, j, rfl, rfl, h, q _ F H (.same sub (.int _) rfl)⟩
theorem g_pow : OpR X (binaryOp .Pow) (rG X dPow) := by
  intro pins s σ H x y v u Q I rx ry ⟨F, a, b, d, sub, pa, pb, hg, q⟩
  cases a <;> cases b <;> first | (cases hg; done) | skip
  case int.int i j =>
    obtain rfl := pa.int
    obtain rfl := pb.int
    simp only [dPow] at hg
    split at hg
    case isFalse => cases hg
    case isTrue h =>
      cases hg
      exact op_pow pins s σ H _ _ v u Q I rx ry ⟨i, j, rfl, rfl, h, q _ F H (.same sub (.int _) rfl)⟩

/-! ### comparisons -/
def dEq (a b : D) : Option D := if SeqAt.shaped a.pd && SeqAt.shaped b.pd then some (.bl (PyData.eqv a.pd b.pd)) else none
def dNe (a b : D) : Option D := if SeqAt.shaped a.pd && SeqAt.shaped b.pd then some (.bl (!PyData.eqv a.pd b.pd)) else none
def ordOk (a b : D) : Bool := PySem.W.alike a.pd b.pd && SeqAt.shaped a.pd && SeqAt.shaped b.pd && (match a with | .non => false | _ => true)
def dLt : D → D → Option D
  | .int i, .int j => some (.bl (decide (i < j)))
  | a, b => if ordOk a b then some (.bl (PySem.W.dataLt a.pd b.pd)) else none
def dGt : D → D → Option D
  | .int i, .int j => some (.bl (decide (j < i)))
  | a, b => if ordOk a b then some (.bl (PySem.W.dataLt b.pd a.pd)) else none
def dLe : D → D → Option D
  | .int i, .int j => some (.bl (decide (i ≤ j)))
  | a, b => if ordOk a b then some (.bl (!PySem.W.dataLt b.pd a.pd)) else none
def dGe : D → D → Option D
  | .int i, .int j => some (.bl (decide (j ≤ i)))
  | a, b => if ordOk a b then some (.bl (!PySem.W.dataLt a.pd b.pd)) else none
theorem g_eq (hu : X.A.units + 100 < cLine) : OpR X (compareOp .Eq) (rG X dEq) := by
  intro pins s σ H x y v u Q I rx ry ⟨F, a, b, d, sub, pa, pb, hg, q⟩
  unfold dEq at hg
  split at hg
  case isFalse => cases hg
  case isTrue h =>
    cases hg
    rw [Bool.and_eq_true] at h
    exact op_eqD (by omega) pins s σ H _ _ v u Q I rx ry ⟨_, _, pa.dp sub (SeqAt.canLay_of_shaped h.1), pb.dp sub (SeqAt.canLay_of_shaped h.2), h.1, h.2, q _ F H (.same sub (.bl _) rfl)⟩
theorem g_ne (hu : X.A.units + 100 < cLine) : OpR X (compareOp .NotEq) (rG X dNe) := by
  intro pins s σ H x y v u Q I rx ry ⟨F, a, b, d, sub, pa, pb, hg, q⟩
  unfold dNe at hg
  split at hg
  case isFalse => cases hg
  case isTrue h =>
    cases hg
    rw [Bool.and_eq_true] at h
    exact op_neD (by omega) pins s σ H _ _ v u Q I rx ry ⟨_, _, pa.dp sub (SeqAt.canLay_of_shaped h.1), pb.dp sub (SeqAt.canLay_of_shaped h.2), h.1, h.2, q _ F H (.same sub (.bl _) rfl)⟩
/-- what an ordering asks of the library -/
theorem ord_in {F H : Hp} {pins : List (Addr × Obj)} {s : Shared} {σ : St} {x y : V} {v u : Value} {a b : D} (hu : X.A.units + 100 < cLine) (I : Inv X pins σ H s) (rx : RelV x v) (ry : RelV y u) (sub : Sub F H) (pa : Pk X.w X.K F H x a) (pb : Pk X.w X.K F H y b) (h : ordOk a b = true) :
    ∃ as bs, PySem.Reads s.heap v a.pd as ∧ PySem.Reads s.heap u b.pd bs ∧ PySem.W.alike a.pd b.pd = true ∧ a.pd ≠ .none ∧ X.A.units + min a.pd.depth b.pd.depth < cLine := by
  unfold ordOk at h
  simp only [Bool.and_eq_true] at h
  obtain ⟨⟨⟨h1, h2⟩, h3⟩, h4⟩ := h
  obtain ⟨as, r1⟩ := Dp.reads I _ _ _ (pa.dp sub (SeqAt.canLay_of_shaped h2)) rx
  obtain ⟨bs, r2⟩ := Dp.reads I _ _ _ (pb.dp sub (SeqAt.canLay_of_shaped h3)) ry
  refine ⟨as, bs, r1, r2, h1, fun z => ?_, ?_⟩
  · cases a <;> first | (cases z; done) | (cases h4; done)
  · exact SeqAt.room_of_shaped h2 (by omega)
theorem g_lt (hu : X.A.units + 100 < cLine) : OpR X (compareOp .Lt) (rG X dLt) := by
  intro pins s σ H x y v u Q I rx ry ⟨F, a, b, d, sub, pa, pb, hg, q⟩
  unfold dLt at hg
  split at hg
  · cases hg
    obtain rfl := pa.int
    obtain rfl := pb.int
    exact op_lt pins s σ H _ _ v u Q I rx ry ⟨_, _, rfl, rfl, q _ F H (.same sub (.bl _) rfl)⟩
  · split at hg
    case isFalse => cases hg
    case isTrue h =>
      cases hg
      obtain ⟨as, bs, r1, r2, h1, h2, h3⟩ := ord_in hu I rx ry sub pa pb h
      exact PySem.W.lt_data r1 r2 h1 h2 h3 ⟨.bl _, H, I, rfl, q _ F H (.same sub (.bl _) rfl)⟩
theorem g_gt (hu : X.A.units + 100 < cLine) : OpR X (compareOp .Gt) (rG X dGt) := by
  intro pins s σ H x y v u Q I rx ry ⟨F, a, b, d, sub, pa, pb, hg, q⟩
  unfold dGt at hg
  split at hg
  · cases hg
    obtain rfl := pa.int
    obtain rfl := pb.int
    exact op_gt pins s σ H _ _ v u Q I rx ry ⟨_, _, rfl, rfl, q _ F H (.same sub (.bl _) rfl)⟩
  · split at hg
    case isFalse => cases hg
    case isTrue h =>
      cases hg
      obtain ⟨as, bs, r1, r2, h1, h2, h3⟩ := ord_in hu I rx ry sub pa pb h
      exact PySem.W.gt_data r1 r2 h1 h2 h3 ⟨.bl _, H, I, rfl, q _ F H (.same sub (.bl _) rfl)⟩
theorem g_le (hu : X.A.units + 100 < cLine) : OpR X (compareOp .LtE) (rG X dLe) := by
  intro pins s σ H x y v u Q I rx ry ⟨F, a, b, d, sub, pa, pb, hg, q⟩
  unfold dLe at hg
  split at hg
  · cases hg
    obtain rfl := pa.int
    obtain rfl := pb.int
    exact op_le pins s σ H _ _ v u Q I rx ry ⟨_, _, rfl, rfl, q _ F H (.same sub (.bl _) rfl)⟩
  · split at hg
    case isFalse => cases hg
    case isTrue h =>
      cases hg
      obtain ⟨as, bs, r1, r2, h1, h2, h3⟩ := ord_in hu I rx ry sub pa pb h
      exact PySem.W.le_data r1 r2 h1 h2 h3 ⟨.bl _, H, I, rfl, q _ F H (.same sub (.bl _) rfl)⟩
theorem g_ge (hu : X.A.units + 100 < cLine) : OpR X (compareOp .GtE) (rG X dGe) := by
  intro pins s σ H x y v u Q I rx ry ⟨F, a, b, d, sub, pa, pb, hg, q⟩
  unfold dGe at hg
  split at hg
  · cases hg
    obtain rfl := pa.int
    obtain rfl := pb.int
    exact op_ge pins s σ H _ _ v u Q I rx ry ⟨_, _, rfl, rfl, q _ F H (.same sub (.bl _) rfl)⟩
  · split at hg
    case isFalse => cases hg
    case isTrue h =>
      cases hg
      obtain ⟨as, bs, r1, r2, h1, h2, h3⟩ := ord_in hu I rx ry sub pa pb h
      exact PySem.W.ge_data r1 r2 h1 h2 h3 ⟨.bl _, H, I, rfl, q _ F H (.same sub (.bl _) rfl)⟩

/-! ### is None, is True -/
def D.isNon : D → Bool
  | .non => true
  | _ => false
def isSame (a b : D) : Option Bool := match b with
  | .non => some a.isNon
  | .bl c => match a with
    | .bl k => some (decide (k = c))
    | .non => some false
    | _ => none
  | _ => none
def dIs (a b : D) : Option D := (isSame a b).map .bl
def dNis (a b : D) : Option D := (isSame a b).map fun c => .bl (!c)
theorem Pk.noneV {w : World} {K : PySem.W.Frag} {F H : Hp} {v : V} {d : D} (h : Pk w K F H v d) : decide (v = .non) = d.isNon := by
  rcases h with h | ⟨a, rfl, n, o⟩
  · cases h <;> simp [D.isNon]
  · cases d <;> first | exact o.elim | simp [D.isNon]
theorem g_is : OpR X (compareOp .Is) (rG X dIs) := by
  intro pins s σ H x y v u Q I rx ry ⟨F, a, b, d, sub, pa, pb, hg, q⟩
  unfold dIs isSame at hg
  cases b <;> first | (cases hg; done) | skip
  case non =>
    obtain rfl := pb.non
    cases hg
    exact op_isN pins s σ H _ _ v u Q I rx ry ⟨rfl, by rw [pa.noneV]; exact q _ F H (.same sub (.bl _) rfl)⟩
  case bl c =>
    obtain rfl := pb.bl
    cases a <;> first | (cases hg; done) | skip
    case bl k =>
      obtain rfl := pa.bl
      cases hg
      exact op_isBl pins s σ H _ _ v u Q I rx ry ⟨k, c, rfl, rfl, q _ F H (.same sub (.bl _) rfl)⟩
    case non =>
      obtain rfl := pa.non
      cases hg
      cases (show v = Value.none from rx)
      cases (show u = Value.bool c from ry)
      exact wpAny_is_other rfl (fun z => nomatch z) ⟨.bl false, H, I, rfl, q _ F H (.same sub (.bl _) rfl)⟩
theorem g_nis : OpR X (compareOp .IsNot) (rG X dNis) := by
  intro pins s σ H x y v u Q I rx ry ⟨F, a, b, d, sub, pa, pb, hg, q⟩
  unfold dNis isSame at hg
  cases b <;> first | (cases hg; done) | skip
  case non =>
    obtain rfl := pb.non
    cases hg
    exact op_notN pins s σ H _ _ v u Q I rx ry ⟨rfl, by rw [pa.noneV]; exact q _ F H (.same sub (.bl _) rfl)⟩
  case bl c =>
    obtain rfl := pb.bl
    cases a <;> first | (cases hg; done) | skip
    case bl k =>
      obtain rfl := pa.bl
      cases hg
      exact op_notBl pins s σ H _ _ v u Q I rx ry ⟨k, c, rfl, rfl, q _ F H (.same sub (.bl _) rfl)⟩
    case non =>
      obtain rfl := pa.non
      cases hg
      cases (show v = Value.none from rx)
      cases (show u = Value.bool c from ry)
      exact wpAny_isNot_other rfl (fun z => nomatch z) ⟨.bl true, H, I, rfl, q _ F H (.same sub (.bl _) rfl)⟩
end
end MP

set_option Elab.async false
set_option linter.all false
set_option maxRecDepth 100000
set_option autoImplicit false
namespace MP
open PySem L2

/-! ### dicts, by data -/
def dget (kvs : List (D × D)) (k : D) : Option D := (kvs.find? fun p => decide (p.1 = k)).map (·.2)
def dput (kvs : List (D × D)) (k d : D) : List (D × D) := if kvs.any (fun p => decide (p.1 = k)) then kvs.map (fun p => if p.1 = k then (p.1, d) else p) else kvs ++ [(k, d)]
mutual
theorem nk_inj : ∀ (a b : D) (z : NestedKey), a.nk = some z → b.nk = some z → a = b
  | .non, b, z, h1, h2 => by cases h1; cases b <;> simp [D.nk] at h2 <;> rfl
  | .int i, b, z, h1, h2 => by cases h1; cases b <;> simp [D.nk] at h2 <;> simp [h2]
  | .str x, b, z, h1, h2 => by cases h1; cases b <;> simp [D.nk] at h2 <;> simp [h2]
  | .tup xs, b, z, h1, h2 => by
    cases q : D.nks xs with
    | none => rw [D.nk, q] at h1; cases h1
    | some zs =>
      rw [D.nk, q] at h1
      cases h1
      cases b with
      | tup ys =>
        cases r : D.nks ys with
        | none => rw [D.nk, r] at h2; cases h2
        | some ws =>
          rw [D.nk, r] at h2
          cases h2
          rw [nks_inj xs ys zs q r]
      | non => cases h2
      | bl _ => cases h2
      | int _ => cases h2
      | str _ => cases h2
      | lst _ => cases h2
      | dct _ _ => cases h2
      | set _ => cases h2
      | scr _ => cases h2
      | tpx _ => cases h2
  | .bl _, _, _, h1, _ => nomatch h1
  | .lst _, _, _, h1, _ => nomatch h1
  | .dct _ _, _, _, h1, _ => nomatch h1
  | .set _, _, _, h1, _ => nomatch h1
  | .scr _, _, _, h1, _ => nomatch h1
  | .tpx _, _, _, h1, _ => nomatch h1
theorem nks_inj : ∀ (a b : List D) (z : List NestedKey), D.nks a = some z → D.nks b = some z → a = b
  | [], b, z, h1, h2 => by
    cases h1
    cases b with
    | nil => rfl
    | cons y ys =>
      rw [D.nks] at h2
      split at h2 <;> cases h2
  | x :: xs, b, z, h1, h2 => by
    rw [D.nks] at h1
    split at h1
    case h_2 => cases h1
    case h_1 p ps e1 e2 =>
      cases h1
      cases b with
      | nil => cases h2
      | cons y ys =>
        rw [D.nks] at h2
        split at h2
        case h_2 => cases h2
        case h_1 q qs e3 e4 =>
          cases h2
          rw [nk_inj x y p e1 e3, nks_inj xs ys ps e2 e4]
end
theorem keyOk_nk {t : Bool} {k : D} (h : k.keyOk t = true) : ∃ z, k.nk = some z ∧ z.depth ≤ 8 ∧ (if t then k.isTup else k.isSc) = true := by
  unfold D.keyOk at h
  cases q : k.nk with
  | none => rw [q] at h; cases h
  | some z =>
    rw [q] at h
    rw [Bool.and_eq_true] at h
    exact ⟨z, rfl, of_decide_eq_true h.1, h.2⟩

section
variable (w : World) (K : PySem.W.Frag) (F : Hp)
inductive KX : List (D × D) → List (NestedKey × Addr × Value) → Prop
  | nil : KX [] []
  | cons {k d : D} {z : NestedKey} {a : Addr} {vv : V} {u : Value} {kvs : List (D × D)} {xs : List (NestedKey × Addr × Value)} : k.nk = some z → k.keyOk true = true → Rep w K F (.ref a) k → RelV vv u → Rep w K F vv d → KX kvs xs → KX ((k, d) :: kvs) ((z, a, u) :: xs)
def sk : Key → D
  | .inl i => .int i
  | .inr x => .str x
inductive KS : List (D × D) → List (Key × Value) → Prop
  | nil : KS [] []
  | cons {k : Key} {d : D} {vv : V} {u : Value} {kvs : List (D × D)} {xs : List (Key × Value)} : RelV vv u → Rep w K F vv d → KS kvs xs → KS ((sk k, d) :: kvs) ((k, u) :: xs)
end
theorem sk_inj : ∀ {a b : Key}, sk a = sk b → a = b
  | .inl _, .inl _, h => by cases h; rfl
  | .inr _, .inr _, h => by cases h; rfl
  | .inl _, .inr _, h => nomatch h
  | .inr _, .inl _, h => nomatch h
section
variable {P : Program} {w : World} {K : PySem.W.Frag} {F H : Hp}
theorem Rep.refTup {v : V} {k : D} (h : Rep w K F v k) (t : k.isTup = true) : ∃ a, v = .ref a := by
  cases h <;> first | (cases t; done) | exact ⟨_, rfl⟩
theorem RepE.kx : ∀ {es : List DictEntry} {kvs : List (D × D)}, RepE w K F true es kvs → ∃ xs, es = xs.map (entryOfKey (nestedKind P w)) ∧ KX w K F kvs xs
  | _, _, .nil => ⟨[], rfl, .nil⟩
  | _, _, .cons (e := e) r1 r2 r3 r4 h1 h2 h3 t => by
    obtain ⟨xs, e1, e2⟩ := RepE.kx t
    obtain ⟨z', hz, _, ht⟩ := keyOk_nk h2
    obtain ⟨a, rfl⟩ := Rep.refTup r2 ht
    refine ⟨(_, a, e.val) :: xs, ?_, .cons h1 h2 r2 r3 r4 e2⟩
    rw [List.map_cons, ← e1]
    congr 1
    cases e with
    | mk eh ek ev =>
      cases (show ek = Value.ref a from r1)
      show DictEntry.mk eh (.ref a) ev = DictEntry.mk _ (.ref a) ev
      congr 1
theorem KX.back : ∀ {kvs : List (D × D)} {xs : List (NestedKey × Addr × Value)}, KX w K F kvs xs → RepE w K F true (xs.map (entryOfKey (nestedKind P w))) kvs
  | _, _, .nil => .nil
  | _, _, .cons (a := a) h1 h2 h3 h4 h5 t => .cons (kv := .ref a) rfl h3 h4 h5 h1 h2 rfl (KX.back t)
theorem KX.mono {G : Hp} (s : Sub F G) : ∀ {kvs : List (D × D)} {xs : List (NestedKey × Addr × Value)}, KX w K F kvs xs → KX w K G kvs xs
  | _, _, .nil => .nil
  | _, _, .cons h1 h2 h3 h4 h5 t => .cons h1 h2 (h3.mono s) h4 (h5.mono s) (KX.mono s t)
theorem KX.keys : ∀ {kvs : List (D × D)} {xs : List (NestedKey × Addr × Value)}, KX w K F kvs xs → (kvs.map (·.1)).Nodup → (xs.map (·.1)).Nodup
  | _, _, .nil, _ => List.nodup_nil
  | _, _, .cons (k := k) (z := z) (kvs := kvs) (xs := xs) h1 h2 h3 h4 h5 t, n => by
    rw [List.map_cons, List.nodup_cons] at n ⊢
    refine ⟨fun m => n.1 ?_, KX.keys t n.2⟩
    have go : ∀ {kvs : List (D × D)} {xs : List (NestedKey × Addr × Value)}, KX w K F kvs xs → z ∈ xs.map (·.1) → k ∈ kvs.map (·.1) := by
      intro kvs xs q
      induction q with
      | nil => intro m; exact absurd m (by simp)
      | cons g1 g2 g3 g4 g5 _ ih =>
        intro m
        rw [List.map_cons, List.mem_cons] at m ⊢
        rcases m with m | m
        · subst m
          exact .inl (nk_inj _ _ _ h1 g1)
        · exact .inr (ih m)
    exact go t m
theorem KX.length : ∀ {kvs : List (D × D)} {xs : List (NestedKey × Addr × Value)}, KX w K F kvs xs → xs.length = kvs.length
  | _, _, .nil => rfl
  | _, _, .cons _ _ _ _ _ t => by simp [KX.length t]
/-- the key that the object of a tuple is -/
theorem HOk.tupAt {h : Heap} (ok : HOk P w H h) {a : Addr} {vs : List V} (e : TupAt H a vs) : ∃ its : List Value, Vals vs its ∧ ∃ o, h.get? a = some o ∧ o.cls = .type "tuple" ∧ ∃ n, o.data = .seq its.toArray n := by
  rcases e with e | ⟨o', e⟩
  · obtain ⟨z, its, r, o, h1, h2, n, h3⟩ := ok a _ e
    exact ⟨its, r, o, h1, h2, n, h3⟩
  · obtain ⟨_, z, its, r, o, h1, h2, n, h3⟩ := ok a _ e
    exact ⟨its, r, o, h1, h2, n, h3⟩
mutual
theorem Rep.key {h : Heap} (ok : HOk P w H h) (s : Sub F H) : ∀ {v : V} {d : D} {u : Value} {z : NestedKey}, Rep w K F v d → RelV v u → d.nk = some z → NestedIs h z u
  | _, _, u, z, .non, r, e => by cases e; cases (show u = Value.none from r); exact .none
  | _, _, _, _, .bl b, _, e => nomatch e
  | _, _, _, _, .int i, r, e => by cases e; obtain ⟨t, rfl⟩ := r; exact .int i t
  | _, _, _, _, .str x, r, e => by cases e; obtain ⟨t, rfl⟩ := r; exact .text x t
  | _, _, u, z, .tup (ds := ds) hf zl l, r, e => by
    cases (show u = Value.ref _ from r)
    obtain ⟨its, rv, o, h1, h2, n, h3⟩ := HOk.tupAt ok (hf.mono s)
    cases q : D.nks ds with
    | none => rw [D.nk, q] at e; cases e
    | some zs =>
      rw [D.nk, q] at e
      cases e
      exact .tup h1 h2 h3 (RepL.keys ok s l rv q)
  | _, _, _, _, .lst _ _ _, _, e => nomatch e
  | _, _, _, _, .scr _ _ _, _, e => nomatch e
  | _, _, _, _, .tpx _ _ _ _, _, e => nomatch e
  | _, _, _, _, .dct _ _ _ _ _ _ _, _, e => nomatch e
theorem RepL.keys {h : Heap} (ok : HOk P w H h) (s : Sub F H) : ∀ {vs : List V} {ds : List D} {us : List Value} {zs : List NestedKey}, RepL w K F vs ds → Vals vs us → D.nks ds = some zs → NestedAll h zs us
  | _, _, _, _, .nil, r, e => by cases e; cases r; exact .nil
  | _, _, _, _, .cons (d := d) (ds := ds) a t, r, e => by
    cases r with
    | cons r1 r2 =>
      rw [D.nks] at e
      split at e
      case h_2 => cases e
      case h_1 p ps e1 e2 =>
        cases e
        exact .cons (Rep.key ok s a r1 e1) (RepL.keys ok s t r2 e2)
end
theorem KX.is {h : Heap} (ok : HOk P w H h) (s : Sub F H) : ∀ {kvs : List (D × D)} {xs : List (NestedKey × Addr × Value)}, KX w K F kvs xs → ∀ x ∈ xs, (nestedKind P w).is h x.1 x.2.1
  | _, _, .nil, x, m => absurd m (by simp)
  | _, _, .cons (a := a) h1 h2 h3 h4 h5 t, x, m => by
    rcases List.mem_cons.mp m with rfl | m
    · obtain ⟨z', hz, hd, _⟩ := keyOk_nk h2
      rw [h1] at hz
      cases hz
      exact ⟨Rep.key ok s h3 rfl h1, hd⟩
    · exact KX.is ok s t x m
theorem KX.get {k : D} {z : NestedKey} (hz : k.nk = some z) : ∀ {kvs : List (D × D)} {xs : List (NestedKey × Addr × Value)}, KX w K F kvs xs →
    (dget kvs k = none ∧ atKey xs z = none) ∨ ∃ d p vv, dget kvs k = some d ∧ atKey xs z = some p ∧ RelV vv p.2 ∧ Rep w K F vv d
  | _, _, .nil => .inl ⟨rfl, rfl⟩
  | _, _, .cons (k := k') (d := d) (z := z') (a := a) (vv := vv) (u := u) (kvs := kvs) (xs := xs) h1 h2 h3 h4 h5 t => by
    by_cases e : k' = k
    · subst e
      rw [hz] at h1
      cases h1
      refine .inr ⟨d, (a, u), vv, ?_, ?_, h4, h5⟩
      · unfold dget
        rw [List.find?_cons, decide_eq_true rfl]
        rfl
      · unfold atKey
        rw [List.find?_cons, decide_eq_true rfl]
        rfl
    · have ne : ¬ z' = z := fun q => by
        subst q
        exact e (nk_inj _ _ _ h1 hz)
      have e1 : dget ((k', d) :: kvs) k = dget kvs k := by
        unfold dget
        rw [List.find?_cons, decide_eq_false e]
      have e2 : atKey ((z', a, u) :: xs) z = atKey xs z := by
        unfold atKey
        rw [List.find?_cons, decide_eq_false ne]
      rw [e1, e2]
      exact KX.get hz t
theorem any_dget (kvs : List (D × D)) (k : D) : kvs.any (fun p => decide (p.1 = k)) = (dget kvs k).isSome := by
  unfold dget
  rw [Option.isSome_map]
  induction kvs with
  | nil => rfl
  | cons x r ih =>
    rw [List.any_cons, List.find?_cons]
    cases decide (x.1 = k) with
    | true => rfl
    | false => exact ih
theorem KX.put {k d : D} {z : NestedKey} {a : Addr} {vv : V} {u : Value} (hz : k.nk = some z) (ho : k.keyOk true = true) (hk : Rep w K F (.ref a) k) (rv : RelV vv u) (hd : Rep w K F vv d) {kvs : List (D × D)} {xs : List (NestedKey × Addr × Value)} (h : KX w K F kvs xs) :
    KX w K F (dput kvs k d) (storedH xs z a u) := by
  have mapped : ∀ {kvs : List (D × D)} {xs : List (NestedKey × Addr × Value)}, KX w K F kvs xs → KX w K F (kvs.map fun p => if p.1 = k then (p.1, d) else p) (xs.map (putAt z u)) := by
    intro kvs xs q
    induction q with
    | nil => exact .nil
    | @cons k' d' z' a' vv' u' kvs xs g1 g2 g3 g4 g5 _ ih =>
      rw [List.map_cons, List.map_cons]
      by_cases e : k' = k
      · subst e
        have ez : z' = z := by
          rw [hz] at g1
          exact (Option.some.inj g1).symm
        have e1 : (if (k', d').1 = k' then ((k', d').1, d) else (k', d')) = (k', d) := if_pos rfl
        have e2 : putAt z u (z', a', u') = (z', a', u) := by unfold putAt; exact if_pos ez
        rw [e1, e2]
        exact .cons g1 g2 g3 rv hd ih
      · have ne : ¬ z' = z := fun q => by
          subst q
          exact e (nk_inj _ _ _ g1 hz)
        have e1 : (if (k', d').1 = k then ((k', d').1, d) else (k', d')) = (k', d') := if_neg e
        have e2 : putAt z u (z', a', u') = (z', a', u') := by unfold putAt; exact if_neg ne
        rw [e1, e2]
        exact .cons g1 g2 g3 g4 g5 ih
  have snoc : ∀ {kvs : List (D × D)} {xs : List (NestedKey × Addr × Value)}, KX w K F kvs xs → KX w K F (kvs ++ [(k, d)]) (xs ++ [(z, a, u)]) := by
    intro kvs xs q
    induction q with
    | nil => exact .cons hz ho hk rv hd .nil
    | cons g1 g2 g3 g4 g5 _ ih => exact .cons g1 g2 g3 g4 g5 ih
  unfold dput storedH
  rw [any_dget]
  rcases KX.get hz h with ⟨e1, e2⟩ | ⟨d', p, vv', e1, e2, _⟩
  · rw [e1, e2]
    exact snoc h
  · rw [e1, e2]
    exact mapped h

/-! ### int and text keys -/
theorem isSc_sk {k : D} (h : k.isSc = true) : ∃ key, k = sk key := by
  cases k with
  | int i => exact ⟨.inl i, rfl⟩
  | str x => exact ⟨.inr x, rfl⟩
  | _ => cases h
theorem rep_sk {v : V} {key : Key} (h : Rep w K F v (sk key)) : v = kV key := by
  cases key with
  | inl i => cases h; rfl
  | inr x => cases h; rfl
theorem nk_sk (key : Key) : (sk key).nk = some (match key with | .inl i => NestedKey.num i | .inr x => NestedKey.text x) := by cases key <;> rfl
theorem hash_sk (key : Key) : NestedKey.hash w (match key with | .inl i => NestedKey.num i | .inr x => NestedKey.text x) = keyH w key := by cases key <;> rfl
theorem keyOk_sk (key : Key) : (sk key).keyOk false = true := by cases key <;> rfl
theorem RepE.ks : ∀ {es : List DictEntry} {kvs : List (D × D)}, RepE w K F false es kvs → ∃ xs, (∀ e ∈ es, ∃ k, (mixKind P w).is k e.key = true ∧ e.hash = (mixKind P w).hash k) ∧ Pairs (mixKind P w) es xs ∧ KS w K F kvs xs
  | _, _, .nil => ⟨[], fun _ m => absurd m (by simp), .nil, .nil⟩
  | _, _, .cons (e := e) (z := z) r1 r2 r3 r4 h1 h2 h3 t => by
    obtain ⟨xs, q1, q2, q3⟩ := RepE.ks t
    obtain ⟨z', hz, _, hs⟩ := keyOk_nk h2
    obtain ⟨key, rfl⟩ := isSc_sk hs
    have ev := rep_sk r2
    subst ev
    have hi : (mixKind P w).is key e.key = true := kV_is r1
    have hh : e.hash = (mixKind P w).hash key := by
      rw [h3]
      rw [nk_sk] at h1
      cases h1
      exact hash_sk key
    refine ⟨(key, e.val) :: xs, fun e' m => ?_, .cons hi rfl q2, .cons r3 r4 q3⟩
    rcases List.mem_cons.mp m with rfl | m
    · exact ⟨key, hi, hh⟩
    · exact q1 e' m
theorem relV_of_is {key : Key} {u : Value} (h : (mixKind P w).is key u = true) : RelV (kV key) u := by
  rcases keyIs_shape (show keyIs key u = true from h) with ⟨i, t, rfl, rfl⟩ | ⟨x, t, rfl, rfl⟩
  · exact ⟨t, rfl⟩
  · exact ⟨t, rfl⟩
theorem rep_kV (key : Key) : Rep w K F (kV key) (sk key) := by
  cases key with
  | inl i => exact .int i
  | inr x => exact .str x
theorem KS.back {kvs : List (D × D)} {xs : List (Key × Value)} (h : KS w K F kvs xs) : ∀ {es : List DictEntry}, (∀ e ∈ es, ∃ k, (mixKind P w).is k e.key = true ∧ e.hash = (mixKind P w).hash k) → Pairs (mixKind P w) es xs → RepE w K F false es kvs := by
  induction h with
  | nil =>
    intro es _ p
    cases p
    exact .nil
  | @cons key d vv u kvs xs r1 r2 t ih =>
    intro es q p
    cases p with
    | @cons e _ es _ p1 p2 pt =>
      obtain ⟨k', i1, i2⟩ := q e (by simp)
      have ek : k' = key := (mixKind P w).inj _ _ _ i1 p1
      subst ek
      refine .cons (kv := kV k') (relV_of_is p1) (rep_kV k') (vv := vv) (by rw [p2]; exact r1) r2 (nk_sk k') (keyOk_sk k') ?_ (ih (fun e' m => q e' (List.mem_cons_of_mem _ m)) pt)
      rw [i2]
      exact (hash_sk k').symm
theorem KS.keys : ∀ {kvs : List (D × D)} {xs : List (Key × Value)}, KS w K F kvs xs → (kvs.map (·.1)).Nodup → (xs.map (·.1)).Nodup
  | _, _, .nil, _ => List.nodup_nil
  | _, _, .cons (k := k) h1 h2 t, n => by
    rw [List.map_cons, List.nodup_cons] at n ⊢
    refine ⟨fun m => n.1 ?_, KS.keys t n.2⟩
    have go : ∀ {kvs : List (D × D)} {xs : List (Key × Value)}, KS w K F kvs xs → k ∈ xs.map (·.1) → sk k ∈ kvs.map (·.1) := by
      intro kvs xs q
      induction q with
      | nil => intro m; exact absurd m (by simp)
      | cons g1 g2 _ ih =>
        intro m
        rw [List.map_cons, List.mem_cons] at m ⊢
        rcases m with m | m
        · subst m
          exact .inl rfl
        · exact .inr (ih m)
    exact go t m
theorem KS.length : ∀ {kvs : List (D × D)} {xs : List (Key × Value)}, KS w K F kvs xs → xs.length = kvs.length
  | _, _, .nil => rfl
  | _, _, .cons _ _ t => by simp [KS.length t]
theorem KS.get {key : Key} : ∀ {kvs : List (D × D)} {xs : List (Key × Value)}, KS w K F kvs xs →
    (dget kvs (sk key) = none ∧ valueAt xs key = none) ∨ ∃ d u vv, dget kvs (sk key) = some d ∧ valueAt xs key = some u ∧ RelV vv u ∧ Rep w K F vv d
  | _, _, .nil => .inl ⟨rfl, rfl⟩
  | _, _, .cons (k := k') (d := d) (vv := vv) (u := u) (kvs := kvs) (xs := xs) h4 h5 t => by
    by_cases e : k' = key
    · subst e
      refine .inr ⟨d, u, vv, ?_, ?_, h4, h5⟩
      · unfold dget
        rw [List.find?_cons, decide_eq_true rfl]
        rfl
      · unfold valueAt
        rw [List.find?_cons, decide_eq_true rfl]
        rfl
    · have ne : ¬ sk k' = sk key := fun q => e (sk_inj q)
      have e1 : dget ((sk k', d) :: kvs) (sk key) = dget kvs (sk key) := by
        unfold dget
        rw [List.find?_cons, decide_eq_false ne]
      have e2 : valueAt ((k', u) :: xs) key = valueAt xs key := by
        unfold valueAt
        rw [List.find?_cons, decide_eq_false e]
      rw [e1, e2]
      exact KS.get t
theorem any_valueAt (xs : List (Key × Value)) (k : Key) : xs.any (fun p => decide (p.1 = k)) = (valueAt xs k).isSome := by
  unfold valueAt
  rw [Option.isSome_map]
  induction xs with
  | nil => rfl
  | cons x r ih =>
    rw [List.any_cons, List.find?_cons]
    cases decide (x.1 = k) with
    | true => rfl
    | false => exact ih
theorem KS.put {key : Key} {d : D} {vv : V} {u : Value} (rv : RelV vv u) (hd : Rep w K F vv d) {kvs : List (D × D)} {xs : List (Key × Value)} (h : KS w K F kvs xs) : KS w K F (dput kvs (sk key) d) (stored xs key u) := by
  have mapped : ∀ {kvs : List (D × D)} {xs : List (Key × Value)}, KS w K F kvs xs → KS w K F (kvs.map fun p => if p.1 = sk key then (p.1, d) else p) (xs.map fun kv => if kv.1 = key then (kv.1, u) else kv) := by
    intro kvs xs q
    induction q with
    | nil => exact .nil
    | @cons k' d' vv' u' kvs xs g4 g5 _ ih =>
      rw [List.map_cons, List.map_cons]
      by_cases e : k' = key
      · subst e
        have e1 : (if (sk k', d').1 = sk k' then ((sk k', d').1, d) else (sk k', d')) = (sk k', d) := if_pos rfl
        have e2 : (if (k', u').1 = k' then ((k', u').1, u) else (k', u')) = (k', u) := if_pos rfl
        rw [e1, e2]
        exact .cons rv hd ih
      · have ne : ¬ sk k' = sk key := fun q => e (sk_inj q)
        have e1 : (if (sk k', d').1 = sk key then ((sk k', d').1, d) else (sk k', d')) = (sk k', d') := if_neg ne
        have e2 : (if (k', u').1 = key then ((k', u').1, u) else (k', u')) = (k', u') := if_neg e
        rw [e1, e2]
        exact .cons g4 g5 ih
  have snoc : ∀ {kvs : List (D × D)} {xs : List (Key × Value)}, KS w K F kvs xs → KS w K F (kvs ++ [(sk key, d)]) (xs ++ [(key, u)]) := by
    intro kvs xs q
    induction q with
    | nil => exact .cons rv hd .nil
    | cons g4 g5 _ ih => exact .cons g4 g5 ih
  unfold dput stored
  rw [any_dget, any_valueAt]
  rcases KS.get (key := key) h with ⟨e1, e2⟩ | ⟨d', u', vv', e1, e2, _⟩
  · rw [e1, e2]
    exact snoc h
  · rw [e1, e2]
    exact mapped h
theorem dput_keys (kvs : List (D × D)) (k d : D) : (dput kvs k d).map (·.1) = if (dget kvs k).isSome then kvs.map (·.1) else kvs.map (·.1) ++ [k] := by
  unfold dput
  rw [any_dget]
  by_cases h : (dget kvs k).isSome = true
  · rw [if_pos h, if_pos h, List.map_map]
    congr 1
    funext p
    show (if p.1 = k then (p.1, d) else p).1 = p.1
    split <;> rfl
  · rw [if_neg h, if_neg h]
    simp
theorem dget_none {kvs : List (D × D)} {k : D} (h : dget kvs k = none) : k ∉ kvs.map (·.1) := by
  unfold dget at h
  rw [Option.map_eq_none_iff, List.find?_eq_none] at h
  intro m
  obtain ⟨p, hp, e⟩ := List.mem_map.mp m
  exact h p hp (decide_eq_true e)
theorem dput_nodup {kvs : List (D × D)} (n : (kvs.map (·.1)).Nodup) (k d : D) : ((dput kvs k d).map (·.1)).Nodup := by
  rw [dput_keys]
  cases q : dget kvs k with
  | some x => exact n
  | none =>
    rw [Option.isSome_none, if_neg Bool.false_ne_true]
    exact List.nodup_append.mpr ⟨n, by simp, fun a ha b hb => by
      rw [List.mem_singleton] at hb
      subst hb
      intro e
      subst e
      exact dget_none q ha⟩
theorem dput_length (kvs : List (D × D)) (k d : D) : (dput kvs k d).length ≤ kvs.length + 1 := by
  have := congrArg List.length (dput_keys kvs k d)
  rw [List.length_map] at this
  rw [this]
  split <;> simp
end

section
variable {X : Cx} {pins : List (Addr × Obj)} {σ : St} {F H : Hp} {s : Shared}
theorem exact_get (I : Inv X pins σ H s) {a : Addr} {o : Obj} (e : H a = some (exactHO a o)) : s.heap.get? a = some o := (I.hok a _ e).1
/-- the dict, as the library has it -/
theorem dct_heap (I : Inv X pins σ H s) (sub : Sub F H) {a : Addr} {o : Obj} {es : Array DictEntry} {ep : Nat} {kvs : List (D × D)} (e : H a = some (exactHO a o)) (x : o.ExactDict) (hd : o.data = .dict es ep) (n : (kvs.map (·.1)).Nodup) (r : RepE X.w X.K F true es.toList kvs) :
    ∃ xs, s.heap.DictOfH (nestedKind X.prog X.w) a xs ∧ KX X.w X.K F kvs xs := by
  obtain ⟨xs, e1, k⟩ := RepE.kx (P := X.prog) r
  exact ⟨xs, ⟨o, es, ep, exact_get I e, x, hd, e1, k.is I.hok sub, k.keys n⟩, k⟩
theorem dcs_heap (I : Inv X pins σ H s) {a : Addr} {o : Obj} {es : Array DictEntry} {ep : Nat} {kvs : List (D × D)} (e : H a = some (exactHO a o)) (x : o.ExactDict) (hd : o.data = .dict es ep) (n : (kvs.map (·.1)).Nodup) (r : RepE X.w X.K F false es.toList kvs) :
    ∃ xs, s.heap.DictOf (mixKind X.prog X.w) a xs ∧ KS X.w X.K F kvs xs := by
  obtain ⟨xs, q1, q2, k⟩ := RepE.ks (P := X.prog) r
  exact ⟨xs, ⟨o, es, ep, exact_get I e, x, hd, fun e' m => q1 e' (by simpa using m), q2, k.keys n⟩, k⟩
theorem room8 (hu : X.A.units + 100 < cLine) : (nestedKind X.prog X.w).room X.A.in1 := by
  show X.A.in1.units + 8 < cLine
  rw [Around.in1_units]
  omega
/-- the key's object -/
theorem key_obj (I : Inv X pins σ H s) (sub : Sub F H) {v : V} {k : D} {u : Value} (pk : Pk X.w X.K F H v k) (ho : k.keyOk true = true) (r : RelV v u) : ∃ a z, u = .ref a ∧ v = .ref a ∧ k.nk = some z ∧ (nestedKind X.prog X.w).is s.heap z a ∧ Rep X.w X.K F (.ref a) k := by
  obtain ⟨z, hz, hd, ht⟩ := keyOk_nk ho
  have rk : Rep X.w X.K F v k := by
    rcases pk with h | ⟨a, rfl, n, o⟩
    · exact h
    · cases k <;> first | exact o.elim | cases ht
  obtain ⟨a, rfl⟩ := rk.refTup ht
  cases (show u = Value.ref a from r)
  exact ⟨a, z, rfl, rfl, hz, ⟨rk.key I.hok sub rfl hz, hd⟩, rk⟩
theorem key_sc {v : V} {k : D} {u : Value} (pk : Pk X.w X.K F H v k) (ho : k.keyOk false = true) (r : RelV v u) : ∃ key, k = sk key ∧ (mixKind X.prog X.w).is key u = true := by
  obtain ⟨z, hz, hd, ht⟩ := keyOk_nk ho
  obtain ⟨key, rfl⟩ := isSc_sk ht
  have rk : Rep X.w X.K F v (sk key) := by
    rcases pk with h | ⟨a, rfl, n, o⟩
    · exact h
    · cases key <;> exact o.elim
  have := rep_sk rk
  subst this
  exact ⟨key, rfl, kV_is r⟩
/-- d[k] -/
theorem dct_get (hu : X.A.units + 100 < cLine) (I : Inv X pins σ H s) (sub : Sub F H) {x y : V} {t : Bool} {kvs : List (D × D)} {k d : D} {v u : Value} {Q : Value → Shared → Prop} (pd : Pk X.w X.K F H x (.dct t kvs)) (pk : Pk X.w X.K F H y k) (ho : k.keyOk t = true) (rx : RelV x v) (ry : RelV y u)
    (hg : dget kvs k = some d) (h : ∀ vv u' s', Inv X pins σ H s' → RelV vv u' → Rep X.w X.K F vv d → Q u' s') : s.TypeIs v "dict" ∧ wpAny (model X.prog X.w) X.A (getItem v u) Q X.xe s := by
  obtain ⟨a, o, es, ep, rfl, e, hs, ex, hd, z, n, r⟩ := pd.dct sub
  cases (show v = Value.ref a from rx)
  refine ⟨⟨o, exact_get I e, ex.1⟩, ?_⟩
  cases t with
  | true =>
    obtain ⟨xs, dd, kx⟩ := dct_heap I sub e ex hd n r
    obtain ⟨b, z', rfl, rfl, hz, hi, _⟩ := key_obj I sub pk ho ry
    rcases kx.get hz with ⟨q, _⟩ | ⟨d', p, vv, q1, q2, q3, q4⟩
    · rw [hg] at q; cases q
    · rw [hg] at q1
      cases q1
      exact wpAny_getItem_heap (room8 hu) hi dd q2 (h vv _ _ (I.tok _) q3 q4)
  | false =>
    obtain ⟨xs, dd, kx⟩ := dcs_heap I e ex hd n r
    obtain ⟨key, rfl, hi⟩ := key_sc pk ho ry
    rcases KS.get (key := key) kx with ⟨q, _⟩ | ⟨d', p, vv, q1, q2, q3, q4⟩
    · rw [hg] at q; cases q
    · rw [hg] at q1
      cases q1
      exact wpAny_getItem_of hi dd.mapOf q2 (h vv _ _ (I.tok _) q3 q4)
/-- k in d, k not in d -/
theorem dct_in (hu : X.A.units + 100 < cLine) (I : Inv X pins σ H s) (sub : Sub F H) {x y : V} {t : Bool} {kvs : List (D × D)} {k : D} {v u : Value} {Q : Value → Shared → Prop} (pd : Pk X.w X.K F H x (.dct t kvs)) (pk : Pk X.w X.K F H y k) (ho : k.keyOk t = true) (rx : RelV x v) (ry : RelV y u) :
    ((∀ s', Inv X pins σ H s' → Q (.bool (dget kvs k).isSome) s') → wpAny (model X.prog X.w) X.A (compareOp .In u v) Q X.xe s) ∧ ((∀ s', Inv X pins σ H s' → Q (.bool (!(dget kvs k).isSome)) s') → wpAny (model X.prog X.w) X.A (compareOp .NotIn u v) Q X.xe s) := by
  obtain ⟨a, o, es, ep, rfl, e, hs, ex, hd, z, n, r⟩ := pd.dct sub
  cases (show v = Value.ref a from rx)
  cases t with
  | true =>
    obtain ⟨xs, dd, kx⟩ := dct_heap I sub e ex hd n r
    obtain ⟨b, z', rfl, rfl, hz, hi, _⟩ := key_obj I sub pk ho ry
    have he : (dget kvs k).isSome = (atKey xs z').isSome := by
      rcases kx.get hz with ⟨q1, q2⟩ | ⟨d', p, vv, q1, q2, _⟩ <;> rw [q1, q2] <;> rfl
    rw [he]
    exact ⟨fun h => wpAny_in_heap (room8 hu) hi hs dd (h _ (I.tok _)), fun h => PyProof.Rows.wpAny_notIn_heap (room8 hu) hi hs dd (h _ (I.tok _))⟩
  | false =>
    obtain ⟨xs, dd, kx⟩ := dcs_heap I e ex hd n r
    obtain ⟨key, rfl, hi⟩ := key_sc pk ho ry
    have he : (dget kvs (sk key)).isSome = (valueAt xs key).isSome := by
      rcases KS.get (key := key) kx with ⟨q1, q2⟩ | ⟨d', p, vv, q1, q2, _⟩ <;> rw [q1, q2] <;> rfl
    rw [he]
    exact ⟨fun h => wpAny_in_of hi hs dd.mapOf (h _ (I.tok _)), fun h => wpAny_notIn_of hi hs dd.mapOf (h _ (I.tok _))⟩
/-- d.get(k), d.get(k, x): the value, or None, or x -/
theorem dct_find (hu : X.A.units + 100 < cLine) (I : Inv X pins σ H s) (sub : Sub F H) {x y : V} {t : Bool} {kvs : List (D × D)} {k : D} {v u : Value} {Q : Value → Shared → Prop} (pd : Pk X.w X.K F H x (.dct t kvs)) (pk : Pk X.w X.K F H y k) (ho : k.keyOk t = true) (rx : RelV x v) (ry : RelV y u) :
    ((∀ vv u' s', Inv X pins σ H s' → RelV vv u' → Rep X.w X.K F vv ((dget kvs k).getD .non) → Q u' s') → wpAny (model X.prog X.w) X.A (call (.builtin "dict.get") [v, u]) Q X.xe s) ∧
    (∀ (y' : V) (u2 : Value) (d2 : D), RelV y' u2 → Rep X.w X.K F y' d2 → (∀ vv u' s', Inv X pins σ H s' → RelV vv u' → Rep X.w X.K F vv ((dget kvs k).getD d2) → Q u' s') → wpAny (model X.prog X.w) X.A (call (.builtin "dict.get") [v, u, u2]) Q X.xe s) := by
  obtain ⟨a, o, es, ep, rfl, e, hs, ex, hd, z, n, r⟩ := pd.dct sub
  cases (show v = Value.ref a from rx)
  cases t with
  | true =>
    obtain ⟨xs, dd, kx⟩ := dct_heap I sub e ex hd n r
    obtain ⟨b, z', rfl, rfl, hz, hi, _⟩ := key_obj I sub pk ho ry
    have dk : s.heap.DictKeyed (nestedKind X.prog X.w) a (pairsH xs) := ⟨xs, dd, rfl⟩
    refine ⟨fun h => get_keyed (room8 hu) hi hs dk ?_, fun y' u2 d2 r2 p2 h => getOr_keyed (room8 hu) hi hs dk ?_⟩
    · rw [valueAt_pairsH]
      rcases kx.get hz with ⟨q1, q2⟩ | ⟨d', p, vv, q1, q2, q3, q4⟩
      · rw [q2]
        rw [q1] at h
        exact h .non _ _ (I.tok _) rfl .non
      · rw [q2]
        rw [q1] at h
        exact h vv _ _ (I.tok _) q3 q4
    · rw [valueAt_pairsH]
      rcases kx.get hz with ⟨q1, q2⟩ | ⟨d', p, vv, q1, q2, q3, q4⟩
      · rw [q2]
        rw [q1] at h
        exact h y' _ _ (I.tok _) r2 p2
      · rw [q2]
        rw [q1] at h
        exact h vv _ _ (I.tok _) q3 q4
  | false =>
    obtain ⟨xs, dd, kx⟩ := dcs_heap I e ex hd n r
    obtain ⟨key, rfl, hi⟩ := key_sc pk ho ry
    refine ⟨fun h => call_meetsIn PySem.F.slot_dict_get dd.typeIs PySem.F.entry_dict_get (PySem.F.args_dict_get_2 _ _) (meets_dict_get (mixKind X.prog X.w) a hi hs) ⟨_, dd.mapOf, ?_⟩,
      fun y' u2 d2 r2 p2 h => call_meetsIn PySem.F.slot_dict_get dd.typeIs PySem.F.entry_dict_get (PySem.F.args_dict_get_3 _ _ _) (meets_dict_get_default (mixKind X.prog X.w) a hi hs u2) ⟨_, dd.mapOf, ?_⟩⟩
    · rcases KS.get (key := key) kx with ⟨q1, q2⟩ | ⟨d', p, vv, q1, q2, q3, q4⟩
      · rw [q2]
        rw [q1] at h
        exact h .non _ _ (I.tok _) rfl .non
      · rw [q2]
        rw [q1] at h
        exact h vv _ _ (I.tok _) q3 q4
    · rcases KS.get (key := key) kx with ⟨q1, q2⟩ | ⟨d', p, vv, q1, q2, q3, q4⟩
      · rw [q2]
        rw [q1] at h
        exact h y' _ _ (I.tok _) r2 p2
      · rw [q2]
        rw [q1] at h
        exact h vv _ _ (I.tok _) q3 q4
theorem exact_write {h' : Heap} {t' : Nat} {a : Addr} {o o' : Obj} (I : Inv X pins σ H s) (e : H a = some (exactHO a o)) (hs : Heap.SameBut a s.heap h') (ho : h'.get? a = some o') : Inv X pins σ (upd H a (exactHO a o')) { s with heap := h', toks := t' } :=
  d_write I (by rw [e]; exact True.intro) hs ⟨o', ho⟩ ⟨ho, ⟨o', ho⟩, fun h1 h2 q k => k _ q⟩
/-- d[k] = v on an own dict -/
theorem dct_put (hu : X.A.units + 100 < cLine) (I : Inv X pins σ H s) (sub : Sub F H) {a : Addr} {y z : V} {t : Bool} {kvs : List (D × D)} {k d : D} {u r : Value} {Q : Unit → Shared → Prop} (ow : Own X.w X.K F H a (.dct t kvs)) (na : F a = none) (pk : Pk X.w X.K F H y k) (ho : k.keyOk t = true) (ry : RelV y u) (rz : RelV z r)
    (rd : Rep X.w X.K F z d) (hz : (dput kvs k d).length ≤ sizeLine) (h : ∀ o' s', Inv X pins σ (upd H a o') s' → Own X.w X.K F (upd H a o') a (.dct t (dput kvs k d)) → Q () s') : wpAny (model X.prog X.w) X.A (setItem (.ref a) u r) Q X.xe s := by
  obtain ⟨o, es, ep, e, hs, ex, hd, zl, n, rr⟩ := ow
  cases t with
  | true =>
    obtain ⟨xs, dd, kx⟩ := dct_heap I sub e ex hd n rr
    obtain ⟨b, z', rfl, rfl, hz', hi, rk⟩ := key_obj I sub pk ho ry
    refine wpAny_setItem_heap (hsz := by rw [kx.length]; exact zl) (room8 hu) hi dd fun h' dd' sb => ?_
    obtain ⟨o', es', ep', g1, g2, g3, g4, _, _⟩ := dd'
    refine h (exactHO a o') _ (exact_write I e sb g1) ⟨o', es', ep', upd_same, hs, g2, g3, hz, dput_nodup n k d, ?_⟩
    rw [g4]
    exact (kx.put hz' ho rk rz rd).back
  | false =>
    obtain ⟨xs, dd, kx⟩ := dcs_heap I e ex hd n rr
    obtain ⟨key, rfl, hi⟩ := key_sc pk ho ry
    refine wpAny_setItem_pairs (hsz := by rw [kx.length]; exact zl) hi dd fun h' dd' sb => ?_
    obtain ⟨o', es', ep', g1, g2, g3, g4, g5, _⟩ := dd'
    refine h (exactHO a o') _ (exact_write I e sb g1) ⟨o', es', ep', upd_same, hs, g2, g3, hz, dput_nodup n (sk key) d, ?_⟩
    exact KS.back (P := X.prog) (kx.put rz rd) (fun e' m => g4 e' (by simpa using m)) g5
end
end MP

set_option Elab.async false
set_option linter.all false
set_option maxRecDepth 100000
set_option autoImplicit false
namespace MP
open PySem L2
open PyProof.Rows (subscriptTail room_in_shaped tail_any call_len_slot)

/-! ### items -/
def dIx (a b : D) : Option D := match a, b with
  | .str z, .int i => if z.length ≤ sizeLine then (atI z.cps.toList i).map fun c => .str ⟨#[c]⟩ else none
  | .dct t kvs, k => if k.keyOk t then dget kvs k else none
  | c, .int i => c.seq.bind fun ds => atI ds i
  | _, _ => none
theorem atI_rep {w : World} {K : PySem.W.Frag} {F : Hp} {vs : List V} {ds : List D} {i : Int} {d : D} (r : RepL w K F vs ds) (h : atI ds i = some d) : ∃ v, atI vs i = some v ∧ Rep w K F v d := by
  unfold atI at h ⊢
  rw [r.length]
  cases q : ixN ds.length i with
  | none => rw [q] at h; cases h
  | some j =>
    rw [q] at h
    obtain ⟨v, h1, h2⟩ := r.get (show ds[j]? = some d from h)
    exact ⟨v, h1, h2⟩
section
variable {X : Cx}
theorem ix_seqD {value slice : Expr} {pins : List (Addr × Obj)} {s : Shared} {σ : St} {F H : Hp} {x y : V} {v u : Value} {Q : VK} {c d : D} {ds : List D} {i : Int} (I : Inv X pins σ H s) (rx : RelV x v) (ry : RelV y u) (sub : Sub F H) (pa : Pk X.w X.K F H x c) (pb : Pk X.w X.K F H y (.int i)) (e : c.seq = some ds) (h : atI ds i = some d)
    (q : ∀ v F' H', Ext F H F' H' → Rep X.w X.K F' v d → Q v H') (hs : subscripted slice false v u = operate [v, u] (getItem v u)) : wpAny (model X.prog X.w) X.A (subscriptTail value slice v u) (EP X pins σ Q) X.xe s := by
  obtain ⟨p, vs, rfl, hl, hz, r⟩ := pa.seq sub e
  obtain rfl := pb.int
  obtain ⟨z, h1, h2⟩ := atI_rep r h
  rcases hl with hl | hl
  · exact ix_list value slice pins s σ H _ _ v u Q I rx ry ⟨p, vs, i, z, rfl, rfl, hl, h1, q z F H (Ext.refl sub) h2⟩ hs
  · exact ix_tup value slice pins s σ H _ _ v u Q I rx ry ⟨p, vs, i, z, rfl, rfl, hl, h1, q z F H (Ext.refl sub) h2⟩ hs
theorem g_ix (hu : X.A.units + 100 < cLine) : IxR X (rGE X dIx) := by
  intro value slice pins s σ H x y v u Q I rx ry ⟨F, a, b, d, sub, pa, pb, hg, q⟩ hs
  cases a with
  | str z =>
    cases b <;> first | (cases hg; done) | skip
    case int i =>
      simp only [dIx] at hg
      split at hg
      case isFalse => cases hg
      case isTrue hz =>
        obtain ⟨c, hc, rfl⟩ := Option.map_eq_some_iff.mp hg
        obtain rfl := pa.str
        obtain rfl := pb.int
        exact ix_str value slice pins s σ H _ _ v u Q I rx ry ⟨z, i, c, rfl, rfl, hz, hc, q _ F H (Ext.refl sub) (.str _)⟩ hs
  | dct t kvs =>
    have hg' : (if b.keyOk t then dget kvs b else none) = some d := by cases b <;> exact hg
    split at hg'
    case isFalse => cases hg'
    case isTrue ho =>
      obtain ⟨ty, h⟩ := dct_get (Q := EP X pins σ Q) hu I sub pa pb ho rx ry hg' fun vv u' s' I' r1 r2 => ⟨vv, H, I', r1, q vv F H (Ext.refl sub) r2⟩
      exact tail_any ty slot_dict_getitem.lookup h hs
  | tup ds =>
    cases b <;> first | (cases hg; done) | skip
    case int i => exact ix_seqD I rx ry sub pa pb rfl hg q hs
  | lst ds =>
    cases b <;> first | (cases hg; done) | skip
    case int i => exact ix_seqD I rx ry sub pa pb rfl hg q hs
  | scr ds =>
    cases b <;> first | (cases hg; done) | skip
    case int i => exact ix_seqD I rx ry sub pa pb rfl hg q hs
  | non => cases b <;> cases hg
  | bl _ => cases b <;> cases hg
  | int _ => cases b <;> cases hg
  | set _ => cases b <;> cases hg
  | tpx _ => cases b <;> cases hg

/-! ### in -/
def anyIn (a : D) (ds : List D) : Option Bool := if SeqAt.shaped a.pd && SeqAt.shaped (.tuple (D.pds ds)) then some ((D.pds ds).any fun z => PyData.eqv z a.pd) else none
def isIn (a c : D) : Option Bool := match c with
  | .tup ds => anyIn a ds
  | .lst ds => anyIn a ds
  | .dct t kvs => if a.keyOk t then some (dget kvs a).isSome else none
  | .str z => match a with
    | .str y => match y.cps with
      | ⟨[ch]⟩ => some (decide (ch ∈ z.cps.toList))
      | _ => none
    | _ => none
  | _ => none
def dIn (a c : D) : Option D := (isIn a c).map .bl
def dNi (a c : D) : Option D := (isIn a c).map fun k => .bl (!k)
theorem shaped_list (xs : List PyData) : SeqAt.shaped (.tuple xs) = SeqAt.shaped (.list xs) := by unfold SeqAt.shaped PyData.canLay0 PyData.depth; rfl
theorem in_any (hu : X.A.units + 100 < cLine) {pins : List (Addr × Obj)} {s : Shared} {σ : St} {F H : Hp} {x y : V} {v u : Value} {Q : Value → Shared → Prop} {a c : D} {ds : List D} {k : Bool} (I : Inv X pins σ H s) (rx : RelV x v) (ry : RelV y u) (sub : Sub F H) (pa : Pk X.w X.K F H x a) (pb : Pk X.w X.K F H y c)
    (hc : c = .tup ds ∨ c = .lst ds) (h : anyIn a ds = some k) : (Q (.bool k) s → wpAny (model X.prog X.w) X.A (compareOp .In v u) Q X.xe s) ∧ (Q (.bool (!k)) s → wpAny (model X.prog X.w) X.A (compareOp .NotIn v u) Q X.xe s) := by
  unfold anyIn at h
  split at h
  case isFalse => cases h
  case isTrue h1 =>
    cases h
    rw [Bool.and_eq_true] at h1
    obtain ⟨sa, sc⟩ := h1
    obtain ⟨bs, r2⟩ := Dp.reads I _ _ _ (pa.dp sub (SeqAt.canLay_of_shaped sa)) rx
    have hr := room_in_shaped (A := X.A) (xs := D.pds ds) sa (by omega)
    rcases hc with rfl | rfl
    · obtain ⟨as, r1⟩ := Dp.reads I _ _ _ (pb.dp sub (SeqAt.canLay_of_shaped sc)) ry
      exact ⟨fun q => SeqAt.in_tuple_reads r1 r2 (SeqAt.canLay_of_shaped sc) (SeqAt.canLay_of_shaped sa) hr q, fun q => SeqAt.notIn_tuple_reads r1 r2 (SeqAt.canLay_of_shaped sc) (SeqAt.canLay_of_shaped sa) hr q⟩
    · rw [shaped_list] at sc
      obtain ⟨as, r1⟩ := Dp.reads I _ _ _ (pb.dp sub (SeqAt.canLay_of_shaped sc)) ry
      exact ⟨fun q => SeqAt.in_list_reads r1 r2 (SeqAt.canLay_of_shaped sc) (SeqAt.canLay_of_shaped sa) hr q, fun q => SeqAt.notIn_list_reads r1 r2 (SeqAt.canLay_of_shaped sc) (SeqAt.canLay_of_shaped sa) hr q⟩
theorem in_both (hu : X.A.units + 100 < cLine) {pins : List (Addr × Obj)} {s : Shared} {σ : St} {F H : Hp} {x y : V} {v u : Value} {Q : Value → Shared → Prop} {a c : D} {k : Bool} (I : Inv X pins σ H s) (rx : RelV x v) (ry : RelV y u) (sub : Sub F H) (pa : Pk X.w X.K F H x a) (pb : Pk X.w X.K F H y c)
    (h : isIn a c = some k) : ((∀ s', Inv X pins σ H s' → Q (.bool k) s') → wpAny (model X.prog X.w) X.A (compareOp .In v u) Q X.xe s) ∧ ((∀ s', Inv X pins σ H s' → Q (.bool (!k)) s') → wpAny (model X.prog X.w) X.A (compareOp .NotIn v u) Q X.xe s) := by
  unfold isIn at h
  cases c <;> first | (cases h; done) | skip
  case tup ds =>
    obtain ⟨h1, h2⟩ := in_any (Q := Q) hu I rx ry sub pa pb (.inl rfl) h
    exact ⟨fun q => h1 (q s I), fun q => h2 (q s I)⟩
  case lst ds =>
    obtain ⟨h1, h2⟩ := in_any (Q := Q) hu I rx ry sub pa pb (.inr rfl) h
    exact ⟨fun q => h1 (q s I), fun q => h2 (q s I)⟩
  case dct t kvs =>
    simp only at h
    split at h
    case isFalse => cases h
    case isTrue ho =>
      cases h
      exact dct_in hu I sub pb pa ho ry rx
  case str z =>
    cases a <;> first | (cases h; done) | skip
    case str y' =>
      simp only at h
      split at h
      case h_2 => cases h
      case h_1 ch e =>
        cases h
        have ey : y' = ⟨#[ch]⟩ := by cases y'; simp only at e; rw [e]
        subst ey
        obtain rfl := pa.str
        obtain rfl := pb.str
        refine ⟨fun q => ?_, fun q => ?_⟩
        · have := op_in_sign (X := X) pins s σ H _ _ v u (fun w H' => w = .bl (decide (ch ∈ z.cps.toList)) ∧ H' = H) I rx ry ⟨ch, z, rfl, rfl, rfl, rfl⟩
          exact thn this fun r s1 ⟨w, H1, I1, r1, e1, e2⟩ => by
            subst e1 e2
            cases (show r = Value.bool _ from r1)
            exact q s1 I1
        · have := op_notIn_sign (X := X) pins s σ H _ _ v u (fun w H' => w = .bl (!decide (ch ∈ z.cps.toList)) ∧ H' = H) I rx ry ⟨ch, z, rfl, rfl, rfl, rfl⟩
          exact thn this fun r s1 ⟨w, H1, I1, r1, e1, e2⟩ => by
            subst e1 e2
            cases (show r = Value.bool _ from r1)
            exact q s1 I1
theorem g_in (hu : X.A.units + 100 < cLine) : OpR X (compareOp .In) (rG X dIn) := by
  intro pins s σ H x y v u Q I rx ry ⟨F, a, b, d, sub, pa, pb, hg, q⟩
  obtain ⟨k, hk, rfl⟩ := Option.map_eq_some_iff.mp hg
  exact (in_both hu I rx ry sub pa pb hk).1 fun s' I' => ⟨.bl _, H, I', rfl, q _ F H (.same sub (.bl _) rfl)⟩
theorem g_ni (hu : X.A.units + 100 < cLine) : OpR X (compareOp .NotIn) (rG X dNi) := by
  intro pins s σ H x y v u Q I rx ry ⟨F, a, b, d, sub, pa, pb, hg, q⟩
  obtain ⟨k, hk, rfl⟩ := Option.map_eq_some_iff.mp hg
  exact (in_both hu I rx ry sub pa pb hk).2 fun s' I' => ⟨.bl _, H, I', rfl, q _ F H (.same sub (.bl _) rfl)⟩
end

/-! ### slices -/
def cut {α : Type} (xs : List α) (lo hi : Option Int) : List α := (xs.drop (HT.sIx xs.length 0 lo)).take (HT.sIx xs.length xs.length hi - HT.sIx xs.length 0 lo)
theorem cut_length {α : Type} (xs : List α) (lo hi : Option Int) : (cut xs lo hi).length ≤ xs.length := by
  unfold cut
  rw [List.length_take, List.length_drop]
  omega
def dCut (a : D) (lo hi : Option Int) : Option D := match a with
  | .str z => if z.length ≤ sizeLine then some (.str ⟨(cut z.cps.toList lo hi).toArray⟩) else none
  | .tup ds => some (.tup (cut ds lo hi))
  | .lst ds => some (.lst (cut ds lo hi))
  | .scr ds => some (.lst (cut ds lo hi))
  | _ => none
def rSG (X : Cx) : V → Option Int → Option Int → Hp → VK → Prop := fun x lo hi H Q => ∃ F a d, Sub F H ∧ Pk X.w X.K F H x a ∧ dCut a lo hi = some d ∧ ∀ v F' H', Post X.w X.K F H F' H' v d → Q v H'
theorem RepL.cut {w : World} {K : PySem.W.Frag} {F : Hp} {vs : List V} {ds : List D} (r : RepL w K F vs ds) (lo hi : Option Int) : RepL w K F (cutV vs lo hi) (cut ds lo hi) := by
  unfold cutV MP.cut
  rw [r.length]
  exact (r.drop _).take _
section
variable {X : Cx}
theorem g_sl : SlR X (rSG X) := by
  intro pins s σ H x v vl vu lo hi sl Q I rx hs pl pu ⟨F, a, d, sub, pa, hg, q⟩
  cases a <;> first | (cases hg; done) | skip
  case str z =>
    simp only [dCut] at hg
    split at hg
    case isFalse => cases hg
    case isTrue hz =>
      cases hg
      obtain rfl := pa.str
      refine sl_str pins s σ H _ v vl vu lo hi sl Q I rx hs pl pu ⟨z, rfl, hz, ?_⟩
      have e : (⟨(cut z.cps.toList lo hi).toArray⟩ : Str) = cutS z lo hi := by
        unfold cut cutS
        simp only [Array.length_toList]
        rfl
      rw [e] at q
      exact q _ F H (.same sub (.str _) rfl)
  case tup ds =>
    cases hg
    obtain ⟨p, vs, rfl, h1, z1, r1⟩ := pa.tup
    refine sl_tupA pins s σ H _ v vl vu lo hi sl Q I rx hs pl pu ⟨p, vs, rfl, .inl (h1.mono sub), fun hw => ?_, fun _ p' n => ?_⟩
    · have e : cut ds lo hi = ds := by
        unfold cut
        rw [r1.length] at hw
        rw [hw.1, hw.2]
        simp
      rw [e] at q
      exact q _ F H (.same sub (.tup h1 z1 r1) rfl)
    · exact q _ _ _ (.tup sub n (Nat.le_trans (cut_length _ _ _) z1) (r1.cut lo hi))
  case lst ds =>
    cases hg
    obtain ⟨p, vs, rfl, h1, z1, r1⟩ := pa.lst sub
    exact sl_list pins s σ H _ v vl vu lo hi sl Q I rx hs pl pu ⟨p, vs, rfl, .inl (.inl h1), fun p' n => q _ _ _ (.lst sub n (Nat.le_trans (cut_length _ _ _) z1) (r1.cut lo hi))⟩
  case scr ds =>
    cases hg
    obtain ⟨p, vs, rfl, h1, z1, r1⟩ := pa.scr sub
    exact sl_list pins s σ H _ v vl vu lo hi sl Q I rx hs pl pu ⟨p, vs, rfl, h1, fun p' n => q _ _ _ (.lst sub n (Nat.le_trans (cut_length _ _ _) z1) (r1.cut lo hi))⟩
variable {b : Bd0} {F H : Hp} {σ : St} {e : En}
/-- a part of a slice -/
def part : Option (En → Res D) → En → Res (Option Int)
  | none, e => .ok none e
  | some f, e => (f e).bind fun d e => match d with
    | .int i => .ok (some i) e
    | _ => .stuck
def tPt (X : Cx) (b : Bd0) (f : Option (En → Res D)) : TO := fun σ H Q => ∃ e F, Ok (bd X b) F H σ e ∧ aft X b F σ (part f e) fun i e' => ∀ F' H', Ok (bd X b) F' H' σ e' → Sub F F' → Q i H'
theorem po_of {a : Option Expr} {t t' : TO} (h : PO X a t) (i : ∀ σ H Q, t' σ H Q → t σ H Q) : PO X a t' := ⟨fun pins s σ H Q I q => h.run pins s σ H Q I (i σ H Q q)⟩
theorem p_none : PO X none (tPt X b none) := po_of po_none fun σ H Q ⟨e, F, ok, q⟩ => q F H ok (Sub.refl F)
theorem p_some {a : Expr} {f : En → Res D} (h : PE X a (tE X b f)) : PO X (some a) (tPt X b (some f)) := po_of (po_some h) fun σ H Q ⟨e, F, ok, q⟩ => ⟨e, F, ok, (aft.bind q).mono fun d e' z v F' H' ok' s r => by
  cases d <;> first | exact z.elim | skip
  case int i =>
    cases r
    exact ⟨i, rfl, z F' H' ok' s⟩⟩
def eSl : Opd → Option (En → Res D) → Option (En → Res D) → En → Res D
  | .f g, lo, hi, e => (g e).bind fun a e => (part lo e).bind fun l e => (part hi e).bind fun h e => Res.opt (dCut a l h) e
  | .n i, lo, hi, e => seeAt i e fun _ => (part lo e).bind fun l e => (part hi e).bind fun h e => seeAt i e fun a => Res.opt (dCut a l h) e
theorem m_sl {a : Expr} {lo hi : Option Expr} {o : Opd} {fl fh : Option (En → Res D)} {p2 pos : Pos} (ha : PE X a (tO X b o)) (hl : PO X lo (tPt X b fl)) (hh : PO X hi (tPt X b fh)) : PE X (.Subscript a (.Slice lo hi none p2) pos) (tM X b (eSl o fl fh)) := by
  refine pe_of (pe_slice g_sl ha hl hh) fun σ H Q ⟨e, F, ok, q⟩ => ?_
  have fin : ∀ {a : D} {l h : Option Int} {e' : En} {F' H' : Hp} {v : V}, aft X b F' σ (Res.opt (dCut a l h) e') (fun d e' => ∀ v F2 H2, Ok (bd X b) F2 H2 σ e' → Sub F F2 → Mv (bd X b) F2 H2 σ e' v d → Q v H2) → Ok (bd X b) F' H' σ e' → Sub F F' → Pk X.w X.K F' H' v a → rSG X v l h H' Q := by
    intro a l h e' F' H' v z ok' s pa
    obtain ⟨d, hd, z⟩ := aft.opt z
    refine ⟨F', a, d, ok'.sub, pa, hd, fun v2 F2 H2 po => ?_⟩
    obtain ⟨ok2, mv⟩ := ok'.post po
    exact z v2 F2 H2 ok2 (s.trans po.1.f) mv
  cases o with
  | f g =>
    refine ⟨e, F, ok, (aft.bind q).mono fun a e1 z v F1 H1 ok1 s1 r1 => ⟨e1, F1, ok1, (aft.bind (z.sub s1)).mono fun l e2 y F2 H2 ok2 s2 => ⟨e2, F2, ok2, (aft.bind (y.sub s2)).mono fun h e3 x F3 H3 ok3 s3 => ?_⟩⟩⟩
    exact fin (x.sub s3) ok3 (s1.trans (s2.trans s3)) (.inl (r1.mono (s2.trans s3)))
  | n i =>
    obtain ⟨a0, ha0, q⟩ := aft.see q
    obtain ⟨v, hv, _⟩ := ok.seeAt ha0
    refine ⟨v, hv, e, F, ok, (aft.bind q).mono fun l e2 y F2 H2 ok2 s2 => ⟨e2, F2, ok2, (aft.bind (y.sub s2)).mono fun h e3 x F3 H3 ok3 s3 => ?_⟩⟩
    obtain ⟨a1, ha1, x⟩ := aft.see x
    obtain ⟨v', hv', pa⟩ := ok3.seeAt ha1
    rw [hv] at hv'
    cases hv'
    exact fin (x.sub s3) ok3 (s2.trans s3) pa
/-! ### -x -/
def eNeg (f : En → Res D) : En → Res D := fun e => (f e).bind fun d e => Res.opt (dNeg d) e
theorem e_neg {a : Expr} {f : En → Res D} {pos : Pos} (h : PE X a (tE X b f)) : PE X (.UnaryOp .USub a pos) (tE X b (eNeg f)) := pe_of (pe_un un_neg h) fun σ H Q ⟨e, F, ok, q⟩ => ⟨e, F, ok, (aft.bind q).mono fun d e' z v F' H' ok' s r => by
  obtain ⟨c, hc, z⟩ := aft.opt z
  cases d <;> first | (cases hc; done) | skip
  case int i =>
    cases hc
    cases r
    exact ⟨i, rfl, z _ F' H' ok' s (.int _)⟩⟩

/-! ### built-in functions -/
def dLen : List D → Option D
  | [.str z] => if z.length ≤ sizeLine then some (.int z.length) else none
  | [.dct _ kvs] => some (.int kvs.length)
  | [c] => c.seq.map fun ds => .int ds.length
  | _ => none
theorem PkL.one {w : World} {K : PySem.W.Frag} {F H : Hp} {xs : List V} {a : D} (h : PkL w K F H xs [a]) : ∃ x, xs = [x] ∧ Pk w K F H x a := by
  cases h with
  | cons h t => cases t; exact ⟨_, rfl, h⟩
theorem PkL.two {w : World} {K : PySem.W.Frag} {F H : Hp} {xs : List V} {a c : D} (h : PkL w K F H xs [a, c]) : ∃ x y, xs = [x, y] ∧ Pk w K F H x a ∧ Pk w K F H y c := by
  cases h with
  | cons h t =>
    obtain ⟨y, rfl, h2⟩ := t.one
    exact ⟨_, _, rfl, h, h2⟩
theorem PkL.three {w : World} {K : PySem.W.Frag} {F H : Hp} {xs : List V} {a c d : D} (h : PkL w K F H xs [a, c, d]) : ∃ x y z, xs = [x, y, z] ∧ Pk w K F H x a ∧ Pk w K F H y c ∧ Pk w K F H z d := by
  cases h with
  | cons h t =>
    obtain ⟨y, z, rfl, h2, h3⟩ := t.two
    exact ⟨_, _, _, rfl, h, h2, h3⟩
theorem len_dct {pins : List (Addr × Obj)} {s : Shared} (I : L2.Inv X pins σ H s) (sub : Sub F H) {x : V} {t : Bool} {kvs : List (D × D)} {v : Value} {Q : Value → Shared → Prop} (pd : Pk X.w X.K F H x (.dct t kvs)) (rx : RelV x v) (h : ∀ tk s', L2.Inv X pins σ H s' → Q (.int kvs.length tk) s') : wpAny (model X.prog X.w) X.A (call (.builtin "len") [v]) Q X.xe s := by
  obtain ⟨a, o, es, ep, rfl, e, hs, ex, hd, z, n, r⟩ := pd.dct sub
  cases (show v = Value.ref a from rx)
  cases t with
  | true =>
    obtain ⟨xs, dd, kx⟩ := dct_heap I sub e ex hd n r
    have dk : s.heap.DictKeyed (nestedKind X.prog X.w) a (pairsH xs) := ⟨xs, dd, rfl⟩
    have hl : (pairsH xs).length = kvs.length := by rw [pairsH_length, kx.length]
    refine call_len_slot (n := kvs.length) dk.typeIs PySem.F.slot_dict_len (fun Q' hq => len_keyed hs dk (by rw [hl]; exact hq)) (by omega) (by rw [sizeLine_eq] at z; omega) ?_
    exact h _ _ (I.tok _)
  | false =>
    obtain ⟨xs, dd, kx⟩ := dcs_heap I e ex hd n r
    have hl : xs.length = kvs.length := kx.length
    refine call_len_dict hs dd (by rw [hl]; rw [sizeLine_eq] at z; omega) ?_
    rw [hl]
    exact h _ _ (I.tok _)
end
end MP

set_option Elab.async false
set_option linter.all false
set_option maxRecDepth 100000
set_option autoImplicit false
namespace MP
open PySem L2

/-! ### statements -/
inductive Fl where
  | nx | rt (d : D) | bk | ct
section
variable {X : Cx} {b : Bd0} {F F1 H : Hp} {σ : St} {e : En} {D0 : Ends}
def aftS (X : Cx) (b : Bd0) (F : Hp) (D0 : Ends) (r : Res Fl) : Prop :=
  match r with
  | .ok .nx e => ∀ σ F' H, Ok (bd X b) F' H σ e → Sub F F' → D0.nx σ H
  | .ok (.rt d) e => ∀ v σ F' H, Ok (bd X b) F' H σ e → Sub F F' → Mv (bd X b) F' H σ e v d → D0.rt v H
  | .ok .bk e => ∀ σ F' H, Ok (bd X b) F' H σ e → Sub F F' → D0.bk σ H
  | .ok .ct e => ∀ σ F' H, Ok (bd X b) F' H σ e → Sub F F' → D0.ct σ H
  | .ex c e => ∀ σ F' H, Ok (bd X b) F' H σ e → Sub F F' → b.W c σ e F' H
  | .stuck => False
def tS (X : Cx) (b : Bd0) (f : En → Res Fl) : TS := fun D0 σ H => ∃ e F, Ok (bd X b) F H σ e ∧ aftS X b F D0 (f e)
theorem aftS.sub {r : Res Fl} (s : Sub F F1) (h : aftS X b F D0 r) : aftS X b F1 D0 r := by
  cases r with
  | ok a e => cases a with
    | nx => exact fun σ F' H k z => h σ F' H k (s.trans z)
    | rt d => exact fun v σ F' H k z => h v σ F' H k (s.trans z)
    | bk => exact fun σ F' H k z => h σ F' H k (s.trans z)
    | ct => exact fun σ F' H k z => h σ F' H k (s.trans z)
  | ex c e => exact fun σ F' H k z => h σ F' H k (s.trans z)
  | stuck => exact h
/-- an expression ahead of the rest of a statement -/
theorem aftS.step {α : Type} {r : Res α} {f : α → En → Res Fl} (h : aftS X b F D0 (r.bind f)) (σ : St) : aft X b F σ r fun a e => aftS X b F D0 (f a e) := by
  cases r with
  | ok a e => exact h
  | ex c e => exact fun F' H' k s => h σ F' H' k s
  | stuck => exact h
theorem aftS.opt {α : Type} {o : Option α} {f : α → En → Res Fl} (h : aftS X b F D0 ((Res.opt o e).bind f)) : ∃ a, o = some a ∧ aftS X b F D0 (f a e) := by
  cases o with
  | some a => exact ⟨a, rfl, h⟩
  | none => exact h.elim
theorem ps_of {st : Stmt} {t t' : TS} (h : PS X st t) (i : ∀ D0 σ H, t' D0 σ H → t D0 σ H) : PS X st t' := ⟨fun pins s σ H D0 I q => h.run pins s σ H D0 I (i D0 σ H q)⟩
theorem pss_of {st : List Stmt} {t t' : TS} (h : PSs X st t) (i : ∀ D0 σ H, t' D0 σ H → t D0 σ H) : PSs X st t' := ⟨fun pins s σ H D0 I q => h.run pins s σ H D0 I (i D0 σ H q)⟩
def sNop : En → Res Fl := fun e => .ok .nx e
def sSeq (f g : En → Res Fl) : En → Res Fl := fun e => (f e).bind fun fl e => match fl with
  | .nx => g e
  | o => .ok o e
/-- a statement, then what follows -/
theorem seq_in {f g : En → Res Fl} (h : aftS X b F D0 (sSeq f g e)) : aftS X b F { D0 with nx := tS X b g D0 } (f e) := by
  unfold sSeq at h
  cases q : f e with
  | ok a e' =>
    rw [q] at h
    cases a with
    | nx => exact fun σ F' H' k s => ⟨e', F', k, h.sub s⟩
    | rt d => exact h
    | bk => exact h
    | ct => exact h
  | ex c e' =>
    rw [q] at h
    exact h
  | stuck =>
    rw [q] at h
    exact h
theorem ss_nil : PSs X [] (tS X b sNop) := pss_of pss_nil fun D0 σ H ⟨e, F, k, q⟩ => q σ F H k (Sub.refl F)
theorem ss_cons {st : Stmt} {rest : List Stmt} {f g : En → Res Fl} (h1 : PS X st (tS X b f)) (h2 : PSs X rest (tS X b g)) : PSs X (st :: rest) (tS X b (sSeq f g)) := pss_of (pss_cons h1 h2) fun D0 σ H ⟨e, F, k, q⟩ => ⟨e, F, k, seq_in q⟩
theorem ss_one {st : Stmt} {f : En → Res Fl} (h1 : PS X st (tS X b f)) : PSs X [st] (tS X b f) := pss_one h1
theorem s_pass {pos : Pos} : PS X (.Pass pos) (tS X b sNop) := ps_of ps_pass fun D0 σ H ⟨e, F, k, q⟩ => q σ F H k (Sub.refl F)
def sBk : En → Res Fl := fun e => .ok .bk e
theorem s_break {pos : Pos} : PS X (.Break pos) (tS X b sBk) := ps_of ps_break fun D0 σ H ⟨e, F, k, q⟩ => q σ F H k (Sub.refl F)
def sCt : En → Res Fl := fun e => .ok .ct e
theorem s_cont {pos : Pos} : PS X (.Continue pos) (tS X b sCt) := ps_of ps_continue fun D0 σ H ⟨e, F, k, q⟩ => q σ F H k (Sub.refl F)
def sDrop (f : En → Res D) : En → Res Fl := fun e => (f e).bind fun _ e => .ok .nx e
theorem s_expr {a : Expr} {f : En → Res D} {pos : Pos} (h : PE X a (tE X b f)) (hs : swapsWith a none pos.line X.env = pure false := by rfl) : PS X (.Expr a pos) (tS X b (sDrop f)) :=
  ps_of (ps_expr h hs) fun D0 σ H ⟨e, F, k, q⟩ => ⟨e, F, k, (aftS.step q σ).mono fun d e' z v F' H' k' s r => z σ F' H' k' s⟩
def sRet (f : En → Res D) : En → Res Fl := fun e => (f e).bind fun d e => .ok (.rt d) e
theorem s_ret {a : Expr} {f : En → Res D} {pos : Pos} (h : PE X a (tM X b f)) : PS X (.Return (some a) pos) (tS X b (sRet f)) :=
  ps_of (ps_ret h) fun D0 σ H ⟨e, F, k, q⟩ => ⟨e, F, k, (aftS.step q σ).mono fun d e' z v F' H' k' s r => z v σ F' H' k' s r⟩
def sRetN : En → Res Fl := fun e => .ok (.rt .non) e
theorem s_retN {pos : Pos} : PS X (.Return none pos) (tS X b sRetN) := ps_of ps_retN fun D0 σ H ⟨e, F, k, q⟩ => q .non σ F H k (Sub.refl F) (.inl ⟨rfl, .non⟩)
def sIf (c : En → Res Bool) (f g : En → Res Fl) : En → Res Fl := fun e => (c e).bind fun k e => if k then f e else g e
theorem s_if {c : Expr} {p q : List Stmt} {k : En → Res Bool} {f g : En → Res Fl} {pos : Pos} (hc : PT X c (tT X b k)) (hp : PSs X p (tS X b f)) (hq : PSs X q (tS X b g)) : PS X (.If c p q pos) (tS X b (sIf k f g)) :=
  ps_of (ps_if hc hp hq) fun D0 σ H ⟨e, F, ok, q⟩ => ⟨e, F, ok, (aftS.step q σ).mono fun c e' z F' H' k' s => by
    cases c with
    | true => exact ⟨e', F', k', (show aftS X b F D0 (f e') from z).sub s⟩
    | false => exact ⟨e', F', k', (show aftS X b F D0 (g e') from z).sub s⟩⟩

/-! ### stores -/
/-- a slot is stored: a new list or dict is one's own -/
def setM (i : Nat) (d : D) (e : En) : Res Fl := match eat e i with
  | .io _ => .stuck
  | _ => .ok .nx (eput e i (if d.isMut then .ow d else .sh d))
def sSetM (i : Nat) (f : En → Res D) : En → Res Fl := fun e => (f e).bind fun d e => setM i d e
def setE (i : Nat) (d : D) (e : En) : Res Fl := match eat e i with
  | .io _ => .stuck
  | _ => .ok .nx (eput e i (.sh d))
def sSetE (i : Nat) (f : En → Res D) : En → Res Fl := fun e => (f e).bind fun d e => setE i d e
theorem setM_in {i : Nat} {d : D} {v : V} (ok : Ok (bd X b) F1 H σ e) (s : Sub F F1) (h : aftS X b F D0 (setM i d e)) (r : Mv (bd X b) F1 H σ e v d) : D0.nx (σ.set i (some v)) H := by
  have go : aftS X b F D0 (.ok .nx (eput e i (if d.isMut then .ow d else .sh d))) := by
    unfold setM at h
    cases q : eat e i with
    | io _ => rw [q] at h; exact h.elim
    | no => rw [q] at h; exact h
    | sh _ => rw [q] at h; exact h
    | ow _ => rw [q] at h; exact h
  rcases r with ⟨m, r⟩ | ⟨m, p, rfl, r⟩
  · rw [m] at go
    exact go _ F1 H (ok.put r) s
  · rw [m] at go
    exact go _ F1 H (ok.putOwn r) s
theorem setE_in {i : Nat} {d : D} {v : V} (ok : Ok (bd X b) F1 H σ e) (s : Sub F F1) (h : aftS X b F D0 (setE i d e)) (r : Rep X.w X.K F1 v d) : D0.nx (σ.set i (some v)) H := by
  have go : aftS X b F D0 (.ok .nx (eput e i (.sh d))) := by
    unfold setE at h
    cases q : eat e i with
    | io _ => rw [q] at h; exact h.elim
    | no => rw [q] at h; exact h
    | sh _ => rw [q] at h; exact h
    | ow _ => rw [q] at h; exact h
  exact go _ F1 H (ok.put r) s
section
variable {i : Nat} {x : Str} {a : Expr} {f : En → Res D} {pos pos' : Pos}
theorem s_setM (hN : X.N.Nodup) (hi : X.N[i]? = some x) (hx : Loc X.env.scope x) (h : PE X a (tM X b f)) (hs : swapsWith a (some (.Name x pos')) pos.line X.env = pure false := by rfl) (hf : X.fn x = true ∨ X.env.scope.names.lookup x = some .local := by first | exact .inl rfl | exact .inr rfl | assumption) :
    PS X (.Assign [.Name x pos'] a pos) (tS X b (sSetM i f)) := ps_of (ps_set hN hi hx h hs hf) fun D0 σ H ⟨e, F, k, q⟩ => ⟨e, F, k, (aftS.step q σ).mono fun d e' z v F' H' k' s r => setM_in k' s z r⟩
theorem s_setE (hN : X.N.Nodup) (hi : X.N[i]? = some x) (hx : Loc X.env.scope x) (h : PE X a (tE X b f)) (hs : swapsWith a (some (.Name x pos')) pos.line X.env = pure false := by rfl) (hf : X.fn x = true ∨ X.env.scope.names.lookup x = some .local := by first | exact .inl rfl | exact .inr rfl | assumption) :
    PS X (.Assign [.Name x pos'] a pos) (tS X b (sSetE i f)) := ps_of (ps_set hN hi hx h hs hf) fun D0 σ H ⟨e, F, k, q⟩ => ⟨e, F, k, (aftS.step q σ).mono fun d e' z v F' H' k' s r => setE_in k' s z r⟩
end

/-! ### targets -/
def tgN (i : Nat) (d : D) (e : En) : Option En := match eat e i with
  | .io _ => none
  | _ => some (eput e i (.sh d))
def tgs : List Nat → List D → En → Option En
  | [], [], e => some e
  | i :: r, d :: ds, e => (tgN i d e).bind fun e => tgs r ds e
  | _, _, _ => none
def tgT (is : List Nat) (d : D) (e : En) : Option En := match d with
  | .tup ds => tgs is ds e
  | _ => none
def tG (X : Cx) (b : Bd0) (sl : List Nat) (gt : D → En → Option En) : TG := fun v σ H Q => ∃ e F d e', Ok (bd X b) F H σ e ∧ Rep X.w X.K F v d ∧ gt d e = some e' ∧ ∀ σ', Ok (bd X b) F H σ' e' → (∀ j, j ∉ sl → σ'[j]? = σ[j]?) → Q σ' H
theorem pg_of {tg : Expr} {t t' : TG} (h : PG X tg t) (i : ∀ v σ H Q, t' v σ H Q → t v σ H Q) : PG X tg t' := ⟨fun pins s σ H v u Q I r q => h.run pins s σ H v u Q I r (i v σ H Q q)⟩
theorem tgN_out {i : Nat} {d : D} {e' : En} (h : tgN i d e = some e') : e' = eput e i (.sh d) := by
  unfold tgN at h
  cases q : eat e i with
  | io _ => rw [q] at h; cases h
  | no => rw [q] at h; exact (Option.some.inj h).symm
  | sh _ => rw [q] at h; exact (Option.some.inj h).symm
  | ow _ => rw [q] at h; exact (Option.some.inj h).symm
theorem g_n {i : Nat} {x : Str} {pos : Pos} (hN : X.N.Nodup) (hi : X.N[i]? = some x) (hx : Loc X.env.scope x) (hf : X.fn x = true ∨ X.env.scope.names.lookup x = some .local := by first | exact .inl rfl | exact .inr rfl | assumption) : PG X (.Name x pos) (tG X b [i] (tgN i)) :=
  pg_of (pg_name hN hi hx hf) fun v σ H Q ⟨e, F, d, e', k, r, h, q⟩ => by
    have := tgN_out h
    subst this
    exact q _ (k.put r) fun j hj => List.getElem?_set_ne (Ne.symm (by simpa using hj))
def tGs (X : Cx) (b : Bd0) (is : List Nat) : TGs := fun vs σ H Q => ∃ e F ds e', Ok (bd X b) F H σ e ∧ RepL X.w X.K F vs ds ∧ tgs is ds e = some e' ∧ ∀ σ', Ok (bd X b) F H σ' e' → (∀ j, j ∉ is → σ'[j]? = σ[j]?) → Q σ' H
theorem gs_of {tg : List Expr} {t t' : TGs} (h : PGs X tg t) (i : ∀ v σ H Q, t' v σ H Q → t v σ H Q) : PGs X tg t' := ⟨fun pins s σ H v u Q I r q => h.run pins s σ H v u Q I r (i v σ H Q q)⟩
theorem gs_nil : PGs X [] (tGs X b []) := gs_of pgs_nil fun vs σ H Q ⟨e, F, ds, e', k, r, h, q⟩ => by
  cases r with
  | nil =>
    cases h
    exact ⟨rfl, q σ k fun _ _ => rfl⟩
  | cons _ _ => cases h
theorem gs_cons {i : Nat} {is : List Nat} {x : Str} {pos : Pos} {es : List Expr} (hN : X.N.Nodup) (hi : X.N[i]? = some x) (hx : Loc X.env.scope x) (t : PGs X es (tGs X b is)) (hf : X.fn x = true ∨ X.env.scope.names.lookup x = some .local := by first | exact .inl rfl | exact .inr rfl | assumption)
    (hs : (assignEach (.Name x pos :: es) X.env).map (·.2) = assign (.Name x pos) X.env :: (assignEach es X.env).map (·.2) := by rfl) : PGs X (.Name x pos :: es) (tGs X b (i :: is)) :=
  gs_of (pgs_cons (pg_name hN hi hx hf) t hs) fun vs σ H Q ⟨e, F, ds, e', k, r, h, q⟩ => by
    cases r with
    | nil => cases h
    | @cons v d vs ds r1 r2 =>
      cases y : tgN i d e with
      | none => rw [tgs, y] at h; cases h
      | some e1 =>
        rw [tgs, y] at h
        have := tgN_out y
        subst this
        refine ⟨v, vs, rfl, _, F, ds, e', k.put r1, r2, h, fun σ' k' hj => q σ' k' fun j m => ?_⟩
        rw [List.mem_cons, not_or] at m
        rw [hj j m.2]
        exact List.getElem?_set_ne (Ne.symm m.1)
theorem g_t {is : List Nat} {es : List Expr} {k : Nat} {pos : Pos} (hc : X.calm = true) (h : PGs X es (tGs X b is)) (hl : (assignEach es X.env).length = is.length := by rfl) (hst : (assignEach es X.env).findIdx? (·.1) = none := by rfl) : PG X (.Tuple es k pos) (tG X b is (tgT is)) :=
  pg_of (pg_tup hc h hl hst) fun v σ H Q ⟨e, F, d, e', ok, r, hh, q⟩ => by
    cases r with
    | tpx _ _ _ _ => cases hh
    | non => cases hh
    | bl _ => cases hh
    | int _ => cases hh
    | str _ => cases hh
    | lst _ _ _ => cases hh
    | scr _ _ _ => cases hh
    | dct _ _ _ _ _ _ _ => cases hh
    | @tup a vs ds hF z l =>
      have len : ∀ {is : List Nat} {ds : List D} {e e' : En}, tgs is ds e = some e' → ds.length = is.length := by
        intro is
        induction is with
        | nil =>
          intro ds e e' h
          cases ds with
          | nil => rfl
          | cons _ _ => cases h
        | cons i is ih =>
          intro ds e e' h
          cases ds with
          | nil => cases h
          | cons d ds =>
            rw [tgs] at h
            cases y : tgN i d e with
            | none => rw [y] at h; cases h
            | some e1 =>
              rw [y] at h
              rw [List.length_cons, List.length_cons, ih (show tgs is ds e1 = some e' from h)]
      exact ⟨a, vs, rfl, (hF.mono ok.sub).sqT, by rw [l.length]; exact len hh, e, F, ds, e', ok, l, hh, q⟩
/-- target = e -/
def sAsg (gt : D → En → Option En) (f : En → Res D) : En → Res Fl := fun e => (f e).bind fun d e => match gt d e with
  | some e => .ok .nx e
  | none => .stuck
theorem s_asg {tg a : Expr} {f : En → Res D} {sl : List Nat} {gt : D → En → Option En} {pos : Pos} (h : PE X a (tE X b f)) (hg : PG X tg (tG X b sl gt)) (hs : swapsWithSole [tg] a pos.line X.env = pure false := by rfl) (hw : swappedStores [tg] a X.env = pure none := by rfl)
    (h1 : (assignEach [tg] X.env).map (·.2) = [assign tg X.env] := by rfl) : PS X (.Assign [tg] a pos) (tS X b (sAsg gt f)) :=
  ps_of (ps_asg h hg hs hw h1) fun D0 σ H ⟨e, F, k, q⟩ => ⟨e, F, k, (aftS.step q σ).mono fun d e' z v F' H' k' s r => by
    cases y : gt d e' with
    | none => rw [y] at z; exact z.elim
    | some e1 =>
      rw [y] at z
      exact ⟨e', F', d, e1, k', r, y, fun σ' k2 _ => z σ' F' H' k2 s⟩⟩
/-- a, b = x, y -/
def sPar (i j : Nat) (f g : En → Res D) : En → Res Fl := fun e => (seqE [f, g] e).bind fun l e => match tgs [i, j] l e with
  | some e => .ok .nx e
  | none => .stuck
theorem s_par {i j : Nat} {x y : Str} {a c : Expr} {f g : En → Res D} {px py pt pos : Pos} {kt k2 pt2} (hc : X.calm = true) (hN : X.N.Nodup) (hi : X.N[i]? = some x) (hj : X.N[j]? = some y) (hij : i ≠ j)
    (hx : X.env.scope.names.lookup x = some .local) (hy : X.env.scope.names.lookup y = some .local) (ha : PA X [a, c] (tAs X b [f, g]))
    (hw : swappedStores [.Tuple [.Name x px, .Name y py] kt pt] (.Tuple [a, c] k2 pt2) X.env = pure (some [x, y]))
    (hs : swapsWithSole [.Tuple [.Name x px, .Name y py] kt pt] (.Tuple [a, c] k2 pt2) pos.line X.env = pure false := by rfl) :
    PS X (.Assign [.Tuple [.Name x px, .Name y py] kt pt] (.Tuple [a, c] k2 pt2) pos) (tS X b (sPar i j f g)) :=
  ps_of (ps_par hc hN hi hj hij hx hy ha hw hs) fun D0 σ H ⟨e, F, k, q⟩ => ⟨e, F, k, (aftS.step q σ).mono fun l e' z vs F' H' k' s r => by
    cases y : tgs [i, j] l e' with
    | none => rw [y] at z; exact z.elim
    | some e1 =>
      rw [y] at z
      match l, vs, r with
      | [d1, d2], [v1, v2], .cons r1 (.cons r2 .nil) =>
        refine ⟨v1, v2, rfl, ?_⟩
        rw [tgs] at y
        cases y1 : tgN i d1 e' with
        | none => rw [y1] at y; cases y
        | some e2 =>
          rw [y1] at y
          have h1 := tgN_out y1
          subst h1
          replace y : tgs [j] [d2] (eput e' i (.sh d1)) = some e1 := y
          rw [tgs] at y
          cases y2 : tgN j d2 (eput e' i (.sh d1)) with
          | none => rw [y2] at y; cases y
          | some e3 =>
            rw [y2] at y
            have h2 := tgN_out y2
            subst h2
            cases y
            exact z _ F' H' ((k'.put r1).put r2) s
      | [], _, _ => cases y
      | [_], _, _ =>
        rw [tgs] at y
        cases y1 : tgN i _ e' with
        | none => rw [y1] at y; cases y
        | some e2 => rw [y1] at y; cases y
      | _ :: _ :: _ :: _, _, _ =>
        rw [tgs] at y
        cases y1 : tgN i _ e' with
        | none => rw [y1] at y; cases y
        | some e2 =>
          rw [y1] at y
          replace y : tgs [j] _ e2 = some e1 := y
          rw [tgs] at y
          cases y2 : tgN j _ e2 with
          | none => rw [y2] at y; cases y
          | some e3 => rw [y2] at y; cases y⟩

/-! ### what is walked -/
def Walk (X : Cx) (J : It) (F : Hp) (ds : List D) : Prop := ∀ i H, Sub F H → (∀ d, ds[i]? = some d → J.go i H ∧ ∀ x H', J.yld i H x H' → H' = H ∧ Rep X.w X.K F x d) ∧ (ds.length ≤ i → J.stop i H)
def tI (X : Cx) (b : Bd0) (f : En → Res (List D)) : TI := fun σ H R => ∃ e F, Ok (bd X b) F H σ e ∧ aft X b F σ (f e) fun ds e' => ∀ J F' H', Ok (bd X b) F' H' σ e' → Sub F F' → Walk X J F' ds → R J H'
theorem pi_of {tg it : Expr} {t t' : TI} (h : PI X tg it t) (i : ∀ σ H R, t' σ H R → t σ H R) : PI X tg it t' := ⟨fun pins s σ H R I q => h.run pins s σ H R I (i σ H R q)⟩
theorem rangeD_get {lo : Int} {n i : Nat} {d : D} (h : ((List.range n).map fun k : Nat => D.int (lo + k))[i]? = some d) : i < n ∧ d = .int (lo + i) := by
  rw [List.getElem?_map] at h
  obtain ⟨k, hk, rfl⟩ := Option.map_eq_some_iff.mp h
  obtain ⟨h1, h2⟩ := List.getElem?_eq_some_iff.mp hk
  rw [List.length_range] at h1
  rw [List.getElem_range] at h2
  subst h2
  exact ⟨h1, rfl⟩
theorem walk_range (lo : Int) (n : Nat) (F : Hp) : Walk X (Itr lo n) F ((List.range n).map fun k : Nat => D.int (lo + k)) := fun i H s => by
  refine ⟨fun d h => ?_, fun h => ?_⟩
  · obtain ⟨h1, rfl⟩ := rangeD_get h
    refine ⟨h1, fun x H' ⟨e1, e2⟩ => ⟨e1, ?_⟩⟩
    subst e2
    exact .int _
  · rw [List.length_map, List.length_range] at h
    exact h
/-- range(n), range(a, b) -/
def rgD (lo : Int) (n : Nat) : List D := (List.range n).map fun k : Nat => D.int (lo + k)
def iRg1 (f : En → Res D) : En → Res (List D) := fun e => (f e).bind fun d e => match d with
  | .int j => if -(2 ^ 62) ≤ j ∧ j < 2 ^ 62 then .ok (rgD 0 j.toNat) e else .stuck
  | _ => .stuck
def iRg2 (f g : En → Res D) : En → Res (List D) := fun e => (f e).bind fun d e => (g e).bind fun c e => match d, c with
  | .int i, .int j => if -(2 ^ 62) ≤ i ∧ i < 2 ^ 62 ∧ -(2 ^ 62) ≤ j ∧ j < 2 ^ 62 then .ok (rgD i (j - i).toNat) e else .stuck
  | _, _ => .stuck
theorem rg2_out {d c : D} {k : List D → En → Prop} (h : aft X b F σ (match d, c with
  | .int i, .int j => if -(2 ^ 62) ≤ i ∧ i < 2 ^ 62 ∧ -(2 ^ 62) ≤ j ∧ j < 2 ^ 62 then .ok (rgD i (j - i).toNat) e else .stuck
  | _, _ => .stuck) k) : ∃ i j, d = .int i ∧ c = .int j ∧ (-(2 ^ 62) ≤ i ∧ i < 2 ^ 62 ∧ -(2 ^ 62) ≤ j ∧ j < 2 ^ 62) ∧ k (rgD i (j - i).toNat) e := by
  split at h
  · rename_i i j
    by_cases hj : -(2 ^ 62) ≤ i ∧ i < 2 ^ 62 ∧ -(2 ^ 62) ≤ j ∧ j < 2 ^ 62
    · rw [if_pos hj] at h
      exact ⟨i, j, rfl, rfl, hj, h⟩
    · rw [if_neg hj] at h
      exact h.elim
  · exact h.elim
theorem i_rg1 {tg a : Expr} {f : En → Res D} {p pos : Pos} (hg : Gl X "range") (hm : X.mg "range" = none) (ha : PE X a (tE X b f)) (hs : starEach [a] X.env = [(false, eval a X.env)] := by rfl) : PI X tg (.Call (.Name "range" p) [a] [] pos) (tI X b (iRg1 f)) := by
  have hA : PA X [a] (tAs X b [f]) := d_cons ha d_nil hs
  refine pi_of (pi_range1 hg hm hA hs) fun σ H R ⟨e, F, ok, q⟩ => ⟨e, F, ok, ?_⟩
  have h1 := aft.bind q
  show aft X b F σ ((f e).bind fun a e => (seqE [] e).bind fun l e => .ok (a :: l) e) _
  cases y : f e with
  | ex c e1 => rw [y] at h1; exact h1
  | stuck => rw [y] at h1; exact h1
  | ok d e1 =>
    rw [y] at h1
    intro vs F' H' ok' s r
    match vs, r with
    | [v], .cons r .nil =>
      cases d with
      | int j =>
        have h2 : aft X b F σ (if -(2 ^ 62) ≤ j ∧ j < 2 ^ 62 then .ok (rgD 0 j.toNat) e1 else .stuck) _ := h1
        cases r
        by_cases hj : -(2 ^ 62) ≤ j ∧ j < 2 ^ 62
        · rw [if_pos hj] at h2
          exact ⟨j, rfl, hj.1, hj.2, h2 _ F' H' ok' s (walk_range 0 j.toNat F')⟩
        · rw [if_neg hj] at h2
          exact h2.elim
      | _ => exact h1.elim
theorem i_rg2 {tg a c : Expr} {f g : En → Res D} {p pos : Pos} (hg : Gl X "range") (hm : X.mg "range" = none) (ha : PE X a (tE X b f)) (hc : PE X c (tE X b g)) (hs : starEach [a, c] X.env = [(false, eval a X.env), (false, eval c X.env)] := by rfl) (hs2 : starEach [c] X.env = [(false, eval c X.env)] := by rfl) :
    PI X tg (.Call (.Name "range" p) [a, c] [] pos) (tI X b (iRg2 f g)) := by
  have hA : PA X [a, c] (tAs X b [f, g]) := d_cons ha (d_cons hc d_nil hs2) (by rw [hs, hs2])
  refine pi_of (pi_range2 hg hm hA hs hs2) fun σ H R ⟨e, F, ok, q⟩ => ⟨e, F, ok, ?_⟩
  have h1 := aft.bind q
  show aft X b F σ ((f e).bind fun a e => ((g e).bind fun a e => (seqE [] e).bind fun l e => .ok (a :: l) e).bind fun l e => .ok (a :: l) e) _
  cases y : f e with
  | ex c e1 => rw [y] at h1; exact h1
  | stuck => rw [y] at h1; exact h1
  | ok d e1 =>
    rw [y] at h1
    have h2 := aft.bind (show aft X b F σ ((g e1).bind _) _ from h1)
    show aft X b F σ (((g e1).bind fun a e => (seqE [] e).bind fun l e => .ok (a :: l) e).bind fun l e => .ok (d :: l) e) _
    cases y2 : g e1 with
    | ex c e1 => rw [y2] at h2; exact h2
    | stuck => rw [y2] at h2; exact h2
    | ok d2 e2 =>
      rw [y2] at h2
      intro vs F' H' ok' s r
      obtain ⟨i, j, rfl, rfl, hj, h3⟩ := rg2_out h2
      match vs, r with
      | [v, v2], .cons r (.cons r2 .nil) =>
        cases r
        cases r2
        exact ⟨i, j, rfl, hj, h3 _ F' H' ok' s (walk_range i (j - i).toNat F')⟩

/-! ### for -/
def forL (gt : D → En → Option En) (body : En → Res Fl) : List D → En → Res Fl
  | [], e => .ok .nx e
  | x :: xs, e => match gt x e with
    | none => .stuck
    | some e1 => (body e1).bind fun fl e2 => match fl with
      | .nx => forL gt body xs e2
      | .ct => forL gt body xs e2
      | .bk => .ok .nx e2
      | .rt d => .ok (.rt d) e2
def sFor (fi : En → Res (List D)) (gt : D → En → Option En) (body : En → Res Fl) : En → Res Fl := fun e => (fi e).bind fun ds e => forL gt body ds e
theorem s_for {tg it : Expr} {body : List Stmt} {fi : En → Res (List D)} {sl : List Nat} {gt : D → En → Option En} {f : En → Res Fl} {pos : Pos} (hp : PassesOwn (model X.prog X.w) X.A X.env X.xe) (hc : X.calm = true) (hi : PI X tg it (tI X b fi)) (hg : PG X tg (tG X b sl gt)) (hb : PSs X body (tS X b f))
    (hs : ∀ x, foldedSetIterable it X.env x = pure x := by intro _; rfl) : PS X (.For tg it body [] pos) (tS X b (sFor fi gt f)) := by
  refine ps_of (ps_for hp hc hi hg hb hs) fun D0 σ H ⟨e, F, ok, q⟩ => ⟨e, F, ok, (aftS.step q σ).mono fun ds e1 z J F1 H1 ok1 s1 wk => ?_⟩
  refine ⟨fun i m σ' H' => i ≤ ds.length ∧ m = ds.length - i ∧ ∃ e' F', Ok (bd X b) F' H' σ' e' ∧ Sub F1 F' ∧ aftS X b F' D0 (forL gt f (ds.drop i) e'), ⟨_, Nat.zero_le _, rfl, e1, F1, ok1, Sub.refl _, z.sub s1⟩, fun i m σ' H' ⟨hle, hm, e', F', ok', s', q'⟩ => ?_⟩
  have sw : Sub F1 H' := s'.trans ok'.sub
  by_cases hlt : i < ds.length
  · have hd : ds[i]? = some ds[i] := List.getElem?_eq_getElem hlt
    rw [List.drop_eq_getElem_cons hlt, forL] at q'
    obtain ⟨g1, g2⟩ := (wk i H' sw).1 _ hd
    refine .inr ⟨g1, fun σ2 H2 => (i + 1) ≤ ds.length ∧ ∃ e' F', Ok (bd X b) F' H2 σ2 e' ∧ Sub F1 F' ∧ aftS X b F' D0 (forL gt f (ds.drop (i + 1)) e'), fun σ2 H2 ⟨a1, a2⟩ => ⟨ds.length - (i + 1), by omega, a1, rfl, a2⟩, fun x H2 yl => ?_⟩
    obtain ⟨rfl, rx⟩ := g2 x H2 yl
    cases y : gt ds[i] e' with
    | none => rw [y] at q'; exact q'.elim
    | some e2 =>
      rw [y] at q'
      replace q' : aftS X b F' D0 ((f e2).bind fun fl e2 => match fl with
        | .nx => forL gt f (ds.drop (i + 1)) e2
        | .ct => forL gt f (ds.drop (i + 1)) e2
        | .bk => .ok .nx e2
        | .rt d => .ok (.rt d) e2) := q'
      refine ⟨e', F', ds[i], e2, ok', rx.mono s', y, fun σ2 ok2 _ => ⟨e2, F', ok2, ?_⟩⟩
      cases y2 : f e2 with
      | ok fl e3 =>
        rw [y2] at q'
        cases fl with
        | nx => exact fun σ3 F3 H3 ok3 s3 => ⟨by omega, e3, F3, ok3, s'.trans s3, (show aftS X b F' D0 (forL gt f (ds.drop (i + 1)) e3) from q').sub s3⟩
        | ct => exact fun σ3 F3 H3 ok3 s3 => ⟨by omega, e3, F3, ok3, s'.trans s3, (show aftS X b F' D0 (forL gt f (ds.drop (i + 1)) e3) from q').sub s3⟩
        | bk => exact q'
        | rt d => exact q'
      | ex c e3 =>
        rw [y2] at q'
        exact q'
      | stuck =>
        rw [y2] at q'
        exact q'
  · have hi : i = ds.length := by omega
    subst hi
    rw [List.drop_length] at q'
    exact .inl ⟨(wk _ H' sw).2 (Nat.le_refl _), q' σ' F' H' ok' (Sub.refl _)⟩

/-! ### while -/
def whileL (c : En → Res Bool) (body : En → Res Fl) : Nat → En → Res Fl
  | 0, _ => .stuck
  | n + 1, e => (c e).bind fun k e => if k then (body e).bind fun fl e => match fl with
      | .nx => whileL c body n e
      | .ct => whileL c body n e
      | .bk => .ok .nx e
      | .rt d => .ok (.rt d) e
    else .ok .nx e
def sWhile (n : Nat) (c : En → Res Bool) (body : En → Res Fl) : En → Res Fl := fun e => whileL c body n e
theorem s_while (n : Nat) {c : Expr} {body : List Stmt} {k : En → Res Bool} {f : En → Res Fl} {pos : Pos} (hp : PassesOwn (model X.prog X.w) X.A X.env X.xe) (hc : PT X c (tT X b k)) (hb : PSs X body (tS X b f)) : PS X (.While c body [] pos) (tS X b (sWhile n k f)) := by
  refine ps_of (ps_while hp hc hb) fun D0 σ H ⟨e, F, ok, q⟩ => ⟨fun m σ' H' => ∃ e' F', Ok (bd X b) F' H' σ' e' ∧ aftS X b F' D0 (whileL k f m e'), ⟨n, e, F, ok, q⟩, fun m σ' H' ⟨e', F', ok', q'⟩ => ?_⟩
  cases m with
  | zero => exact q'.elim
  | succ m =>
    rw [whileL] at q'
    refine ⟨e', F', ok', (aftS.step q' σ').mono fun t e1 z F1 H1 ok1 s1 => ?_⟩
    cases t with
    | false => exact (show aftS X b F' D0 (.ok .nx e1) from z) σ' F1 H1 ok1 s1
    | true =>
      replace z : aftS X b F' D0 ((f e1).bind fun fl e => match fl with
        | .nx => whileL k f m e
        | .ct => whileL k f m e
        | .bk => .ok .nx e
        | .rt d => .ok (.rt d) e) := z
      refine ⟨fun σ2 H2 => ∃ e' F', Ok (bd X b) F' H2 σ2 e' ∧ aftS X b F' D0 (whileL k f m e'), fun σ2 H2 h => ⟨m, Nat.lt_succ_self _, h⟩, e1, F1, ok1, ?_⟩
      have z' := z.sub s1
      cases y2 : f e1 with
      | ok fl e3 =>
        rw [y2] at z'
        cases fl with
        | nx => exact fun σ3 F3 H3 ok3 s3 => ⟨e3, F3, ok3, (show aftS X b F1 D0 (whileL k f m e3) from z').sub s3⟩
        | ct => exact fun σ3 F3 H3 ok3 s3 => ⟨e3, F3, ok3, (show aftS X b F1 D0 (whileL k f m e3) from z').sub s3⟩
        | bk => exact z'
        | rt d => exact z'
      | ex c e3 =>
        rw [y2] at z'
        exact z'
      | stuck =>
        rw [y2] at z'
        exact z'
end
end MP

set_option Elab.async false
set_option linter.all false
set_option maxRecDepth 100000
set_option autoImplicit false
namespace MP
open PySem L2

/-! ### what a def promises -/
inductive FRes where
  | ok (d : D) (outs : List D)
  | ex (c : Exn) (outs : List D)
  | stuck
abbrev FSem := List D → FRes
inductive ArgsOk (w : World) (K : PySem.W.Frag) (F H : Hp) : List Bool → List V → List D → Prop
  | nil : ArgsOk w K F H [] [] []
  | sh {v : V} {d : D} {ms : List Bool} {vs : List V} {ds : List D} : Rep w K F v d → ArgsOk w K F H ms vs ds → ArgsOk w K F H (false :: ms) (v :: vs) (d :: ds)
  | io {a : Addr} {d : D} {ms : List Bool} {vs : List V} {ds : List D} : F a = none → Own w K F H a d → ArgsOk w K F H ms vs ds → ArgsOk w K F H (true :: ms) (.ref a :: vs) (d :: ds)
/-- the objects that are handed over -/
def ioA : List Bool → List V → List Addr
  | true :: ms, .ref a :: vs => a :: ioA ms vs
  | _ :: ms, _ :: vs => ioA ms vs
  | _, _ => []
structure CPost (F H : Hp) (A : List Addr) (F' H' : Hp) : Prop where
  f : Sub F F'
  s : Sub F' H'
  keep : ∀ a o, H a = some o → a ∉ A → H' a = some o
  dom : ∀ a o, H a = some o → ∃ o', H' a = some o'
  new : ∀ a, F' a ≠ none → F a = none → H a = none
inductive Outs (w : World) (K : PySem.W.Frag) (F H : Hp) : List Addr → List D → Prop
  | nil : Outs w K F H [] []
  | cons {a : Addr} {d : D} {as : List Addr} {ds : List D} : Own w K F H a d → Outs w K F H as ds → Outs w K F H (a :: as) (d :: ds)
def Mv' (w : World) (K : PySem.W.Frag) (H F' H' : Hp) (v : V) (d : D) : Prop := (d.isMut = false ∧ Rep w K F' v d) ∨ (d.isMut = true ∧ ∃ p, v = .ref p ∧ H p = none ∧ F' p = none ∧ Own w K F' H' p d)
def XW (ce : Exn → Option Addr) (c : Exn) (E : XK) (H : Hp) : Prop := ∃ C, ce c = some C ∧ E (.ref C) none H
def spF (w : World) (K : PySem.W.Frag) (ce : Exn → Option Addr) (ms : List Bool) (f : FSem) : Sp := fun vs H Q E => ∃ (ds : List D) (F : Hp), Sub F H ∧ ArgsOk w K F H ms vs ds ∧ (ioA ms vs).Nodup ∧
  match f ds with
  | .ok d outs => ∀ v F' H', CPost F H (ioA ms vs) F' H' → Outs w K F' H' (ioA ms vs) outs → Mv' w K H F' H' v d → Q v H'
  | .ex c outs => ∀ F' H', CPost F H (ioA ms vs) F' H' → Outs w K F' H' (ioA ms vs) outs → XW ce c E H'
  | .stuck => False
theorem ArgsOk.len {w : World} {K : PySem.W.Frag} {F H : Hp} {ms : List Bool} {vs : List V} {ds : List D} (h : ArgsOk w K F H ms vs ds) : vs.length = ms.length ∧ ds.length = ms.length := by
  induction h with
  | nil => exact ⟨rfl, rfl⟩
  | sh _ _ ih => exact ⟨congrArg (· + 1) ih.1, congrArg (· + 1) ih.2⟩
  | io _ _ _ ih => exact ⟨congrArg (· + 1) ih.1, congrArg (· + 1) ih.2⟩

/-! ### a def's body -/
def startS : List Bool → List D → En
  | true :: ms, d :: ds => .io d :: startS ms ds
  | false :: ms, d :: ds => .sh d :: startS ms ds
  | _, _ => []
def startE (n : Nat) (ms : List Bool) (ds : List D) : En := startS ms ds ++ List.replicate (n - ds.length) .no
/-- what the handed objects hold at the end -/
def outsE : List Bool → En → Option (List D)
  | true :: ms, .io d :: e => (outsE ms e).map (d :: ·)
  | true :: _, _ => none
  | false :: ms, _ :: e => outsE ms e
  | false :: _, [] => none
  | [], _ => some []
def endF (ms : List Bool) : Res Fl → FRes
  | .ok (.rt d) e => match outsE ms e with
    | some o => .ok d o
    | none => .stuck
  | .ok .nx e => match outsE ms e with
    | some o => .ok .non o
    | none => .stuck
  | .ex c e => match outsE ms e with
    | some o => .ex c o
    | none => .stuck
  | _ => .stuck
def runF (n : Nat) (ms : List Bool) (body : En → Res Fl) : FSem := fun ds => endF ms (body (startE n ms ds))

section
variable {X : Cx} {b : Bd0} {F H : Hp} {σ : St} {e : En}
theorem startS_length {w : World} {K : PySem.W.Frag} : ∀ {ms : List Bool} {vs : List V} {ds : List D}, ArgsOk w K F H ms vs ds → (startS ms ds).length = ds.length
  | _, _, _, .nil => rfl
  | _, _, _, .sh _ t => by rw [startS, List.length_cons, List.length_cons, startS_length t]
  | _, _, _, .io _ _ t => by rw [startS, List.length_cons, List.length_cons, startS_length t]
theorem eat_app_no : ∀ (e : En) (n i : Nat), eat (e ++ List.replicate n .no) i = if i < e.length then eat e i else .no
  | [], n, i => by
    rw [List.nil_append]
    have : ∀ (n i : Nat), eat (List.replicate n Slot.no) i = .no := by
      intro n
      induction n with
      | zero => intro i; rfl
      | succ n ih =>
        intro i
        cases i with
        | zero => rfl
        | succ i => exact ih i
    rw [this]
    rfl
  | s :: e, n, 0 => rfl
  | s :: e, n, i + 1 => by
    show eat (e ++ List.replicate n .no) i = _
    rw [eat_app_no e n i]
    simp only [List.length_cons, Nat.add_lt_add_iff_right]
    rfl
theorem startS_at {w : World} {K : PySem.W.Frag} : ∀ {ms : List Bool} {vs : List V} {ds : List D}, ArgsOk w K F H ms vs ds → ∀ i,
    (∀ d, eat (startS ms ds) i = .sh d → ∃ v, vs[i]? = some v ∧ Rep w K F v d) ∧ (∀ d, eat (startS ms ds) i ≠ .ow d) ∧
    (∀ d, eat (startS ms ds) i = .io d → ∃ a, vs[i]? = some (.ref a) ∧ F a = none ∧ Own w K F H a d ∧ a ∈ ioA ms vs)
  | _, _, _, .nil, i => ⟨fun d h => (by cases h), fun d h => (by cases h), fun d h => (by cases h)⟩
  | _, _, _, .sh r t, 0 => ⟨fun d h => (by cases h; exact ⟨_, rfl, r⟩), fun d h => (by cases h), fun d h => (by cases h)⟩
  | _, _, _, .io n o t, 0 => ⟨fun d h => (by cases h), fun d h => (by cases h), fun d h => (by cases h; exact ⟨_, rfl, n, o, List.mem_cons_self⟩)⟩
  | _, _, _, .sh r t, i + 1 => by
    obtain ⟨h1, h2, h3⟩ := startS_at t i
    refine ⟨fun d h => h1 d h, fun d h => h2 d h, fun d h => ?_⟩
    obtain ⟨a, q1, q2, q3, q4⟩ := h3 d h
    refine ⟨a, q1, q2, q3, ?_⟩
    unfold ioA
    exact q4
  | _, _, _, .io n o t, i + 1 => by
    obtain ⟨h1, h2, h3⟩ := startS_at t i
    refine ⟨fun d h => h1 d h, fun d h => h2 d h, fun d h => ?_⟩
    obtain ⟨a, q1, q2, q3, q4⟩ := h3 d h
    exact ⟨a, q1, q2, q3, List.mem_cons_of_mem _ q4⟩
theorem startS_inj {w : World} {K : PySem.W.Frag} : ∀ {ms : List Bool} {vs : List V} {ds : List D}, ArgsOk w K F H ms vs ds → (ioA ms vs).Nodup → ∀ i j d d' a, eat (startS ms ds) i = .io d → eat (startS ms ds) j = .io d' → vs[i]? = some (.ref a) → vs[j]? = some (.ref a) → i = j
  | _, _, _, .nil, _, i, j, d, d', a, h, _, _, _ => by cases h
  | _, _, _, .sh r t, n, 0, j, d, d', a, h, _, _, _ => by cases h
  | _, _, _, .sh r t, n, i + 1, 0, d, d', a, _, h, _, _ => by cases h
  | _, _, _, .sh r t, n, i + 1, j + 1, d, d', a, h1, h2, h3, h4 => congrArg (· + 1) (startS_inj t (by unfold ioA at n; exact n) i j d d' a h1 h2 h3 h4)
  | _, _, _, .io f o t, n, 0, 0, d, d', a, _, _, _, _ => rfl
  | _, _, _, .io f o t, n, 0, j + 1, d, d', a, h1, h2, h3, h4 => by
    cases h3
    obtain ⟨a', q1, q2, q3, q4⟩ := (startS_at t j).2.2 d' h2
    have h4' : _ = some (V.ref _) := h4
    rw [List.getElem?_cons_succ, q1] at h4'
    cases h4'
    exact absurd q4 (List.nodup_cons.mp n).1
  | _, _, _, .io f o t, n, i + 1, 0, d, d', a, h1, h2, h3, h4 => by
    cases h4
    obtain ⟨a', q1, q2, q3, q4⟩ := (startS_at t i).2.2 d h1
    have h3' : _ = some (V.ref _) := h3
    rw [List.getElem?_cons_succ, q1] at h3'
    cases h3'
    exact absurd q4 (List.nodup_cons.mp n).1
  | _, _, _, .io f o t, n, i + 1, j + 1, d, d', a, h1, h2, h3, h4 => congrArg (· + 1) (startS_inj t (List.nodup_cons.mp n).2 i j d d' a h1 h2 h3 h4)
def adOf (vs : List V) (i : Nat) : Addr := match vs[i]? with
  | some (.ref a) => a
  | _ => 0
theorem io0_of {w : World} {K : PySem.W.Frag} : ∀ {ms : List Bool} {vs : List V} {ds : List D}, ArgsOk w K F H ms vs ds → ∀ a, a ∈ ioA ms vs → ∃ o, H a = some o
  | _, _, _, .nil, a, m => by cases m
  | _, _, _, .sh r t, a, m => by
    unfold ioA at m
    exact io0_of t a m
  | _, _, _, .io n o t, a, m => by
    rcases List.mem_cons.mp (show a ∈ _ :: _ from m) with rfl | m
    · exact o.some
    · exact io0_of t a m
/-- the entry -/
theorem Ok.start {W : Exn → St → En → Hp → Hp → Prop} {N : List Str} {ms : List Bool} {vs : List V} {ds : List D} (sub : Sub F H) (ar : ArgsOk X.w X.K F H ms vs ds) (nd : (ioA ms vs).Nodup) (hN : vs.length ≤ N.length) :
    Ok (bd X ⟨H, F, adOf vs, ioA ms vs, W, io0_of ar⟩) F H (L2.start N vs) (startE N.length ms ds) := by
  have hl := ar.len
  have h1 : (startS ms ds).length = vs.length := by rw [startS_length ar, hl.1, hl.2]
  have sv : ∀ i v, vs[i]? = some v → (L2.start N vs)[i]? = some (some v) := fun i v h => by
    have hi := (List.getElem?_eq_some_iff.mp h).1
    show (vs.map some ++ List.replicate (N.length - vs.length) none)[i]? = some (some v)
    rw [List.getElem?_append_left (by rw [List.length_map]; exact hi), List.getElem?_map, h]
    rfl
  have at' : ∀ i s, eat (startE N.length ms ds) i = s → s ≠ .no → eat (startS ms ds) i = s := fun i s h n => by
    unfold startE at h
    rw [eat_app_no] at h
    split at h
    · exact h
    · exact absurd h.symm n
  refine ⟨sub, Sub.refl F, fun a o h => ⟨o, h⟩, fun a o h n _ => ⟨n, h⟩, fun a h n => absurd n h, ?_, fun i d h => ?_, fun i d h => ?_, fun i d h => ?_, fun i j d d' a h => ?_, fun i j d d' h h' q => ?_⟩
  · show (vs.map some ++ List.replicate (N.length - vs.length) none).length = (startS ms ds ++ List.replicate (N.length - ds.length) Slot.no).length
    rw [List.length_append, List.length_append, List.length_map, List.length_replicate, List.length_replicate, h1, hl.1, hl.2]
  · obtain ⟨v, q1, q2⟩ := (startS_at ar i).1 d (at' i _ h (by simp))
    exact ⟨v, sv i v q1, q2⟩
  · exact absurd (at' i _ h (by simp)) ((startS_at ar i).2.1 d)
  · obtain ⟨a, q1, q2, q3, q4⟩ := (startS_at ar i).2.2 d (at' i _ h (by simp))
    have ea : adOf vs i = a := by unfold adOf; rw [q1]
    obtain ⟨o, ho⟩ := q3.some
    show (L2.start N vs)[i]? = some (some (.ref (adOf vs i))) ∧ F (adOf vs i) = none ∧ Own X.w X.K F H (adOf vs i) d ∧ adOf vs i ∈ ioA ms vs ∧ ∃ o, H (adOf vs i) = some o
    rw [ea]
    exact ⟨sv i _ q1, q2, q3, q4, o, ho⟩
  · exact absurd (at' i _ h (by simp)) ((startS_at ar i).2.1 d)
  · obtain ⟨a, q1, _⟩ := (startS_at ar i).2.2 d (at' i _ h (by simp))
    obtain ⟨a', q1', _⟩ := (startS_at ar j).2.2 d' (at' j _ h' (by simp))
    have ea : adOf vs i = a := by unfold adOf; rw [q1]
    have ea' : adOf vs j = a' := by unfold adOf; rw [q1']
    have q' : adOf vs i = adOf vs j := q
    rw [ea, ea'] at q'
    subst q'
    exact startS_inj ar nd i j d d' a (at' i _ h (by simp)) (at' j _ h' (by simp)) q1 q1'
/-- the end -/
theorem Ok.cpost {W : Exn → St → En → Hp → Hp → Prop} {A : List Addr} {ad : Nat → Addr} {i0 : ∀ a, a ∈ A → ∃ o, H a = some o} {F' H' : Hp} (s0 : Sub F H) (k : Ok (bd X ⟨H, F, ad, A, W, i0⟩) F' H' σ e) : CPost F H A F' H' := by
  refine ⟨k.f0, k.sub, fun a o h n => ?_, k.dom, fun a h n => k.ent a h n⟩
  cases q : F a with
  | none => exact (k.res a o h q n).2
  | some u =>
    have h1 := s0 a u q
    rw [h] at h1
    cases h1
    exact k.sub a _ (k.f0 a _ q)
theorem outs_at {w : World} {K : PySem.W.Frag} {F' H' : Hp} : ∀ {ms : List Bool} {vs : List V} {ds : List D} {e : En} {o : List D}, ArgsOk w K F H ms vs ds → outsE ms e = some o → (∀ i d a, eat e i = .io d → vs[i]? = some (.ref a) → Own w K F' H' a d) → Outs w K F' H' (ioA ms vs) o
  | _, _, _, e, o, .nil, h, q => by cases h; exact .nil
  | _, _, _, [], o, .sh r t, h, q => by cases h
  | _, _, _, s :: e, o, .sh r t, h, q => by
    have := outs_at t (show outsE _ e = some o from h) fun i d a h1 h2 => q (i + 1) d a h1 h2
    unfold ioA
    exact this
  | _, _, _, [], o, .io n r t, h, q => by cases h
  | _, _, _, s :: e, o, .io n r t, h, q => by
    cases s with
    | io d =>
      obtain ⟨o', ho, rfl⟩ := Option.map_eq_some_iff.mp (show (outsE _ e).map (d :: ·) = some o from h)
      exact .cons (q 0 d _ rfl rfl) (outs_at t ho fun i d a h1 h2 => q (i + 1) d a h1 h2)
    | no => cases h
    | sh _ => cases h
    | ow _ => cases h
/-- a body keeps its def's promise -/
theorem run_ok {ce : Exn → Option Addr} {N : List Str} {ms : List Bool} {vs : List V} {body : List Stmt} {f : En → Res Fl} {Q : VK} {E : XK} (hN : ms.length ≤ N.length)
    (hb : ∀ b : Bd0, b.W = (fun c _ _ _ H' => XW ce c E H') → PSs X body (tS X b f)) (h : spF X.w X.K ce ms (runF N.length ms f) vs H Q E) : ∃ t, PSs X body t ∧ t { nx := fun _ H' => Q .non H', rt := Q } (L2.start N vs) H := by
  obtain ⟨ds, F, sub, ar, nd, h⟩ := h
  have hl := ar.len
  refine ⟨_, hb ⟨H, F, adOf vs, ioA ms vs, fun c _ _ _ H' => XW ce c E H', io0_of ar⟩ rfl, startE N.length ms ds, F, Ok.start sub ar nd (by rw [hl.1]; exact hN), ?_⟩
  have own : ∀ {e' : En} {σ' : St} {F' H' : Hp}, Ok (bd X ⟨H, F, adOf vs, ioA ms vs, fun c _ _ _ H' => XW ce c E H', io0_of ar⟩) F' H' σ' e' → ∀ i d a, eat e' i = .io d → vs[i]? = some (.ref a) → Own X.w X.K F' H' a d := by
    intro e' σ' F' H' k i d a h1 h2
    obtain ⟨_, _, q3, _⟩ := k.ios i d h1
    have ea : adOf vs i = a := by unfold adOf; rw [h2]
    have q3' : Own X.w X.K F' H' (adOf vs i) d := q3
    rw [ea] at q3'
    exact q3'
  unfold runF at h
  cases q : f (startE N.length ms ds) with
  | stuck => rw [q] at h; exact h.elim
  | ex c e' =>
    rw [q] at h
    cases y : outsE ms e' with
    | none => simp only [endF, y] at h
    | some o =>
      simp only [endF, y] at h
      exact fun σ' F' H' k s => h F' H' (k.cpost sub) (outs_at ar y (own k))
  | ok fl e' =>
    rw [q] at h
    cases fl with
    | bk => exact h.elim
    | ct => exact h.elim
    | nx =>
      cases y : outsE ms e' with
      | none => simp only [endF, y] at h
      | some o =>
        simp only [endF, y] at h
        exact fun σ' F' H' k s => h .non F' H' (k.cpost sub) (outs_at ar y (own k)) (.inl ⟨rfl, .non⟩)
    | rt d =>
      cases y : outsE ms e' with
      | none => simp only [endF, y] at h
      | some o =>
        simp only [endF, y] at h
        refine fun v σ' F' H' k s mv => h v F' H' (k.cpost sub) (outs_at ar y (own k)) ?_
        rcases mv with mv | ⟨m, p, rfl, r⟩
        · exact .inl mv
        · exact .inr ⟨m, p, rfl, r.n0, r.n, r.own⟩
end

/-! ### a def that stands -/
structure DefOk (P : Program) (w : World) (K : PySem.W.Frag) (mg : Str → Option Value) (base : Heap) (CX : CXT) (ce : Exn → Option Addr) (k : Nat) (x : Str) (ms : List Bool) (f : FSem) : Prop where
  ex : ∃ (fa : Addr) (fd : FuncData) (ps : List Str), mg x = some (.ref fa) ∧ PySem.W.keepIn K (.ref fa) = true ∧ Binds K fd ps [] ∧ FnOk P w K mg base CX k fa fd ps (spF w K ce ms f)
def ce0 : Exn → Option Addr := fun _ => none
/-- a def from its body, where nothing is raised -/
theorem def_ok {P : Program} {w : World} {K : PySem.W.Frag} {mg : Str → Option Value} {base : Heap} {x : Str} {st : Stmt} {fa : Addr} {fd : FuncData} {N ps : List Str} {k : Nat} {ms : List Bool} {f : En → Res Fl} (G : Fun K x x st fa fd) (S : FnScope N ps (defScope st)) (hm : mg x = some (.ref fa)) (hb : Binds K fd ps [])
    (hps : ms.length = ps.length) (hN : ms.length ≤ N.length)
    (body : ∀ (cdv : Value) (A : Around) (outer : List Env) (s : Shared) (H : Hp) (E : XK) (b : Bd0), Room k (A.deeper (PyProof.Rows.envOfC x (defScope st) s.heap.objs.size fa cdv)) → PSs (cxOf CX0 P w K mg base N x (defScope st) fa cdv A outer s H E).nox (defBody st) (tS (cxOf CX0 P w K mg base N x (defScope st) fa cdv A outer s H E).nox b f)) :
    DefOk P w K mg base CX0 ce0 (k + 1) x ms (runF N.length ms f) :=
  ⟨fa, fd, ps, hm, G.kp, hb, G.ok S (fun vs H Q E ⟨ds, F, _, ar, _⟩ => by rw [ar.len.1, hps]) fun cdv A outer s H vs Q E hr h =>
    run_ok (X := (cxOf CX0 P w K mg base N x (defScope st) fa cdv A outer s H E).nox) (ce := ce0) (E := E) hN (fun b _ => body cdv A outer s H E b hr) h⟩
theorem DefOk.mono {P : Program} {w : World} {K : PySem.W.Frag} {mg : Str → Option Value} {base : Heap} {CX : CXT} {ce : Exn → Option Addr} {j k : Nat} {x : Str} {ms : List Bool} {f : FSem} (G : DefOk P w K mg base CX ce j x ms f) (h : j ≤ k) : DefOk P w K mg base CX ce k x ms f := by
  obtain ⟨fa, fd, ps, h1, h2, h3, h4⟩ := G.ex
  exact ⟨fa, fd, ps, h1, h2, h3, h4.mono h⟩

/-! ### a call -/
inductive CArgs where
  | nil
  | s (g : En → Res D) (r : CArgs)
  | io (i : Nat) (r : CArgs)
  | tmp (g : En → Res D) (ks : List D)
def mutAt {α : Type} (i : Nat) (e : En) (k : D → Res α) : Res α := match (eat e i).mut with
  | some d => k d
  | none => .stuck
def cargs : CArgs → En → Res (List D)
  | .nil, e => .ok [] e
  | .s g r, e => (g e).bind fun d e => (cargs r e).bind fun l e => .ok (d :: l) e
  | .io i r, e => mutAt i e fun _ => (cargs r e).bind fun l e => mutAt i e fun d => .ok (d :: l) e
  | .tmp g ks, e => (g e).bind fun d e => if d.isMut then .ok (d :: ks) e else .stuck
def msOf : CArgs → List Bool
  | .nil => []
  | .s _ r => false :: msOf r
  | .io _ r => true :: msOf r
  | .tmp _ ks => true :: ks.map fun _ => false
def slotsOf : CArgs → List Nat
  | .nil => []
  | .s _ r => slotsOf r
  | .io i r => i :: slotsOf r
  | .tmp _ _ => []
def putOuts : CArgs → List D → En → Option En
  | .nil, [], e => some e
  | .s _ r, os, e => putOuts r os e
  | .io i r, o :: os, e => putOuts r os (eput e i ((eat e i).with o))
  | .tmp _ _, [_], e => some e
  | _, _, _ => none
def eCall (as : CArgs) (f : FSem) : En → Res D := fun e => (cargs as e).bind fun ds e => match f ds with
  | .ok d outs => (match putOuts as outs e with
    | some e => .ok d e
    | none => .stuck)
  | _ => .stuck
inductive AOk (B : Bd) (F H : Hp) (σ : St) (e : En) : CArgs → List V → List D → Prop
  | nil : AOk B F H σ e .nil [] []
  | s {g : En → Res D} {r : CArgs} {v : V} {d : D} {vs : List V} {ds : List D} : Rep B.w B.K F v d → AOk B F H σ e r vs ds → AOk B F H σ e (.s g r) (v :: vs) (d :: ds)
  | io {i : Nat} {r : CArgs} {a : Addr} {d : D} {vs : List V} {ds : List D} : (eat e i).mut = some d → σ[i]? = some (some (.ref a)) → AOk B F H σ e r vs ds → AOk B F H σ e (.io i r) (.ref a :: vs) (d :: ds)
  | tmp {g : En → Res D} {ks : List D} {p : Addr} {d : D} {vs : List V} : Fr B F H σ e p d → RepL B.w B.K F vs ks → AOk B F H σ e (.tmp g ks) (.ref p :: vs) (d :: ks)
section
variable {X : Cx} {b : Bd0} {F H : Hp} {σ : St} {e : En}
def tCa (X : Cx) (b : Bd0) (as : CArgs) : TA := fun σ H Q => ∃ e F, Ok (bd X b) F H σ e ∧ aft X b F σ (cargs as e) fun ds e' => ∀ vs F' H', Ok (bd X b) F' H' σ e' → Sub F F' → AOk (bd X b) F' H' σ e' as vs ds → Q vs H'
theorem aft.mut {α : Type} {i : Nat} {f : D → Res α} {k : α → En → Prop} (h : aft X b F σ (mutAt i e f) k) : ∃ d, (eat e i).mut = some d ∧ aft X b F σ (f d) k := by
  unfold mutAt at h
  cases q : (eat e i).mut with
  | some d =>
    rw [q] at h
    exact ⟨d, rfl, h⟩
  | none =>
    rw [q] at h
    exact h.elim
theorem c_nil : PA X [] (tCa X b .nil) := pa_of pa_nil fun σ H Q ⟨e, F, ok, q⟩ => q [] F H ok (Sub.refl F) .nil
theorem c_s {a : Expr} {es : List Expr} {g : En → Res D} {r : CArgs} (h : PE X a (tE X b g)) (t : PA X es (tCa X b r)) (hs : starEach (a :: es) X.env = (false, eval a X.env) :: starEach es X.env := by rfl) : PA X (a :: es) (tCa X b (.s g r)) :=
  pa_of (pa_cons h t hs) fun σ H Q ⟨e, F, ok, q⟩ => ⟨e, F, ok, (aft.bind (show aft X b F σ ((g e).bind fun d e => (cargs r e).bind fun l e => .ok (d :: l) e) _ from q)).mono fun d e1 z v F1 H1 ok1 s1 r1 =>
    ⟨e1, F1, ok1, (aft.bind (z.sub s1)).mono fun ds e2 y vs F2 H2 ok2 s2 r2 => y (v :: vs) F2 H2 ok2 (s1.trans s2) (.s (r1.mono s2) r2)⟩⟩
theorem c_io {a : Expr} {es : List Expr} (i : Nat) {r : CArgs} (h : PE X a (tVar i)) (t : PA X es (tCa X b r)) (hs : starEach (a :: es) X.env = (false, eval a X.env) :: starEach es X.env := by rfl) : PA X (a :: es) (tCa X b (.io i r)) :=
  pa_of (pa_cons h t hs) fun σ H Q ⟨e, F, ok, q⟩ => by
    obtain ⟨d0, hd0, h0⟩ := aft.mut (show aft X b F σ (mutAt i e fun _ => (cargs r e).bind fun l e => mutAt i e fun d => .ok (d :: l) e) _ from q)
    obtain ⟨a, hv, _⟩ := ok.mutAt hd0
    refine ⟨.ref a, hv, e, F, ok, (aft.bind h0).mono fun ds e2 y vs F2 H2 ok2 s2 r2 => ?_⟩
    obtain ⟨d1, hd1, h1⟩ := aft.mut y
    exact h1 (.ref a :: vs) F2 H2 ok2 s2 (.io hd1 hv r2)
/-- constants behind a new object -/
def tKs (X : Cx) (ks : List D) : TA := fun σ H Q => ∀ vs, (∀ w K F, RepL w K F vs ks) → Q vs H
theorem k_nil : PA X [] (tKs X []) := pa_of pa_nil fun σ H Q h => h [] fun _ _ _ => .nil
theorem k_cons {a : Expr} {es : List Expr} {v : V} {d : D} {ks : List D} (h : PE X a (tC v)) (r : ∀ w K F, Rep w K F v d) (t : PA X es (tKs X ks)) (hs : starEach (a :: es) X.env = (false, eval a X.env) :: starEach es X.env := by rfl) : PA X (a :: es) (tKs X (d :: ks)) :=
  pa_of (pa_cons h t hs) fun σ H Q q vs hv => q (v :: vs) fun w K F => .cons (r w K F) (hv w K F)
theorem c_tmp {a : Expr} {es : List Expr} {g : En → Res D} {ks : List D} (h : PE X a (tM X b g)) (t : PA X es (tKs X ks)) (hs : starEach (a :: es) X.env = (false, eval a X.env) :: starEach es X.env := by rfl) : PA X (a :: es) (tCa X b (.tmp g ks)) :=
  pa_of (pa_cons h t hs) fun σ H Q ⟨e, F, ok, q⟩ => ⟨e, F, ok, (aft.bind (show aft X b F σ ((g e).bind fun d e => if d.isMut then .ok (d :: ks) e else .stuck) _ from q)).mono fun d e1 z v F1 H1 ok1 s1 mv vs hv => by
    cases y : d.isMut with
    | false => simp only [y] at z; exact z.elim
    | true =>
      simp only [y] at z
      rcases mv with ⟨m, _⟩ | ⟨_, p, rfl, fr⟩
      · rw [y] at m; cases m
      · exact z (.ref p :: vs) F1 H1 ok1 s1 (.tmp fr (hv _ _ _))⟩
theorem pe_pow10 {i j : Int} {a1 a2 p1 p2 pos} (h : 0 ≤ j ∧ j ≤ 1000000 ∧ i.natAbs < 2 ^ 64) : PE X (.BinOp (.Constant (.int i) a1 p1) .Pow (.Constant (.int j) a2 p2) pos) (tC (.int (i ^ j.toNat))) :=
  pe_of (pe_op op_pow pe_int pe_int) fun σ H Q q => ⟨i, j, rfl, rfl, h, q⟩

theorem argsOk_rep {w : World} {K : PySem.W.Frag} : ∀ {vs : List V} {ks : List D}, RepL w K F vs ks → ArgsOk w K F H (ks.map fun _ => false) vs ks
  | _, _, .nil => .nil
  | _, _, .cons r t => .sh r (argsOk_rep t)
theorem ioA_false : ∀ (ks : List D) (vs : List V), ioA (ks.map fun _ => false) vs = []
  | [], _ => by cases ‹List V› <;> rfl
  | k :: ks, [] => rfl
  | k :: ks, v :: vs => by
    show ioA (ks.map fun _ => false) vs = []
    exact ioA_false ks vs
/-- the addresses that are handed over, and their slots -/
theorem AOk.args {as : CArgs} {vs : List V} {ds : List D} (ok : Ok (bd X b) F H σ e) (h : AOk (bd X b) F H σ e as vs ds) : ArgsOk X.w X.K F H (msOf as) vs ds := by
  induction h with
  | nil => exact .nil
  | s r _ ih => exact .sh r ih
  | io m q _ ih =>
    obtain ⟨a, h1, h2, h3⟩ := ok.mutAt m
    rw [q] at h1
    cases h1
    exact .io h2 h3 ih
  | tmp fr r =>
    exact .io fr.n fr.own (argsOk_rep r)
theorem own_apart (ok : Ok (bd X b) F H σ e) {i j : Nat} {d d' : D} {a : Addr} (h1 : (eat e i).mut = some d) (h2 : (eat e j).mut = some d') (q1 : σ[i]? = some (some (.ref a))) (q2 : σ[j]? = some (some (.ref a))) : i = j := by
  cases x : eat e i with
  | no => rw [x] at h1; cases h1
  | sh _ => rw [x] at h1; cases h1
  | ow y =>
    cases x' : eat e j with
    | no => rw [x'] at h2; cases h2
    | sh _ => rw [x'] at h2; cases h2
    | ow y' => exact ok.inj i j y y' a x x' q1 q2
    | io y' =>
      obtain ⟨c1, _, _, _, u, c2⟩ := ok.ios j y' x'
      obtain ⟨b1, b2, _, _, b3⟩ := ok.own i y x
      rw [q1] at b2
      cases b2
      rw [q2] at c1
      cases c1
      rw [b3] at c2
      cases c2
  | io y =>
    cases x' : eat e j with
    | no => rw [x'] at h2; cases h2
    | sh _ => rw [x'] at h2; cases h2
    | ow y' =>
      obtain ⟨c1, _, _, _, u, c2⟩ := ok.ios i y x
      obtain ⟨b1, b2, _, _, b3⟩ := ok.own j y' x'
      rw [q2] at b2
      cases b2
      rw [q1] at c1
      cases c1
      rw [b3] at c2
      cases c2
    | io y' =>
      obtain ⟨c1, _⟩ := ok.ios i y x
      obtain ⟨b1, _⟩ := ok.ios j y' x'
      rw [q1] at c1
      rw [q2] at b1
      cases c1
      exact ok.ioi i j y y' x x' (V.ref.inj (Option.some.inj (Option.some.inj b1)))
/-- each handed object is a slot's own, or a new one -/
theorem AOk.addr {as : CArgs} {vs : List V} {ds : List D} (h : AOk (bd X b) F H σ e as vs ds) : ∀ a, a ∈ ioA (msOf as) vs → (∃ i d, i ∈ slotsOf as ∧ (eat e i).mut = some d ∧ σ[i]? = some (some (.ref a))) ∨ ∃ d, Fr (bd X b) F H σ e a d := by
  induction h with
  | nil => intro a m; cases m
  | s r _ ih =>
    intro a m
    unfold msOf ioA at m
    exact ih a m
  | io m q _ ih =>
    intro a ma
    rcases List.mem_cons.mp (show a ∈ _ :: _ from ma) with rfl | ma
    · exact .inl ⟨_, _, List.mem_cons_self, m, q⟩
    · rcases ih a ma with ⟨j, d', h1, h2⟩ | h
      · exact .inl ⟨j, d', List.mem_cons_of_mem _ h1, h2⟩
      · exact .inr h
  | @tmp g ks p d vs fr r =>
    intro a ma
    rcases List.mem_cons.mp (show a ∈ p :: ioA (ks.map fun _ => false) vs from ma) with rfl | ma
    · exact .inr ⟨d, fr⟩
    · rw [ioA_false] at ma
      cases ma
theorem AOk.nodup {as : CArgs} {vs : List V} {ds : List D} (ok : Ok (bd X b) F H σ e) (hs : (slotsOf as).Nodup) (h : AOk (bd X b) F H σ e as vs ds) : (ioA (msOf as) vs).Nodup := by
  induction h with
  | nil => exact List.nodup_nil
  | s r _ ih =>
    unfold msOf ioA
    exact ih hs
  | @io i r a d vs ds m q t ih =>
    have hs' := List.nodup_cons.mp hs
    refine List.nodup_cons.mpr ⟨fun ma => ?_, ih hs'.2⟩
    rcases t.addr a ma with ⟨j, d', h1, h2, h3⟩ | ⟨d', fr⟩
    · have := own_apart ok m h2 q h3
      subst this
      exact hs'.1 h1
    · cases x : eat e i with
      | no => rw [x] at m; cases m
      | sh _ => rw [x] at m; cases m
      | ow y => exact fr.ne i y x q
      | io y =>
        obtain ⟨c1, _, _, _, u, c2⟩ := ok.ios i y x
        rw [q] at c1
        cases c1
        have := fr.n0
        rw [c2] at this
        cases this
  | @tmp g ks p d vs fr r =>
    show (p :: ioA (ks.map fun _ => false) vs).Nodup
    rw [ioA_false]
    simp
/-- the env behind a call, slot by slot -/
theorem putOuts_at {as : CArgs} {vs : List V} {ds : List D} (h : AOk (bd X b) F H σ e as vs ds) {F' H' : Hp} : ∀ {outs : List D} {e1 e2 : En}, Outs X.w X.K F' H' (ioA (msOf as) vs) outs → putOuts as outs e1 = some e2 → (slotsOf as).Nodup → e2.length = e1.length ∧
    (∀ j, j ∉ slotsOf as → eat e2 j = eat e1 j) ∧ (∀ j, j ∈ slotsOf as → ∃ o a, eat e2 j = (if j < e1.length then (eat e1 j).with o else eat e1 j) ∧ σ[j]? = some (some (.ref a)) ∧ Own X.w X.K F' H' a o) := by
  induction h with
  | nil =>
    intro outs e1 e2 ho hp _
    cases ho
    cases hp
    exact ⟨rfl, fun _ _ => rfl, fun j hj => absurd hj (by simp [slotsOf])⟩
  | s r _ ih =>
    intro outs e1 e2 ho hp hn
    unfold msOf ioA at ho
    exact ih ho hp hn
  | @io i r a d vs ds m q t ih =>
    intro outs e1 e2 ho hp hn
    have hn' := List.nodup_cons.mp hn
    cases (show Outs X.w X.K F' H' (a :: ioA (msOf r) vs) outs from ho) with
    | @cons _ o _ os o1 o2 =>
      obtain ⟨l1, l2, l3⟩ := ih o2 (show putOuts r os (eput e1 i ((eat e1 i).with o)) = some e2 from hp) hn'.2
      rw [eput_length] at l1
      refine ⟨l1, fun j hj => ?_, fun j hj => ?_⟩
      · unfold slotsOf at hj
        rw [List.mem_cons, not_or] at hj
        rw [l2 j hj.2, eat_put, if_neg fun z => hj.1 z.1]
      · rcases List.mem_cons.mp (show j ∈ i :: slotsOf r from hj) with rfl | hj'
        · refine ⟨o, a, ?_, q, o1⟩
          rw [l2 j hn'.1, eat_put]
          by_cases z : j < e1.length
          · rw [if_pos ⟨rfl, z⟩, if_pos z]
          · rw [if_neg fun y => z y.2, if_neg z]
        · obtain ⟨o', a', g1, g2, g3⟩ := l3 j hj'
          have ne : j ≠ i := fun z => by subst z; exact hn'.1 hj'
          simp only [eput_length, eat_put_ne e1 i j _ ne] at g1
          exact ⟨o', a', g1, g2, g3⟩
  | tmp fr r =>
    intro outs e1 e2 ho hp _
    match outs, hp with
    | [_], hp =>
      cases hp
      exact ⟨rfl, fun _ _ => rfl, fun j hj => absurd hj (by simp [slotsOf])⟩
    | [], hp => cases hp
    | _ :: _ :: _, hp => cases hp
/-- the state behind a call -/
theorem Ok.called {as : CArgs} {vs : List V} {ds : List D} {F' H' : Hp} {outs : List D} {e2 : En} (ok : Ok (bd X b) F H σ e) (h : AOk (bd X b) F H σ e as vs ds) (hs : (slotsOf as).Nodup) (cp : CPost F H (ioA (msOf as) vs) F' H') (ho : Outs X.w X.K F' H' (ioA (msOf as) vs) outs) (hp : putOuts as outs e = some e2) : Ok (bd X b) F' H' σ e2 := by
  obtain ⟨l1, l2, l3⟩ := putOuts_at h ho hp hs
  have keepF : ∀ a o, H a = some o → F a = none → F' a = none := fun a o q n => by
    cases z : F' a with
    | none => rfl
    | some u =>
      have y := cp.new a (by rw [z]; simp) n
      rw [q] at y
      cases y
  -- a slot's mode is as before
  have back : ∀ j s, eat e2 j = s → (∃ s', eat e j = s' ∧ ((j ∉ slotsOf as ∧ s = s') ∨ ∃ o a, j ∈ slotsOf as ∧ s = s'.with o ∧ σ[j]? = some (some (.ref a)) ∧ Own X.w X.K F' H' a o)) := fun j s q => by
    by_cases hj : j ∈ slotsOf as
    · obtain ⟨o, a, g1, g2, g3⟩ := l3 j hj
      by_cases z : j < e.length
      · rw [if_pos z] at g1
        exact ⟨_, rfl, .inr ⟨o, a, hj, by rw [← q, g1], g2, g3⟩⟩
      · rw [if_neg z] at g1
        have : eat e j = .no := by
          cases y : eat e j with
          | no => rfl
          | _ => exact absurd (eat_lt e j (by rw [y]; simp)) z
        refine ⟨_, rfl, .inr ⟨o, a, hj, ?_, g2, g3⟩⟩
        rw [← q, g1, this]
        rfl
    · exact ⟨_, rfl, .inl ⟨hj, by rw [← q, l2 j hj]⟩⟩
  -- an own object that was not handed over stands as it stood
  have stays : ∀ j d a, (eat e j).mut = some d → j ∉ slotsOf as → σ[j]? = some (some (.ref a)) → F a = none → Own X.w X.K F H a d → F' a = none ∧ Own X.w X.K F' H' a d := fun j d a m nj q n o => by
    obtain ⟨u, hu⟩ := o.some
    have na : a ∉ ioA (msOf as) vs := fun ma => by
      rcases h.addr a ma with ⟨i, d', h1, h2, h3⟩ | ⟨d', fr⟩
      · have := own_apart ok m h2 q h3
        subst this
        exact nj h1
      · cases x : eat e j with
        | no => rw [x] at m; cases m
        | sh _ => rw [x] at m; cases m
        | ow y => exact fr.ne j y x q
        | io y =>
          obtain ⟨c1, _, _, _, u', c2⟩ := ok.ios j y x
          rw [q] at c1
          cases c1
          have := fr.n0
          rw [c2] at this
          cases this
    exact ⟨keepF a u hu n, (o.congr (by rw [hu, cp.keep a u hu na])).mono cp.f⟩
  have ioNot : ∀ a, b.H0 a ≠ none → a ∉ b.ioA → a ∉ ioA (msOf as) vs := fun a h0 hn ma => by
    rcases h.addr a ma with ⟨i, d', h1, h2, h3⟩ | ⟨d', fr⟩
    · cases x : eat e i with
      | no => rw [x] at h2; cases h2
      | sh _ => rw [x] at h2; cases h2
      | ow y =>
        obtain ⟨b1, b2, _, _, b3⟩ := ok.own i y x
        rw [h3] at b2
        cases b2
        exact h0 b3
      | io y =>
        obtain ⟨c1, _, _, c2, _⟩ := ok.ios i y x
        rw [h3] at c1
        cases c1
        exact hn c2
    · exact h0 fr.n0
  refine ⟨cp.s, ok.f0.trans cp.f, fun a o q => ?_, fun a o q1 q2 q3 => ?_, fun a q1 q2 => ?_, by rw [l1]; exact ok.len, fun j d q => ?_, fun j d q => ?_, fun j d q => ?_, fun i j d d' a q1 q2 q3 q4 => ?_, fun i j d d' q1 q2 q3 => ?_⟩
  · obtain ⟨o', q'⟩ := ok.dom a o q
    exact cp.dom a o' q'
  · obtain ⟨r1, r2⟩ := ok.res a o q1 q2 q3
    exact ⟨keepF a o r2 r1, cp.keep a o r2 (ioNot a (by rw [show b.H0 a = some o from q1]; simp) q3)⟩
  · cases z : F a with
    | some u => exact ok.ent a (by rw [z]; simp) q2
    | none =>
      have y := cp.new a q1 z
      cases x : b.H0 a with
      | none => exact x
      | some u =>
        obtain ⟨o', q'⟩ := ok.dom a u x
        rw [y] at q'
        cases q'
  · obtain ⟨s', g1, g | ⟨o, a, _, g, _⟩⟩ := back j _ q
    · rw [← g.2] at g1
      obtain ⟨v, r1, r2⟩ := ok.shd j d g1
      exact ⟨v, r1, r2.mono cp.f⟩
    · cases s' with
      | sh d' =>
        cases g
        obtain ⟨v, r1, r2⟩ := ok.shd j d g1
        exact ⟨v, r1, r2.mono cp.f⟩
      | _ => cases g
  · obtain ⟨s', g1, g | ⟨o, a, _, g, g2, g3⟩⟩ := back j _ q
    · rw [← g.2] at g1
      obtain ⟨a, r1, r2, r3, r4⟩ := ok.own j d g1
      obtain ⟨t1, t2⟩ := stays j d a (by rw [g1]; rfl) g.1 r1 r2 r3
      exact ⟨a, r1, t1, t2, r4⟩
    · cases s' with
      | ow d' =>
        cases g
        obtain ⟨a', r1, r2, r3, r4⟩ := ok.own j d' g1
        rw [g2] at r1
        cases r1
        obtain ⟨u, hu⟩ := r3.some
        exact ⟨a, g2, keepF a u hu r2, g3, r4⟩
      | _ => cases g
  · obtain ⟨s', g1, g | ⟨o, a, _, g, g2, g3⟩⟩ := back j _ q
    · rw [← g.2] at g1
      obtain ⟨r1, r2, r3, r4⟩ := ok.ios j d g1
      obtain ⟨t1, t2⟩ := stays j d _ (by rw [g1]; rfl) g.1 r1 r2 r3
      exact ⟨r1, t1, t2, r4⟩
    · cases s' with
      | io d' =>
        cases g
        obtain ⟨r1, r2, r3, r4⟩ := ok.ios j d' g1
        have r1' := r1
        rw [g2] at r1'
        cases r1'
        obtain ⟨u, hu⟩ := r3.some
        exact ⟨r1, keepF _ u hu r2, g3, r4⟩
      | _ => cases g
  · have un : ∀ j d, eat e2 j = .ow d → ∃ d', eat e j = .ow d' := fun j d q => by
      obtain ⟨s', g1, g | ⟨o, a, _, g, _⟩⟩ := back j _ q
      · exact ⟨d, by rw [g1, ← g.2]⟩
      · cases s' with
        | ow d' => exact ⟨d', g1⟩
        | _ => cases g
    obtain ⟨y1, z1⟩ := un i d q1
    obtain ⟨y2, z2⟩ := un j d' q2
    exact ok.inj i j y1 y2 a z1 z2 q3 q4
  · have un : ∀ j d, eat e2 j = .io d → ∃ d', eat e j = .io d' := fun j d q => by
      obtain ⟨s', g1, g | ⟨o, a, _, g, _⟩⟩ := back j _ q
      · exact ⟨d, by rw [g1, ← g.2]⟩
      · cases s' with
        | io d' => exact ⟨d', g1⟩
        | _ => cases g
    obtain ⟨y1, z1⟩ := un i d q1
    obtain ⟨y2, z2⟩ := un j d' q2
    exact ok.ioi i j y1 y2 z1 z2 q3
/-- f(..), f a def that raises nothing -/
theorem m_call {x : Str} {k : Nat} {ms : List Bool} {f : FSem} {as : CArgs} {a : Expr} {es : List Expr} {p pos : Pos} (G : DefOk X.prog X.w X.K X.mg X.base CX0 ce0 k x ms f) (hr : Room k X.A) (hg : Gl X x) (ha : PA X (a :: es) (tCa X b as)) (hms : msOf as = ms := by rfl) (hs : (slotsOf as).Nodup := by decide)
    (hdb : (x == ("__debug__" : Str)) = false := by decide) (he : starEach (a :: es) X.env = (false, eval a X.env) :: starEach es X.env := by rfl) (hpl : (backTo pos (starEach es X.env)).any (·.1) = false := by rfl) :
    PE X (.Call (.Name x p) (a :: es) [] pos) (tM X b (eCall as f)) := by
  obtain ⟨fa, fd, ps, h1, h2, h3, h4⟩ := G.ex
  subst hms
  refine pe_of (pe_call h4 hr hg h1 h2 h3 .nil (pass0 (X := X)) ha hdb he hpl) fun σ H Q ⟨e, F, ok, q⟩ => ⟨e, F, ok, (aft.bind q).mono fun ds e' z vs F' H' ok' s aok => ?_⟩
  show spF X.w X.K ce0 (msOf as) f (vs ++ []) H' Q E0
  rw [List.append_nil]
  refine ⟨ds, F', ok'.sub, aok.args ok', aok.nodup ok' hs, ?_⟩
  cases y : f ds with
  | stuck => rw [y] at z; exact z.elim
  | ex c o => rw [y] at z; exact z.elim
  | ok d o =>
    rw [y] at z
    intro v F2 H2 cp ho mv
    cases y2 : putOuts as o e' with
    | none => simp only [y2] at z; exact z.elim
    | some e2 =>
      simp only [y2] at z
      have ok2 := ok'.called aok hs cp ho y2
      refine z v F2 H2 ok2 (s.trans cp.f) ?_
      rcases mv with mv | ⟨m, p', rfl, n, nf, ow⟩
      · exact .inl mv
      · refine .inr ⟨m, p', rfl, nf, ?_, ow, fun i d' q1 q2 => ?_⟩
        · cases x0 : b.H0 p' with
          | none => exact x0
          | some u =>
            obtain ⟨o', q'⟩ := ok'.dom p' u x0
            rw [n] at q'
            cases q'
        · obtain ⟨l1, l2, l3⟩ := putOuts_at aok ho y2 hs
          obtain ⟨d0, hd0⟩ : ∃ d0, eat e' i = .ow d0 := by
            by_cases hj : i ∈ slotsOf as
            · obtain ⟨o1, a1, g1, _⟩ := l3 i hj
              rw [q1] at g1
              by_cases z1 : i < e'.length
              · rw [if_pos z1] at g1
                cases y3 : eat e' i with
                | ow d1 => exact ⟨d1, rfl⟩
                | _ => rw [y3] at g1; cases g1
              · rw [if_neg z1] at g1
                exact ⟨d', g1.symm⟩
            · rw [l2 i hj] at q1
              exact ⟨d', q1⟩
          obtain ⟨a1, r1, r2, r3, _⟩ := ok'.own i d0 hd0
          rw [q2] at r1
          cases r1
          obtain ⟨u, hu⟩ := r3.some
          rw [n] at hu
          cases hu
end
end MP

set_option Elab.async false
set_option linter.all false
set_option maxRecDepth 100000
set_option autoImplicit false
namespace MP
open PySem L2

/-! ### what is walked: tuples, lists, texts, the keys of dicts -/
def D.items : D → Option (List D)
  | .tup ds => some ds
  | .lst ds => some ds
  | .scr ds => some ds
  | .str x => some (x.cps.toList.map fun c => .str ⟨#[c]⟩)
  | .dct _ kvs => some (kvs.map (·.1))
  | _ => none
/-- the keys of a dict that stands at a -/
def Itx (a : Addr) (o : Obj) (vs : List V) : It := ⟨fun i H => H a = some (exactHO a o) ∧ i < vs.length, fun i H x H' => H' = H ∧ vs[i]? = some x, fun i H => H a = some (exactHO a o) ∧ vs.length ≤ i⟩
theorem turn_kx {P : Program} {w : World} {K : PySem.W.Frag} {tg : Expr} {d : Addr} {o : Obj} {es : Array DictEntry} {ep : Nat} {vs : List V} (it : Addr) (hx : o.ExactDict) (hod : o.data = .dict es ep) (hl : es.size = vs.length) (hk : ∀ (i : Nat) (x : V), vs[i]? = some x → ∃ en : DictEntry, es[i]? = some en ∧ RelV x en.key) :
    Turn P w K tg (Itx d o vs) [it] it (fun i h => h.IsKeyIter it d i vs.length ep) where
  mem := by simp
  obj := fun i h st b hb => by
    have e : b = it := by simpa using hb
    subst e
    obtain ⟨oi, e, c, dd⟩ := st
    exact ⟨oi, e, fun v z => by rw [dd] at z; cases z⟩
  keep := fun i h h' st k => st.at fun oi e => k it (by simp) oi e
  item := by
    intro X hP hw hK hc i pins s σ H E I hf st hg
    subst hP hw hK
    obtain ⟨hd, hi⟩ := hg
    obtain ⟨f0, f1, f2, f3, f4, f5⟩ := hf it (by simp)
    have hgd := exact_get I hd
    obtain ⟨x, hkv⟩ : ∃ p, vs[i]? = some p := ⟨vs[i], List.getElem?_eq_getElem hi⟩
    obtain ⟨en, hen, hkey⟩ := hk i x hkv
    refine next_key_item st hgd hod hl hen fun h' st' sb => ?_
    have I1 : Inv X pins σ H { s with heap := h' } := I.turned (t' := s.toks) (fun b ob hb e => (sb.2 b hb).trans e) f0 f1 f3 f4 f5
    obtain ⟨oi, e, c, dd⟩ := id st'
    exact ⟨en.key, rfl, go_of (s := { s with heap := h' }) e c dd (by decide) ⟨x, H, I1, hkey, ⟨rfl, hkv⟩, st', fun b hb => (hf b hb).1⟩⟩
  done := by
    intro X hP hw hK hc i pins s σ H E I hf st hg
    subst hP hw hK
    obtain ⟨hd, hi⟩ := hg
    obtain ⟨f0, f1, f2, f3, f4, f5⟩ := hf it (by simp)
    have hgd := exact_get I hd
    exact next_key_end (I.ok.hd hc) st hgd hod hl hi fun h' eb => ⟨rfl, I.turned (t' := s.toks) (fun b ob hb e => eb b ob hb e) f0 f1 f3 f4 f5⟩
  self := fun A i s Q E st h => wpAny_pyIter_keyiter st h
theorem RepE.keysV {w : World} {K : PySem.W.Frag} {F : Hp} : ∀ {t : Bool} {es : List DictEntry} {kvs : List (D × D)}, RepE w K F t es kvs → ∃ vs : List V, es.length = vs.length ∧ (∀ (i : Nat) (x : V), vs[i]? = some x → ∃ en : DictEntry, es[i]? = some en ∧ RelV x en.key) ∧ RepL w K F vs (kvs.map (·.1))
  | _, _, _, .nil => ⟨[], rfl, fun i x h => by simp at h, .nil⟩
  | _, _, _, .cons (e := e) (kv := kv) r1 r2 _ _ _ _ _ t => by
    obtain ⟨vs, h1, h2, h3⟩ := RepE.keysV t
    refine ⟨kv :: vs, by simp [h1], fun i x h => ?_, .cons r2 h3⟩
    cases i with
    | zero =>
      simp at h
      subst h
      exact ⟨e, rfl, r1⟩
    | succ i =>
      obtain ⟨en, q1, q2⟩ := h2 i x (by simpa using h)
      exact ⟨en, by simpa using q1, q2⟩
section
variable {X : Cx} {b : Bd0} {F F1 H : Hp} {σ : St} {e : En}
def iSq (f : En → Res D) : En → Res (List D) := fun e => (f e).bind fun d e => Res.opt d.items e
theorem walk_seqT {a : Addr} {vs : List V} {ds : List D} (h : ∀ H, Sub F H → SqT X.K H a vs) (r : RepL X.w X.K F vs ds) : Walk X (Itt X.K a) F ds := fun i H s => by
  refine ⟨fun d hd => ?_, fun hl => ⟨vs, h H s, by rw [r.length]; exact hl⟩⟩
  obtain ⟨v, hv, rv⟩ := r.get hd
  refine ⟨⟨vs, v, h H s, hv⟩, fun x H' ⟨e1, e2⟩ => ⟨e1, ?_⟩⟩
  have := e2 vs (h H s)
  rw [hv] at this
  cases this
  exact rv
theorem walk_str (x : Str) (F : Hp) : Walk X (Its x) F (x.cps.toList.map fun c => .str ⟨#[c]⟩) := fun i H s => by
  refine ⟨fun d h => ?_, fun h => ?_⟩
  · rw [List.getElem?_map] at h
    obtain ⟨c, hc, rfl⟩ := Option.map_eq_some_iff.mp h
    have hc' : x.cps[i]? = some c := by simpa using hc
    refine ⟨(Array.getElem?_eq_some_iff.mp hc').1, fun y H' ⟨e1, c', h1, h2⟩ => ⟨e1, ?_⟩⟩
    rw [hc'] at h1
    cases h1
    subst h2
    exact .str _
  · have h' : x.cps.size ≤ i := by simpa using h
    exact h'
theorem walk_keys {a : Addr} {o : Obj} {vs : List V} {ds : List D} (h : F a = some (exactHO a o)) (r : RepL X.w X.K F vs ds) : Walk X (Itx a o vs) F ds := fun i H s => by
  refine ⟨fun d hd => ?_, fun hl => ⟨s _ _ h, by rw [r.length]; exact hl⟩⟩
  obtain ⟨v, hv, rv⟩ := r.get hd
  refine ⟨⟨s _ _ h, (List.getElem?_eq_some_iff.mp hv).1⟩, fun x H' ⟨e1, e2⟩ => ⟨e1, ?_⟩⟩
  rw [hv] at e2
  cases e2
  exact rv
theorem i_sq {tg a : Expr} {f : En → Res D} (h : PE X a (tE X b f)) : PI X tg a (tI X b (iSq f)) := by
  refine ⟨fun pins s σ H R I hq => ?_⟩
  obtain ⟨e, F, ok, q⟩ := hq
  refine thn (h.run pins s σ H (fun x H1 => ∃ d F' ds, Sub F' H1 ∧ Rep X.w X.K F' x d ∧ d.items = some ds ∧ ∀ J, Walk X J F' ds → R J H1) I ⟨e, F, ok, (aft.bind q).mono fun d e1 z v F1 H1 ok1 s1 r1 => ?_⟩) fun v s1 ⟨x, H1, I1, r1, d, F', ds, sub, rp, hd, k⟩ => ?_
  · obtain ⟨ds, hd, z⟩ := aft.opt z
    exact ⟨d, F1, ds, ok1.sub, r1, hd, fun J wk => z J F1 H1 ok1 s1 wk⟩
  have fin : ∀ b ∈ [s1.heap.objs.size], FpOk X pins H1 b := fun b hb => by
    have e : b = s1.heap.objs.size := by simpa using hb
    subst e
    exact I1.fpOk (Nat.le_refl _) (I1.hok.fresh (Nat.le_refl _))
  have goL : ∀ {a : Addr} {vs : List V}, x = .ref a → SqL X.K H1 a vs → R (Itl X.K a) H1 → wpAny (model X.prog X.w) X.A (pyIter v) (PIE X pins σ tg R) X.xe s1 := fun {a vs} ex hq q => by
    subst ex
    cases r1
    obtain ⟨its, rv, p, hz⟩ := I1.list hq
    refine wpAny_pyIter_list p.isList ?_
    exact ⟨s1.heap.objs.size, [s1.heap.objs.size], _, _, H1, rfl, I1.kept (t' := s1.toks) fun b o e => Heap.get?_push_of_some _ e, turn_list a _, ⟨_, Heap.get?_push_size _ rfl, rfl, rfl⟩, fin, q⟩
  cases rp with
  | non => cases hd
  | bl _ => cases hd
  | int _ => cases hd
  | @tup a vs ds' hF z l =>
    cases hd
    cases r1
    have hq : SqT X.K H1 a vs := (hF.mono sub).sqT
    obtain ⟨its, rv, p, hz⟩ := I1.tuple hq
    refine wpAny_pyIter_tuple (show s1.heap.IsTuple a its.toArray from p) ?_
    exact ⟨s1.heap.objs.size, [s1.heap.objs.size], _, _, H1, rfl, I1.kept (t' := s1.toks) fun b o e => Heap.get?_push_of_some _ e, turn_tuple a _, ⟨_, Heap.get?_push_size _ rfl, rfl, rfl⟩, fin, k _ (walk_seqT (fun H s => (hF.mono s).sqT) l)⟩
  | tpx _ _ _ _ => cases hd
  | @lst a vs ds' hF z l =>
    cases hd
    refine goL rfl (.inl (.inl (sub _ _ hF))) (k _ fun i H s => ?_)
    refine ⟨fun d hd => ?_, fun hl => ⟨vs, .inl (.inl (s _ _ hF)), by rw [l.length]; exact hl⟩⟩
    obtain ⟨v, hv, rv⟩ := l.get hd
    refine ⟨⟨vs, v, .inl (.inl (s _ _ hF)), hv⟩, fun x H' ⟨e1, e2⟩ => ⟨e1, ?_⟩⟩
    have := e2 vs (.inl (.inl (s _ _ hF)))
    rw [hv] at this
    cases this
    exact rv
  | @scr a vs ds' hF z l =>
    cases hd
    refine goL rfl (sub.sqL hF) (k _ fun i H s => ?_)
    refine ⟨fun d hd => ?_, fun hl => ⟨vs, s.sqL hF, by rw [l.length]; exact hl⟩⟩
    obtain ⟨v, hv, rv⟩ := l.get hd
    refine ⟨⟨vs, v, s.sqL hF, hv⟩, fun x H' ⟨e1, e2⟩ => ⟨e1, ?_⟩⟩
    have := e2 vs (s.sqL hF)
    rw [hv] at this
    cases this
    exact rv
  | str x =>
    cases hd
    obtain ⟨t, rfl⟩ := r1
    have q := k _ (walk_str x F')
    cases ha : x.cps.all (· < 128)
    · exact wpAny_pyIter_wide ha (pi_one (tk := s1.toks) I1 _ (turn_str _ x t "str_iterator" (.inr rfl)) ⟨_, Heap.get?_push_size _ rfl, rfl, rfl⟩ q)
    · exact wpAny_pyIter_ascii ha (pi_one (tk := s1.toks) I1 _ (turn_str _ x t "str_ascii_iterator" (.inl rfl)) ⟨_, Heap.get?_push_size _ rfl, rfl, rfl⟩ q)
  | @dct a o es ep t kvs hF hs hx hdt hz hn re =>
    cases hd
    obtain rfl : v = Value.ref a := r1
    obtain ⟨vs, h1, h2, h3⟩ := re.keysV
    have hgd := exact_get I1 (sub _ _ hF)
    refine iter_keys hs hgd hx hdt (pi_one (tk := s1.toks) I1 _ (turn_kx (vs := vs) _ hx hdt (by simpa using h1) fun i x h => by simpa using h2 i x h) ⟨_, Heap.get?_push_size _ rfl, rfl, ?_⟩ (k _ (walk_keys hF h3)))
    have : es.size = vs.length := by simpa using h1
    rw [this] <;> rfl

/-! ### comprehensions -/
/-- a new object that no slot holds is changed -/
theorem Ok.poke {B : Bd} {p : Addr} {o : HO} (k : Ok B F H σ e) (nf : F p = none) (n0 : B.H0 p = none) (ne : ∀ i d, eat e i = .ow d → σ[i]? ≠ some (some (.ref p))) : Ok B F (upd H p o) σ e := by
  refine ⟨fun a u q => ?_, k.f0, fun a u q => ?_, fun a u q1 q2 q3 => ?_, k.ent, k.len, k.shd, fun i d q => ?_, fun i d q => ?_, k.inj, k.ioi⟩
  · rw [upd_ne (ne_of_none q nf)]
    exact k.sub a u q
  · by_cases z : a = p
    · subst z; exact ⟨o, upd_same⟩
    · rw [upd_ne z]; exact k.dom a u q
  · obtain ⟨r1, r2⟩ := k.res a u q1 q2 q3
    have z : a ≠ p := fun z => by subst z; rw [n0] at q1; cases q1
    exact ⟨r1, by rw [upd_ne z]; exact r2⟩
  · obtain ⟨a, h1, h2, h3, h4⟩ := k.own i d q
    have z : a ≠ p := fun z => by subst z; exact ne i d q h1
    exact ⟨a, h1, h2, h3.congr (upd_ne z), h4⟩
  · obtain ⟨h1, h2, h3, h4, u, h5⟩ := k.ios i d q
    have z : B.ad i ≠ p := fun z => by rw [z, n0] at h5; cases h5
    exact ⟨h1, h2, h3.congr (upd_ne z), h4, u, h5⟩
def wipeE (e : En) : List Nat → En
  | [] => e
  | v :: vs => eput (wipeE e vs) v .no
theorem wipeE_length (e : En) : ∀ vs : List Nat, (wipeE e vs).length = e.length
  | [] => rfl
  | v :: vs => by rw [wipeE, eput_length, wipeE_length e vs]
theorem wipeE_at (e : En) (i : Nat) : ∀ vs : List Nat, eat (wipeE e vs) i = if i ∈ vs then .no else eat e i
  | [] => rfl
  | v :: vs => by
    rw [wipeE, eat_put, wipeE_at e i vs, wipeE_length]
    by_cases h : i = v
    · subst h
      rw [if_pos List.mem_cons_self]
      by_cases q : i < e.length
      · rw [if_pos ⟨rfl, q⟩]
      · rw [if_neg fun z => q z.2]
        split
        · rfl
        · cases z : eat e i with
          | no => rfl
          | _ => exact absurd (eat_lt e i (by rw [z]; simp)) q
    · rw [if_neg fun z => h z.1]
      by_cases q : i ∈ vs
      · rw [if_pos q, if_pos (List.mem_cons_of_mem _ q)]
      · rw [if_neg q, if_neg fun z => (List.mem_cons.mp z).elim h q]
/-- the hidden slots again: what was frozen is there -/
def backE (e0 e : En) : List Nat → En
  | [] => e
  | v :: vs => eput (backE e0 e vs) v (match eat e0 v with | .sh d => .sh d | _ => .no)
theorem backE_length (e0 e : En) : ∀ vs : List Nat, (backE e0 e vs).length = e.length
  | [] => rfl
  | v :: vs => by rw [backE, eput_length, backE_length e0 e vs]
theorem backE_at (e0 e : En) (i : Nat) (hi : e0.length = e.length) : ∀ vs : List Nat, eat (backE e0 e vs) i = if i ∈ vs then (match eat e0 i with | .sh d => .sh d | _ => .no) else eat e i
  | [] => rfl
  | v :: vs => by
    rw [backE, eat_put, backE_at e0 e i hi vs, backE_length]
    by_cases h : i = v
    · subst h
      rw [if_pos List.mem_cons_self]
      by_cases q : i < e.length
      · rw [if_pos ⟨rfl, q⟩]
      · rw [if_neg fun z => q z.2]
        have n0 : eat e0 i = .no := by
          cases z : eat e0 i with
          | no => rfl
          | _ => exact absurd (eat_lt e0 i (by rw [z]; simp)) (by rw [hi]; exact q)
        have n1 : eat e i = .no := by
          cases z : eat e i with
          | no => rfl
          | _ => exact absurd (eat_lt e i (by rw [z]; simp)) q
        rw [n0, n1]
        split <;> rfl
    · rw [if_neg fun z => h z.1]
      by_cases q : i ∈ vs
      · rw [if_pos q, if_pos (List.mem_cons_of_mem _ q)]
      · rw [if_neg q, if_neg fun z => (List.mem_cons.mp z).elim h q]
theorem Ok.wiped {B : Bd} (k : Ok B F H σ e) (vs : List Nat) : Ok B F H (wipe σ vs) (wipeE e vs) := by
  have at' : ∀ i s, eat (wipeE e vs) i = s → s ≠ .no → i ∉ vs ∧ eat e i = s := fun i s h n => by
    rw [wipeE_at] at h
    by_cases q : i ∈ vs
    · rw [if_pos q] at h; exact absurd h.symm n
    · rw [if_neg q] at h; exact ⟨q, h⟩
  refine ⟨k.sub, k.f0, k.dom, k.res, k.ent, by rw [wipe_length, wipeE_length]; exact k.len, fun i d h => ?_, fun i d h => ?_, fun i d h => ?_, fun i j d d' a h1 h2 h3 h4 => ?_, fun i j d d' h1 h2 h3 => ?_⟩
  · obtain ⟨q, h⟩ := at' i _ h (by simp)
    rw [wipe_out q]
    exact k.shd i d h
  · obtain ⟨q, h⟩ := at' i _ h (by simp)
    rw [wipe_out q]
    exact k.own i d h
  · obtain ⟨q, h⟩ := at' i _ h (by simp)
    rw [wipe_out q]
    exact k.ios i d h
  · obtain ⟨q1, h1⟩ := at' i _ h1 (by simp)
    obtain ⟨q2, h2⟩ := at' j _ h2 (by simp)
    rw [wipe_out q1] at h3
    rw [wipe_out q2] at h4
    exact k.inj i j d d' a h1 h2 h3 h4
  · obtain ⟨q1, h1⟩ := at' i _ h1 (by simp)
    obtain ⟨q2, h2⟩ := at' j _ h2 (by simp)
    exact k.ioi i j d d' h1 h2 h3
theorem Ok.rewipe {B : Bd} {σ2 : St} (k : Ok B F H σ2 e) (vs : List Nat) (h : wipe σ2 vs = wipe σ vs) : Ok B F H (wipe σ vs) (wipeE e vs) := h ▸ k.wiped vs
theorem Ok.unwipe {B : Bd} {e0 : En} {F0 H0 : Hp} (k0 : Ok B F0 H0 σ e0) (s : Sub F0 F) (vs : List Nat) (k : Ok B F H (wipe σ vs) e) : Ok B F H σ (backE e0 e vs) := by
  have hl : e0.length = e.length := by rw [← k0.len, ← k.len, wipe_length]
  have cs : ∀ i s, eat (backE e0 e vs) i = s → s ≠ .no → (i ∈ vs ∧ ∃ d, s = .sh d ∧ eat e0 i = .sh d) ∨ (i ∉ vs ∧ eat e i = s) := fun i s h n => by
    rw [backE_at _ _ _ hl] at h
    by_cases q : i ∈ vs
    · rw [if_pos q] at h
      cases z : eat e0 i with
      | sh d => rw [z] at h; exact .inl ⟨q, d, h.symm, rfl⟩
      | no => rw [z] at h; exact absurd h.symm n
      | ow _ => rw [z] at h; exact absurd h.symm n
      | io _ => rw [z] at h; exact absurd h.symm n
    · rw [if_neg q] at h
      exact .inr ⟨q, h⟩
  refine ⟨k.sub, k.f0, k.dom, k.res, k.ent, by rw [backE_length, ← k.len, wipe_length], fun i d h => ?_, fun i d h => ?_, fun i d h => ?_, fun i j d d' a h1 h2 h3 h4 => ?_, fun i j d d' h1 h2 h3 => ?_⟩
  · rcases cs i _ h (by simp) with ⟨_, d', z, q⟩ | ⟨q, h⟩
    · cases z
      obtain ⟨v, h1, h2⟩ := k0.shd i d q
      exact ⟨v, h1, h2.mono s⟩
    · rw [← wipe_out (σ := σ) q]
      exact k.shd i d h
  · rcases cs i _ h (by simp) with ⟨_, d', z, q⟩ | ⟨q, h⟩
    · cases z
    · rw [← wipe_out (σ := σ) q]
      exact k.own i d h
  · rcases cs i _ h (by simp) with ⟨_, d', z, q⟩ | ⟨q, h⟩
    · cases z
    · rw [← wipe_out (σ := σ) q]
      exact k.ios i d h
  · rcases cs i _ h1 (by simp) with ⟨_, d', z, q⟩ | ⟨q1, h1⟩
    · cases z
    · rcases cs j _ h2 (by simp) with ⟨_, d', z, q⟩ | ⟨q2, h2⟩
      · cases z
      · rw [← wipe_out (σ := σ) q1] at h3
        rw [← wipe_out (σ := σ) q2] at h4
        exact k.inj i j _ _ a h1 h2 h3 h4
  · rcases cs i _ h1 (by simp) with ⟨_, d', z, q⟩ | ⟨q1, h1⟩
    · cases z
    · rcases cs j _ h2 (by simp) with ⟨_, d', z, q⟩ | ⟨q2, h2⟩
      · cases z
      · exact k.ioi i j _ _ h1 h2 h3
/-- the turns of a comprehension -/
def cTurn (gt : D → En → Option En) (c : En → Res Bool) (f : En → Res D) (vs : List Nat) (k : List D → En → Res (List D)) (acc : List D) (x : D) (e : En) : Res (List D) := match gt x e with
  | none => .stuck
  | some e1 => (c e1).bind fun t e2 => if t then (f e2).bind fun d e3 => k (acc ++ [d]) (wipeE e3 vs) else k acc (wipeE e2 vs)
def compL (gt : D → En → Option En) (c : En → Res Bool) (f : En → Res D) (vs : List Nat) : List D → List D → En → Res (List D)
  | [], acc, e => .ok acc e
  | x :: xs, acc, e => cTurn gt c f vs (compL gt c f vs xs) acc x e
def cYes : En → Res Bool := fun e => .ok true e
def eLc (fi : En → Res (List D)) (gt : D → En → Option En) (c : En → Res Bool) (f : En → Res D) (vs : List Nat) : En → Res D := fun e => (fi e).bind fun ds e1 => match compL gt c f vs ds [] (wipeE e1 vs) with
  | .ok l e2 => if l.length ≤ sizeLine then .ok (.lst l) (backE e1 e2 vs) else .stuck
  | _ => .stuck
theorem compL_len {gt : D → En → Option En} {c : En → Res Bool} {f : En → Res D} {vs : List Nat} : ∀ (ds acc : List D) (e : En) (l : List D) (e' : En), compL gt c f vs ds acc e = .ok l e' → acc.length ≤ l.length
  | [], acc, e, l, e', h => by cases h; exact Nat.le_refl _
  | x :: xs, acc, e, l, e', h => by
    rw [compL, cTurn] at h
    cases q : gt x e with
    | none => rw [q] at h; cases h
    | some e1 =>
      rw [q] at h
      replace h : (c e1).bind _ = _ := h
      cases q2 : c e1 with
      | ex _ _ => rw [q2] at h; cases h
      | stuck => rw [q2] at h; cases h
      | ok t e2 =>
        rw [q2] at h
        cases t with
        | false => exact compL_len xs acc _ l e' h
        | true =>
          replace h : (f e2).bind _ = _ := h
          cases q3 : f e2 with
          | ex _ _ => rw [q3] at h; cases h
          | stuck => rw [q3] at h; cases h
          | ok d e3 =>
            rw [q3] at h
            have := compL_len xs (acc ++ [d]) _ l e' h
            rw [List.length_append] at this
            exact Nat.le_trans (Nat.le_add_right _ _) this
def tEx (X : Cx) (f : En → Res D) : TE := fun σ H Q => ∃ b, tE X b f σ H Q
def tTx (X : Cx) (f : En → Res Bool) : TT := fun σ H Q => ∃ b, tT X b f σ H Q
def tGx (X : Cx) (sl : List Nat) (gt : D → En → Option En) : TG := fun v σ H Q => ∃ b, tG X b sl gt v σ H Q
theorem pe_ex {a : Expr} {f : En → Res D} (h : ∀ b, PE X a (tE X b f)) : PE X a (tEx X f) := ⟨fun pins s σ H Q I ⟨b, q⟩ => (h b).run pins s σ H Q I q⟩
theorem pts_ex {cs : List Expr} {f : En → Res Bool} (h : ∀ b, PTs X cs (tT X b f)) : PTs X cs (tTx X f) := ⟨fun pins s σ H Q I ⟨b, q⟩ => (h b).run pins s σ H Q I q⟩
theorem pg_ex {tg : Expr} {sl : List Nat} {gt : D → En → Option En} (h : ∀ b, PG X tg (tG X b sl gt)) : PG X tg (tGx X sl gt) := ⟨fun pins s σ H v u Q I r ⟨b, q⟩ => (h b).run pins s σ H v u Q I r q⟩
theorem ts_nil : PTs X [] (tT X b cYes) := ⟨fun pins s σ H Q I ⟨e, F, ok, q⟩ => pts_nil.run pins s σ H Q I (q F H ok (Sub.refl F))⟩
theorem ts_one {c : Expr} {k : En → Res Bool} (h : PT X c (tT X b k)) : PTs X [c] (tT X b k) := pts_one h
theorem wipe_at (σ : St) (i : Nat) : ∀ vs : List Nat, (wipe σ vs)[i]? = if i ∈ vs ∧ i < σ.length then some none else σ[i]?
  | [] => rfl
  | v :: vs => by
    show ((wipe σ vs).set v none)[i]? = _
    by_cases h : i = v
    · subst h
      by_cases q : i < σ.length
      · rw [if_pos ⟨List.mem_cons_self, q⟩, List.getElem?_set_self (by rw [wipe_length]; exact q)]
      · rw [if_neg fun z => q z.2, List.getElem?_eq_none (by rw [List.length_set, wipe_length]; omega), List.getElem?_eq_none (by omega)]
    · rw [List.getElem?_set_ne (Ne.symm h), wipe_at σ i vs]
      by_cases q : i ∈ vs ∧ i < σ.length
      · rw [if_pos q, if_pos ⟨List.mem_cons_of_mem _ q.1, q.2⟩]
      · rw [if_neg q, if_neg fun z => (List.mem_cons.mp z.1).elim h fun y => q ⟨y, z.2⟩]
theorem wipe_eq {σ σ2 : St} {vs : List Nat} (hl : σ2.length = σ.length) (h : ∀ j, j ∉ vs → σ2[j]? = (wipe σ vs)[j]?) : wipe σ2 vs = wipe σ vs := by
  apply List.ext_getElem?
  intro i
  rw [wipe_at]
  by_cases q : i ∈ vs ∧ i < σ2.length
  · rw [if_pos q, wipe_at, if_pos ⟨q.1, hl ▸ q.2⟩]
  · rw [if_neg q]
    by_cases z : i ∈ vs
    · have : ¬ i < σ2.length := fun y => q ⟨z, y⟩
      rw [List.getElem?_eq_none (by omega), List.getElem?_eq_none (by rw [wipe_length]; omega)]
    · exact h i z
theorem tgN_len {i : Nat} {d : D} {e e' : En} (h : tgN i d e = some e') : e'.length = e.length := by
  rw [tgN_out h, eput_length]
theorem tgs_len : ∀ {is : List Nat} {ds : List D} {e e' : En}, tgs is ds e = some e' → e'.length = e.length
  | [], [], e, e', h => by cases h; rfl
  | [], _ :: _, e, e', h => by cases h
  | _ :: _, [], e, e', h => by cases h
  | i :: is, d :: ds, e, e', h => by
    rw [tgs] at h
    cases y : tgN i d e with
    | none => rw [y] at h; cases h
    | some e1 =>
      rw [y] at h
      exact (tgs_len (show tgs is ds e1 = some e' from h)).trans (tgN_len y)
theorem tgT_len {is : List Nat} {d : D} {e e' : En} (h : tgT is d e = some e') : e'.length = e.length := by
  cases d with
  | tup ds => exact tgs_len h
  | _ => cases h
theorem lc_in {fi : En → Res (List D)} {sl vs : List Nat} {gt : D → En → Option En} {c : En → Res Bool} {f : En → Res D} {Q : VK} (hsl : ∀ i ∈ sl, i ∈ vs) (hgl : ∀ {d e e'}, gt d e = some e' → e'.length = e.length) (h : tM X b (eLc fi gt c f vs) σ H Q) : tLc (tI X b fi) (tGx X sl gt) (tTx X c) (tEx X f) vs σ H Q := by
  obtain ⟨e, F, ok, q⟩ := h
  refine ⟨e, F, ok, (aft.bind q).mono fun ds e1 z J F1 H1 ok1 s1 wk D nD => ?_⟩
  cases hL : compL gt c f vs ds [] (wipeE e1 vs) with
  | ex _ _ => rw [hL] at z; exact z.elim
  | stuck => rw [hL] at z; exact z.elim
  | ok l el =>
  simp only [hL] at z
  by_cases hlen : l.length ≤ sizeLine
  case neg => rw [if_neg hlen] at z; exact z.elim
  rw [if_pos hlen] at z
  have n0 : b.H0 D = none := by
    cases r : b.H0 D with
    | none => rfl
    | some u =>
      obtain ⟨o', q⟩ := ok1.dom D u r
      rw [nD] at q
      cases q
  have nF1 : F1 D = none := free_sub ok1.sub nD
  have f0 : b.F0 D = none := by
    cases r : b.F0 D with
    | none => rfl
    | some u =>
      have := ok1.f0 D u r
      rw [nF1] at this
      cases this
  have ne1 : ∀ i d, eat e1 i = .ow d → σ[i]? ≠ some (some (.ref D)) := fun i d hi hs => by
    obtain ⟨a, h1, _, h3, _⟩ := ok1.own i d hi
    rw [hs] at h1
    cases h1
    obtain ⟨o, ho⟩ := h3.some
    rw [nD] at ho
    cases ho
  have okD : Ok (bd X b) F1 (upd H1 D (.lst [])) σ e1 := ok1.poke nF1 n0 ne1
  let P : Nat → Hp → Prop := fun i H' => i ≤ ds.length ∧ ∃ e' F' vl acc, Ok (bd X b) F' H' (wipe σ vs) e' ∧ Sub F1 F' ∧ F' D = none ∧ (∀ i d, eat e' i = .ow d → (wipe σ vs)[i]? ≠ some (some (.ref D))) ∧ H' D = some (.lst vl) ∧ RepL X.w X.K F' vl acc ∧ compL gt c f vs (ds.drop i) acc e' = .ok l el
  have wne : ∀ i d, eat (wipeE e1 vs) i = .ow d → (wipe σ vs)[i]? ≠ some (some (.ref D)) := fun i d hi => by
    rw [wipeE_at] at hi
    by_cases q : i ∈ vs
    · rw [if_pos q] at hi; cases hi
    · rw [if_neg q] at hi
      rw [wipe_out q]
      exact ne1 i d hi
  refine ⟨fun i m H' => m = ds.length - i ∧ P i H', ⟨_, rfl, Nat.zero_le _, _, F1, [], [], okD.wiped vs, Sub.refl F1, nF1, wne, upd_same, .nil, hL⟩, fun i m H' ⟨hm, hle, e', F', vl, acc, ok', s', nF', ne', hD, rl, hc⟩ => ?_⟩
  have sw : Sub F1 H' := s'.trans ok'.sub
  by_cases hlt : i < ds.length
  case neg =>
    have hi : i = ds.length := by omega
    subst hi
    rw [List.drop_length] at hc
    cases hc
    refine .inl ⟨(wk _ H' sw).2 (Nat.le_refl _), z (.ref D) F' H' (ok1.unwipe s' vs ok') (s1.trans s') (.inr ⟨rfl, D, rfl, nF', n0, ⟨vl, hD, hlen, rl⟩, fun i d hi => ?_⟩)⟩
    have hl : e1.length = el.length := by rw [← ok1.len, ← ok'.len, wipe_length]
    rw [backE_at _ _ _ hl] at hi
    by_cases q : i ∈ vs
    · rw [if_pos q] at hi
      cases z : eat e1 i with
      | sh d => rw [z] at hi; cases hi
      | no => rw [z] at hi; cases hi
      | ow _ => rw [z] at hi; cases hi
      | io _ => rw [z] at hi; cases hi
    · rw [if_neg q] at hi
      have := ne' i d hi
      rw [wipe_out q] at this
      exact this
  case pos =>
  have hd : ds[i]? = some ds[i] := List.getElem?_eq_getElem hlt
  rw [List.drop_eq_getElem_cons hlt, compL, cTurn] at hc
  obtain ⟨g1, g2⟩ := (wk i H' sw).1 _ hd
  refine .inr ⟨g1, P (i + 1), fun H2 p2 => ⟨ds.length - (i + 1), by omega, rfl, p2⟩, fun x H2 yl => ?_⟩
  obtain ⟨rfl, rx⟩ := g2 x H2 yl
  cases y : gt ds[i] e' with
  | none => rw [y] at hc; cases hc
  | some e2 =>
  rw [y] at hc
  replace hc : ((c e2).bind fun t e2 => if t then (f e2).bind fun d e3 => compL gt c f vs (ds.drop (i + 1)) (acc ++ [d]) (wipeE e3 vs) else compL gt c f vs (ds.drop (i + 1)) acc (wipeE e2 vs)) = .ok l el := hc
  have okR : Ok (bd X (b.rsv D (.lst vl))) F' H2 (wipe σ vs) e' := ok'.rsv n0 f0 nF' hD ne' (Bd0.nio n0)
  refine ⟨b.rsv D (.lst vl), e', F', ds[i], e2, okR, rx.mono s', y, fun σ2 ok2 hout => ?_⟩
  have hwe : wipe σ2 vs = wipe σ vs := wipe_eq (by rw [ok2.len, hgl y, ← ok'.len, wipe_length]) fun j hj => hout j fun z => hj (hsl j z)
  refine ⟨hwe, b.rsv D (.lst vl), e2, F', ok2, ?_⟩
  have hlv : vl.length = acc.length := rl.length
  have again : ∀ {e4 : En} {F4 H4 : Hp}, Ok (bd X (b.rsv D (.lst vl))) F4 H4 σ2 e4 → Sub F' F4 → ∀ {o : HO}, Ok (bd X b) F4 (upd H4 D o) (wipe σ vs) (wipeE e4 vs) ∧ F4 D = none ∧ H4 D = some (.lst vl) ∧ ∀ i d, eat (wipeE e4 vs) i = .ow d → (wipe σ vs)[i]? ≠ some (some (.ref D)) := fun {e4 F4 H4} ok4 s4 {o} => by
    obtain ⟨k4, r1, r2, r3⟩ := ok4.unrsv n0 f0 (Bd0.nio n0)
    refine ⟨(k4.poke r1 n0 r3).rewipe vs hwe, r1, r2, fun i d hi => ?_⟩
    rw [wipeE_at] at hi
    by_cases q : i ∈ vs
    · rw [if_pos q] at hi; cases hi
    · rw [if_neg q] at hi
      rw [← hwe, wipe_out q]
      exact r3 i d hi
  cases yc : c e2 with
  | ex _ _ => rw [yc] at hc; cases hc
  | stuck => rw [yc] at hc; cases hc
  | ok t e3 =>
  rw [yc] at hc
  show ∀ F3 H3, Ok (bd X (b.rsv D (.lst vl))) F3 H3 σ2 e3 → Sub F' F3 → _
  intro F3 H3 ok3 s3
  cases t with
  | false =>
    obtain ⟨k4, r1, r2, r3⟩ := again ok3 s3 (o := .lst vl)
    have e0 : upd H3 D (.lst vl) = H3 := by
      funext a
      by_cases z : a = D
      · subst z; rw [upd_same, r2]
      · rw [upd_ne z]
    rw [e0] at k4
    exact ⟨by omega, _, F3, vl, acc, k4, s'.trans s3, r1, r3, r2, rl.mono s3, hc⟩
  | true =>
    replace hc : ((f e3).bind fun d e3 => compL gt c f vs (ds.drop (i + 1)) (acc ++ [d]) (wipeE e3 vs)) = .ok l el := hc
    refine ⟨b.rsv D (.lst vl), e3, F3, ok3, ?_⟩
    cases yf : f e3 with
    | ex _ _ => rw [yf] at hc; cases hc
    | stuck => rw [yf] at hc; cases hc
    | ok d e4 =>
    rw [yf] at hc
    show ∀ v F4 H4, Ok (bd X (b.rsv D (.lst vl))) F4 H4 σ2 e4 → Sub F3 F4 → Rep X.w X.K F4 v d → _
    intro v F4 H4 ok4 s4 rv
    obtain ⟨k4, r1, r2, r3⟩ := again ok4 (s3.trans s4) (o := .lst (vl ++ [v]))
    have hl4 := compL_len _ _ _ _ _ (show compL gt c f vs (ds.drop (i + 1)) (acc ++ [d]) (wipeE e4 vs) = .ok l el from hc)
    rw [List.length_append] at hl4
    refine ⟨vl, r2, by rw [hlv]; exact Nat.lt_of_lt_of_le hl4 hlen, by omega, _, F4, vl ++ [v], acc ++ [d], k4, (s'.trans s3).trans s4, r1, r3, upd_same, ?_, hc⟩
    exact ((rl.mono s3).mono s4).append (.cons rv .nil)
end
end MP

set_option Elab.async false
set_option linter.all false
set_option maxRecDepth 100000
set_option autoImplicit false
namespace MP
open PySem L2
section
variable {X : Cx} {b : Bd0} {F F1 H : Hp} {σ : St} {e : En} {D0 : Ends}
/-! ### comprehensions: the rules -/
section
variable {elt tg iter : Expr} {ifs : List Expr} {scope : Scope} {own : List (Str × Nat)} {pos : Pos} {fi : En → Res (List D)} {sl : List Nat} {gt : D → En → Option En} {c : En → Res Bool} {f : En → Res D}
theorem m_lc (hc : X.calm = true) (hN : X.N.Nodup) (hi : PI X tg iter (tI X b fi)) (ok : BlkOk X.N X.env.scope scope own)
    (hg : ∀ (s : Shared) (H : Hp) (C : Addr) (cl : List (Str × Addr)) (fp : List Addr) (b : Bd0), PG (X.blk s H scope (compEnvC scope cl C X.env) fp) tg (tG (X.blk s H scope (compEnvC scope cl C X.env) fp) b sl gt))
    (ht : ∀ (s : Shared) (H : Hp) (C : Addr) (cl : List (Str × Addr)) (fp : List Addr) (b : Bd0), PTs (X.blk s H scope (compEnvC scope cl C X.env) fp) ifs (tT (X.blk s H scope (compEnvC scope cl C X.env) fp) b c))
    (he : ∀ (s : Shared) (H : Hp) (C : Addr) (cl : List (Str × Addr)) (fp : List Addr) (b : Bd0), PE (X.blk s H scope (compEnvC scope cl C X.env) fp) elt (tE (X.blk s H scope (compEnvC scope cl C X.env) fp) b f))
    (hgl : ∀ {d e e'}, gt d e = some e' → e'.length = e.length) (hsl : ∀ i ∈ sl, i ∈ own.map (·.2) := by decide) (hs : ∀ x, foldedSetIterable iter X.env x = pure x := by intro _; rfl) :
    PE X (.ListComp elt [⟨tg, iter, ifs, 0⟩] scope pos) (tM X b (eLc fi gt c f (own.map (·.2)))) :=
  pe_of (pe_lc hc hN hi ok (g := tGx X sl gt) (tt := tTx X c) (te := tEx X f) (fun s H C cl fp => pg_ex fun b => hg s H C cl fp b) (fun s H C cl fp => pts_ex fun b => ht s H C cl fp b) (fun s H C cl fp => pe_ex fun b => he s H C cl fp b) hs) fun _ _ _ h => lc_in hsl hgl h
theorem s_setLc {i : Nat} {y : Str} {py spos : Pos} (hc : X.calm = true) (hN : X.N.Nodup) (hy : X.N[i]? = some y) (hyl : X.env.scope.names.lookup y = some .local) (hsw : swapsWith (.ListComp elt [⟨tg, iter, ifs, 0⟩] scope pos) (some (.Name y py)) spos.line X.env = pure true)
    (hi : PI X tg iter (tI X b fi)) (ok : BlkOk X.N X.env.scope scope own)
    (hg : ∀ (s : Shared) (H : Hp) (C : Addr) (cl : List (Str × Addr)) (fp : List Addr) (b : Bd0), PG (X.blk s H scope (compEnvC scope cl C X.env) fp) tg (tG (X.blk s H scope (compEnvC scope cl C X.env) fp) b sl gt))
    (ht : ∀ (s : Shared) (H : Hp) (C : Addr) (cl : List (Str × Addr)) (fp : List Addr) (b : Bd0), PTs (X.blk s H scope (compEnvC scope cl C X.env) fp) ifs (tT (X.blk s H scope (compEnvC scope cl C X.env) fp) b c))
    (he : ∀ (s : Shared) (H : Hp) (C : Addr) (cl : List (Str × Addr)) (fp : List Addr) (b : Bd0), PE (X.blk s H scope (compEnvC scope cl C X.env) fp) elt (tE (X.blk s H scope (compEnvC scope cl C X.env) fp) b f))
    (hgl : ∀ {d e e'}, gt d e = some e' → e'.length = e.length) (hsl : ∀ i ∈ sl, i ∈ own.map (·.2) := by decide) (hs : ∀ x, foldedSetIterable iter X.env x = pure x := by intro _; rfl) :
    PS X (.Assign [.Name y py] (.ListComp elt [⟨tg, iter, ifs, 0⟩] scope pos) spos) (tS X b (sSetM i (eLc fi gt c f (own.map (·.2))))) :=
  ps_of (ps_setLc hc hN hy hyl hsw hi ok (g := tGx X sl gt) (tt := tTx X c) (te := tEx X f) (fun s H C cl fp => pg_ex fun b => hg s H C cl fp b) (fun s H C cl fp => pts_ex fun b => ht s H C cl fp b) (fun s H C cl fp => pe_ex fun b => he s H C cl fp b) hs) fun D0 σ H h => by
    obtain ⟨e, F, k, q⟩ := h
    exact lc_in (b := b) hsl hgl ⟨e, F, k, (aftS.step q σ).mono fun d e' z v F' H' k' s r => setM_in k' s z r⟩
end

/-! ### methods that change a list of one's own -/
def LMr (R : V → List V → Hp → VK → Prop) (g : List D → List D → Option (D × List D)) : Prop := ∀ (w : World) (K : PySem.W.Frag) (F H : Hp) (a : Addr) (vs xs : List V) (ds args : List D) (r : D) (ds' : List D) (Q : VK), H a = some (.lst vs) → RepL w K F vs ds → ds.length ≤ sizeLine → RepL w K F xs args → g ds args = some (r, ds') →
  (∀ v vs', RepL w K F vs' ds' → ds'.length ≤ sizeLine → Rep w K F v r → Q v (upd H a (.lst vs'))) → R (.ref a) xs H Q
def eLM (i : Nat) (fs : List (En → Res D)) (g : List D → List D → Option (D × List D)) : En → Res D := fun e => mutAt i e fun l0 => match l0 with
  | .lst _ => (seqE fs e).bind fun args e => mutAt i e fun l => match l with
    | .lst ds => (match g ds args with
      | some (r, ds') => .ok r (eput e i ((eat e i).with (.lst ds')))
      | none => .stuck)
    | _ => .stuck
  | _ => .stuck
theorem mut_lst {l0 : D} {α : Type} {r : List D → Res α} {k : α → En → Prop} (h : aft X b F σ (match l0 with | .lst ds => r ds | _ => .stuck) k) : ∃ ds, l0 = .lst ds ∧ aft X b F σ (r ds) k := by
  cases l0 <;> first | exact h.elim | exact ⟨_, rfl, h⟩
theorem lm_end {i : Nat} {l : D} {args : List D} {xs : List V} {a : Addr} {g : List D → List D → Option (D × List D)} {R : V → List V → Hp → VK → Prop} {Q : VK} {F0 : Hp} (hR : LMr R g) (ok : Ok (bd X b) F H σ e) (s : Sub F0 F) (ha : σ[i]? = some (some (.ref a))) (rx : RepL X.w X.K F xs args)
    (h : aft X b F0 σ (mutAt i e fun l => match l with
      | .lst ds => (match g ds args with
        | some (r, ds') => .ok r (eput e i ((eat e i).with (.lst ds')))
        | none => .stuck)
      | _ => .stuck) fun d e' => ∀ v F' H', Ok (bd X b) F' H' σ e' → Sub F0 F' → Rep X.w X.K F' v d → Q v H') : R (.ref a) xs H Q := by
  obtain ⟨l, hl, h⟩ := aft.mut h
  obtain ⟨ds, rfl, h⟩ := mut_lst (r := fun ds => match g ds args with
        | some (r, ds') => .ok r (eput e i ((eat e i).with (.lst ds')))
        | none => .stuck) h
  obtain ⟨a', h1, h2, h3⟩ := ok.mutAt hl
  rw [ha] at h1
  cases h1
  obtain ⟨vs, hv, hz, rl⟩ := h3
  cases y : g ds args with
  | none => simp only [y] at h; exact h.elim
  | some p =>
    obtain ⟨r, ds'⟩ := p
    simp only [y] at h
    exact hR X.w X.K F H a vs xs ds args r ds' Q hv rl hz rx y fun v vs' r1 r2 r3 => h v F _ (ok.change hl ha ⟨vs', upd_same, r2, r1⟩) s r3
section
variable {i : Nat} {o a : Expr} {es : List Expr} {fs : List (En → Res D)} {g : List D → List D → Option (D × List D)} {name : Str} {apos cpos : Pos} {id : String} {R : V → List V → Hp → VK → Prop}
theorem e_lm (hR : LMr R g) (slot : PySem.Slot "list" name id) (hty : typeOf (.builtin id) = pure (.type "method_descriptor")) (hm : MtR X id R) (ho : PE X o (tVar i)) (ha : PA X (a :: es) (tAs X b fs))
    (hbase : attributeBase o name X.env (eval o X.env) = eval o X.env := by rfl)
    (hfew : ((backTo cpos (starEach (a :: es) X.env)).all (fun x => !x.1) && (backToKw cpos (keywordEach [] X.env)).all (fun x => x.1.isSome)
      && decide ((a :: es).length + ([] : List Keyword).length + (if ([] : List Keyword).isEmpty then 0 else 1) < 30)) = true := by rfl)
    (hline : (apos.endLine == cpos.line) = true := by rfl) (hs : starEach (a :: es) X.env = (false, eval a X.env) :: starEach es X.env := by rfl) (hplain : (backTo cpos (starEach es X.env)).any (·.1) = false := by rfl) :
    PE X (.Call (.Attribute o name apos) (a :: es) [] cpos) (tE X b (eLM i fs g)) := by
  refine pe_of (pe_bm PySem.F.plainAttrs_list slot hty hm ho ha hbase hfew hline hs hplain) fun σ H Q ⟨e, F, ok, q⟩ => ?_
  obtain ⟨l0, hl0, q⟩ := aft.mut (show aft X b F σ (mutAt i e _) _ from q)
  obtain ⟨ds0, rfl, q⟩ := mut_lst (r := fun _ => (seqE fs e).bind fun args e => mutAt i e fun l => match l with
    | .lst ds => (match g ds args with
      | some (r, ds') => .ok r (eput e i ((eat e i).with (.lst ds')))
      | none => .stuck)
    | _ => .stuck) q
  obtain ⟨p, hp, nF, ⟨vs, hv, _, _⟩⟩ := ok.mutAt hl0
  refine ⟨.ref p, hp, .inl ⟨rfl, vs, .inl (.inl hv)⟩, e, F, ok, (aft.bind q).mono fun args e' z xs F' H' ok' s rx => lm_end (l := .non) hR ok' s hp rx ?_⟩
  exact z
theorem e_lm0 (hR : LMr R g) (slot : PySem.Slot "list" name id) (hty : typeOf (.builtin id) = pure (.type "method_descriptor")) (hm : MtR X id R) (ho : PE X o (tVar i))
    (hbase : attributeBase o name X.env (eval o X.env) = eval o X.env := by rfl) (hline : (apos.endLine == cpos.line) = true := by rfl) : PE X (.Call (.Attribute o name apos) [] [] cpos) (tE X b (eLM i [] g)) := by
  refine pe_of (pe_bm0 PySem.F.plainAttrs_list slot hty hm ho hbase hline) fun σ H Q ⟨e, F, ok, q⟩ => ?_
  obtain ⟨l0, hl0, q⟩ := aft.mut (show aft X b F σ (mutAt i e _) _ from q)
  obtain ⟨ds0, rfl, q⟩ := mut_lst (r := fun _ => (seqE [] e).bind fun args e => mutAt i e fun l => match l with
    | .lst ds => (match g ds args with
      | some (r, ds') => .ok r (eput e i ((eat e i).with (.lst ds')))
      | none => .stuck)
    | _ => .stuck) q
  obtain ⟨p, hp, nF, ⟨vs, hv, _, _⟩⟩ := ok.mutAt hl0
  exact ⟨.ref p, hp, .inl ⟨rfl, vs, .inl (.inl hv)⟩, lm_end (l := .non) (args := []) hR ok (Sub.refl F) hp .nil q⟩
end
def gApp : List D → List D → Option (D × List D)
  | ds, [d] => if ds.length < sizeLine then some (.non, ds ++ [d]) else none
  | _, _ => none
def gPop : List D → List D → Option (D × List D)
  | ds, [] => (ds.getLast?).map fun d => (d, ds.dropLast)
  | _, _ => none
def gPopAt : List D → List D → Option (D × List D)
  | ds, [.int i] => if -(2 ^ 63) ≤ i ∧ i < 2 ^ 63 then (match seqIndex? i ds.length with
      | some k => (ds[k]?).map fun d => (d, ds.eraseIdx k)
      | none => none) else none
  | _, _ => none
def gRev : List D → List D → Option (D × List D)
  | ds, [] => some (.non, ds.reverse)
  | _, _ => none
def gIns : List D → List D → Option (D × List D)
  | ds, [.int i, d] => if ds.length < sizeLine ∧ 0 ≤ i ∧ i < 2 ^ 63 then some (.non, ds.take i.toNat ++ [d] ++ ds.drop i.toNat) else none
  | _, _ => none
theorem lm_app : LMr rAppend gApp := fun w K F H a vs xs ds args r ds' Q hH rl hz rx hg q => by
  cases rx with
  | nil => cases hg
  | cons r1 t =>
    cases t with
    | cons _ _ => cases hg
    | nil =>
      rename_i d
      replace hg : (if ds.length < sizeLine then some (D.non, ds ++ [d]) else none) = some (r, ds') := hg
      by_cases h : ds.length < sizeLine
      · rw [if_pos h] at hg
        cases hg
        exact ⟨a, vs, _, rfl, rfl, hH, by rw [rl.length]; exact h, q _ _ (rl.append (.cons r1 .nil)) (by rw [List.length_append]; exact h) .non⟩
      · rw [if_neg h] at hg
        cases hg
theorem lm_pop : LMr rPop gPop := fun w K F H a vs xs ds args r ds' Q hH rl hz rx hg q => by
  cases rx with
  | cons _ _ => cases hg
  | nil =>
    obtain ⟨d, hd, e⟩ := Option.map_eq_some_iff.mp (show (ds.getLast?).map _ = some (r, ds') from hg)
    cases e
    rw [List.getLast?_eq_getElem?] at hd
    obtain ⟨v, hv, rv⟩ := rl.get hd
    exact ⟨a, vs, v, rfl, rfl, hH, by rw [rl.length]; exact hv, q _ _ rl.dropLast (by rw [List.length_dropLast]; omega) rv⟩
theorem lm_popAt : LMr rPopAt gPopAt := fun w K F H a vs xs ds args r ds' Q hH rl hz rx hg q => by
  cases rx with
  | nil => cases hg
  | cons r1 t =>
    cases t with
    | cons _ _ => 
      cases r1 <;> cases hg
    | nil =>
      cases r1 with
      | int i =>
        replace hg : (if -(2 ^ 63) ≤ i ∧ i < 2 ^ 63 then (match seqIndex? i ds.length with
          | some k => (ds[k]?).map fun d => (d, ds.eraseIdx k)
          | none => none) else none) = some (r, ds') := hg
        by_cases h : -(2 ^ 63) ≤ i ∧ i < 2 ^ 63
        · rw [if_pos h] at hg
          cases hk : seqIndex? i ds.length with
          | none => rw [hk] at hg; cases hg
          | some k =>
            rw [hk] at hg
            obtain ⟨d, hd, e⟩ := Option.map_eq_some_iff.mp hg
            cases e
            obtain ⟨v, hv, rv⟩ := rl.get hd
            refine ⟨a, vs, i, k, v, rfl, rfl, hH, h.1, h.2, by rw [rl.length]; exact hk, hv, q _ _ (rl.eraseIdx k) ?_ rv⟩
            have := List.length_eraseIdx_le ds k
            omega
        · rw [if_neg h] at hg
          cases hg
      | _ => cases hg
theorem lm_rev : LMr rReverse gRev := fun w K F H a vs xs ds args r ds' Q hH rl hz rx hg q => by
  cases rx with
  | cons _ _ => cases hg
  | nil =>
    cases hg
    exact ⟨a, vs, rfl, rfl, hH, q _ _ rl.reverse (by rw [List.length_reverse]; exact hz) .non⟩
def rInsert : V → List V → Hp → VK → Prop := fun x vs H Q => ∃ (l : Addr) (xs : List V) (i : Int) (y : V), x = .ref l ∧ vs = [.int i, y] ∧ H l = some (.lst xs) ∧ xs.length < sizeLine ∧ 0 ≤ i ∧ i < 2 ^ 63 ∧
    Q .non (upd H l (.lst (xs.take i.toNat ++ [y] ++ xs.drop i.toNat)))
theorem lm_ins : LMr rInsert gIns := fun w K F H a vs xs ds args r ds' Q hH rl hz rx hg q => by
  cases rx with
  | nil => cases hg
  | cons r1 t =>
    cases t with
    | nil => cases r1 <;> cases hg
    | cons r2 t =>
      cases t with
      | cons _ _ => cases r1 <;> cases hg
      | nil =>
        cases r1 with
        | int i =>
          rename_i d
          replace hg : (if ds.length < sizeLine ∧ 0 ≤ i ∧ i < 2 ^ 63 then some (D.non, ds.take i.toNat ++ [d] ++ ds.drop i.toNat) else none) = some (r, ds') := hg
          by_cases h : ds.length < sizeLine ∧ 0 ≤ i ∧ i < 2 ^ 63
          · rw [if_pos h] at hg
            cases hg
            refine ⟨a, vs, i, _, rfl, rfl, hH, by rw [rl.length]; exact h.1, h.2.1, h.2.2, q _ _ (((rl.take _).append (.cons r2 .nil)).append (rl.drop _)) ?_ .non⟩
            have : (ds.take i.toNat ++ [d] ++ ds.drop i.toNat).length = ds.length + 1 := by
              rw [List.length_append, List.length_append, List.length_take, List.length_drop]
              simp
              omega
            rw [this]
            exact h.1
          · rw [if_neg h] at hg
            cases hg
        | _ => cases hg
end
end MP

set_option Elab.async false
set_option linter.all false
set_option maxRecDepth 100000
set_option autoImplicit false
namespace MP
open PySem L2
section
variable {X : Cx} {b : Bd0} {F F1 H : Hp} {σ : St} {e : En} {D0 : Ends}
/-! ### x[i] = e, d[k] = e -/
def dSet (c k d : D) : Option D := match c with
  | .lst ds => (match k with
    | .int i => (ixN ds.length i).map fun n => .lst (ds.set n d)
    | _ => none)
  | .dct t kvs => if k.keyOk t = true ∧ (dput kvs k d).length ≤ sizeLine then some (.dct t (dput kvs k d)) else none
  | _ => none
def rSetD (X : Cx) : TSet := fun x y z H Q => ∃ F a c k d c', x = .ref a ∧ Sub F H ∧ F a = none ∧ Own X.w X.K F H a c ∧ Pk X.w X.K F H y k ∧ Rep X.w X.K F z d ∧ dSet c k d = some c' ∧ ∀ o, Own X.w X.K F (upd H a o) a c' → Q (upd H a o)
theorem set_d (hu : X.A.units + 100 < cLine) : PSet X (rSetD X) := by
  intro pins s σ H o i v ov iv u Q I ro ri rv h
  obtain ⟨F, a, c, k, d, c', rfl, sub, nF, ow, pk, rd, hs, q⟩ := h
  cases c with
  | lst ds =>
    cases k with
    | int j =>
      obtain ⟨n, hn, e⟩ := Option.map_eq_some_iff.mp (show (ixN ds.length j).map _ = some c' from hs)
      subst e
      have hv := pk.int
      subst hv
      obtain ⟨vs, h1, h2, h3⟩ := ow
      exact set_list pins s σ H (.ref a) (.int j) v ov iv u Q I ro ri rv ⟨a, vs, j, n, rfl, rfl, h1, by rw [h3.length]; exact hn, q _ ⟨_, upd_same, by rw [List.length_set]; exact h2, RepL.set rd n h3⟩⟩
    | _ => cases hs
  | dct t kvs =>
    replace hs : (if k.keyOk t = true ∧ (dput kvs k d).length ≤ sizeLine then some (D.dct t (dput kvs k d)) else none) = some c' := hs
    by_cases hk : k.keyOk t = true ∧ (dput kvs k d).length ≤ sizeLine
    · rw [if_pos hk] at hs
      cases hs
      cases ro
      exact dct_put hu I sub ow nF pk hk.1 ri rv rd hk.2 fun o' s' I' ow' => ⟨_, I', q _ ow'⟩
    · rw [if_neg hk] at hs
      cases hs
  | _ => cases hs
def sSub (i : Nat) (fk fe : En → Res D) : En → Res Fl := fun e => (fe e).bind fun d e => mutAt i e fun _ => (fk e).bind fun k e => mutAt i e fun c => (Res.opt (dSet c k d) e).bind fun c' e => .ok .nx (eput e i ((eat e i).with c'))
theorem s_sub (hu : X.A.units + 100 < cLine) {i : Nat} {o ix a : Expr} {fk fe : En → Res D} {ps pos : Pos} (h : PE X a (tE X b fe)) (ho : PE X o (tVar i)) (hi : PE X ix (tE X b fk))
    (hs : swapsWithSole [.Subscript o ix ps] a pos.line X.env = pure false := by rfl) (hw : swappedStores [.Subscript o ix ps] a X.env = pure none := by rfl)
    (h1 : (assignEach [.Subscript o ix ps] X.env).map (·.2) = [assign (.Subscript o ix ps) X.env] := by rfl)
    (ha : ∀ v, assign (.Subscript o ix ps) X.env v = (do
      let ov ← holding [v] (eval o X.env)
      let iv ← holding [v, ov] (eval ix X.env)
      standAt ps
      holding [v, ov, iv] (setItem ov iv v)
      release [v, ov, iv] []) := by intro _; rfl) : PS X (.Assign [.Subscript o ix ps] a pos) (tS X b (sSub i fk fe)) :=
  ps_of (ps_asg h (pg_sub ho hi (set_d hu) ha) hs hw h1) fun D0 σ H ⟨e, F, k, q⟩ => ⟨e, F, k, (aftS.step q σ).mono fun d e1 z v F1 H1 k1 s1 r1 => by
    cases y : (eat e1 i).mut with
    | none =>
      unfold mutAt at z
      rw [y] at z
      exact z.elim
    | some c0 =>
      unfold mutAt at z
      rw [y] at z
      obtain ⟨p, hp, _, _⟩ := k1.mutAt y
      refine ⟨.ref p, hp, e1, F1, k1, (aftS.step (z.sub s1) σ).mono fun kd e2 z2 y2 F2 H2 k2 s2 r2 => ?_⟩
      cases y3 : (eat e2 i).mut with
      | none => rw [y3] at z2; exact z2.elim
      | some c =>
        rw [y3] at z2
        obtain ⟨p', hp', n2, ow⟩ := k2.mutAt y3
        rw [hp] at hp'
        cases hp'
        obtain ⟨c', hc, z3⟩ := aftS.opt z2
        exact ⟨F2, p, c, kd, d, c', rfl, k2.sub, n2, ow, .inl r2, r1.mono s2, hc, fun o ow' => (show ∀ σ F' H, _ from z3) σ F2 _ (k2.change y3 hp ow') s2⟩⟩

/-! ### x += e -/
def sAug (i : Nat) (g : D → D → Option D) (f : En → Res D) : En → Res Fl := fun e => match eat e i with
  | .sh d0 => if d0.isMut then .stuck else (f e).bind fun d e => (Res.opt (g d0 d) e).bind fun r e => setM i r e
  | _ => .stuck
theorem s_aug {i : Nat} {x : Str} {a : Expr} {f : En → Res D} {g : D → D → Option D} {op : Operator} {pos pos' : Pos} (hr : OpR X (inplaceOp op) (rG X g)) (hN : X.N.Nodup) (hi : X.N[i]? = some x) (hx : Loc X.env.scope x) (h : PE X a (tE X b f))
    (hf : X.fn x = true ∨ X.env.scope.names.lookup x = some .local := by first | exact .inl rfl | exact .inr rfl | assumption) : PS X (.AugAssign (.Name x pos') op a pos) (tS X b (sAug i g f)) :=
  ps_of (ps_aug hN hi hx h hr hf) fun D0 σ H ⟨e, F, k, q⟩ => by
    unfold sAug at q
    cases y : eat e i with
    | no => rw [y] at q; exact q.elim
    | ow _ => rw [y] at q; exact q.elim
    | io _ => rw [y] at q; exact q.elim
    | sh d0 =>
      rw [y] at q
      cases m : d0.isMut with
      | true => simp only [m, if_true] at q; exact q.elim
      | false =>
        simp only [m] at q
        obtain ⟨v0, hv, r0⟩ := k.shd i d0 y
        refine ⟨v0, hv, e, F, k, (aftS.step (show aftS X b F D0 ((f e).bind fun d e => (Res.opt (g d0 d) e).bind fun r e => setM i r e) from q) σ).mono fun d e1 z v F1 H1 k1 s1 r1 => ?_⟩
        obtain ⟨r, hg, z⟩ := aftS.opt z
        refine ⟨F1, d0, d, r, k1.sub, .inl (r0.mono s1), .inl r1, hg, fun v F2 H2 po => ?_⟩
        obtain ⟨k2, mv⟩ := k1.post po
        exact setM_in k2 (s1.trans po.1.f) z mv
theorem ig_int : OpR X (inplaceOp .Add) (rG X fun a c => match a, c with | .int i, .int j => some (.int (i + j)) | _, _ => none) := fun pins s σ H x y v u Q I rx ry ⟨F, a, c, d, sub, pa, pc, hg, q⟩ => by
  cases a with
  | int i =>
    cases c with
    | int j =>
      cases hg
      have e1 := pa.int
      have e2 := pc.int
      subst e1 e2
      exact iop_add pins s σ H _ _ v u Q I rx ry ⟨i, j, rfl, rfl, q _ F H (.same sub (.int _) rfl)⟩
    | _ => cases hg
  | _ => cases hg
def dAddI (a c : D) : Option D := match a, c with | .int i, .int j => some (.int (i + j)) | _, _ => none
def dSubI (a c : D) : Option D := match a, c with | .int i, .int j => some (.int (i - j)) | _, _ => none
theorem ig_add : OpR X (inplaceOp .Add) (rG X dAddI) := ig_int
theorem ig_sub : OpR X (inplaceOp .Sub) (rG X dSubI) := fun pins s σ H x y v u Q I rx ry ⟨F, a, c, d, sub, pa, pc, hg, q⟩ => by
  cases a with
  | int i =>
    cases c with
    | int j =>
      cases hg
      have e1 := pa.int
      have e2 := pc.int
      subst e1 e2
      exact iop_sub pins s σ H _ _ v u Q I rx ry ⟨i, j, rfl, rfl, q _ F H (.same sub (.int _) rfl)⟩
    | _ => cases hg
  | _ => cases hg
/-- a list of one's own, longer by a list -/
def sExt (i : Nat) (f : En → Res D) : En → Res Fl := fun e => mutAt i e fun l0 => match l0 with
  | .lst _ => (f e).bind fun d e => mutAt i e fun l => match l, d with
    | .lst ds, .lst es => if ds.length + es.length ≤ sizeLine then .ok .nx (eput e i ((eat e i).with (.lst (ds ++ es)))) else .stuck
    | _, _ => .stuck
  | _ => .stuck
theorem aftS.mut {i : Nat} {f : D → Res Fl} (h : aftS X b F D0 (mutAt i e f)) : ∃ d, (eat e i).mut = some d ∧ aftS X b F D0 (f d) := by
  unfold mutAt at h
  cases q : (eat e i).mut with
  | some d => rw [q] at h; exact ⟨d, rfl, h⟩
  | none => rw [q] at h; exact h.elim
theorem set_self {σ : St} {i : Nat} {v : V} (h : σ[i]? = some (some v)) : σ.set i (some v) = σ := by
  apply List.ext_getElem?
  intro j
  by_cases q : j = i
  · subst q
    rw [List.getElem?_set_self (List.getElem?_eq_some_iff.mp h).1, h]
  · rw [List.getElem?_set_ne (Ne.symm q)]
theorem s_ext {i : Nat} {x : Str} {a : Expr} {f : En → Res D} {pos pos' : Pos} (hN : X.N.Nodup) (hi : X.N[i]? = some x) (hx : Loc X.env.scope x) (h : PE X a (tE X b f))
    (hf : X.fn x = true ∨ X.env.scope.names.lookup x = some .local := by first | exact .inl rfl | exact .inr rfl | assumption) : PS X (.AugAssign (.Name x pos') .Add a pos) (tS X b (sExt i f)) :=
  ps_of (ps_aug hN hi hx h iop_ext hf) fun D0 σ H ⟨e, F, k, q⟩ => by
    obtain ⟨l0, hl0, q⟩ := aftS.mut (show aftS X b F D0 (mutAt i e _) from q)
    cases l0 with
    | lst ds0 =>
      obtain ⟨p, hp, _, _⟩ := k.mutAt hl0
      refine ⟨.ref p, hp, e, F, k, (aftS.step (show aftS X b F D0 ((f e).bind _) from q) σ).mono fun d e1 z v F1 H1 k1 s1 r1 => ?_⟩
      obtain ⟨l, hl, z⟩ := aftS.mut z
      cases l with
      | lst ds =>
        cases d with
        | lst es =>
          replace z : aftS X b F D0 (if ds.length + es.length ≤ sizeLine then .ok .nx (eput e1 i ((eat e1 i).with (.lst (ds ++ es)))) else .stuck) := z
          by_cases hz : ds.length + es.length ≤ sizeLine
          · rw [if_pos hz] at z
            obtain ⟨p', hp', n1, vs, hv, _, rl⟩ := k1.mutAt hl
            rw [hp] at hp'
            cases hp'
            cases r1 with
            | @lst a2 ws _ hF hz2 rw2 =>
              refine ⟨p, a2, vs, ws, rfl, rfl, hv, k1.sub _ _ hF, by rw [rl.length, rw2.length]; exact hz, ?_⟩
              show D0.nx (σ.set i (some (.ref p))) _
              rw [set_self hp]
              exact z σ F1 _ (k1.change hl hp ⟨_, upd_same, by rw [List.length_append]; exact hz, rl.append rw2⟩) s1
          · rw [if_neg hz] at z
            exact z.elim
        | _ => exact z.elim
      | _ => exact z.elim
    | _ => exact q.elim

/-! ### {} -/
theorem exact_laid {pins : List (Addr × Obj)} {s : Shared} (I : L2.Inv X pins σ H s) : L2.Inv X pins σ (upd H s.heap.objs.size (exactHO s.heap.objs.size { cls := .type "dict", data := .dict #[] })) { s with heap := s.heap.push { cls := .type "dict", data := .dict #[] } } :=
  I.laid (a := s.heap.objs.size) (o := exactHO s.heap.objs.size { cls := .type "dict", data := .dict #[] }) (t' := s.toks) (fun _ _ q => Heap.get?_push_of_some _ q) (Nat.le_refl _) ⟨Heap.get?_push_size _ rfl, ⟨_, Heap.get?_push_size _ rfl⟩, fun h1 h2 q k => k _ q⟩
def eD0 (t : Bool) : En → Res D := fun e => .ok (.dct t []) e
theorem m_d0 (t : Bool) {pos : Pos} : PE X (.Dict [] [] pos) (tM X b (eD0 t)) := ⟨fun pins s σ H Q I ⟨e, F, ok, q⟩ => wpAny_Dict_empty (by
  have n := I.hok.fresh (Nat.le_refl s.heap.objs.size)
  have hb := I.big
  have po : Post X.w X.K F H F (upd H s.heap.objs.size (exactHO s.heap.objs.size { cls := .type "dict", data := .dict #[] })) (.ref s.heap.objs.size) (.dct t []) :=
    .new ok.sub n rfl ⟨_, #[], 0, upd_same, beq_eq_false_iff_ne.mpr (Ne.symm (Nat.ne_of_lt hb)), ⟨rfl, rfl, rfl⟩, rfl, Nat.zero_le _, List.nodup_nil, .nil⟩
  obtain ⟨ok2, mv⟩ := ok.post po
  exact ⟨.ref s.heap.objs.size, _, exact_laid I, rfl, q _ F _ ok2 (Sub.refl F) mv⟩)⟩

/-! ### methods that look only -/
/-- the receiver's type, as the heap tells it -/
def IsT (X : Cx) (T : String) (ty : V → Hp → Prop) : Prop := ∀ (pins : List (Addr × Obj)) (s : Shared) (σ : St) (H : Hp) (x : V) (v : Value), L2.Inv X pins σ H s → RelV x v → ty x H → s.TypeIs v T ∧ ∀ a, v = .ref a → ∃ ob, s.heap.get? a = some ob ∧ ob.dict = none
section
variable {o a : Expr} {es : List Expr} {to : TE} {t : TA} {name : Str} {apos cpos : Pos} {T id : String} {R : V → List V → Hp → VK → Prop} {ty : V → Hp → Prop}
theorem pe_bmT (hT : IsT X T ty) (pa : PlainAttrs T) (slot : PySem.Slot T name id) (hty : typeOf (.builtin id) = pure (.type "method_descriptor")) (hm : MtR X id R) (ho : PE X o to) (ha : PA X (a :: es) t)
    (hbase : attributeBase o name X.env (eval o X.env) = eval o X.env := by rfl)
    (hfew : ((backTo cpos (starEach (a :: es) X.env)).all (fun x => !x.1) && (backToKw cpos (keywordEach [] X.env)).all (fun x => x.1.isSome)
      && decide ((a :: es).length + ([] : List Keyword).length + (if ([] : List Keyword).isEmpty then 0 else 1) < 30)) = true := by rfl)
    (hline : (apos.endLine == cpos.line) = true := by rfl) (hs : starEach (a :: es) X.env = (false, eval a X.env) :: starEach es X.env := by rfl) (hplain : (backTo cpos (starEach es X.env)).any (·.1) = false := by rfl) :
    PE X (.Call (.Attribute o name apos) (a :: es) [] cpos) (fun σ H Q => to σ H fun x H1 => ty x H1 ∧ t σ H1 fun xs H2 => R x xs H2 Q) := by
  refine ⟨fun pins s σ H Q I h => ?_⟩
  refine wpAny_Call_method_late hbase hfew hline rfl (thn (ho.run pins s σ H _ I h) fun v s1 ⟨x, H1, I1, r1, ty1, q1⟩ => ?_)
  obtain ⟨h1, h2⟩ := hT pins s1 σ H1 x v I1 r1 ty1
  refine ⟨T, id, pa, slot, hty, h1, h2, ?_⟩
  have hA := ha.run cpos pins s1 σ H1 _ I1 q1
  rw [hs] at hA ⊢
  refine PySem.Calls.callWith_builtin (by show (false || (backTo cpos (starEach es X.env)).any (·.1)) = false; rw [hplain] <;> rfl) (PySem.Calls.evalArgs_plain ?_)
  exact thn hA fun us s2 ⟨vs, H2, I2, r2, q2⟩ => hm pins s2 σ H2 x vs v us Q I2 r1 r2 q2
end
/-- a receiver that is looked at: a name (i), or a frozen value -/
def eMt (oo : Opd) (ok : D → Bool) (os : List Opd) (g : D → List D → Option D) : En → Res D := match oo with
  | .f r => fun e => (r e).bind fun d e => if ok d then (args os e).bind fun l e => Res.opt (g d l) e else .stuck
  | .n i => fun e => seeAt i e fun d => if ok d then (args os e).bind fun l e => seeAt i e fun d => Res.opt (g d l) e else .stuck
def rMt (X : Cx) (g : D → List D → Option D) : V → List V → Hp → VK → Prop := fun x xs H Q => ∃ F d l r, Sub F H ∧ Pk X.w X.K F H x d ∧ PkL X.w X.K F H xs l ∧ g d l = some r ∧ ∀ v F' H', Post X.w X.K F H F' H' v r → Q v H'
def isD (X : Cx) (ok : D → Bool) : V → Hp → Prop := fun x H => ∃ F d, Sub F H ∧ Pk X.w X.K F H x d ∧ ok d = true
theorem m_mt {ok : D → Bool} {g : D → List D → Option D} {oo : Opd} {os : List Opd} {o a : Expr} {es : List Expr} {name : Str} {apos cpos : Pos} {T id : String} (hT : IsT X T (isD X ok)) (hm : MtR X id (rMt X g)) (pa : PlainAttrs T) (slot : PySem.Slot T name id) (hty : typeOf (.builtin id) = pure (.type "method_descriptor")) (ho : PE X o (tO X b oo)) (ha : PA X (a :: es) (tAr X b os))
    (hbase : attributeBase o name X.env (eval o X.env) = eval o X.env := by rfl)
    (hfew : ((backTo cpos (starEach (a :: es) X.env)).all (fun x => !x.1) && (backToKw cpos (keywordEach [] X.env)).all (fun x => x.1.isSome)
      && decide ((a :: es).length + ([] : List Keyword).length + (if ([] : List Keyword).isEmpty then 0 else 1) < 30)) = true := by rfl)
    (hline : (apos.endLine == cpos.line) = true := by rfl) (hs : starEach (a :: es) X.env = (false, eval a X.env) :: starEach es X.env := by rfl) (hplain : (backTo cpos (starEach es X.env)).any (·.1) = false := by rfl) :
    PE X (.Call (.Attribute o name apos) (a :: es) [] cpos) (tM X b (eMt oo ok os g)) := by
  refine pe_of (pe_bmT hT pa slot hty hm ho ha hbase hfew hline hs hplain) fun σ H Q ⟨e, F, k, q⟩ => ?_
  cases oo with
  | f r =>
    refine ⟨e, F, k, (aft.bind (show aft X b F σ ((r e).bind fun d e => if ok d then (args os e).bind fun l e => Res.opt (g d l) e else .stuck) _ from q)).mono fun d e1 z v F1 H1 k1 s1 r1 => ?_⟩
    cases hok : ok d with
    | false => simp only [hok] at z; exact z.elim
    | true =>
      simp only [hok, if_true] at z
      refine ⟨⟨F1, d, k1.sub, .inl r1, hok⟩, e1, F1, k1, (aft.bind (z.sub s1)).mono fun l e2 y vs F2 H2 k2 s2 r2 => ?_⟩
      obtain ⟨rr, hg, y⟩ := aft.opt y
      refine ⟨F2, d, l, rr, k2.sub, .inl (r1.mono s2), r2, hg, fun v F3 H3 po => ?_⟩
      obtain ⟨k3, mv⟩ := k2.post po
      exact y v F3 H3 k3 ((s1.trans s2).trans po.1.f) mv
  | n i =>
    obtain ⟨d0, hd0, q⟩ := aft.see (show aft X b F σ (seeAt i e fun d => if ok d then (args os e).bind fun l e => seeAt i e fun d => Res.opt (g d l) e else .stuck) _ from q)
    obtain ⟨v0, hv0, p0⟩ := k.seeAt hd0
    cases hok : ok d0 with
    | false => simp only [hok] at q; exact q.elim
    | true =>
      simp only [hok, if_true] at q
      refine ⟨v0, hv0, ⟨F, d0, k.sub, p0, hok⟩, e, F, k, (aft.bind q).mono fun l e2 y vs F2 H2 k2 s2 r2 => ?_⟩
      obtain ⟨d1, hd1, y⟩ := aft.see y
      obtain ⟨v1, hv1, p1⟩ := k2.seeAt hd1
      rw [hv0] at hv1
      cases hv1
      obtain ⟨rr, hg, y⟩ := aft.opt y
      refine ⟨F2, d1, l, rr, k2.sub, p1, r2, hg, fun v F3 H3 po => ?_⟩
      obtain ⟨k3, mv⟩ := k2.post po
      exact y v F3 H3 k3 (s2.trans po.1.f) mv
def D.isDct : D → Bool
  | .dct _ _ => true
  | _ => false
def D.isLst : D → Bool
  | .lst _ => true
  | _ => false
theorem isT_dct : IsT X "dict" (isD X D.isDct) := fun pins s σ H x v I r ⟨F, d, sub, pk, hd⟩ => by
  cases d with
  | dct t kvs =>
    obtain ⟨a, o, es, ep, rfl, e, hs, ex, hdt, z, n, rr⟩ := pk.dct sub
    cases (show v = Value.ref a from r)
    have g := exact_get I e
    exact ⟨⟨o, g, ex.1⟩, fun a e2 => by cases e2; exact ⟨o, g, ex.2.1⟩⟩
  | _ => cases hd
theorem isT_lst : IsT X "list" (isD X D.isLst) := fun pins s σ H x v I r ⟨F, d, sub, pk, hd⟩ => by
  cases d with
  | lst ds =>
    obtain ⟨a, vs, rfl, hH, _⟩ := pk.lst sub
    exact tyV_is I r (show tyV X.K "list" (.ref a) H from .inl ⟨rfl, vs, .inl (.inl hH)⟩)
  | _ => cases hd
theorem Pk.frz {w : World} {K : PySem.W.Frag} {v : V} {d : D} (h : Pk w K F H v d) (m : d.isMut = false) : Rep w K F v d := by
  rcases h with h | ⟨a, rfl, _, ow⟩
  · exact h
  · cases d with
    | lst _ => cases m
    | dct _ _ => cases m
    | _ => exact ow.elim
/-- d.get(k) and d.get(k, x): the value is frozen; x is, too -/
def gGetE (c : D) (l : List D) : Option D := match c, l with
  | .dct t kvs, [k] => if k.keyOk t then some ((dget kvs k).getD .non) else none
  | .dct t kvs, [k, d2] => if k.keyOk t then some ((dget kvs k).getD d2) else none
  | _, _ => none
/-- the arguments are frozen -/
def eGet (oo : Opd) (fs : List (En → Res D)) : En → Res D := match oo with
  | .f r => fun e => (r e).bind fun d e => if d.isDct then (seqE fs e).bind fun l e => Res.opt (gGetE d l) e else .stuck
  | .n i => fun e => seeAt i e fun d => if d.isDct then (seqE fs e).bind fun l e => seeAt i e fun d => Res.opt (gGetE d l) e else .stuck
def rGet (X : Cx) : V → List V → Hp → VK → Prop := fun x xs H Q => ∃ F d l r, Sub F H ∧ Pk X.w X.K F H x d ∧ RepL X.w X.K F xs l ∧ gGetE d l = some r ∧ ∀ v, Rep X.w X.K F v r → Q v H
theorem mt_get (hu : X.A.units + 100 < cLine) : MtR X "dict.get" (rGet X) := fun pins s σ H x xs v us Q I rx rxs ⟨F, d, l, r, sub, pk, rl, hg, q⟩ => by
  cases d with
  | dct t kvs =>
    cases rl with
    | nil => cases hg
    | @cons kx k vs' l r1 t1 =>
      cases t1 with
      | nil =>
        obtain ⟨u, rfl, ru⟩ := rxs.one
        replace hg : (if k.keyOk t then some ((dget kvs k).getD .non) else none) = some r := hg
        cases hk : k.keyOk t with
        | false => rw [hk] at hg; cases hg
        | true =>
          rw [hk] at hg
          cases hg
          exact (dct_find hu I sub pk (.inl r1) hk rx ru).1 fun vv u' s' I' ru' rp => ⟨vv, H, I', ru', q vv rp⟩
      | @cons dx d2 vs'' l' r2 t2 =>
        cases t2 with
        | cons _ _ => cases hg
        | nil =>
          obtain ⟨u, u2, rfl, ru, ru2⟩ := rxs.two
          replace hg : (if k.keyOk t then some ((dget kvs k).getD d2) else none) = some r := hg
          cases hk : k.keyOk t with
          | false => rw [hk] at hg; cases hg
          | true =>
            rw [hk] at hg
            cases hg
            exact (dct_find hu I sub pk (.inl r1) hk rx ru).2 dx u2 d2 ru2 r2 fun vv u' s' I' ru' rp => ⟨vv, H, I', ru', q vv rp⟩
  | _ => cases hg
theorem e_get (hu : X.A.units + 100 < cLine) {oo : Opd} {fs : List (En → Res D)} {o a : Expr} {es : List Expr} {apos cpos : Pos} (ho : PE X o (tO X b oo)) (ha : PA X (a :: es) (tAs X b fs))
    (hbase : attributeBase o "get" X.env (eval o X.env) = eval o X.env := by rfl)
    (hfew : ((backTo cpos (starEach (a :: es) X.env)).all (fun x => !x.1) && (backToKw cpos (keywordEach [] X.env)).all (fun x => x.1.isSome)
      && decide ((a :: es).length + ([] : List Keyword).length + (if ([] : List Keyword).isEmpty then 0 else 1) < 30)) = true := by rfl)
    (hline : (apos.endLine == cpos.line) = true := by rfl) (hs : starEach (a :: es) X.env = (false, eval a X.env) :: starEach es X.env := by rfl) (hplain : (backTo cpos (starEach es X.env)).any (·.1) = false := by rfl) :
    PE X (.Call (.Attribute o "get" apos) (a :: es) [] cpos) (tE X b (eGet oo fs)) := by
  refine pe_of (pe_bmT isT_dct PySem.F.plainAttrs_dict PySem.F.slot_dict_get PySem.F.type_dict_get (mt_get hu) ho ha hbase hfew hline hs hplain) fun σ H Q ⟨e, F, k, q⟩ => ?_
  cases oo with
  | f r =>
    refine ⟨e, F, k, (aft.bind (show aft X b F σ ((r e).bind fun d e => if d.isDct then (seqE fs e).bind fun l e => Res.opt (gGetE d l) e else .stuck) _ from q)).mono fun d e1 z v F1 H1 k1 s1 r1 => ?_⟩
    cases hok : d.isDct with
    | false => simp only [hok] at z; exact z.elim
    | true =>
      simp only [hok, if_true] at z
      refine ⟨⟨F1, d, k1.sub, .inl r1, hok⟩, e1, F1, k1, (aft.bind (z.sub s1)).mono fun l e2 y vs F2 H2 k2 s2 r2 => ?_⟩
      obtain ⟨rr, hg, y⟩ := aft.opt y
      exact ⟨F2, d, l, rr, k2.sub, .inl (r1.mono s2), r2, hg, fun v rv => y v F2 H2 k2 (s1.trans s2) rv⟩
  | n i =>
    obtain ⟨d0, hd0, q⟩ := aft.see (show aft X b F σ (seeAt i e fun d => if d.isDct then (seqE fs e).bind fun l e => seeAt i e fun d => Res.opt (gGetE d l) e else .stuck) _ from q)
    obtain ⟨v0, hv0, p0⟩ := k.seeAt hd0
    cases hok : d0.isDct with
    | false => simp only [hok] at q; exact q.elim
    | true =>
      simp only [hok, if_true] at q
      refine ⟨v0, hv0, ⟨F, d0, k.sub, p0, hok⟩, e, F, k, (aft.bind q).mono fun l e2 y vs F2 H2 k2 s2 r2 => ?_⟩
      obtain ⟨d1, hd1, y⟩ := aft.see y
      obtain ⟨v1, hv1, p1⟩ := k2.seeAt hd1
      rw [hv0] at hv1
      cases hv1
      obtain ⟨rr, hg, y⟩ := aft.opt y
      exact ⟨F2, d1, l, rr, k2.sub, p1, r2, hg, fun v rv => y v F2 H2 k2 s2 rv⟩
end
end MP

set_option Elab.async false
set_option linter.all false
set_option maxRecDepth 100000
set_option autoImplicit false
namespace MP
open PySem L2
section
variable {X : Cx} {b : Bd0} {F F1 H : Hp} {σ : St} {e : En} {D0 : Ends}
/-! ### built-in functions -/
theorem g_len : CallR X (.builtin "len") (rN X dLen) := by
  intro pins s σ H xs us Q I r ⟨F, as, d, sub, pk, hg, q⟩
  match as with
  | [] => cases hg
  | c :: _ :: _ => cases c <;> cases hg
  | [c] =>
    obtain ⟨x, rfl, px⟩ := pk.one
    have sq : ∀ ds, c.seq = some ds → wpAny (model X.prog X.w) X.A (call (.builtin "len") us) (EP X pins σ Q) X.xe s := fun ds hs => by
      have e : d = .int ds.length := by
        cases c <;> first | (cases hs; done) | (cases hs; cases hg; rfl)
      subst e
      obtain ⟨a, vs, rfl, hq, hz, rl⟩ := px.seq sub hs
      refine call_len_seq pins s σ H _ us Q I r ⟨a, vs, rfl, hq, ?_⟩
      rw [rl.length]
      exact q _ F H (.same sub (.int _) rfl)
    cases c with
    | tup ds => exact sq ds rfl
    | lst ds => exact sq ds rfl
    | scr ds => exact sq ds rfl
    | str z =>
      have e := px.str
      subst e
      replace hg : (if z.length ≤ sizeLine then some (D.int z.length) else none) = some d := hg
      by_cases hz : z.length ≤ sizeLine
      · rw [if_pos hz] at hg
        cases hg
        exact call_len_str pins s σ H _ us Q I r ⟨z, rfl, hz, q _ F H (.same sub (.int _) rfl)⟩
      · rw [if_neg hz] at hg
        cases hg
    | dct t kvs =>
      cases hg
      obtain ⟨u, rfl, ru⟩ := vals1 r
      exact len_dct I sub px ru fun tk s' I' => ⟨.int _, H, I', ⟨_, rfl⟩, q _ F H (.same sub (.int _) rfl)⟩
    | _ => cases hg
def dInt : List D → Option D
  | [.int i] => some (.int i)
  | [.bl c] => some (.int (if c then 1 else 0))
  | _ => none
theorem g_int : CallR X (.type "int") (rN X dInt) := by
  intro pins s σ H xs us Q I r ⟨F, as, d, sub, pk, hg, q⟩
  match as with
  | [] => cases hg
  | c :: _ :: _ => cases c <;> cases hg
  | [c] =>
    obtain ⟨x, rfl, px⟩ := pk.one
    cases c with
    | int i =>
      cases hg
      have e := px.int
      subst e
      exact call_int1 pins s σ H _ us Q I r (.inl ⟨i, rfl, q _ F H (.same sub (.int _) rfl)⟩)
    | bl k =>
      cases hg
      have e := px.bl
      subst e
      exact call_int1 pins s σ H _ us Q I r (.inr ⟨k, rfl, q _ F H (.same sub (.int _) rfl)⟩)
    | _ => cases hg
def dAbs : List D → Option D
  | [.int i] => some (.int (if i < 0 then -i else i))
  | _ => none
theorem g_abs : CallR X (.builtin "abs") (rN X dAbs) := by
  intro pins s σ H xs us Q I r ⟨F, as, d, sub, pk, hg, q⟩
  match as with
  | [] => cases hg
  | c :: _ :: _ => cases c <;> cases hg
  | [c] =>
    obtain ⟨x, rfl, px⟩ := pk.one
    cases c with
    | int i =>
      cases hg
      have e := px.int
      subst e
      exact call_abs pins s σ H _ us Q I r ⟨i, rfl, q _ F H (.same sub (.int _) rfl)⟩
    | _ => cases hg
/-- the least, the greatest of a list -/
def minI : Int → List Int → Int
  | m, [] => m
  | m, x :: r => minI (if x < m then x else m) r
def maxI : Int → List Int → Int
  | m, [] => m
  | m, x :: r => maxI (if x > m then x else m) r
theorem minI_mem : ∀ (r : List Int) (m : Int), minI m r ∈ m :: r ∧ ∀ y ∈ m :: r, minI m r ≤ y
  | [], m => ⟨List.mem_cons_self, fun y hy => by simp at hy; subst hy; exact Int.le_refl _⟩
  | x :: r, m => by
    obtain ⟨h1, h2⟩ := minI_mem r (if x < m then x else m)
    rw [minI]
    constructor
    · rcases List.mem_cons.mp h1 with h | h
      · rw [h]
        split
        · simp
        · simp
      · simp [h]
    · intro y hy
      have hm := h2 _ List.mem_cons_self
      rcases List.mem_cons.mp hy with rfl | hy
      · split at hm <;> rename_i hh <;> simp only [hh, if_true, if_false] at hm ⊢ <;> omega
      · rcases List.mem_cons.mp hy with rfl | hy
        · split at hm <;> rename_i hh <;> simp only [hh, if_true, if_false] at hm ⊢ <;> omega
        · exact h2 y (List.mem_cons_of_mem _ hy)
theorem maxI_mem : ∀ (r : List Int) (m : Int), maxI m r ∈ m :: r ∧ ∀ y ∈ m :: r, y ≤ maxI m r
  | [], m => ⟨List.mem_cons_self, fun y hy => by simp at hy; subst hy; exact Int.le_refl _⟩
  | x :: r, m => by
    obtain ⟨h1, h2⟩ := maxI_mem r (if x > m then x else m)
    rw [maxI]
    constructor
    · rcases List.mem_cons.mp h1 with h | h
      · rw [h]
        split
        · simp
        · simp
      · simp [h]
    · intro y hy
      have hm := h2 _ List.mem_cons_self
      rcases List.mem_cons.mp hy with rfl | hy
      · split at hm <;> rename_i hh <;> simp only [hh, if_true, if_false] at hm ⊢ <;> omega
      · rcases List.mem_cons.mp hy with rfl | hy
        · split at hm <;> rename_i hh <;> simp only [hh, if_true, if_false] at hm ⊢ <;> omega
        · exact h2 y (List.mem_cons_of_mem _ hy)
/-- the ints of a list (or of the script) | of a list or tuple -/
def D.lInts : D → Option (List Int)
  | .lst ds => intsOf ds
  | .scr ds => intsOf ds
  | _ => none
theorem Pk.lInts (sub : Sub F H) {v : V} {c : D} {ns : List Int} (p : Pk X.w X.K F H v c) (h : c.lInts = some ns) : ∃ a, v = .ref a ∧ SqL X.K H a (ns.map V.int) := by
  have go : ∀ {vs : List V} {ns : List Int}, RepL X.w X.K F vs (ns.map D.int) → vs = ns.map V.int := by
    intro vs ns
    induction ns generalizing vs with
    | nil => intro r; cases r; rfl
    | cons n ns ih =>
      intro r
      cases r with
      | cons r1 t =>
        cases r1
        rw [ih t]
        rfl
  cases c with
  | lst ds =>
    obtain ⟨a, vs, rfl, h1, h2, h3⟩ := p.lst sub
    have e := intsOf_eq h
    subst e
    exact ⟨a, rfl, .inl (.inl (by rw [h1, go h3]))⟩
  | scr ds =>
    obtain ⟨a, vs, rfl, h1, h2, h3⟩ := p.scr sub
    have e := intsOf_eq h
    subst e
    rw [go h3] at h1
    exact ⟨a, rfl, h1⟩
  | _ => cases h
theorem Pk.tInts (sub : Sub F H) {v : V} {ns : List Int} (p : Pk X.w X.K F H v (.tup (ns.map D.int))) : ∃ a, v = .ref a ∧ SqT X.K H a (ns.map V.int) := by
  obtain ⟨a, vs, rfl, h1, h2, h3⟩ := p.tup
  have go : ∀ {vs : List V} {ns : List Int}, RepL X.w X.K F vs (ns.map D.int) → vs = ns.map V.int := by
    intro vs ns
    induction ns generalizing vs with
    | nil => intro r; cases r; rfl
    | cons n ns ih =>
      intro r
      cases r with
      | cons r1 t =>
        cases r1
        rw [ih t]
        rfl
  rw [go h3] at h1
  exact ⟨a, rfl, (h1.mono sub).sqT⟩
def dMin : List D → Option D
  | [.int i, .int j] => some (.int (if j < i then j else i))
  | [.int i, .int j, .int k] => some (.int (minI i [j, k]))
  | [c] => c.lInts.bind fun ns => match ns with
    | [] => none
    | n :: r => some (.int (minI n r))
  | _ => none
def dMax : List D → Option D
  | [.int i, .int j] => some (.int (if j > i then j else i))
  | [c] => c.lInts.bind fun ns => match ns with
    | [] => none
    | n :: r => some (.int (maxI n r))
  | _ => none
theorem g_min (hc : X.calm = true) : CallR X (.builtin "min") (rN X dMin) := by
  intro pins s σ H xs us Q I r ⟨F, as, d, sub, pk, hg, q⟩
  match as with
  | [] => cases hg
  | [c] =>
    obtain ⟨x, rfl, px⟩ := pk.one
    replace hg : (c.lInts.bind fun ns => match ns with
      | [] => none
      | n :: r => some (D.int (minI n r))) = some d := by
      cases c <;> exact hg
    cases hn : c.lInts with
    | none => rw [hn] at hg; cases hg
    | some ns =>
      rw [hn] at hg
      obtain ⟨a, rfl, hs⟩ := px.lInts sub hn
      cases ns with
      | nil => cases hg
      | cons n rr =>
        cases hg
        refine cr_min hc pins s σ H _ us Q I r ⟨a, n :: rr, rfl, hs, Nat.succ_pos _, fun m h1 h2 => ?_⟩
        obtain ⟨g1, g2⟩ := minI_mem rr n
        have e : m = minI n rr := Int.le_antisymm (h2 _ g1) (g2 _ h1)
        subst e
        exact q _ F H (.same sub (.int _) rfl)
  | [c, c2] =>
    obtain ⟨x, y, rfl, px, py⟩ := pk.two
    cases c with
    | int i =>
      cases c2 with
      | int j =>
        cases hg
        have e := px.int
        have e2 := py.int
        subst e e2
        exact call_min2 hc pins s σ H _ us Q I r ⟨i, j, rfl, q _ F H (.same sub (.int _) rfl)⟩
      | _ => cases hg
    | _ => cases hg
  | [c, c2, c3] =>
    obtain ⟨x, y, z, rfl, px, py, pz⟩ := pk.three
    cases c with
    | int i =>
      cases c2 with
      | int j =>
        cases c3 with
        | int k =>
          cases hg
          have e := px.int
          have e2 := py.int
          have e3 := pz.int
          subst e e2 e3
          refine call_min3Nu hc pins s σ H _ us Q I r ⟨_, _, _, .int (minI i [j, k]), rfl, ?_, q _ F H (.same sub (.int _) rfl)⟩
          show (nuMin2 (.int i) (.int j)).bind (fun m => nuMin2 m (.int k)) = _
          have n2 : ∀ a c : Int, nuMin2 (.int a) (.int c) = some (.int (if c < a then c else a)) := fun a c => by
            unfold nuMin2 nuLt nuCB
            by_cases h : c < a <;> simp [h]
          rw [n2]
          show nuMin2 (.int _) (.int k) = _
          rw [n2]
          rfl
        | _ => cases hg
      | _ => cases hg
    | _ => cases hg
  | c :: c2 :: c3 :: _ :: _ => cases c <;> first | (cases hg; done) | (cases c2 <;> first | (cases hg; done) | (cases c3 <;> cases hg))
theorem g_max (hc : X.calm = true) : CallR X (.builtin "max") (rN X dMax) := by
  intro pins s σ H xs us Q I r ⟨F, as, d, sub, pk, hg, q⟩
  match as with
  | [] => cases hg
  | [c] =>
    obtain ⟨x, rfl, px⟩ := pk.one
    replace hg : (c.lInts.bind fun ns => match ns with
      | [] => none
      | n :: r => some (D.int (maxI n r))) = some d := by
      cases c <;> exact hg
    cases hn : c.lInts with
    | none => rw [hn] at hg; cases hg
    | some ns =>
      rw [hn] at hg
      obtain ⟨a, rfl, hs⟩ := px.lInts sub hn
      cases ns with
      | nil => cases hg
      | cons n rr =>
        cases hg
        refine cr_max hc pins s σ H _ us Q I r ⟨a, n :: rr, rfl, hs, Nat.succ_pos _, fun m h1 h2 => ?_⟩
        obtain ⟨g1, g2⟩ := maxI_mem rr n
        have e : m = maxI n rr := Int.le_antisymm (g2 _ h1) (h2 _ g1)
        subst e
        exact q _ F H (.same sub (.int _) rfl)
  | [c, c2] =>
    obtain ⟨x, y, rfl, px, py⟩ := pk.two
    cases c with
    | int i =>
      cases c2 with
      | int j =>
        cases hg
        have e := px.int
        have e2 := py.int
        subst e e2
        exact call_max2 hc pins s σ H _ us Q I r ⟨i, j, rfl, q _ F H (.same sub (.int _) rfl)⟩
      | _ => cases hg
    | _ => cases hg
  | c :: c2 :: _ :: _ => cases c <;> first | (cases hg; done) | (cases c2 <;> cases hg)
def dSum : List D → Option D
  | [.tup ds] => (intsOf ds).map fun ns => .int ns.sum
  | [c] => c.lInts.map fun ns => .int ns.sum
  | _ => none
theorem g_sum (hc : X.calm = true) : CallR X (.builtin "sum") (rN X dSum) := by
  intro pins s σ H xs us Q I r ⟨F, as, d, sub, pk, hg, q⟩
  match as with
  | [] => cases hg
  | c :: _ :: _ => cases c <;> cases hg
  | [c] =>
    obtain ⟨x, rfl, px⟩ := pk.one
    have go : ∀ ns, c.lInts = some ns → d = .int ns.sum → wpAny (model X.prog X.w) X.A (call (.builtin "sum") us) (EP X pins σ Q) X.xe s := fun ns hn hd => by
      subst hd
      obtain ⟨a, rfl, hs⟩ := px.lInts sub hn
      exact cr_sum hc pins s σ H _ us Q I r ⟨a, ns, rfl, hs, q _ F H (.same sub (.int _) rfl)⟩
    cases c with
    | lst ds =>
      obtain ⟨ns, h1, h2⟩ := Option.map_eq_some_iff.mp (show (D.lInts (.lst ds)).map _ = some d from hg)
      exact go ns h1 h2.symm
    | scr ds =>
      obtain ⟨ns, h1, h2⟩ := Option.map_eq_some_iff.mp (show (D.lInts (.scr ds)).map _ = some d from hg)
      exact go ns h1 h2.symm
    | tup ds =>
      obtain ⟨ns, h1, h2⟩ := Option.map_eq_some_iff.mp (show (intsOf ds).map _ = some d from hg)
      have e := intsOf_eq h1
      subst e h2
      obtain ⟨a, rfl, hs⟩ := px.tInts sub
      obtain ⟨its, rv, hl, _⟩ := I.tuple hs
      rw [Vals.ref1 r]
      have hi := rv.ints
      obtain ⟨xs, e⟩ := hi.allInts.items
      have hn : numsOf (intItems xs).toList = ns := by rw [← e]; exact hi.numsOf
      rw [nums_intItems] at hn
      rw [e] at hl
      refine PySem.W.ktm_sumG (I.ok.hd hc) hl fun h' tk t' hk => ?_
      rw [preSum_eq, List.take_of_length_le (by simp), hn]
      exact ⟨.int _, H, I.kept hk, ⟨_, rfl⟩, q _ F H (.same sub (.int _) rfl)⟩
    | _ => cases hg
def D.lBls : D → Option (List Bool)
  | .lst ds => blsOf ds
  | _ => none
theorem Pk.lBls (sub : Sub F H) {v : V} {c : D} {ns : List Bool} (p : Pk X.w X.K F H v c) (h : c.lBls = some ns) : ∃ a, v = .ref a ∧ SqL X.K H a (ns.map V.bl) := by
  have go : ∀ {vs : List V} {ns : List Bool}, RepL X.w X.K F vs (ns.map D.bl) → vs = ns.map V.bl := by
    intro vs ns
    induction ns generalizing vs with
    | nil => intro r; cases r; rfl
    | cons n ns ih =>
      intro r
      cases r with
      | cons r1 t =>
        cases r1
        rw [ih t]
        rfl
  cases c with
  | lst ds =>
    obtain ⟨a, vs, rfl, h1, h2, h3⟩ := p.lst sub
    have e := blsOf_eq h
    subst e
    exact ⟨a, rfl, .inl (.inl (by rw [h1, go h3]))⟩
  | _ => cases h
def dAny : List D → Option D
  | [c] => c.lBls.map fun bs => .bl (bs.any id)
  | _ => none
def dAll : List D → Option D
  | [c] => c.lBls.map fun bs => .bl (bs.all id)
  | _ => none
theorem g_any (hc : X.calm = true) : CallR X (.builtin "any") (rN X dAny) := by
  intro pins s σ H xs us Q I r ⟨F, as, d, sub, pk, hg, q⟩
  match as with
  | [] => cases hg
  | _ :: _ :: _ => cases hg
  | [c] =>
    obtain ⟨x, rfl, px⟩ := pk.one
    obtain ⟨ns, h1, h2⟩ := Option.map_eq_some_iff.mp (show c.lBls.map _ = some d from hg)
    subst h2
    obtain ⟨a, rfl, hs⟩ := px.lBls sub h1
    exact cr_any hc pins s σ H _ us Q I r ⟨a, ns, rfl, hs, q _ F H (.same sub (.bl _) rfl)⟩
theorem g_all (hc : X.calm = true) : CallR X (.builtin "all") (rN X dAll) := by
  intro pins s σ H xs us Q I r ⟨F, as, d, sub, pk, hg, q⟩
  match as with
  | [] => cases hg
  | _ :: _ :: _ => cases hg
  | [c] =>
    obtain ⟨x, rfl, px⟩ := pk.one
    obtain ⟨ns, h1, h2⟩ := Option.map_eq_some_iff.mp (show c.lBls.map _ = some d from hg)
    subst h2
    obtain ⟨a, rfl, hs⟩ := px.lBls sub h1
    exact cr_all hc pins s σ H _ us Q I r ⟨a, ns, rfl, hs, q _ F H (.same sub (.bl _) rfl)⟩
def dTuple : List D → Option D
  | [c] => c.seq.map .tup
  | _ => none
def dList : List D → Option D
  | [c] => c.seq.map .lst
  | _ => none
theorem g_list : CallR X (.type "list") (rN X dList) := by
  intro pins s σ H xs us Q I r ⟨F, as, d, sub, pk, hg, q⟩
  match as with
  | [] => cases hg
  | _ :: _ :: _ => cases hg
  | [c] =>
    obtain ⟨x, rfl, px⟩ := pk.one
    obtain ⟨ds, h1, h2⟩ := Option.map_eq_some_iff.mp (show c.seq.map _ = some d from hg)
    subst h2
    obtain ⟨a, vs, rfl, hq, hz, rl⟩ := px.seq sub h1
    exact call_list_of pins s σ H _ us Q I r ⟨a, vs, rfl, hq, fun l n => q _ F _ (.lst sub n hz rl)⟩
theorem g_tuple : CallR X (.type "tuple") (rN X dTuple) := by
  intro pins s σ H xs us Q I r ⟨F, as, d, sub, pk, hg, q⟩
  match as with
  | [] => cases hg
  | _ :: _ :: _ => cases hg
  | [c] =>
    obtain ⟨x, rfl, px⟩ := pk.one
    obtain ⟨ds, h1, h2⟩ := Option.map_eq_some_iff.mp (show c.seq.map _ = some d from hg)
    subst h2
    cases c with
    | tup ds' =>
      cases h1
      obtain ⟨a, vs, rfl, hF, hz, rl⟩ := px.tup
      exact call_tuple_of pins s σ H _ us Q I r ⟨a, vs, rfl, .inr ⟨(hF.mono sub).sqT, q _ F H (.same sub (.tup hF hz rl) rfl)⟩⟩
    | lst ds' =>
      cases h1
      obtain ⟨a, vs, rfl, hH, hz, rl⟩ := px.lst sub
      exact call_tuple_of pins s σ H _ us Q I r ⟨a, vs, rfl, .inl ⟨.inl (.inl hH), fun l n => q _ _ _ (.tup sub n hz rl)⟩⟩
    | scr ds' =>
      cases h1
      obtain ⟨a, vs, rfl, hH, hz, rl⟩ := px.scr sub
      exact call_tuple_of pins s σ H _ us Q I r ⟨a, vs, rfl, .inl ⟨hH, fun l n => q _ _ _ (.tup sub n hz rl)⟩⟩
    | _ => cases h1
end
end MP

set_option Elab.async false
set_option linter.all false
set_option maxRecDepth 100000
set_option autoImplicit false
namespace MP
open PySem L2
section
variable {X : Cx} {b : Bd0} {F F1 H : Hp} {σ : St} {e : En} {D0 : Ends}
/-! ### sorted -/
def isT1 : D → Bool
  | .tup (_ :: _) => true
  | _ => false
def isNT : D → Bool
  | .tup _ => false
  | .non => false
  | _ => true
def sortOk (ds : List D) : Bool := (ds.all fun a => ds.all fun c => PySem.W.alike a.pd c.pd) && (ds.all isT1 || ds.all isNT) && ds.all fun a => a.pd.canLay0 && decide (a.pd.depth ≤ 60)
def dSortL (ds : List D) : List D := ds.mergeSort (PySem.W.dataLe false D.pd)
def dSort : List D → Option D
  | [c] => match c with
    | .tup ds => if sortOk ds then some (.lst (dSortL ds)) else none
    | .lst ds => if sortOk ds then some (.lst (dSortL ds)) else none
    | .dct _ kvs => if sortOk (kvs.map (·.1)) then some (.lst (dSortL (kvs.map (·.1)))) else none
    | _ => none
  | _ => none
theorem dSortL_length (ds : List D) : (dSortL ds).length = ds.length := List.length_mergeSort ds
def RepV (X : Cx) (F : Hp) (u : Value) (d : D) : Prop := ∃ v, RelV v u ∧ Rep X.w X.K F v d
theorem repV_of : ∀ {vs : List V} {us : List Value} {ds : List D}, Vals vs us → RepL X.w X.K F vs ds → PySem.W.EachIs (RepV X F) us ds
  | _, _, _, .nil, .nil => .nil
  | _, _, _, .cons r t, .cons p l => .cons ⟨_, r, p⟩ (repV_of t l)
theorem repV_to : ∀ {us : List Value} {ds : List D}, PySem.W.EachIs (RepV X F) us ds → ∃ vs, Vals vs us ∧ RepL X.w X.K F vs ds
  | _, _, .nil => ⟨[], .nil, .nil⟩
  | _, _, .cons ⟨v, r, p⟩ t => by
    obtain ⟨vs, h1, h2⟩ := repV_to t
    exact ⟨v :: vs, .cons r h1, .cons p h2⟩
theorem each_reads {pins : List (Addr × Obj)} {s : Shared} {h' : Heap} (I : L2.Inv X pins σ H s) (sub : Sub F H) (k : ∀ a o, s.heap.get? a = some o → h'.get? a = some o) : ∀ {us : List Value} {ds : List D}, PySem.W.EachIs (RepV X F) us ds → (∀ d ∈ ds, d.pd.canLay0 = true) → PySem.W.EachIs (fun v d => ∃ as, PySem.Reads h' v (D.pd d) as) us ds
  | _, _, .nil, _ => .nil
  | _, _, .cons ⟨v, r, p⟩ t, h => by
    obtain ⟨as, ra⟩ := Dp.reads I _ v _ (p.dp sub (h _ List.mem_cons_self)) r
    exact .cons ⟨as, PyProof.Rows.Reads.keeps k ra⟩ (each_reads I sub k t fun d m => h d (List.mem_cons_of_mem _ m))
theorem sortOk_out {ds : List D} (h : sortOk ds = true) : PySem.W.AllAlike (ds.map D.pd) ∧ PySem.W.Sortable (ds.map D.pd) ∧ (∀ d ∈ ds, d.pd.canLay0 = true) ∧ ∀ d ∈ ds, d.pd.depth ≤ 60 := by
  unfold sortOk at h
  rw [Bool.and_eq_true, Bool.and_eq_true] at h
  obtain ⟨⟨h1, h2⟩, h3⟩ := h
  rw [List.all_eq_true] at h1 h3
  refine ⟨fun x hx y hy => ?_, ?_, fun d hd => ?_, fun d hd => ?_⟩
  · obtain ⟨a, ha, rfl⟩ := List.mem_map.mp hx
    obtain ⟨c, hc, rfl⟩ := List.mem_map.mp hy
    have := h1 a ha
    rw [List.all_eq_true] at this
    exact this c hc
  · rw [Bool.or_eq_true, List.all_eq_true, List.all_eq_true] at h2
    rcases h2 with h2 | h2
    · refine .inl fun x hx => ?_
      obtain ⟨a, ha, rfl⟩ := List.mem_map.mp hx
      have := h2 a ha
      cases a with
      | tup l =>
        cases l with
        | nil => cases this
        | cons y r => exact ⟨y.pd, D.pds r, rfl⟩
      | _ => cases this
    · refine .inr fun x hx => ?_
      obtain ⟨a, ha, rfl⟩ := List.mem_map.mp hx
      have := h2 a ha
      cases a <;> first | (cases this; done) | exact ⟨fun z => (nomatch z), fun _ z => (nomatch z)⟩
  · have := h3 d hd
    rw [Bool.and_eq_true] at this
    exact this.1
  · have := h3 d hd
    rw [Bool.and_eq_true] at this
    exact of_decide_eq_true this.2
/-- list.sort on the list that was just laid -/
theorem sort_end (hu : X.A.units + 100 < cLine) {pins : List (Addr × Obj)} {s : Shared} {E : Value → Shared → Prop} {Q : VK} {us : List Value} {vs : List V} {ds : List D} (I : L2.Inv X pins σ H s) (sub : Sub F H) (rv : Vals vs us) (rl : RepL X.w X.K F vs ds) (ok : sortOk ds = true) (hz : ds.length ≤ sizeLine)
    (q : ∀ v F' H', Post X.w X.K F H F' H' v (.lst (dSortL ds)) → Q v H') :
    wpAny (model X.prog X.w) X.A.in1 (call (.builtin "list.sort") [.ref s.heap.objs.size]) (fun _ s' => EP X pins σ Q (.ref s.heap.objs.size) s') E { s with heap := s.heap.push { cls := .type "list", data := .seq us.toArray } } := by
  obtain ⟨hal, hk, hlay, hdep⟩ := sortOk_out ok
  have ho : (s.heap.push (PyProof.Rows.seqObj "list" us.toArray 0)).get? s.heap.objs.size = some (PyProof.Rows.seqObj "list" us.toArray 0) := Heap.get?_push_size _ rfl
  have ev := repV_of (X := X) rv rl
  have er : PySem.W.EachIs (fun v d => ∃ as, PySem.Reads (PySem.W.sortingHeap (s.heap.push (PyProof.Rows.seqObj "list" us.toArray 0)) s.heap.objs.size us) v (D.pd d) as) us ds :=
    each_reads I sub (fun a o e => PySem.W.sortingHeap_old (Nat.ne_of_lt (Heap.lt_size e)) (Heap.get?_push_of_some _ e)) ev hlay
  have hlen : us.length = ds.length := by rw [← rl.length]; exact rv.length.symm
  refine PySem.wpAny_call_entry PyProof.Rows.slot_list_sort ⟨_, ho, rfl⟩ PyProof.Rows.entry_list_sort (PySem.W.list_sort_vals (s := { s with heap := s.heap.push (PyProof.Rows.seqObj "list" us.toArray 0) }) (κ := PySem.W.dataKind (PySem.W.sortingHeap (s.heap.push (PyProof.Rows.seqObj "list" us.toArray 0)) s.heap.objs.size us) (ds.map D.pd)) ho
    (PySem.W.SortsAt.data (s := { s with heap := PySem.W.sortingHeap (s.heap.push (PyProof.Rows.seqObj "list" us.toArray 0)) s.heap.objs.size us }) (PySem.W.each_map (R := fun v d => ∃ as, PySem.Reads (PySem.W.sortingHeap (s.heap.push (PyProof.Rows.seqObj "list" us.toArray 0)) s.heap.objs.size us) v d as) D.pd er) hal hk (PySem.W.bound_map fun d hd => ?_)) (by rw [hlen]; exact hz) ⟨.none, rfl, ?_⟩) (PyProof.Rows.args_list_sort _)
  · have := hdep d hd
    show X.A.units + 1 + 1 + d.pd.depth < cLine
    omega
  · have eo := PySem.W.sortVals_data (h' := PySem.W.sortingHeap (s.heap.push (PyProof.Rows.seqObj "list" us.toArray 0)) s.heap.objs.size us) false ev er hal
    obtain ⟨vs', r1, r2⟩ := repV_to eo
    obtain ⟨c, hc⟩ := PyProof.Rows.sortedHeap_at (out := (PySem.W.sortVals (PySem.W.dataKind (PySem.W.sortingHeap (s.heap.push (PyProof.Rows.seqObj "list" us.toArray 0)) s.heap.objs.size us) (ds.map D.pd)) false us us).toArray) ho
    have hz' : (dSortL ds).length ≤ sizeLine := by rw [dSortL_length]; exact hz
    have n := I.hok.fresh (Nat.le_refl s.heap.objs.size)
    refine ⟨.ref s.heap.objs.size, upd H s.heap.objs.size (.lst vs'), I.laid (t' := s.toks) (fun a o e => ?_) (Nat.le_refl _) ⟨by rw [r2.length]; exact hz', _, c, r1, hc⟩, rfl, q _ F _ (.lst sub n hz' r2)⟩
    have hlt := Heap.lt_size e
    rw [PyProof.Rows.sortedHeap_old (Nat.ne_of_lt hlt) (by rw [PyProof.Rows.size_push']; exact Nat.lt_succ_of_lt hlt)]
    exact Heap.get?_push_of_some _ e
/-- sorted of what is gathered -/
theorem sort_of (hu : X.A.units + 100 < cLine) {pins : List (Addr × Obj)} {s : Shared} {Q : VK} {u : Value} {ds : List D} (I : L2.Inv X pins σ H s) (sub : Sub F H) (ok : sortOk ds = true) (hz : ds.length ≤ sizeLine)
    (col : ∀ (R : List Value → Shared → Prop), (∀ h' tk acc vs, (∀ a o, s.heap.get? a = some o → h'.get? a = some o) → Vals vs acc → RepL X.w X.K F vs ds → R acc { s with heap := h', toks := tk }) → wpAny (model X.prog X.w) X.A.in1 (collect u) R X.xe s)
    (q : ∀ v F' H', Post X.w X.K F H F' H' v (.lst (dSortL ds)) → Q v H') : wpAny (model X.prog X.w) X.A (call (.builtin "sorted") [u]) (EP X pins σ Q) X.xe s := by
  refine PySem.Calls.call_function_entry PyProof.Rows.kind_sorted PyProof.Rows.plain_sorted PyProof.Rows.entry_sorted (PyProof.Rows.args_sorted1 _) ?_
  unfold Builtin.«sorted»
  refine wpAny_bind (m := checkCount "sorted" 1 1 _) (wpAny_pure ?_)
  refine wpAny_bind (col _ fun h' tk acc vs hk rv rl => ?_)
  have I1 : L2.Inv X pins σ H { s with heap := h', toks := tk } := I.kept hk
  have hlen : acc.length = ds.length := by rw [← rl.length]; exact rv.length.symm
  refine wpAny_bind (wpAny_newList ?_ (by rw [hlen]; exact hz))
  refine wpAny_bind (wpAny_holding (wpAny_mono (sort_end hu I1 sub rv rl ok hz q) (fun _ s' x => ?_) fun _ _ x => x))
  exact wpAny_pure ⟨_, rfl, x⟩
theorem vals_keys : ∀ {us : List Value} {vs : List V} {es : List DictEntry}, us.length = es.length → vs.length = es.length → (∀ (j : Nat) (v : Value), us[j]? = some v → ∃ en : DictEntry, es[j]? = some en ∧ v = en.key) → (∀ (i : Nat) (x : V), vs[i]? = some x → ∃ en : DictEntry, es[i]? = some en ∧ RelV x en.key) → Vals vs us
  | [], [], _, _, _, _, _ => .nil
  | [], _ :: _, [], _, h, _, _ => by simp at h
  | [], _ :: _, _ :: _, h, _, _, _ => by simp at h
  | _ :: _, [], [], h, _, _, _ => by simp at h
  | _ :: _, [], _ :: _, _, h, _, _ => by simp at h
  | _ :: _, _ :: _, [], h, _, _, _ => by simp at h
  | u :: us, v :: vs, en :: es, h1, h2, h3, h4 => by
    obtain ⟨e1, q1, q2⟩ := h3 0 u rfl
    obtain ⟨e2, q3, q4⟩ := h4 0 v rfl
    simp at q1 q3
    subst q1 q3 q2
    exact .cons q4 (vals_keys (es := es) (by simpa using h1) (by simpa using h2) (fun j v e => by simpa using h3 (j + 1) v (by simpa using e)) fun i x e => by simpa using h4 (i + 1) x (by simpa using e))
theorem g_sorted (hc : X.calm = true) (hu : X.A.units + 100 < cLine) : CallR X (.builtin "sorted") (rN X dSort) := by
  intro pins s σ H xs us Q I r ⟨F, as, d, sub, pk, hg, q⟩
  match as with
  | [] => cases hg
  | c :: _ :: _ => cases c <;> cases hg
  | [c] =>
    obtain ⟨x, rfl, px⟩ := pk.one
    cases c with
    | tup ds =>
      replace hg : (if sortOk ds = true then some (D.lst (dSortL ds)) else none) = some d := hg
      by_cases ok : sortOk ds = true
      · rw [if_pos ok] at hg
        cases hg
        obtain ⟨a, vs, rfl, hF, hz, rl⟩ := px.tup
        rw [Vals.ref1 r]
        obtain ⟨its, rv, hl, _⟩ := I.tuple (hF.mono sub).sqT
        obtain ⟨o, ho, hcl, n, hd⟩ := (show s.heap.IsTuple a its.toArray from hl)
        refine sort_of hu I sub ok hz (fun R k => wpAny_collect_seq a (.inr rfl) ho hcl hd (fun h' hk => ?_) (by have := rv.length; have := rl.length; simp only [List.size_toArray]; omega)) q
        exact k h' s.toks its vs hk rv rl
      · rw [if_neg ok] at hg
        cases hg
    | lst ds =>
      replace hg : (if sortOk ds = true then some (D.lst (dSortL ds)) else none) = some d := hg
      by_cases ok : sortOk ds = true
      · rw [if_pos ok] at hg
        cases hg
        obtain ⟨a, vs, rfl, hH, hz, rl⟩ := px.lst sub
        rw [Vals.ref1 r]
        obtain ⟨its, rv, hl, _⟩ := I.list (.inl (.inl hH))
        obtain ⟨o, ho, hcl, n, hd⟩ := hl.isList
        refine sort_of hu I sub ok hz (fun R k => wpAny_collect_seq a (.inl rfl) ho hcl hd (fun h' hk => ?_) (by have := rv.length; have := rl.length; simp only [List.size_toArray]; omega)) q
        exact k h' s.toks its vs hk rv rl
      · rw [if_neg ok] at hg
        cases hg
    | dct t kvs =>
      replace hg : (if sortOk (kvs.map (·.1)) = true then some (D.lst (dSortL (kvs.map (·.1)))) else none) = some d := hg
      by_cases ok : sortOk (kvs.map (·.1)) = true
      · rw [if_pos ok] at hg
        cases hg
        obtain ⟨a, o, es, ep, rfl, hH, hs, hx, hdt, hz, hn, re⟩ := px.dct sub
        rw [Vals.ref1 r]
        obtain ⟨vs, h1, h2, h3⟩ := re.keysV
        have hl : kvs.length = es.size := by
          have := h3.length
          rw [List.length_map] at this
          rw [← this, ← h1, Array.length_toList]
        refine sort_of hu I sub ok (by rw [List.length_map]; exact hz) (fun R k => PySem.W.kdu_collect (A := X.A.in1) (PySem.KdlSrc.rawDict (es := es) (ep := ep) hs) (I.ok.hd hc) ⟨o, exact_get I hH, hx, hdt⟩ (by rw [← hl]; exact hz) fun h' tk acc hk hi => ?_) q
        refine k h' tk acc.toList vs hk (vals_keys (es := es.toList) ?_ h1.symm (fun j v e => ?_) h2) h3
        · rw [Array.length_toList, hi.1, Array.length_toList]
        · obtain ⟨hj, rfl⟩ := hi.2 j v (by rw [← Array.getElem?_toList]; exact e)
          exact ⟨es[j], by simp [hj], rfl⟩
      · rw [if_neg ok] at hg
        cases hg
    | _ => cases hg

/-! ### isinstance -/
inductive Ty4 where
  | tb | ti | tt | ts
def Ty4.name : Ty4 → String
  | .tb => "bool"
  | .ti => "int"
  | .tt => "tuple"
  | .ts => "str"
def D.ty : D → Option String
  | .non => some "NoneType"
  | .bl _ => some "bool"
  | .int _ => some "int"
  | .str _ => some "str"
  | .tup _ => some "tuple"
  | .lst _ => some "list"
  | _ => none
def dIsi : Ty4 → D → Option D
  | .tb, .bl _ => some (.bl true)
  | .ti, .bl _ => some (.bl true)
  | .ti, .int _ => some (.bl true)
  | .tt, .tup _ => some (.bl true)
  | .ts, .str _ => some (.bl true)
  | _, d => d.ty.map fun _ => .bl false
theorem rep_ty (sub : Sub F H) {v : V} {d : D} (r : Rep X.w X.K F v d) {a : String} (h : d.ty = some a) : TyX X.K H v (.type a) := by
  cases r with
  | non => cases h; exact .base .non
  | bl b => cases h; exact .base (.bl b)
  | int i => cases h; exact .base (.int i)
  | str x => cases h; exact .base (.str x)
  | tup hF _ _ =>
    cases h
    rcases hF with hF | ⟨o, hF⟩
    · exact .base (.tup (sub _ _ hF))
    · exact .fTuple (sub _ _ hF)
  | lst hF _ _ => cases h; exact .base (.lst (sub _ _ hF))
  | _ => cases h
theorem isi_kit {t : Ty4} {d r : D} (h : dIsi t d = some r) : ∃ a k, d.ty = some a ∧ r = .bl k ∧ kitB a t.name = some k := by
  cases t <;> cases d <;> first
    | (cases h; done)
    | (cases h; exact ⟨_, _, rfl, rfl, by decide +kernel⟩)
def eIsi (t : Ty4) (f : En → Res D) : En → Res D := fun e => (f e).bind fun d e => Res.opt (dIsi t d) e
theorem e_isi (t : Ty4) {a : Expr} {f : En → Res D} {x : Str} {p p2 pos : Pos} (hx : x = Str.ofString t.name) (hg : Gl X "isinstance") (hm : X.mg "isinstance" = none) (hg2 : Gl X x) (hm2 : X.mg x = none) (h : PE X a (tE X b f))
    (he : starEach [a, .Name x p2] X.env = (false, eval a X.env) :: starEach [.Name x p2] X.env := by rfl) (he2 : starEach [.Name x p2] X.env = (false, eval (.Name x p2) X.env) :: starEach [] X.env := by rfl) (hpl : (backTo pos (starEach [.Name x p2] X.env)).any (·.1) = false := by rfl) :
    PE X (.Call (.Name "isinstance" p) [a, .Name x p2] [] pos) (tE X b (eIsi t f)) := by
  have hb : bootBuiltins x = some (.type t.name) := by subst hx; cases t <;> decide +kernel
  have hn : x ≠ "__name__" := by subst hx; cases t <;> decide
  have hd : (x == ("__debug__" : Str)) = false := by subst hx; cases t <;> decide
  refine pe_of (pe_callB call_isi hg hm (by decide +kernel) (pa_cons h (pa_cons (pe_bltn (v := .ty t.name) hg2 hm2 hb rfl hn hd) pa_nil he2) he) (he := he) (hpl := hpl)) fun σ H Q ⟨e, F, ok, q⟩ => ⟨e, F, ok, (aft.bind q).mono fun d e' z v F' H' ok' s r => ?_⟩
  obtain ⟨rr, hr, z⟩ := aft.opt z
  obtain ⟨a, k, h1, rfl, h3⟩ := isi_kit hr
  exact ⟨v, .ty t.name, _, _, k, rfl, .ty _, rep_ty ok'.sub r h1, kit_ty h3, z _ F' H' ok' s (.bl k)⟩

/-! ### tuple(range(..)), list(range(..)) -/
def rgOk (a c : Int) : Prop := -(2 ^ 62) ≤ a ∧ a < 2 ^ 62 ∧ -(2 ^ 62) ≤ c ∧ c < 2 ^ 62 ∧ (c - a).toNat ≤ 2 ^ 24
instance (a c : Int) : Decidable (rgOk a c) := by unfold rgOk; infer_instance
def eRg1 (mk : List D → D) (f : En → Res D) : En → Res D := fun e => (f e).bind fun d e => match d with
  | .int j => if rgOk 0 j then .ok (mk (rgD 0 j.toNat)) e else .stuck
  | _ => .stuck
def eRg2 (mk : List D → D) (f g : En → Res D) : En → Res D := fun e => (f e).bind fun d e => (g e).bind fun c e => match d, c with
  | .int i, .int j => if rgOk i j then .ok (mk (rgD i (j - i).toNat)) e else .stuck
  | _, _ => .stuck
theorem rgV_rep {w : World} {K : PySem.W.Frag} {F : Hp} (a c : Int) : RepL w K F (rgV a c) (rgD a (c - a).toNat) := by
  unfold rgV rgD
  have go : ∀ l : List Nat, RepL w K F (l.map fun i => V.int (a + (i : Nat))) (l.map fun k : Nat => D.int (a + k)) := by
    intro l
    induction l with
    | nil => exact .nil
    | cons x r ih => exact .cons (.int _) ih
  exact go _
theorem rgD_len (a : Int) (n : Nat) : (rgD a n).length = n := by unfold rgD; rw [List.length_map, List.length_range]
theorem sz24 {n : Nat} (h : n ≤ 2 ^ 24) : n ≤ sizeLine := by rw [sizeLine_eq]; omega
theorem rg1_out {mk : List D → D} {d : D} {k : D → En → Prop} (h : aft X b F σ (match d with
  | .int j => if rgOk 0 j then .ok (mk (rgD 0 j.toNat)) e else .stuck
  | _ => .stuck) k) : ∃ j, d = .int j ∧ rgOk 0 j ∧ k (mk (rgD 0 j.toNat)) e := by
  cases d with
  | int j =>
    replace h : aft X b F σ (if rgOk 0 j then .ok (mk (rgD 0 j.toNat)) e else .stuck) k := h
    by_cases z : rgOk 0 j
    · rw [if_pos z] at h
      exact ⟨j, rfl, z, h⟩
    · rw [if_neg z] at h
      exact h.elim
  | _ => exact h.elim
theorem rg2_outE {mk : List D → D} {d c : D} {k : D → En → Prop} (h : aft X b F σ (match d, c with
  | .int i, .int j => if rgOk i j then .ok (mk (rgD i (j - i).toNat)) e else .stuck
  | _, _ => .stuck) k) : ∃ i j, d = .int i ∧ c = .int j ∧ rgOk i j ∧ k (mk (rgD i (j - i).toNat)) e := by
  cases d with
  | int i =>
    cases c with
    | int j =>
      replace h : aft X b F σ (if rgOk i j then .ok (mk (rgD i (j - i).toNat)) e else .stuck) k := h
      by_cases z : rgOk i j
      · rw [if_pos z] at h
        exact ⟨i, j, rfl, rfl, z, h⟩
      · rw [if_neg z] at h
        exact h.elim
    | _ => exact h.elim
  | _ => exact h.elim
section
variable {a c : Expr} {f g : En → Res D} {p p2 pos pos2 : Pos}
theorem m_tupRg1 (hc : X.calm = true) (hg : Gl X "range") (hm : X.mg "range" = none) (hgt : Gl X "tuple") (hmt : X.mg "tuple" = none) (h : PE X a (tE X b f)) (na : starEach [a] X.env = (false, eval a X.env) :: starEach [] X.env := by rfl)
    (na2 : starEach [.Call (.Name "range" p) [a] [] pos] X.env = (false, eval (.Call (.Name "range" p) [a] [] pos) X.env) :: starEach [] X.env := by rfl) : PE X (.Call (.Name "tuple" p2) [.Call (.Name "range" p) [a] [] pos] [] pos2) (tM X b (eRg1 .tup f)) :=
  pe_of (pe_tupRg hc hgt hmt (prg_1 hg hm h na) na2) fun σ H Q ⟨e, F, ok, q⟩ => ⟨e, F, ok, (aft.bind q).mono fun d e' z v F' H' ok' s r => by
    obtain ⟨j, rfl, hr, z⟩ := rg1_out z
    cases r
    refine ⟨j, rfl, hr, fun p n => ?_⟩
    have e0 : (j - 0).toNat = j.toNat := by rw [Int.sub_zero]
    have rp := rgV_rep (w := X.w) (K := X.K) (F := F') 0 j
    rw [e0] at rp
    have po := Post.tup ok'.sub n (by rw [rgD_len]; have := hr.2.2.2.2; rw [e0] at this; exact sz24 this) rp
    obtain ⟨ok2, mv⟩ := ok'.post po
    exact z _ _ _ ok2 (s.trans po.1.f) mv⟩
theorem m_lstRg1 (hc : X.calm = true) (hg : Gl X "range") (hm : X.mg "range" = none) (hgt : Gl X "list") (hmt : X.mg "list" = none) (h : PE X a (tE X b f)) (na : starEach [a] X.env = (false, eval a X.env) :: starEach [] X.env := by rfl)
    (na2 : starEach [.Call (.Name "range" p) [a] [] pos] X.env = (false, eval (.Call (.Name "range" p) [a] [] pos) X.env) :: starEach [] X.env := by rfl) : PE X (.Call (.Name "list" p2) [.Call (.Name "range" p) [a] [] pos] [] pos2) (tM X b (eRg1 .lst f)) :=
  pe_of (pe_listRg hc hgt hmt (prg_1 hg hm h na) na2) fun σ H Q ⟨e, F, ok, q⟩ => ⟨e, F, ok, (aft.bind q).mono fun d e' z v F' H' ok' s r => by
    obtain ⟨j, rfl, hr, z⟩ := rg1_out z
    cases r
    refine ⟨j, rfl, hr, fun p n => ?_⟩
    have e0 : (j - 0).toNat = j.toNat := by rw [Int.sub_zero]
    have rp := rgV_rep (w := X.w) (K := X.K) (F := F') 0 j
    rw [e0] at rp
    have po := Post.lst ok'.sub n (by rw [rgD_len]; have := hr.2.2.2.2; rw [e0] at this; exact sz24 this) rp
    obtain ⟨ok2, mv⟩ := ok'.post po
    exact z _ _ _ ok2 (s.trans po.1.f) mv⟩
theorem m_lstRg2 (hc : X.calm = true) (hg : Gl X "range") (hm : X.mg "range" = none) (hgt : Gl X "list") (hmt : X.mg "list" = none) (h : PE X a (tE X b f)) (h2 : PE X c (tE X b g)) (na : starEach [a, c] X.env = (false, eval a X.env) :: starEach [c] X.env := by rfl) (nb : starEach [c] X.env = (false, eval c X.env) :: starEach [] X.env := by rfl) (hp : (backTo pos (starEach [c] X.env)).any (·.1) = false := by rfl)
    (na2 : starEach [.Call (.Name "range" p) [a, c] [] pos] X.env = (false, eval (.Call (.Name "range" p) [a, c] [] pos) X.env) :: starEach [] X.env := by rfl) : PE X (.Call (.Name "list" p2) [.Call (.Name "range" p) [a, c] [] pos] [] pos2) (tM X b (eRg2 .lst f g)) :=
  pe_of (pe_listRg hc hgt hmt (prg_2 hg hm h h2 na nb hp) na2) fun σ H Q ⟨e, F, ok, q⟩ => ⟨e, F, ok, (aft.bind q).mono fun d e' z v F' H' ok' s r => ⟨e', F', ok', (aft.bind (z.sub s)).mono fun d2 e2 z v2 F2 H2 ok2 s2 r2 => by
    obtain ⟨i, j, rfl, rfl, hr, z⟩ := rg2_outE z
    cases r
    cases r2
    refine ⟨i, j, rfl, rfl, hr, fun p n => ?_⟩
    have po := Post.lst ok2.sub n (by rw [rgD_len]; exact sz24 hr.2.2.2.2) (rgV_rep (w := X.w) (K := X.K) (F := F2) i j)
    obtain ⟨ok3, mv⟩ := ok2.post po
    exact z _ _ _ ok3 ((s.trans s2).trans po.1.f) mv⟩⟩
end

/-! ### a op b op c -/
def eCh (g1 g2 : D → D → Option D) (f1 f2 f3 : En → Res D) : En → Res D := fun e => (f1 e).bind fun x e => (f2 e).bind fun y e => match g1 x y with
  | some (.bl true) => (f3 e).bind fun z e => Res.opt (g2 y z) e
  | some (.bl false) => .ok (.bl false) e
  | _ => .stuck
theorem ch_in {g1 g2 : D → D → Option D} {f1 f2 f3 : En → Res D} (Q : VK) (h : tM X b (eCh g1 g2 f1 f2 f3) σ H Q) : tChain (rG X g1) (rG X g2) (tE X b f1) (tE X b f2) (tE X b f3) σ H Q := by
  obtain ⟨e, F, ok, q⟩ := h
  refine ⟨e, F, ok, (aft.bind q).mono fun x e1 z v1 F1 H1 ok1 s1 r1 => ⟨e1, F1, ok1, (aft.bind (z.sub s1)).mono fun y e2 z v2 F2 H2 ok2 s2 r2 => ?_⟩⟩
  cases hg : g1 x y with
  | none => rw [hg] at z; exact z.elim
  | some d =>
    rw [hg] at z
    refine ⟨F2, x, y, d, ok2.sub, .inl (r1.mono s2), .inl r2, hg, fun v F3 H3 po => ?_⟩
    obtain ⟨ok3, mv⟩ := ok2.post po
    cases d with
    | bl k =>
      rcases mv with ⟨_, r⟩ | ⟨m, _⟩
      · cases r
        refine ⟨k, rfl, ?_⟩
        cases k with
        | true =>
          refine ⟨e2, F3, ok3, (aft.bind ((show aft X b F1 σ ((f3 e2).bind fun z e => Res.opt (g2 y z) e) _ from z).sub (s2.trans po.1.f))).mono fun zz e4 z v4 F4 H4 ok4 s4 r4 => ?_⟩
          obtain ⟨d4, hd4, z⟩ := aft.opt z
          refine ⟨F4, y, zz, d4, ok4.sub, .inl ((r2.mono po.1.f).mono s4), .inl r4, hd4, fun v5 F5 H5 po5 => ?_⟩
          obtain ⟨ok5, mv5⟩ := ok4.post po5
          exact z v5 F5 H5 ok5 ((((s1.trans s2).trans po.1.f).trans s4).trans po5.1.f) mv5
        | false =>
          exact (show ∀ v F' H', _ from z) _ F3 H3 ok3 ((s1.trans s2).trans po.1.f) (.inl ⟨rfl, .bl false⟩)
      · cases m
    | _ => exact z.elim
section
variable {op op' : CmpOp} {g1 g2 : D → D → Option D} {a c d : Expr} {f1 f2 f3 : En → Res D} {pos : Pos}
theorem m_ch (ho : OpR X (compareOp op) (rG X g1)) (ho' : OpR X (compareOp op') (rG X g2)) (ha : PE X a (tE X b f1)) (hb : PE X c (tE X b f2)) (hc : PE X d (tE X b f3)) (hm : lastMarks [op, op'] [c, d] = false := by with_unfolding_all rfl) : PE X (.Compare a [op, op'] [c, d] pos) (tM X b (eCh g1 g2 f1 f2 f3)) :=
  pe_of (pe_chain ho ho' ha hb hc hm) fun _ _ Q h => ch_in Q h
theorem t_ch (ho : OpR X (compareOp op) (rG X g1)) (ho' : OpR X (compareOp op') (rG X g2)) (ha : PE X a (tE X b f1)) (hb : PE X c (tE X b f2)) (hc : PE X d (tE X b f3)) (hm : lastMarks [op, op'] [c, d] = false := by with_unfolding_all rfl) : PT X (.Compare a [op, op'] [c, d] pos) (tT X b (asB (eCh g1 g2 f1 f2 f3))) :=
  pt_of (pt_chain ho ho' ha hb hc hm) fun σ H Q ⟨e, F, ok, q⟩ => ch_in _ ⟨e, F, ok, (asB_out q).mono fun d e' ⟨k, hk, z⟩ v F' H' ok' s mv => by
    subst hk
    rcases mv with ⟨_, r⟩ | ⟨m, _⟩
    · cases r
      exact ⟨k, rfl, z F' H' ok' s⟩
    · cases m⟩
end
end
end MP

set_option Elab.async false
set_option linter.all false
set_option maxRecDepth 100000
set_option autoImplicit false
namespace MP
open PySem L2
/-! ### tuple * int where nothing is built -/
open PySem.Spec in
theorem tuple_mul_same (l : Addr) (items : Array Value) (n : Nat) (sl : Array (Option Value)) (dd : Option Addr) (x : Int) (u : Tok) (c0 : (decide (x < -(2 ^ 63)) || decide (x ≥ 2 ^ 63)) = false) (c1 : (items.isEmpty || x == 1) = true) :
    Meets (Builtin.«tuple.__mul__» ⟨[.ref l, .int x u], []⟩) (fun _ R s => s.heap.get? l = some { cls := .type "tuple", dict := dd, data := .seq items n, slots := sl } ∧ R (.ok (.ret (Value.ref l))) s) :=
  .of_wp fun prog w A R s h => by
    obtain ⟨hp, g, d, tk, os⟩ := s
    obtain ⟨hl, h⟩ := h
    have f1 := AutoSeq1.idx_int
    wp_walk using wpAny_loadPart' hl
    repeat (first
      | (refine wpAny_ite_false (decide_eq_false (by rw [c0]; exact Bool.false_ne_true)) ?_; wp_walk using wpAny_loadPart' hl)
      | (refine wpAny_ite_true (decide_eq_true (by rw [c1])) ?_; wp_walk using wpAny_loadPart' hl))
    exact ⟨_, rfl, h⟩
open PySem.Spec in
theorem tuple_mul_none (l : Addr) (items : Array Value) (n : Nat) (sl : Array (Option Value)) (dd : Option Addr) (x : Int) (u : Tok) (c0 : (decide (x < -(2 ^ 63)) || decide (x ≥ 2 ^ 63)) = false) (c1 : (items.isEmpty || x == 1) = false) (c2 : (decide (x ≤ 0) || items.isEmpty) = true) :
    Meets (Builtin.«tuple.__mul__» ⟨[.ref l, .int x u], []⟩) (fun _ R s => s.heap.get? l = some { cls := .type "tuple", dict := dd, data := .seq items n, slots := sl } ∧
      R (.ok (.ret (Value.ref s.heap.objs.size))) { s with heap := s.heap.push { cls := Value.type "tuple", data := Data.seq #[] }, toks := s.toks }) :=
  .of_wp fun prog w A R s h => by
    obtain ⟨hp, g, d, tk, os⟩ := s
    obtain ⟨hl, h⟩ := h
    have f1 := AutoSeq1.idx_int
    wp_walk using wpAny_loadPart' hl
    repeat (first
      | (refine wpAny_ite_false (decide_eq_false (by rw [c0]; exact Bool.false_ne_true)) ?_; wp_walk using wpAny_loadPart' hl)
      | (refine wpAny_ite_false (decide_eq_false (by rw [c1]; exact Bool.false_ne_true)) ?_; wp_walk using wpAny_loadPart' hl)
      | (refine wpAny_ite_true (decide_eq_true (by rw [c2])) ?_; wp_walk using wpAny_loadPart' hl))
    exact ⟨_, rfl, h⟩
section
variable {X : Cx} {b : Bd0} {F F1 H : Hp} {σ : St} {e : En} {D0 : Ends}
open PySem.Spec PyProof.Rows in
theorem op_repT0 : OpR X (binaryOp .Mult) (fun x y H Q => ∃ l k xs, x = .ref l ∧ y = .int k ∧ SqT X.K H l xs ∧ -(2 ^ 63) ≤ k ∧ k < 2 ^ 63 ∧ (((xs = [] ∨ k = 1) ∧ Q (.ref l) H) ∨ (xs ≠ [] ∧ k ≤ 0 ∧ ∀ p, H p = none → Q (.ref p) (upd H p (.tup []))))) := by
  intro pins s σ H x y v u Q I rx ry h
  obtain ⟨l, k, xs, rfl, rfl, hT, k1, k2, h⟩ := h
  cases rx
  obtain ⟨t, rfl⟩ := ry
  obtain ⟨its, r, ⟨⟨cls, dd, data, sl⟩, ho, hc, n, hd⟩, hs⟩ := I.tuple hT
  simp only at hc hd
  subst hc hd
  have hle : its.length = xs.length := r.length.symm
  have c0 : (decide (k < -(2 ^ 63)) || decide (k ≥ 2 ^ 63)) = false := by
    rw [decide_eq_false (by omega), decide_eq_false (by omega)] <;> rfl
  have em : its.toArray.isEmpty = decide (xs = []) := by
    cases its with
    | nil =>
      cases xs with
      | nil => rfl
      | cons _ _ => simp at hle
    | cons a c =>
      cases xs with
      | nil => simp at hle
      | cons _ _ => rfl
  suffices m : wpAny (model X.prog X.w) X.A (call (.builtin "tuple.__mul__") [.ref l, .int k t]) (EP X pins σ Q) X.xe s by
    exact wpAny_binaryOp_repeat_ref (T := "tuple") (U := "int") (by decide) ⟨_, ho, rfl⟩ (fun s' => typeIs_int s' k t) noFill_tuple_mul F.fills_int_mul F.slot_int_rmul repeat_tuple F.slot_int_index.lookup
      (call_meets F.slot_int_rmul (typeIs_int s k t) F.entry_int_rmul (F.args_int_rmul_2 _ _) (int_rmul_tuple k t l its.toArray n dd sl) ⟨ho, rfl, ⟨_, ho, rfl⟩, m⟩)
  rcases h with ⟨hx, q⟩ | ⟨hx, hk, q⟩
  · have c1 : (its.toArray.isEmpty || k == 1) = true := by
      rw [em]
      rcases hx with rfl | rfl
      · rfl
      · simp
    exact call_meets F.slot_tuple_mul ⟨_, ho, rfl⟩ F.entry_tuple_mul (F.args_tuple_mul_2 _ _) (tuple_mul_same l its.toArray n sl dd k t c0 c1) ⟨ho, .ref l, H, I, rfl, q⟩
  · have c1 : (its.toArray.isEmpty || k == 1) = false := by
      rw [em, decide_eq_false hx, Bool.false_or]
      exact beq_eq_false_iff_ne.mpr (by omega)
    have c2 : (decide (k ≤ 0) || its.toArray.isEmpty) = true := by rw [decide_eq_true hk]; rfl
    refine call_meets F.slot_tuple_mul ⟨_, ho, rfl⟩ F.entry_tuple_mul (F.args_tuple_mul_2 _ _) (tuple_mul_none l its.toArray n sl dd k t c0 c1 c2) ⟨ho, .ref s.heap.objs.size, _, I.laid (t' := s.toks) (o := .tup []) (fun b ob q => Heap.get?_push_of_some _ q) (Nat.le_refl _) ?_, rfl, q _ (I.hok.fresh (Nat.le_refl _))⟩
    exact ⟨Nat.zero_le _, [], .nil, IsTup.new _ _⟩
def repD (ds : List D) (k : Int) : List D := (List.replicate k.toNat ds).flatten
/-- a * b: ints; a tuple or list, so many times -/
def dMul : D → D → Option D
  | .int i, .int j => if mulOk i j then some (.int (i * j)) else none
  | .tup ds, .int k => if -(2 ^ 63) ≤ k ∧ k ≤ 1000 ∧ ds.length ≤ 1000 then some (.tup (repD ds k)) else none
  | .lst ds, .int k => if -(2 ^ 63) ≤ k ∧ k ≤ 1000 ∧ ds.length ≤ 1000 then some (.lst (repD ds k)) else none
  | _, _ => none
theorem repD_len (ds : List D) (k : Int) : (repD ds k).length = k.toNat * ds.length := by
  unfold repD
  rw [PyProof.Rows.lm_len_rep_flat]
theorem g_mul : OpR X (binaryOp .Mult) (rG X dMul) := by
  intro pins s σ H x y v u Q I rx ry ⟨F, a, b, d, sub, pa, pb, hg, q⟩
  cases a <;> cases b <;> first | (cases hg; done) | skip
  case int.int i j => exact g_mulI pins s σ H x y v u Q I rx ry ⟨F, .int i, .int j, d, sub, pa, pb, hg, q⟩
  case tup.int ds k =>
    obtain rfl := pb.int
    replace hg : (if -(2 ^ 63) ≤ k ∧ k ≤ 1000 ∧ ds.length ≤ 1000 then some (D.tup (repD ds k)) else none) = some d := hg
    by_cases h : -(2 ^ 63) ≤ k ∧ k ≤ 1000 ∧ ds.length ≤ 1000
    · rw [if_pos h] at hg
      cases hg
      obtain ⟨a, vs, rfl, hF, hz, rl⟩ := pa.tup
      have hl := rl.length
      by_cases h0 : ds = [] ∨ k = 1
      · refine op_repT0 pins s σ H _ _ v u Q I rx ry ⟨a, k, vs, rfl, rfl, (hF.mono sub).sqT, h.1, by omega, .inl ⟨?_, ?_⟩⟩
        · rcases h0 with h0 | h0
          · subst h0
            exact .inl (List.eq_nil_of_length_eq_zero hl)
          · exact .inr h0
        · have e : repD ds k = ds := by
            unfold repD
            rcases h0 with h0 | h0
            · subst h0
              simp
            · subst h0
              simp
          rw [e] at q
          exact q _ F H (.same sub (.tup hF hz rl) rfl)
      · have hne : ds ≠ [] := fun z => h0 (.inl z)
        have hk1 : k ≠ 1 := fun z => h0 (.inr z)
        have hv : vs ≠ [] := fun z => by
          subst z
          exact hne (List.eq_nil_of_length_eq_zero hl.symm)
        by_cases h1 : k ≤ 0
        · refine op_repT0 pins s σ H _ _ v u Q I rx ry ⟨a, k, vs, rfl, rfl, (hF.mono sub).sqT, h.1, by omega, .inr ⟨hv, h1, fun p n => ?_⟩⟩
          have e : repD ds k = [] := by
            unfold repD
            rw [Int.toNat_of_nonpos h1]
            rfl
          rw [e] at q
          exact q _ _ _ (.tup sub n (Nat.zero_le _) .nil)
        · refine op_repT pins s σ H _ _ v u Q I rx ry ⟨a, k, vs, rfl, rfl, (hF.mono sub).sqT, hv, by omega, h.2.1, by rw [hl]; exact h.2.2, fun p n => q _ _ _ (.tup sub n ?_ (rl.flat _))⟩
          rw [repD_len, sizeLine_eq]
          have := Nat.mul_le_mul (show k.toNat ≤ 1000 by omega) h.2.2
          omega
    · rw [if_neg h] at hg
      cases hg
  case lst.int ds k =>
    obtain rfl := pb.int
    replace hg : (if -(2 ^ 63) ≤ k ∧ k ≤ 1000 ∧ ds.length ≤ 1000 then some (D.lst (repD ds k)) else none) = some d := hg
    by_cases h : -(2 ^ 63) ≤ k ∧ k ≤ 1000 ∧ ds.length ≤ 1000
    · rw [if_pos h] at hg
      cases hg
      obtain ⟨a, vs, rfl, hH, hz, rl⟩ := pa.lst sub
      have hl := rl.length
      have hm := Nat.mul_le_mul h.2.2 (show k.toNat ≤ 1000 by omega)
      refine op_rep pins s σ H _ _ v u Q I rx ry ⟨a, k, vs, rfl, rfl, hH, h.1, by omega, by rw [hl, sizeLine_eq]; omega, fun p n => q _ _ _ (.lst sub n ?_ (rl.flat _))⟩
      rw [repD_len, sizeLine_eq, Nat.mul_comm]
      omega
    · rw [if_neg h] at hg
      cases hg

/-! ### a tuple whose object is known: t.index -/
open PyProof.Rows in
theorem call_tpx : CallR X (.type "tuple") (fun xs H Q => ∃ p ys, xs = [.ref p] ∧ H p = some (.lst ys) ∧ ∀ l o, H l = none → o.dict = none → Q (.ref l) (upd H l (.frz o (.tup ys)))) := by
  intro pins s σ H xs us Q I r h
  obtain ⟨p, ys, rfl, hq, q⟩ := h
  obtain ⟨u, rfl, rx⟩ := vals1 r
  cases rx
  obtain ⟨its, r', pl, hz⟩ := I.list (.inl (.inl hq))
  have hlen := r'.length
  refine call_tuple_list pl.isList (fun h' kp => ?_) (by simp only [List.size_toArray] <;> omega)
  have I1 : Inv X pins σ H { s with heap := h' } := I.kept (t' := s.toks) kp
  have I2 : Inv X pins σ (upd H h'.objs.size (.frz { cls := .type "tuple", data := .seq its.toArray } (.tup ys))) { s with heap := h'.push { cls := .type "tuple", data := .seq its.toArray } } :=
    I1.laid (t' := s.toks) (fun b o e => Heap.get?_push_of_some _ e) (Nat.le_refl _) (show ObjOk X.prog X.w _ _ _ (.frz _ (.tup ys)) from ⟨Heap.get?_push_size _ rfl, hz, its, r', IsTup.new _ _⟩)
  exact ⟨.ref h'.objs.size, _, I2, rfl, q _ _ (I1.hok.fresh (Nat.le_refl _)) rfl⟩
def eTpx (f : En → Res D) : En → Res D := fun e => (f e).bind fun d e => match d with
  | .lst ds => .ok (.tpx ds) e
  | _ => .stuck
theorem e_tpx {a : Expr} {f : En → Res D} {p pos : Pos} (hg : Gl X "tuple") (hm : X.mg "tuple" = none) (h : PE X a (tE X b f)) (he : starEach [a] X.env = (false, eval a X.env) :: starEach [] X.env := by rfl) : PE X (.Call (.Name "tuple" p) [a] [] pos) (tE X b (eTpx f)) :=
  pe_of (pe_callTy call_tpx hg hm PyProof.Rows.boot_tuple (pa_cons h pa_nil he) (he := he)) fun σ H Q ⟨e, F, ok, q⟩ => ⟨e, F, ok, (aft.bind q).mono fun d e' z v F' H' ok' s r => by
    cases r with
    | @lst a vs ds hF hz rl =>
      refine ⟨a, vs, rfl, ok'.sub _ _ hF, fun l o n ho => ?_⟩
      have ex : Ext F' H' (upd F' l (.frz o (.tup vs))) (upd H' l (.frz o (.tup vs))) := Ext.alloc ok'.sub n
      exact z _ _ _ (ok'.ext ex) (s.trans ex.f) (.tpx upd_same ho hz (rl.mono ex.f))
    | _ => exact z.elim⟩
/-- .. as a plain tuple -/
def eTp (f : En → Res D) : En → Res D := fun e => (f e).bind fun d e => match d with
  | .tpx ds => .ok (.tup ds) e
  | _ => .stuck
theorem e_tp {a : Expr} {f : En → Res D} (h : PE X a (tE X b f)) : PE X a (tE X b (eTp f)) :=
  pe_of h fun σ H Q ⟨e, F, ok, q⟩ => ⟨e, F, ok, (aft.bind q).mono fun d e' z v F' H' ok' s r => by
    cases r with
    | tpx hF ho hz rl => exact z _ F' H' ok' s (.tup (.inr ⟨_, hF⟩) hz rl)
    | _ => exact z.elim⟩
def D.isTpx : D → Bool
  | .tpx _ => true
  | _ => false
theorem Pk.tpx {w : World} {K : PySem.W.Frag} {v : V} {ds : List D} (h : Pk w K F H v (.tpx ds)) : ∃ a o vs, v = .ref a ∧ F a = some (.frz o (.tup vs)) ∧ o.dict = none ∧ ds.length ≤ sizeLine ∧ RepL w K F vs ds := by
  rcases h with h | ⟨a, rfl, _, ow⟩
  · cases h with
    | tpx hF ho hz rl => exact ⟨_, _, _, rfl, hF, ho, hz, rl⟩
  · exact ow.elim
theorem isT_tpx : IsT X "tuple" (isD X D.isTpx) := fun pins s σ H x v I r ⟨F, d, sub, pk, hd⟩ => by
  cases d with
  | tpx ds =>
    obtain ⟨a, o, vs, rfl, hF, ho, _⟩ := pk.tpx
    cases (show v = Value.ref a from r)
    obtain ⟨g, _, its, _, o', g', hc, _⟩ := I.hok a _ (sub _ _ hF)
    exact ⟨⟨o', g', hc⟩, fun a e2 => by cases e2; exact ⟨o, g, ho⟩⟩
  | _ => cases hd
/-- the first place of an equal one -/
def dIdx (c : D) (l : List D) : Option D := match c, l with
  | .tpx ds, [k] => if k ∈ ds ∧ (D.nks ds).isSome ∧ (match k.nk with | some z => decide (z.depth ≤ 8) | none => false) = true then some (.int (ds.idxOf k : Nat)) else none
  | .lst ds, [k] => if k ∈ ds ∧ (D.nks ds).isSome ∧ (match k.nk with | some z => decide (z.depth ≤ 8) | none => false) = true then some (.int (ds.idxOf k : Nat)) else none
  | _, _ => none
theorem nks_idx {k : D} {z : NestedKey} (hz : k.nk = some z) : ∀ {ds : List D} {zs : List NestedKey}, D.nks ds = some zs → zs.idxOf z = ds.idxOf k ∧ (k ∈ ds → z ∈ zs)
  | [], zs, h => by cases h; exact ⟨rfl, fun m => by cases m⟩
  | d :: ds, zs, h => by
    rw [D.nks] at h
    split at h
    case h_2 => cases h
    case h_1 p ps e1 e2 =>
      cases h
      obtain ⟨h1, h2⟩ := nks_idx hz e2
      by_cases q : d = k
      · subst q
        rw [hz] at e1
        cases e1
        exact ⟨by rw [List.idxOf_cons_self, List.idxOf_cons_self], fun _ => List.mem_cons_self⟩
      · have q' : p ≠ z := fun y => q (nk_inj d k z (by rw [e1, y]) hz)
        refine ⟨?_, fun m => ?_⟩
        · rw [List.idxOf_cons, List.idxOf_cons, h1]
          have b1 : (p == z) = false := by simpa using q'
          have b2 : (d == k) = false := by simpa using q
          rw [b1, b2]
        · rcases List.mem_cons.mp m with m | m
          · exact absurd m.symm q
          · exact List.mem_cons_of_mem _ (h2 m)
theorem idx_core (hu : X.A.units + 100 < cLine) {pins : List (Addr × Obj)} {s : Shared} {y : V} {u : Value} {ds : List D} {k : D} {vs : List V} {its : List Value} (I : L2.Inv X pins σ H s) (sub : Sub F H) (ry : RelV y u) (pk : Pk X.w X.K F H y k) (rl : RepL X.w X.K F vs ds) (rv : Vals vs its)
    (h : k ∈ ds ∧ (D.nks ds).isSome ∧ (match k.nk with | some z => decide (z.depth ≤ 8) | none => false) = true) : ∃ (zs : List NestedKey) (z : NestedKey), PySem.SeqAt.ItemsEq X.A.in1 s its zs u z ∧ z ∈ zs ∧ zs.idxOf z = ds.idxOf k ∧ zs.length = ds.length := by
  obtain ⟨hm, hs, hd⟩ := h
  obtain ⟨zs, hzs⟩ := Option.isSome_iff_exists.mp hs
  cases hz : k.nk with
  | none => rw [hz] at hd; cases hd
  | some z =>
    rw [hz] at hd
    have hd' : z.depth ≤ 8 := of_decide_eq_true hd
    have m : k.isMut = false := by cases k <;> first | rfl | (cases hz; done)
    obtain ⟨h1, h2⟩ := nks_idx hz hzs
    refine ⟨zs, z, PySem.SeqAt.ItemsEq.nested (RepL.keys I.hok sub rl rv hzs) (Rep.key I.hok sub (pk.frz m) ry hz) ?_, h2 hm, h1, ?_⟩
    · rw [Around.in1_units]
      omega
    · have go : ∀ {ds : List D} {zs : List NestedKey}, D.nks ds = some zs → zs.length = ds.length := by
        intro ds
        induction ds with
        | nil => intro zs h; cases h; rfl
        | cons d ds ih =>
          intro zs h
          rw [D.nks] at h
          split at h
          case h_2 => cases h
          case h_1 p ps e1 e2 =>
            cases h
            rw [List.length_cons, List.length_cons, ih e2]
      exact go hzs
theorem mt_tidx (hu : X.A.units + 100 < cLine) : MtR X "tuple.index" (rMt X fun c l => if c.isTpx then dIdx c l else none) := fun pins s σ H x xs v us Q I rx rxs ⟨F, d, l, r, sub, pk, rl, hg, q⟩ => by
  cases d with
  | tpx ds =>
    replace hg : dIdx (.tpx ds) l = some r := hg
    match l with
    | [] => cases hg
    | _ :: _ :: _ => cases hg
    | [k] =>
      obtain ⟨y, rfl, py⟩ := rl.one
      replace hg : (if k ∈ ds ∧ (D.nks ds).isSome ∧ (match k.nk with | some z => decide (z.depth ≤ 8) | none => false) = true then some (D.int (ds.idxOf k : Nat)) else none) = some r := hg
      by_cases h : k ∈ ds ∧ (D.nks ds).isSome ∧ (match k.nk with | some z => decide (z.depth ≤ 8) | none => false) = true
      · rw [if_pos h] at hg
        cases hg
        obtain ⟨a, o, vs, rfl, hF, ho, hz, rvs⟩ := pk.tpx
        cases (show v = Value.ref a from rx)
        obtain ⟨u, rfl, ru⟩ := rxs.one
        obtain ⟨its, rv, hl, _⟩ := I.tuple (.inl (.inr ⟨o, sub _ _ hF⟩))
        obtain ⟨zs, z, h1, h2, h3, _⟩ := idx_core hu I sub ru py rvs rv h
        refine PySem.SeqAt.call_tuple_index hl h1 h2 ?_
        rw [h3]
        exact ⟨.int _, H, I.tok _, ⟨_, rfl⟩, q _ F H (.same sub (.int _) rfl)⟩
      · rw [if_neg h] at hg
        cases hg
  | _ => cases hg
theorem mt_lidx (hu : X.A.units + 100 < cLine) : MtR X "list.index" (rMt X fun c l => if c.isLst then dIdx c l else none) := fun pins s σ H x xs v us Q I rx rxs ⟨F, d, l, r, sub, pk, rl, hg, q⟩ => by
  cases d with
  | lst ds =>
    replace hg : dIdx (.lst ds) l = some r := hg
    match l with
    | [] => cases hg
    | _ :: _ :: _ => cases hg
    | [k] =>
      obtain ⟨y, rfl, py⟩ := rl.one
      replace hg : (if k ∈ ds ∧ (D.nks ds).isSome ∧ (match k.nk with | some z => decide (z.depth ≤ 8) | none => false) = true then some (D.int (ds.idxOf k : Nat)) else none) = some r := hg
      by_cases h : k ∈ ds ∧ (D.nks ds).isSome ∧ (match k.nk with | some z => decide (z.depth ≤ 8) | none => false) = true
      · rw [if_pos h] at hg
        cases hg
        obtain ⟨a, vs, rfl, hH, hz, rvs⟩ := pk.lst sub
        cases (show v = Value.ref a from rx)
        obtain ⟨u, rfl, ru⟩ := rxs.one
        obtain ⟨its, rv, hl, _⟩ := I.list (.inl (.inl hH))
        obtain ⟨zs, z, h1, h2, h3, h4⟩ := idx_core hu I sub ru py rvs rv h
        refine PySem.SeqAt.call_list_index hl.isList h1 (by rw [h4]; exact hz) h2 ?_
        rw [h3]
        exact ⟨.int _, H, I.tok _, ⟨_, rfl⟩, q _ F H (.same sub (.int _) rfl)⟩
      · rw [if_neg h] at hg
        cases hg
  | _ => cases hg
end
end MP

set_option Elab.async false
set_option linter.all false
set_option maxRecDepth 100000
set_option autoImplicit false
namespace MP
open PySem L2
/-! ### the top's facts -/
/-- a def that stands in the written part -/
def DefAt (K : PySem.W.Frag) (x : Str) (st : Stmt) : Prop := ∃ (f : Addr) (oc : Value) (od : Option Addr) (kV doc pm : Value) (an : Option Addr) (cdv ct : Value) (sl : Array (Option Value)), PySem.W.nsIn K mainGlobals x = some (some (.ref f)) ∧
  K.lookup f = some ⟨oc, od, .func (PySem.W.fnOf x x (defArgs st) (defBody st) (defScope st) .none kV doc pm an cdv ct), sl⟩ ∧ PySem.W.codeIn K cdv x = true ∧ PySem.W.keepIn K (.ref f) = true
theorem DefAt.mk {K : PySem.W.Frag} {x : Str} {st : Stmt} {f : Addr} {oc : Value} {od : Option Addr} {kV doc pm : Value} {an : Option Addr} {cdv ct : Value} {sl : Array (Option Value)} (a : PySem.W.nsIn K mainGlobals x = some (some (.ref f)))
    (l : K.lookup f = some ⟨oc, od, .func (PySem.W.fnOf x x (defArgs st) (defBody st) (defScope st) .none kV doc pm an cdv ct), sl⟩) (c : PySem.W.codeIn K cdv x = true) (k : PySem.W.keepIn K (.ref f) = true) : DefAt K x st := ⟨f, oc, od, kV, doc, pm, an, cdv, ct, sl, a, l, c, k⟩
def OnK (K : PySem.W.Frag) (mg : Str → Option Value) : Prop := ∃ h : Heap, K.In h ∧ h.Ns mainGlobals mg
theorem DefAt.use {K : PySem.W.Frag} {mg : Str → Option Value} {x : Str} {st : Stmt} (A : DefAt K x st) (X0 : OnK K mg) : ∃ fa fd, Fun K x x st fa fd ∧ mg x = some (.ref fa) ∧ ∃ (kV doc pm : Value) (an : Option Addr) (cdv ct : Value), fd = PySem.W.fnOf x x (defArgs st) (defBody st) (defScope st) .none kV doc pm an cdv ct := by
  obtain ⟨f, oc, od, kV, doc, pm, an, cdv, ct, sl, a, l, c, k⟩ := A
  obtain ⟨h, hX, hG⟩ := X0
  exact ⟨f, _, fun_mk l c k, PySem.W.mg_of hX hG a, kV, doc, pm, an, cdv, ct, rfl⟩
structure Bt (mg : Str → Option Value) : Prop where
  len : mg "len" = none
  abs : mg "abs" = none
  min : mg "min" = none
  max : mg "max" = none
  sum : mg "sum" = none
  any : mg "any" = none
  all : mg "all" = none
  sorted : mg "sorted" = none
  range : mg "range" = none
  isinstance : mg "isinstance" = none
  ty_int : mg "int" = none
  ty_tuple : mg "tuple" = none
  ty_list : mg "list" = none
  ty_bool : mg "bool" = none
  ty_str : mg "str" = none
  ty_set : mg "set" = none
theorem bo_len : bootBuiltins "len" = some (.builtin "len") := by decide +kernel
theorem bo_abs : bootBuiltins "abs" = some (.builtin "abs") := by decide +kernel
theorem bo_min : bootBuiltins "min" = some (.builtin "min") := by decide +kernel
theorem bo_max : bootBuiltins "max" = some (.builtin "max") := by decide +kernel
theorem bo_sum : bootBuiltins "sum" = some (.builtin "sum") := by decide +kernel
theorem bo_any : bootBuiltins "any" = some (.builtin "any") := by decide +kernel
theorem bo_all : bootBuiltins "all" = some (.builtin "all") := by decide +kernel
theorem bo_sorted : bootBuiltins "sorted" = some (.builtin "sorted") := by decide +kernel
theorem bo_int : bootBuiltins "int" = some (.type "int") := by decide +kernel
theorem bo_tuple : bootBuiltins "tuple" = some (.type "tuple") := by decide +kernel
theorem bo_list : bootBuiltins "list" = some (.type "list") := by decide +kernel
theorem hu_room {k : Nat} {A : Around} (r : Room k A) : A.units + 100 < cLine := by
  have := r.un
  omega
section
variable {P : Program} {w : World} {K : PySem.W.Frag} {mg : Str → Option Value} {base : Heap} {x : Str} {st : Stmt} {N ps : List Str} {k : Nat} {ms : List Bool}
theorem DefAt.ok {f : En → Res Fl} (A : DefAt K x st) (X0 : OnK K mg) (S : FnScope N ps (defScope st)) (hps : ms.length = ps.length) (hN : ms.length ≤ N.length)
    (hbind : ∀ (kV doc pm : Value) (an : Option Addr) (cdv ct : Value) (us : List Value), us.length = ps.length → bindArgs (PySem.W.fnOf x x (defArgs st) (defBody st) (defScope st) .none kV doc pm an cdv ct) ⟨us, []⟩ = pure (ps.zip us))
    (body : ∀ (cdv : Value) (AA : Around) (outer : List Env) (s : Shared) (H : Hp) (E : XK) (b : Bd0) (fa : Addr), Room k (AA.deeper (PyProof.Rows.envOfC x (defScope st) s.heap.objs.size fa cdv)) → PSs (cxOf CX0 P w K mg base N x (defScope st) fa cdv AA outer s H E).nox (defBody st) (tS (cxOf CX0 P w K mg base N x (defScope st) fa cdv AA outer s H E).nox b f)) :
    DefOk P w K mg base CX0 ce0 (k + 1) x ms (runF N.length ms f) := by
  obtain ⟨fa, fd, G, hm, _⟩ := A.use X0
  exact def_ok G S hm (G.binds hbind) hps hN fun cdv AA outer s H E b hr => body cdv AA outer s H E b fa hr
theorem DefAt.stuck (A : DefAt K x st) (X0 : OnK K mg) (S : FnScope N ps (defScope st)) (hps : ms.length = ps.length) (hN : ms.length ≤ N.length)
    (hbind : ∀ (kV doc pm : Value) (an : Option Addr) (cdv ct : Value) (us : List Value), us.length = ps.length → bindArgs (PySem.W.fnOf x x (defArgs st) (defBody st) (defScope st) .none kV doc pm an cdv ct) ⟨us, []⟩ = pure (ps.zip us)) :
    DefOk P w K mg base CX0 ce0 (k + 1) x ms (fun _ => .stuck) := by
  obtain ⟨fa, fd, G, hm, _⟩ := A.use X0
  exact ⟨fa, fd, ps, hm, G.kp, G.binds hbind, G.ok S (fun vs H Q E ⟨ds, F, _, ar, _⟩ => by rw [ar.len.1, hps]) fun cdv AA outer s H vs Q E hr ⟨ds, F, _, _, _, h⟩ => h.elim⟩
/-- the law's own def -/
theorem DefAt.okLaw {p : Str} {f : En → Res Fl} {fa : Addr} (A : DefAt K x st) (X0 : OnK K mg) (hfa : mg x = some (.ref fa)) (S : FnScope N [p] (defScope st)) (hN : 1 ≤ N.length)
    (hbind : ∀ (kV doc pm : Value) (an : Option Addr) (cdv ct : Value) (us : List Value), us.length = [p].length → bindArgs (PySem.W.fnOf x x (defArgs st) (defBody st) (defScope st) .none kV doc pm an cdv ct) ⟨us, []⟩ = pure ([p].zip us))
    (body : ∀ (base : Heap) (cdv : Value) (AA : Around) (outer : List Env) (s : Shared) (H : Hp) (E : XK) (b : Bd0) (fa : Addr), Room k (AA.deeper (PyProof.Rows.envOfC x (defScope st) s.heap.objs.size fa cdv)) → PSs (cxOf CX0 P w K mg base N x (defScope st) fa cdv AA outer s H E).nox (defBody st) (tS (cxOf CX0 P w K mg base N x (defScope st) fa cdv AA outer s H E).nox b f)) :
    ∃ fd : FuncData, (∀ (s : Shared) (u : Value), BindsTo s fd ⟨[u], []⟩ [(p, u)]) ∧ ∀ base : Heap, FnOk P w K mg base CX0 (k + 1) fa fd [p] (spF w K ce0 [false] (runF N.length [false] f)) := by
  obtain ⟨fa', fd, G, hm, kV, doc, pm, an, cdv, ct, rfl⟩ := A.use X0
  rw [hfa] at hm
  cases hm
  refine ⟨_, fun s u => .of_eq (hbind kV doc pm an cdv ct [u] rfl), fun base => ?_⟩
  exact G.ok S (fun vs H Q E ⟨ds, F, _, ar, _⟩ => by rw [ar.len.1]; rfl) fun cdv A outer s H vs Q E hr h =>
    run_ok (X := (cxOf CX0 P w K mg base N x (defScope st) fa cdv A outer s H E).nox) (ce := ce0) (ms := [false]) (E := E) hN (fun b _ => body base cdv A outer s H E b fa hr) h
/-- what the law's head asks, from the reading alone -/
theorem law_in {f : FSem} {H : Hp} {a : Addr} {ns : List Int} (h : f [.scr (ns.map D.int)] = .ok (.bl true) []) (hl : ns.length ≤ sizeLine) (hS : SqL K H a (ns.map V.int)) : spF w K ce0 [false] f [.ref a] H (fun v _ => v = .bl true) fun _ _ _ => False := by
  have rl : RepL w K H (ns.map V.int) (ns.map D.int) := by
    clear h hl hS
    induction ns with
    | nil => exact .nil
    | cons n r ih => exact .cons (.int n) ih
  refine ⟨[.scr (ns.map D.int)], H, Sub.refl H, .sh (.scr hS (by rw [List.length_map]; exact hl) rl) .nil, List.nodup_nil, ?_⟩
  rw [h]
  intro v F' H' _ _ mv
  rcases mv with ⟨_, r⟩ | ⟨m, _⟩
  · cases r
    rfl
  · cases m
end
end MP

set_option Elab.async false
set_option linter.all false
set_option autoImplicit false
set_option maxRecDepth 100000
namespace MP
open PySem L2
/-! ### reading the readings: rules for simp -/
theorem nr {α : Sort _} {a b : α} (h : a = b) : a = b := h
section
variable {α β : Type} {e e' : En}
@[simp] theorem bind_ok (a : α) (f : α → En → Res β) : Res.bind (.ok a e) f = f a e := nr rfl
theorem bind_bind {γ : Type} (r : Res α) (f : α → En → Res β) (g : β → En → Res γ) : (r.bind f).bind g = r.bind fun a e => (f a e).bind g := by cases r <;> rfl
@[simp] theorem bind_st (f : α → En → Res β) : Res.bind (.stuck : Res α) f = .stuck := nr rfl
@[simp] theorem opt_some (a : α) : Res.opt (some a) e = .ok a e := nr rfl
@[simp] theorem see_sh (d : D) : Slot.see (.sh d) = some d := nr rfl
@[simp] theorem see_ow (d : D) : Slot.see (.ow d) = some d := nr rfl
@[simp] theorem see_io (d : D) : Slot.see (.io d) = some d := nr rfl
@[simp] theorem mut_ow (d : D) : Slot.mut (.ow d) = some d := nr rfl
@[simp] theorem mut_io (d : D) : Slot.mut (.io d) = some d := nr rfl
@[simp] theorem with_ow (d x : D) : Slot.with (.ow d) x = .ow x := nr rfl
@[simp] theorem with_io (d x : D) : Slot.with (.io d) x = .io x := nr rfl
@[simp] theorem eat_0 (s : Slot) : eat (s :: e) 0 = s := nr rfl
@[simp] theorem eat_s (s : Slot) (n : Nat) : eat (s :: e) (n + 1) = eat e n := nr rfl
@[simp] theorem eput_0 (s x : Slot) : eput (s :: e) 0 x = x :: e := nr rfl
@[simp] theorem eput_s (s x : Slot) (n : Nat) : eput (s :: e) (n + 1) x = s :: eput e n x := nr rfl
def seeK (o : Option D) (k : D → Res α) : Res α := match o with
  | some d => k d
  | none => .stuck
@[simp] theorem seeK_some (d : D) (k : D → Res α) : seeK (some d) k = k d := nr rfl
@[simp] theorem seeAt_eq (i : Nat) (k : D → Res α) : seeAt i e k = seeK (eat e i).see k := nr rfl
@[simp] theorem mutAt_eq (i : Nat) (k : D → Res α) : mutAt i e k = seeK (eat e i).mut k := nr rfl
@[simp] theorem args_nil : args [] e = .ok [] e := nr rfl
@[simp] theorem args_f (g : En → Res D) (r : List Opd) : args (.f g :: r) e = (g e).bind fun a e => (args r e).bind fun l e => .ok (a :: l) e := nr rfl
@[simp] theorem args_n (i : Nat) (r : List Opd) : args (.n i :: r) e = seeAt i e fun _ => (args r e).bind fun l e => seeAt i e fun a => .ok (a :: l) e := nr rfl
def o2K (g : D → D → Option D) (l : List D) (e : En) : Res D := match l with
  | [a, b] => Res.opt (g a b) e
  | _ => .stuck
@[simp] theorem o2K_2 (g : D → D → Option D) (a b : D) : o2K g [a, b] e = Res.opt (g a b) e := nr rfl
@[simp] theorem o2_eq (oa ob : Opd) (g : D → D → Option D) : o2 oa ob g e = (args [oa, ob] e).bind (o2K g) := nr rfl
@[simp] theorem oN_eq (os : List Opd) (g : List D → Option D) : oN os g e = (args os e).bind fun l e => Res.opt (g l) e := nr rfl
@[simp] theorem eC_eq (d : D) : eC d e = .ok d e := nr rfl
def eNK (i : Nat) (s : Slot) (e : En) : Res D := match s with
  | .sh d => .ok d e
  | .ow d => .ok d (eput e i (.sh d))
  | _ => .stuck
@[simp] theorem eNK_sh (i : Nat) (d : D) : eNK i (.sh d) e = .ok d e := nr rfl
@[simp] theorem eNK_ow (i : Nat) (d : D) : eNK i (.ow d) e = .ok d (eput e i (.sh d)) := nr rfl
@[simp] theorem eN_eq (i : Nat) : eN i e = eNK i (eat e i) e := nr rfl
def eNMK (i : Nat) (s : Slot) (e : En) : Res D := match s with
  | .ow d => if d.isMut then .ok d (eput e i .no) else .stuck
  | .sh d => if d.isMut then .stuck else .ok d e
  | _ => .stuck
@[simp] theorem eNMK_ow (i : Nat) (d : D) : eNMK i (.ow d) e = if d.isMut then .ok d (eput e i .no) else .stuck := nr rfl
@[simp] theorem eNMK_sh (i : Nat) (d : D) : eNMK i (.sh d) e = if d.isMut then .stuck else .ok d e := nr rfl
@[simp] theorem eNM_eq (i : Nat) : eNM i e = eNMK i (eat e i) e := nr rfl
@[simp] theorem isMut_lst (l : List D) : (D.lst l).isMut = true := nr rfl
@[simp] theorem isMut_dct (t : Bool) (l : List (D × D)) : (D.dct t l).isMut = true := nr rfl
@[simp] theorem isMut_tup (l : List D) : (D.tup l).isMut = false := nr rfl
@[simp] theorem isMut_int (i : Int) : (D.int i).isMut = false := nr rfl
@[simp] theorem isMut_bl (i : Bool) : (D.bl i).isMut = false := nr rfl
@[simp] theorem isMut_non : D.non.isMut = false := nr rfl
@[simp] theorem isMut_str (i : PySem.Str) : (D.str i).isMut = false := nr rfl
@[simp] theorem eM_eq (f : En → Res D) : eM f e = (f e).bind fun d e => if d.isMut then .stuck else .ok d e := nr rfl
def asBK (d : D) (e : En) : Res Bool := match d with
  | .bl c => .ok c e
  | _ => .stuck
@[simp] theorem asBK_bl (c : Bool) : asBK (.bl c) e = .ok c e := nr rfl
@[simp] theorem asB_eq (f : En → Res D) : asB f e = (f e).bind asBK := nr rfl
@[simp] theorem eAnd_eq (f g : En → Res D) : eAnd f g e = (asB f e).bind fun c e => if c then g e else .ok (.bl false) e := nr rfl
@[simp] theorem eOr_eq (f g : En → Res D) : eOr f g e = (asB f e).bind fun c e => if c then .ok (.bl true) e else g e := nr rfl
@[simp] theorem eNot_eq (f : En → Res D) : eNot f e = (asB f e).bind fun c e => .ok (.bl (!c)) e := nr rfl
@[simp] theorem eIf_eq (c : En → Res Bool) (f g : En → Res D) : eIf c f g e = (c e).bind fun k e => if k then f e else g e := nr rfl
@[simp] theorem cAnd_eq (f g : En → Res Bool) : cAnd f g e = (f e).bind fun c e => if c then g e else .ok false e := nr rfl
@[simp] theorem cOr_eq (f g : En → Res Bool) : cOr f g e = (f e).bind fun c e => if c then .ok true e else g e := nr rfl
@[simp] theorem cNot_eq (f : En → Res Bool) : cNot f e = (f e).bind fun c e => .ok (!c) e := nr rfl
@[simp] theorem cYes_eq : cYes e = .ok true e := nr rfl
@[simp] theorem seqE_nil : seqE [] e = .ok [] e := nr rfl
@[simp] theorem seqE_cons (g : En → Res D) (r : List (En → Res D)) : seqE (g :: r) e = (g e).bind fun a e => (seqE r e).bind fun l e => .ok (a :: l) e := nr rfl
def lenK (mk : List D → D) (l : List D) (e : En) : Res D := if l.length ≤ sizeLine then .ok (mk l) e else .stuck
theorem lenK_ok (mk : List D → D) (l : List D) (h : l.length ≤ 1000000) : lenK mk l e = .ok (mk l) e := by
  unfold lenK
  rw [if_pos (by rw [sizeLine_eq]; omega)]
@[simp] theorem lenK_0 (mk : List D → D) : lenK mk [] e = .ok (mk []) e := lenK_ok mk [] (by simp)
@[simp] theorem lenK_1 (mk : List D → D) (a : D) : lenK mk [a] e = .ok (mk [a]) e := lenK_ok mk _ (by simp)
@[simp] theorem lenK_2 (mk : List D → D) (a b : D) : lenK mk [a, b] e = .ok (mk [a, b]) e := lenK_ok mk _ (by simp)
@[simp] theorem lenK_3 (mk : List D → D) (a b c : D) : lenK mk [a, b, c] e = .ok (mk [a, b, c]) e := lenK_ok mk _ (by simp)
@[simp] theorem lenK_4 (mk : List D → D) (a b c d : D) : lenK mk [a, b, c, d] e = .ok (mk [a, b, c, d]) e := lenK_ok mk _ (by simp)
@[simp] theorem lenK_5 (mk : List D → D) (a b c d x : D) : lenK mk [a, b, c, d, x] e = .ok (mk [a, b, c, d, x]) e := lenK_ok mk _ (by simp)
@[simp] theorem lenK_6 (mk : List D → D) (a b c d x y : D) : lenK mk [a, b, c, d, x, y] e = .ok (mk [a, b, c, d, x, y]) e := lenK_ok mk _ (by simp)
@[simp] theorem lenK_8 (mk : List D → D) (a b c d x y z u : D) : lenK mk [a, b, c, d, x, y, z, u] e = .ok (mk [a, b, c, d, x, y, z, u]) e := lenK_ok mk _ (by simp)
@[simp] theorem eTup_eq (gs : List (En → Res D)) : eTup gs e = (seqE gs e).bind (lenK .tup) := nr rfl
@[simp] theorem eLst_eq (gs : List (En → Res D)) : eLst gs e = (seqE gs e).bind (lenK .lst) := nr rfl
def lcK (e1 : En) (vs : List Nat) (r : Res (List D)) : Res D := match r with
  | .ok l e2 => lenK .lst l (backE e1 e2 vs)
  | _ => .stuck
@[simp] theorem lcK_ok (e1 e2 : En) (vs : List Nat) (l : List D) : lcK e1 vs (.ok l e2) = lenK .lst l (backE e1 e2 vs) := nr rfl
@[simp] theorem eLc_eq (fi : En → Res (List D)) (gt : D → En → Option En) (c : En → Res Bool) (f : En → Res D) (vs : List Nat) : eLc fi gt c f vs e = (fi e).bind fun ds e1 => lcK e1 vs (compL gt c f vs ds [] (wipeE e1 vs)) := by
  show (fi e).bind _ = _
  congr
@[simp] theorem wipeE_nil : wipeE e [] = e := nr rfl
@[simp] theorem wipeE_cons (v : Nat) (vs : List Nat) : wipeE e (v :: vs) = eput (wipeE e vs) v .no := nr rfl
def bkK (s : Slot) : Slot := match s with
  | .sh d => .sh d
  | _ => .no
@[simp] theorem bkK_sh (d : D) : bkK (.sh d) = .sh d := nr rfl
@[simp] theorem bkK_no : bkK .no = .no := nr rfl
@[simp] theorem bkK_ow (d : D) : bkK (.ow d) = .no := nr rfl
@[simp] theorem backE_nil (e0 : En) : backE e0 e [] = e := nr rfl
@[simp] theorem backE_cons (e0 : En) (v : Nat) (vs : List Nat) : backE e0 e (v :: vs) = eput (backE e0 e vs) v (bkK (eat e0 v)) := nr rfl
def rg1K (d : D) (e : En) : Res (List D) := match d with
  | .int j => if -(2 ^ 62) ≤ j ∧ j < 2 ^ 62 then .ok (rgD 0 j.toNat) e else .stuck
  | _ => .stuck
theorem rg1K_ok {j : Int} (h : j ≤ 1000000000 ∧ -1000000000 ≤ j) : rg1K (.int j) e = .ok (rgD 0 j.toNat) e := by
  show (if _ then _ else _) = _
  rw [if_pos (by omega)]
@[simp] theorem iRg1_eq (f : En → Res D) : iRg1 f e = (f e).bind rg1K := nr rfl
def rg2K (d c : D) (e : En) : Res (List D) := match d, c with
  | .int i, .int j => if -(2 ^ 62) ≤ i ∧ i < 2 ^ 62 ∧ -(2 ^ 62) ≤ j ∧ j < 2 ^ 62 then .ok (rgD i (j - i).toNat) e else .stuck
  | _, _ => .stuck
theorem rg2K_ok {i j : Int} (h : (i ≤ 1000000000 ∧ -1000000000 ≤ i) ∧ j ≤ 1000000000 ∧ -1000000000 ≤ j) : rg2K (.int i) (.int j) e = .ok (rgD i (j - i).toNat) e := by
  show (if _ then _ else _) = _
  rw [if_pos (by omega)]
@[simp] theorem iRg2_eq (f g : En → Res D) : iRg2 f g e = (f e).bind fun d e => (g e).bind fun c e => rg2K d c e := nr rfl
@[simp] theorem iSq_eq (f : En → Res D) : iSq f e = (f e).bind fun d e => Res.opt d.items e := nr rfl
@[simp] theorem items_tup (l : List D) : (D.tup l).items = some l := nr rfl
@[simp] theorem items_lst (l : List D) : (D.lst l).items = some l := nr rfl
@[simp] theorem items_scr (l : List D) : (D.scr l).items = some l := nr rfl
@[simp] theorem items_dct (t : Bool) (l : List (D × D)) : (D.dct t l).items = some (l.map (·.1)) := nr rfl
@[simp] theorem seq_tup (l : List D) : (D.tup l).seq = some l := nr rfl
@[simp] theorem seq_lst (l : List D) : (D.lst l).seq = some l := nr rfl
@[simp] theorem seq_scr (l : List D) : (D.scr l).seq = some l := nr rfl
def tgK (i : Nat) (d : D) (s : Slot) (e : En) : Option En := match s with
  | .io _ => none
  | _ => some (eput e i (.sh d))
@[simp] theorem tgK_no (i : Nat) (d : D) : tgK i d .no e = some (eput e i (.sh d)) := nr rfl
@[simp] theorem tgK_sh (i : Nat) (d x : D) : tgK i d (.sh x) e = some (eput e i (.sh d)) := nr rfl
@[simp] theorem tgK_ow (i : Nat) (d x : D) : tgK i d (.ow x) e = some (eput e i (.sh d)) := nr rfl
@[simp] theorem tgN_eq (i : Nat) (d : D) : tgN i d e = tgK i d (eat e i) e := nr rfl
@[simp] theorem tgs_nil : tgs [] [] e = some e := nr rfl
@[simp] theorem tgs_cons (i : Nat) (is : List Nat) (d : D) (ds : List D) : tgs (i :: is) (d :: ds) e = (tgN i d e).bind fun e => tgs is ds e := nr rfl
@[simp] theorem tgT_eq (is : List Nat) (ds : List D) : tgT is (.tup ds) e = tgs is ds e := nr rfl
def ctK (c : En → Res Bool) (f : En → Res D) (vs : List Nat) (k : List D → En → Res (List D)) (acc : List D) (o : Option En) : Res (List D) := match o with
  | none => .stuck
  | some e1 => (c e1).bind fun t e2 => if t then (f e2).bind fun d e3 => k (acc ++ [d]) (wipeE e3 vs) else k acc (wipeE e2 vs)
@[simp] theorem ctK_some (c : En → Res Bool) (f : En → Res D) (vs : List Nat) (k : List D → En → Res (List D)) (acc : List D) (e1 : En) : ctK c f vs k acc (some e1) = (c e1).bind fun t e2 => if t then (f e2).bind fun d e3 => k (acc ++ [d]) (wipeE e3 vs) else k acc (wipeE e2 vs) := nr rfl
@[simp] theorem cTurn_eq (gt : D → En → Option En) (c : En → Res Bool) (f : En → Res D) (vs : List Nat) (k : List D → En → Res (List D)) (acc : List D) (x : D) : cTurn gt c f vs k acc x e = ctK c f vs k acc (gt x e) := nr rfl
@[simp] theorem part_none : part none e = .ok none e := nr rfl
def ptK (d : D) (e : En) : Res (Option Int) := match d with
  | .int i => .ok (some i) e
  | _ => .stuck
@[simp] theorem ptK_int (i : Int) : ptK (.int i) e = .ok (some i) e := nr rfl
/-! statements -/
@[simp] theorem sNop_eq : sNop e = .ok .nx e := nr rfl
@[simp] theorem sBk_eq : sBk e = .ok .bk e := nr rfl
@[simp] theorem sCt_eq : sCt e = .ok .ct e := nr rfl
@[simp] theorem sDrop_eq (f : En → Res D) : sDrop f e = (f e).bind fun _ e => .ok .nx e := nr rfl
@[simp] theorem sRet_eq (f : En → Res D) : sRet f e = (f e).bind fun d e => .ok (.rt d) e := nr rfl
@[simp] theorem sRetN_eq : sRetN e = .ok (.rt .non) e := nr rfl
@[simp] theorem sIf_eq (c : En → Res Bool) (f g : En → Res Fl) : sIf c f g e = (c e).bind fun k e => if k then f e else g e := nr rfl
def sqK (g : En → Res Fl) (fl : Fl) (e : En) : Res Fl := match fl with
  | .nx => g e
  | o => .ok o e
@[simp] theorem sqK_nx (g : En → Res Fl) : sqK g .nx e = g e := nr rfl
@[simp] theorem sqK_rt (g : En → Res Fl) (d : D) : sqK g (.rt d) e = .ok (.rt d) e := nr rfl
@[simp] theorem sqK_bk (g : En → Res Fl) : sqK g .bk e = .ok .bk e := nr rfl
@[simp] theorem sqK_ct (g : En → Res Fl) : sqK g .ct e = .ok .ct e := nr rfl
@[simp] theorem sSeq_eq (f g : En → Res Fl) : sSeq f g e = (f e).bind (sqK g) := by
  show (f e).bind _ = _
  congr
def stK (i : Nat) (x : Slot) (s : Slot) (e : En) : Res Fl := match s with
  | .io _ => .stuck
  | _ => .ok .nx (eput e i x)
@[simp] theorem stK_no (i : Nat) (x : Slot) : stK i x .no e = .ok .nx (eput e i x) := nr rfl
@[simp] theorem stK_sh (i : Nat) (x : Slot) (d : D) : stK i x (.sh d) e = .ok .nx (eput e i x) := nr rfl
@[simp] theorem stK_ow (i : Nat) (x : Slot) (d : D) : stK i x (.ow d) e = .ok .nx (eput e i x) := nr rfl
@[simp] theorem setM_eq (i : Nat) (d : D) : setM i d e = stK i (if d.isMut then .ow d else .sh d) (eat e i) e := nr rfl
@[simp] theorem setE_eq (i : Nat) (d : D) : setE i d e = stK i (.sh d) (eat e i) e := nr rfl
@[simp] theorem sSetM_eq (i : Nat) (f : En → Res D) : sSetM i f e = (f e).bind fun d e => setM i d e := nr rfl
@[simp] theorem sSetE_eq (i : Nat) (f : En → Res D) : sSetE i f e = (f e).bind fun d e => setE i d e := nr rfl
def agK (o : Option En) : Res Fl := match o with
  | some e => .ok .nx e
  | none => .stuck
@[simp] theorem agK_some : agK (some e) = .ok .nx e := nr rfl
@[simp] theorem sAsg_eq (gt : D → En → Option En) (f : En → Res D) : sAsg gt f e = (f e).bind fun d e => agK (gt d e) := nr rfl
@[simp] theorem sFor_eq (fi : En → Res (List D)) (gt : D → En → Option En) (body : En → Res Fl) : sFor fi gt body e = (fi e).bind fun ds e => forL gt body ds e := nr rfl
@[simp] theorem forL_nil (gt : D → En → Option En) (body : En → Res Fl) : forL gt body [] e = .ok .nx e := nr rfl
def flK (k : En → Res Fl) (fl : Fl) (e : En) : Res Fl := match fl with
  | .nx => k e
  | .ct => k e
  | .bk => .ok .nx e
  | .rt d => .ok (.rt d) e
@[simp] theorem flK_nx (k : En → Res Fl) : flK k .nx e = k e := nr rfl
@[simp] theorem flK_ct (k : En → Res Fl) : flK k .ct e = k e := nr rfl
@[simp] theorem flK_bk (k : En → Res Fl) : flK k .bk e = .ok .nx e := nr rfl
@[simp] theorem flK_rt (k : En → Res Fl) (d : D) : flK k (.rt d) e = .ok (.rt d) e := nr rfl
def flB (body : En → Res Fl) (k : En → Res Fl) (o : Option En) : Res Fl := match o with
  | none => .stuck
  | some e1 => (body e1).bind (flK k)
@[simp] theorem flB_some (body : En → Res Fl) (k : En → Res Fl) (e1 : En) : flB body k (some e1) = (body e1).bind (flK k) := nr rfl
theorem forL_cons (gt : D → En → Option En) (body : En → Res Fl) (x : D) (xs : List D) : forL gt body (x :: xs) e = flB body (fun e => forL gt body xs e) (gt x e) := by
  rw [forL]
  unfold flB
  cases gt x e with
  | none => rfl
  | some e1 =>
    show (body e1).bind _ = (body e1).bind _
    congr
/-! methods of a list of one's own -/
def lmK (i : Nat) (e : En) (o : Option (D × List D)) : Res D := match o with
  | some (r, ds') => .ok r (eput e i ((eat e i).with (.lst ds')))
  | none => .stuck
@[simp] theorem lmK_some (i : Nat) (r : D) (ds' : List D) : lmK i e (some (r, ds')) = .ok r (eput e i ((eat e i).with (.lst ds'))) := nr rfl
def lmD (i : Nat) (g : List D → List D → Option (D × List D)) (a : List D) (e : En) (l : D) : Res D := match l with
  | .lst ds => lmK i e (g ds a)
  | _ => .stuck
@[simp] theorem lmD_lst (i : Nat) (g : List D → List D → Option (D × List D)) (a ds : List D) : lmD i g a e (.lst ds) = lmK i e (g ds a) := nr rfl
def lmS (fs : List (En → Res D)) (k : List D → En → Res D) (e : En) (l : D) : Res D := match l with
  | .lst _ => (seqE fs e).bind k
  | _ => .stuck
@[simp] theorem lmS_lst (fs : List (En → Res D)) (k : List D → En → Res D) (ds : List D) : lmS fs k e (.lst ds) = (seqE fs e).bind k := nr rfl
@[simp] theorem eLM_eq (i : Nat) (fs : List (En → Res D)) (g : List D → List D → Option (D × List D)) : eLM i fs g e = mutAt i e (lmS fs (fun a e => mutAt i e (lmD i g a e)) e) := nr rfl
theorem gApp_ok (ds : List D) (d : D) (h : ds.length ≤ 1000000) : gApp ds [d] = some (.non, ds ++ [d]) := by
  show (if _ then _ else _) = _
  rw [if_pos (by rw [sizeLine_eq]; omega)]
@[simp] theorem gRev_eq (ds : List D) : gRev ds [] = some (.non, ds.reverse) := nr rfl
/-! calls -/
@[simp] theorem cargs_nil : cargs .nil e = .ok [] e := nr rfl
@[simp] theorem cargs_s (g : En → Res D) (r : CArgs) : cargs (.s g r) e = (g e).bind fun d e => (cargs r e).bind fun l e => .ok (d :: l) e := nr rfl
@[simp] theorem cargs_io (i : Nat) (r : CArgs) : cargs (.io i r) e = mutAt i e fun _ => (cargs r e).bind fun l e => mutAt i e fun d => .ok (d :: l) e := nr rfl
@[simp] theorem cargs_tmp (g : En → Res D) (ks : List D) : cargs (.tmp g ks) e = (g e).bind fun d e => if d.isMut then .ok (d :: ks) e else .stuck := nr rfl
def poK (d : D) (o : Option En) : Res D := match o with
  | some e => .ok d e
  | none => .stuck
@[simp] theorem poK_some (d : D) : poK d (some e) = .ok d e := nr rfl
def caK (as : CArgs) (r : FRes) (e : En) : Res D := match r with
  | .ok d outs => poK d (putOuts as outs e)
  | _ => .stuck
@[simp] theorem caK_ok (as : CArgs) (d : D) (outs : List D) : caK as (.ok d outs) e = poK d (putOuts as outs e) := nr rfl
@[simp] theorem eCall_eq (as : CArgs) (f : FSem) : eCall as f e = (cargs as e).bind fun ds e => caK as (f ds) e := by
  show (cargs as e).bind _ = _
  congr
@[simp] theorem po_nil : putOuts .nil [] e = some e := nr rfl
@[simp] theorem po_s (g : En → Res D) (r : CArgs) (os : List D) : putOuts (.s g r) os e = putOuts r os e := nr rfl
@[simp] theorem po_io (i : Nat) (r : CArgs) (o : D) (os : List D) : putOuts (.io i r) (o :: os) e = putOuts r os (eput e i ((eat e i).with o)) := nr rfl
@[simp] theorem po_tmp (g : En → Res D) (ks : List D) (o : D) : putOuts (.tmp g ks) [o] e = some e := nr rfl
def enK (d : D) (o : Option (List D)) : FRes := match o with
  | some o => .ok d o
  | none => .stuck
@[simp] theorem enK_some (d : D) (o : List D) : enK d (some o) = .ok d o := nr rfl
@[simp] theorem endF_rt (ms : List Bool) (d : D) : endF ms (.ok (.rt d) e) = enK d (outsE ms e) := nr rfl
@[simp] theorem endF_nx (ms : List Bool) : endF ms (.ok .nx e) = enK .non (outsE ms e) := nr rfl
@[simp] theorem outs_nil : outsE [] e = some [] := nr rfl
@[simp] theorem outs_f (ms : List Bool) (s : Slot) : outsE (false :: ms) (s :: e) = outsE ms e := nr rfl
@[simp] theorem outs_t (ms : List Bool) (d : D) : outsE (true :: ms) (.io d :: e) = (outsE ms e).map (d :: ·) := nr rfl
theorem runF_eq (n : Nat) (ms : List Bool) (body : En → Res Fl) (ds : List D) : runF n ms body ds = endF ms (body (startE n ms ds)) := nr rfl

@[simp] theorem start_nil (ds : List D) : startS [] ds = [] := nr rfl
@[simp] theorem start_t (ms : List Bool) (d : D) (ds : List D) : startS (true :: ms) (d :: ds) = .io d :: startS ms ds := nr rfl
@[simp] theorem start_f (ms : List Bool) (d : D) (ds : List D) : startS (false :: ms) (d :: ds) = .sh d :: startS ms ds := nr rfl
theorem startE_eq (n : Nat) (ms : List Bool) (ds : List D) : startE n ms ds = startS ms ds ++ List.replicate (n - ds.length) .no := nr rfl
/-! ### loops and comprehensions, by what a turn does -/
theorem compL_T {α : Type} {gt : D → En → Option En} {c : En → Res Bool} {f : En → Res D} {vs : List Nat} {e : En} (enc : α → D) (p : α → Bool) (g : α → D) : ∀ (xs : List α) (acc : List D) (h : ∀ x ∈ xs, ∀ k acc, cTurn gt c f vs k acc (enc x) e = if p x then k (acc ++ [g x]) e else k acc e),
    compL gt c f vs (xs.map enc) acc e = .ok (acc ++ (xs.filter p).map g) e
  | [], acc, h => by simp [compL]
  | x :: xs, acc, h => by
    rw [List.map_cons, compL, h x List.mem_cons_self]
    cases q : p x with
    | true => rw [if_pos rfl, compL_T enc p g xs _ fun y m => h y (List.mem_cons_of_mem _ m)]; simp [q]
    | false => rw [if_neg Bool.false_ne_true, compL_T enc p g xs _ fun y m => h y (List.mem_cons_of_mem _ m)]; simp [q]
theorem compL_all {α : Type} {gt : D → En → Option En} {c : En → Res Bool} {f : En → Res D} {vs : List Nat} {e : En} (enc : α → D) (g : α → D) (xs : List α) (h : ∀ x ∈ xs, ∀ k acc, cTurn gt c f vs k acc (enc x) e = k (acc ++ [g x]) e) :
    compL gt c f vs (xs.map enc) [] e = .ok (xs.map g) e := by
  rw [compL_T enc (fun _ => true) g xs [] fun x m k acc => by rw [h x m k acc]; rfl]
  rw [List.filter_eq_self.mpr fun _ _ => rfl]
  rfl
theorem rgD_map (n : Nat) : rgD 0 n = (List.range n).map fun k : Nat => D.int k := by simp [rgD]
theorem forL_T {α σ : Type} {gt : D → En → Option En} {body : En → Res Fl} (enc : α → D) (E : σ → En) (step : σ → α → σ) (I : σ → Prop) : ∀ (xs : List α) (s : σ) (hI : I s) (h : ∀ x ∈ xs, ∀ s, I s → I (step s x) ∧ ∃ e1, gt (enc x) (E s) = some e1 ∧ body e1 = .ok .nx (E (step s x))),
    forL gt body (xs.map enc) (E s) = .ok .nx (E (xs.foldl step s)) ∧ I (xs.foldl step s)
  | [], s, hI, h => ⟨rfl, hI⟩
  | x :: xs, s, hI, h => by
    obtain ⟨h1, e1, h2, h3⟩ := h x List.mem_cons_self s hI
    rw [List.map_cons, forL_cons, h2, flB_some, h3, bind_ok, flK_nx]
    exact forL_T enc E step I xs (step s x) h1 fun y m => h y (List.mem_cons_of_mem _ m)
/-! ### items -/
def tupI (l : List Int) : D := .tup (l.map .int)
theorem atI_map {α β : Type} (f : α → β) (l : List α) (i : Int) : atI (l.map f) i = (atI l i).map f := by
  unfold atI
  rw [List.length_map]
  cases ixN l.length i with
  | none => rfl
  | some j => simp
theorem atI_nat {α : Type} (l : List α) (i : Nat) (h : i < l.length) : atI l (i : Int) = some l[i] := by
  unfold atI ixN
  simp [h]
@[simp] theorem ix_tup (l : List D) (i : Int) : dIx (.tup l) (.int i) = atI l i := nr rfl
@[simp] theorem ix_lst (l : List D) (i : Int) : dIx (.lst l) (.int i) = atI l i := nr rfl
@[simp] theorem ix_scr (l : List D) (i : Int) : dIx (.scr l) (.int i) = atI l i := nr rfl
@[simp] theorem at_0 {α : Type} (a : α) (l : List α) : atI (a :: l) 0 = some a := by
  unfold atI ixN
  simp
@[simp] theorem at_1 {α : Type} (a b : α) (l : List α) : atI (a :: b :: l) 1 = some b := by
  unfold atI ixN
  simp
  rw [if_pos (by omega)]
  rfl
@[simp] theorem at_2 {α : Type} (a b c : α) (l : List α) : atI (a :: b :: c :: l) 2 = some c := by
  unfold atI ixN
  simp
  rw [if_pos (by omega)]
  rfl
@[simp] theorem at_3 {α : Type} (a b c d : α) (l : List α) : atI (a :: b :: c :: d :: l) 3 = some d := by
  unfold atI ixN
  simp
  rw [if_pos (by omega)]
  rfl
@[simp] theorem at_4 {α : Type} (a b c d x : α) (l : List α) : atI (a :: b :: c :: d :: x :: l) 4 = some x := by
  unfold atI ixN
  simp
  rw [if_pos (by omega)]
  rfl
/-- the i-th, or d -/
def nth {α : Type} (l : List α) (i : Nat) (d : α) : α := l.getD i d
theorem nth_mem {α : Type} {l : List α} {i : Nat} {d : α} (h : i < l.length) : nth l i d ∈ l := by
  unfold nth
  rw [List.getD_eq_getElem?_getD, List.getElem?_eq_getElem h]
  exact List.getElem_mem h
theorem nth_at {α : Type} {l : List α} {i : Nat} {d x : α} (h : l[i]? = some x) : nth l i d = x := by
  unfold nth
  rw [List.getD_eq_getElem?_getD, h]
  rfl
theorem at_mapR {β : Type} (f : Int → β) (l : List Int) (i : Nat) (h : i < l.length) : atI (l.map f) (i : Int) = some (f (nth l i 0)) := by
  rw [atI_map, atI_nat l i h]
  simp [nth, h]
theorem at_mapL {α β : Type} (f : List α → β) (l : List (List α)) (i : Nat) (h : i < l.length) : atI (l.map f) (i : Int) = some (f (nth l i [])) := by
  rw [atI_map, atI_nat l i h]
  simp [nth, h]
theorem at_N (l : List Nat) (i : Nat) (h : i < l.length) : atI (l.map fun k : Nat => D.int k) (i : Int) = some (.int (nth l i 0 : Nat)) := by
  rw [atI_map, atI_nat l i h]
  simp [nth, h]
/-! ### plain data: None, ints, texts, tuples of these -/
mutual
def D.pl : D → Bool
  | .non => true
  | .int _ => true
  | .str x => PyData.canLay0 (.str x)
  | .tup xs => D.pls xs
  | _ => false
def D.pls : List D → Bool
  | [] => true
  | x :: xs => D.pl x && D.pls xs
end
mutual
def D.dp : D → Nat
  | .tup xs => D.dps xs + 1
  | _ => 0
def D.dps : List D → Nat
  | [] => 0
  | x :: xs => max (D.dp x) (D.dps xs)
end
mutual
theorem pl_lay : ∀ a : D, a.pl = true → a.pd.canLay0 = true ∧ a.pd.depth = a.dp
  | .non, _ => ⟨rfl, rfl⟩
  | .int _, _ => ⟨rfl, rfl⟩
  | .str x, h => ⟨h, rfl⟩
  | .tup xs, h => by
    obtain ⟨h1, h2⟩ := pls_lay xs h
    exact ⟨h1, by show PyData.depthAll (D.pds xs) + 1 = D.dps xs + 1; rw [h2]⟩
  | .bl _, h => nomatch h
  | .lst _, h => nomatch h
  | .tpx _, h => nomatch h
  | .dct _ _, h => nomatch h
  | .set _, h => nomatch h
  | .scr _, h => nomatch h
theorem pls_lay : ∀ a : List D, D.pls a = true → PyData.canLayAll0 (D.pds a) = true ∧ PyData.depthAll (D.pds a) = D.dps a
  | [], _ => ⟨rfl, rfl⟩
  | x :: xs, h => by
    have h' : (x.pl && D.pls xs) = true := h
    rw [Bool.and_eq_true] at h'
    obtain ⟨a1, a2⟩ := pl_lay x h'.1
    obtain ⟨b1, b2⟩ := pls_lay xs h'.2
    exact ⟨by show (x.pd.canLay0 && PyData.canLayAll0 (D.pds xs)) = true; rw [a1, b1]; rfl, by show max x.pd.depth (PyData.depthAll (D.pds xs)) = max x.dp (D.dps xs); rw [a2, b2]⟩
end
mutual
theorem eqv_pl : ∀ a b : D, a.pl = true → b.pl = true → PyData.eqv a.pd b.pd = decide (a = b)
  | .non, b, _, h => by cases b <;> first | (cases h; done) | (simp [D.pd, PyData.eqv])
  | .int i, b, _, h => by cases b <;> first | (cases h; done) | (simp [D.pd, PyData.eqv, Bool.beq_eq_decide_eq])
  | .str x, b, _, h => by cases b <;> first | (cases h; done) | (simp [D.pd, PyData.eqv, Bool.beq_eq_decide_eq])
  | .tup xs, b, ha, h => by
    cases b with
    | tup ys =>
      have := eqv_pls xs ys ha h
      simp [D.pd, PyData.eqv, this]
    | _ => first | (cases h; done) | (simp [D.pd, PyData.eqv])
  | .bl _, _, h, _ => nomatch h
  | .lst _, _, h, _ => nomatch h
  | .tpx _, _, h, _ => nomatch h
  | .dct _ _, _, h, _ => nomatch h
  | .set _, _, h, _ => nomatch h
  | .scr _, _, h, _ => nomatch h
theorem eqv_pls : ∀ a b : List D, D.pls a = true → D.pls b = true → PyData.eqvAll (D.pds a) (D.pds b) = decide (a = b)
  | [], [], _, _ => by simp [D.pds, PyData.eqvAll]
  | [], _ :: _, _, _ => by simp [D.pds, PyData.eqvAll]
  | _ :: _, [], _, _ => by simp [D.pds, PyData.eqvAll]
  | x :: xs, y :: ys, ha, hb => by
    have ha' : (x.pl && D.pls xs) = true := ha
    have hb' : (y.pl && D.pls ys) = true := hb
    rw [Bool.and_eq_true] at ha' hb'
    simp [D.pds, PyData.eqvAll, eqv_pl x y ha'.1 hb'.1, eqv_pls xs ys ha'.2 hb'.2]
end
theorem shaped_pl {a : D} (h : a.pl = true) (hd : a.dp ≤ 60) : SeqAt.shaped a.pd = true := by
  obtain ⟨h1, h2⟩ := pl_lay a h
  unfold SeqAt.shaped
  rw [h1, h2, Bool.true_and]
  exact decide_eq_true (by omega)
theorem eq_pl {a b : D} (ha : a.pl = true) (hb : b.pl = true) (da : a.dp ≤ 60) (db : b.dp ≤ 60) : dEq a b = some (.bl (decide (a = b))) := by
  unfold dEq
  rw [shaped_pl ha da, shaped_pl hb db, eqv_pl a b ha hb]
  rfl
theorem ne_pl {a b : D} (ha : a.pl = true) (hb : b.pl = true) (da : a.dp ≤ 60) (db : b.dp ≤ 60) : dNe a b = some (.bl (!decide (a = b))) := by
  unfold dNe
  rw [shaped_pl ha da, shaped_pl hb db, eqv_pl a b ha hb]
  rfl
theorem anyIn_pl {a : D} {ds : List D} (ha : a.pl = true) (hb : D.pls ds = true) (da : a.dp ≤ 60) (db : D.dps ds ≤ 59) : anyIn a ds = some (decide (a ∈ ds)) := by
  unfold anyIn
  have h2 : SeqAt.shaped (.tuple (D.pds ds)) = true := shaped_pl (a := .tup ds) hb (by show D.dps ds + 1 ≤ 60; omega)
  rw [shaped_pl ha da, h2]
  have go : ∀ ds : List D, D.pls ds = true → ((D.pds ds).any fun z => PyData.eqv z a.pd) = decide (a ∈ ds) := by
    intro ds
    induction ds with
    | nil => intro _; rfl
    | cons x xs ih =>
      intro h
      have h' : (x.pl && D.pls xs) = true := h
      rw [Bool.and_eq_true] at h'
      show (PyData.eqv x.pd a.pd || (D.pds xs).any fun z => PyData.eqv z a.pd) = _
      rw [ih h'.2, eqv_pl x a h'.1 ha]
      by_cases q : x = a
      · subst q
        simp
      · have q' : ¬ a = x := fun z => q z.symm
        simp [q, q']
  rw [go ds hb]
  rfl
theorem pls_map {α : Type} (f : α → D) (l : List α) (h : ∀ x ∈ l, (f x).pl = true) : D.pls (l.map f) = true := by
  induction l with
  | nil => rfl
  | cons x xs ih =>
    show ((f x).pl && D.pls (xs.map f)) = true
    rw [h x List.mem_cons_self, ih fun y m => h y (List.mem_cons_of_mem _ m)]
    rfl
theorem dps_map {α : Type} (f : α → D) (l : List α) (n : Nat) (h : ∀ x ∈ l, (f x).dp ≤ n) : D.dps (l.map f) ≤ n := by
  induction l with
  | nil => exact Nat.zero_le _
  | cons x xs ih =>
    show max (f x).dp (D.dps (xs.map f)) ≤ n
    have h1 := h x List.mem_cons_self
    have h2 := ih fun y m => h y (List.mem_cons_of_mem _ m)
    omega
@[simp] theorem pl_int (i : Int) : (D.int i).pl = true := nr rfl
@[simp] theorem dp_int (i : Int) : (D.int i).dp = 0 := nr rfl
theorem pls_ints (l : List Int) : D.pls (l.map D.int) = true := pls_map _ _ fun _ _ => rfl
theorem dps_ints (l : List Int) : D.dps (l.map D.int) ≤ 0 := dps_map _ _ 0 fun _ _ => Nat.le_refl _
@[simp] theorem eq_int (a b : Int) : dEq (.int a) (.int b) = some (.bl (decide (a = b))) := by
  rw [eq_pl rfl rfl (by simp) (by simp)]
  simp
@[simp] theorem ne_int (a b : Int) : dNe (.int a) (.int b) = some (.bl (!decide (a = b))) := by
  rw [ne_pl rfl rfl (by simp) (by simp)]
  simp
@[simp] theorem in_ints (x : Int) (l : List Int) : dIn (.int x) (.tup (l.map D.int)) = some (.bl (decide (x ∈ l))) := by
  show (anyIn (.int x) (l.map D.int)).map D.bl = _
  rw [anyIn_pl rfl (pls_ints l) (by simp) (by have := dps_ints l; omega)]
  simp
@[simp] theorem nin_ints (x : Int) (l : List Int) : dNi (.int x) (.tup (l.map D.int)) = some (.bl (!decide (x ∈ l))) := by
  show (anyIn (.int x) (l.map D.int)).map _ = _
  rw [anyIn_pl rfl (pls_ints l) (by simp) (by have := dps_ints l; omega)]
  simp
@[simp] theorem len_tup (l : List D) : dLen [.tup l] = some (.int l.length) := nr rfl
@[simp] theorem len_lst (l : List D) : dLen [.lst l] = some (.int l.length) := nr rfl
@[simp] theorem len_scr (l : List D) : dLen [.scr l] = some (.int l.length) := nr rfl
theorem len_dct' (t : Bool) (l : List (D × D)) : dLen [.dct t l] = some (.int l.length) := nr rfl
@[simp] theorem all_map {α : Type} (p : α → Bool) (l : List α) : dAll [.lst (l.map fun x => .bl (p x))] = some (.bl (l.all p)) := by
  have e : (l.map fun x => D.bl (p x)) = (l.map p).map D.bl := by rw [List.map_map]; rfl
  show (blsOf _).map _ = _
  rw [e, blsOf_map]
  simp
@[simp] theorem lt_int (i j : Int) : dLt (.int i) (.int j) = some (.bl (decide (i < j))) := nr rfl
@[simp] theorem gt_int (i j : Int) : dGt (.int i) (.int j) = some (.bl (decide (j < i))) := nr rfl
@[simp] theorem le_int (i j : Int) : dLe (.int i) (.int j) = some (.bl (decide (i ≤ j))) := nr rfl
@[simp] theorem ge_int (i j : Int) : dGe (.int i) (.int j) = some (.bl (decide (j ≤ i))) := nr rfl
@[simp] theorem add_int (i j : Int) : dAdd (.int i) (.int j) = some (.int (i + j)) := nr rfl
@[simp] theorem sub_int (i j : Int) : dSub (.int i) (.int j) = some (.int (i - j)) := nr rfl
@[simp] theorem int_int (i : Int) : dInt [.int i] = some (.int i) := nr rfl
@[simp] theorem int_bl (c : Bool) : dInt [.bl c] = some (.int (if c then 1 else 0)) := nr rfl
@[simp] theorem tuple_lst (l : List D) : dTuple [.lst l] = some (.tup l) := nr rfl
@[simp] theorem tuple_tup (l : List D) : dTuple [.tup l] = some (.tup l) := nr rfl
@[simp] theorem list_lst (l : List D) : dList [.lst l] = some (.lst l) := nr rfl
@[simp] theorem list_tup (l : List D) : dList [.tup l] = some (.lst l) := nr rfl
/-! ### loops, by what holds in between -/
theorem forL_from {gt : D → En → Option En} {body : En → Res Fl} {ys : List D} (I : Nat → En → Prop) (J : En → Prop) (R : D → En → Prop) (h : ∀ i x e, ys[i]? = some x → I i e → ∃ e1, gt x e = some e1 ∧ ((∃ e2, body e1 = .ok .nx e2 ∧ I (i + 1) e2) ∨ (∃ e2, body e1 = .ok .bk e2 ∧ J e2) ∨ ∃ d e2, body e1 = .ok (.rt d) e2 ∧ R d e2)) :
    ∀ (xs : List D) (i : Nat) (e : En), ys.drop i = xs → i + xs.length = ys.length → I i e → (∃ e', forL gt body xs e = .ok .nx e' ∧ (I ys.length e' ∨ J e')) ∨ ∃ d e', forL gt body xs e = .ok (.rt d) e' ∧ R d e'
  | [], i, e, _, hl, hI => .inl ⟨e, rfl, .inl (by simp at hl; subst hl; exact hI)⟩
  | x :: xs, i, e, hd, hl, hI => by
    have hx : ys[i]? = some x := by
      have : (ys.drop i)[0]? = some x := by rw [hd]; rfl
      simpa using this
    obtain ⟨e1, h1, h2⟩ := h i x e hx hI
    rw [forL_cons, h1, flB_some]
    rcases h2 with ⟨e2, h2, h3⟩ | ⟨e2, h2, h3⟩ | ⟨d, e2, h2, h3⟩
    · rw [h2, bind_ok, flK_nx]
      have hd' : ys.drop (i + 1) = xs := by
        have : (ys.drop i).drop 1 = xs := by rw [hd]; rfl
        simpa [List.drop_drop] using this
      exact forL_from I J R h xs (i + 1) e2 hd' (by simp at hl ⊢; omega) h3
    · rw [h2, bind_ok, flK_bk]
      exact .inl ⟨e2, rfl, .inr h3⟩
    · rw [h2, bind_ok, flK_rt]
      exact .inr ⟨d, e2, rfl, h3⟩
theorem forL_G {gt : D → En → Option En} {body : En → Res Fl} {ys : List D} {e : En} (I : Nat → En → Prop) (J : En → Prop) (R : D → En → Prop) (h0 : I 0 e) (h : ∀ i x e, ys[i]? = some x → I i e → ∃ e1, gt x e = some e1 ∧ ((∃ e2, body e1 = .ok .nx e2 ∧ I (i + 1) e2) ∨ (∃ e2, body e1 = .ok .bk e2 ∧ J e2) ∨ ∃ d e2, body e1 = .ok (.rt d) e2 ∧ R d e2)) :
    (∃ e', forL gt body ys e = .ok .nx e' ∧ (I ys.length e' ∨ J e')) ∨ ∃ d e', forL gt body ys e = .ok (.rt d) e' ∧ R d e' := forL_from I J R h ys 0 e rfl (by simp) h0
theorem forL_N {gt : D → En → Option En} {body : En → Res Fl} {ys : List D} {e : En} (I : Nat → En → Prop) (h0 : I 0 e) (h : ∀ i x e, ys[i]? = some x → I i e → ∃ e1 e2, gt x e = some e1 ∧ body e1 = .ok .nx e2 ∧ I (i + 1) e2) : ∃ e', forL gt body ys e = .ok .nx e' ∧ I ys.length e' := by
  rcases forL_G I (fun _ => False) (fun _ _ => False) h0 (fun i x e hx hI => by
    obtain ⟨e1, e2, h1, h2, h3⟩ := h i x e hx hI
    exact ⟨e1, h1, .inl ⟨e2, h2, h3⟩⟩) with ⟨e', h1, h2 | h2⟩ | ⟨_, _, _, h2⟩
  · exact ⟨e', h1, h2⟩
  · exact h2.elim
  · exact h2.elim
theorem compL_from {gt : D → En → Option En} {c : En → Res Bool} {f : En → Res D} {vs : List Nat} {ys : List D} (I : Nat → List D → En → Prop) (h : ∀ i x acc e, ys[i]? = some x → I i acc e → ∃ e1 t e2, gt x e = some e1 ∧ c e1 = .ok t e2 ∧ (if t = true then ∃ d e3, f e2 = .ok d e3 ∧ I (i + 1) (acc ++ [d]) (wipeE e3 vs) else I (i + 1) acc (wipeE e2 vs))) :
    ∀ (xs : List D) (i : Nat) (acc : List D) (e : En), ys.drop i = xs → i + xs.length = ys.length → I i acc e → ∃ l e', compL gt c f vs xs acc e = .ok l e' ∧ I ys.length l e'
  | [], i, acc, e, _, hl, hI => ⟨acc, e, rfl, by simp at hl; subst hl; exact hI⟩
  | x :: xs, i, acc, e, hd, hl, hI => by
    have hx : ys[i]? = some x := by
      have : (ys.drop i)[0]? = some x := by rw [hd]; rfl
      simpa using this
    have hd' : ys.drop (i + 1) = xs := by
      have : (ys.drop i).drop 1 = xs := by rw [hd]; rfl
      simpa [List.drop_drop] using this
    obtain ⟨e1, t, e2, h1, h2, h3⟩ := h i x acc e hx hI
    rw [compL, cTurn_eq, h1, ctK_some, h2, bind_ok]
    cases t with
    | true =>
      rw [if_pos rfl] at h3 ⊢
      obtain ⟨d, e3, h4, h5⟩ := h3
      rw [h4, bind_ok]
      exact compL_from I h xs (i + 1) _ _ hd' (by simp at hl ⊢; omega) h5
    | false =>
      rw [if_neg Bool.false_ne_true] at h3 ⊢
      exact compL_from I h xs (i + 1) _ _ hd' (by simp at hl ⊢; omega) h3
theorem compL_R {gt : D → En → Option En} {c : En → Res Bool} {f : En → Res D} {vs : List Nat} {ys : List D} {e : En} (I : Nat → List D → En → Prop) (h0 : I 0 [] e) (h : ∀ i x acc e, ys[i]? = some x → I i acc e → ∃ e1 t e2, gt x e = some e1 ∧ c e1 = .ok t e2 ∧ (if t = true then ∃ d e3, f e2 = .ok d e3 ∧ I (i + 1) (acc ++ [d]) (wipeE e3 vs) else I (i + 1) acc (wipeE e2 vs))) :
    ∃ l e', compL gt c f vs ys [] e = .ok l e' ∧ I ys.length l e' := compL_from I h ys 0 [] e rfl (by simp) h0
theorem tgK_n {i : Nat} {d : D} {s : Slot} {e : En} (h : notIo s = true) : tgK i d s e = some (eput e i (.sh d)) := by
  cases s <;> first | rfl | cases h
theorem stK_n {i : Nat} {x s : Slot} {e : En} (h : notIo s = true) : stK i x s e = .ok .nx (eput e i x) := by
  cases s <;> first | rfl | cases h
@[simp] theorem notIo_no : notIo .no = true := rfl
@[simp] theorem notIo_sh (d : D) : notIo (.sh d) = true := rfl
@[simp] theorem notIo_ow (d : D) : notIo (.ow d) = true := rfl
/-! ### slices -/
@[simp] theorem eSl_f (g : En → Res D) (lo hi : Option (En → Res D)) (e : En) : eSl (.f g) lo hi e = (g e).bind fun a e => (part lo e).bind fun l e => (part hi e).bind fun h e => Res.opt (dCut a l h) e := nr rfl
@[simp] theorem eSl_n (i : Nat) (lo hi : Option (En → Res D)) (e : En) : eSl (.n i) lo hi e = seeAt i e fun _ => (part lo e).bind fun l e => (part hi e).bind fun h e => seeAt i e fun a => Res.opt (dCut a l h) e := nr rfl
@[simp] theorem part_some (f : En → Res D) (e : En) : part (some f) e = (f e).bind ptK := nr rfl
@[simp] theorem cut_tup (l : List D) (lo hi : Option Int) : dCut (.tup l) lo hi = some (.tup (cut l lo hi)) := nr rfl
@[simp] theorem cut_lst (l : List D) (lo hi : Option Int) : dCut (.lst l) lo hi = some (.lst (cut l lo hi)) := nr rfl
theorem cut_take {α : Type} (l : List α) (n : Nat) : cut l none (some (n : Int)) = l.take n := by
  unfold cut
  rw [HT.sIx_none, HT.sIx_nat]
  simp
theorem cut_drop {α : Type} (l : List α) (n : Nat) : cut l (some (n : Int)) none = l.drop n := by
  unfold cut
  rw [HT.sIx_none, HT.sIx_nat]
  by_cases h : n ≤ l.length
  · rw [Nat.min_eq_left h]
    apply List.take_of_length_le
    simp
  · rw [Nat.min_eq_right (by omega), List.drop_length, List.drop_eq_nil_of_le (by omega)]
    simp
theorem add_tup (a b : List D) (h : a.length + b.length ≤ 1000000) : dAdd (.tup a) (.tup b) = some (.tup (a ++ b)) := by
  show (if _ then _ else _) = _
  rw [if_pos (by rw [sizeLine_eq]; omega)]
theorem add_lst (a b : List D) (h : a.length + b.length ≤ 1000000) : dAdd (.lst a) (.lst b) = some (.lst (a ++ b)) := by
  show (if _ then _ else _) = _
  rw [if_pos (by rw [sizeLine_eq]; omega)]
/-! ### texts -/
theorem eq_str (a b : PySem.Str) (ha : PyData.canLay0 (.str a) = true) (hb : PyData.canLay0 (.str b) = true) : dEq (.str a) (.str b) = some (.bl (decide (a = b))) := by
  rw [eq_pl (a := .str a) (b := .str b) ha hb (Nat.zero_le _) (Nat.zero_le _)]
  simp
@[simp] theorem is_bl (a b : Bool) : dIs (.bl a) (.bl b) = some (.bl (decide (a = b))) := nr rfl
@[simp] theorem is_non_bl (b : Bool) : dIs .non (.bl b) = some (.bl false) := nr rfl
@[simp] theorem is_non (a : D) : dIs a .non = some (.bl a.isNon) := nr rfl
@[simp] theorem nis_non (a : D) : dNis a .non = some (.bl (!a.isNon)) := nr rfl
@[simp] theorem isNon_non : D.non.isNon = true := nr rfl
@[simp] theorem isNon_bl (b : Bool) : (D.bl b).isNon = false := nr rfl
@[simp] theorem isNon_int (b : Int) : (D.int b).isNon = false := nr rfl
@[simp] theorem isNon_tup (b : List D) : (D.tup b).isNon = false := nr rfl
@[simp] theorem isNon_dct (t : Bool) (b : List (D × D)) : (D.dct t b).isNon = false := nr rfl
/-! ### sorting tuples of ints -/
theorem pds_ints (l : List Int) : D.pds (l.map D.int) = l.map PyData.int := by
  rw [D.pds_map, List.map_map]
  rfl
theorem sortOk_keys (ks : List (List Int)) (h : ∀ k ∈ ks, k ≠ []) : sortOk (ks.map tupI) = true := by
  unfold sortOk
  simp only [Bool.and_eq_true, Bool.or_eq_true, List.all_eq_true, List.mem_map]
  refine ⟨⟨?_, .inl ?_⟩, ?_⟩
  · rintro a ⟨x, _, rfl⟩ b ⟨y, _, rfl⟩
    show PySem.W.alikeAll (D.pds (x.map D.int)) (D.pds (y.map D.int)) = true
    rw [pds_ints, pds_ints]
    exact PySem.W.alike_ints x y
  · rintro a ⟨x, hx, rfl⟩
    cases x with
    | nil => exact absurd rfl (h _ hx)
    | cons y r => rfl
  · rintro a ⟨x, _, rfl⟩
    obtain ⟨h1, h2⟩ := pl_lay (tupI x) (pls_ints x)
    refine ⟨h1, decide_eq_true ?_⟩
    rw [h2]
    show D.dps (x.map D.int) + 1 ≤ 60
    have := dps_ints x
    omega
def sortK (ks : List (List Int)) : List (List Int) := ks.mergeSort fun a b => PySem.W.dataLe false D.pd (tupI a) (tupI b)
theorem dSortL_keys (ks : List (List Int)) : dSortL (ks.map tupI) = (sortK ks).map tupI := by
  unfold dSortL sortK
  exact (List.map_mergeSort (r := fun a b => PySem.W.dataLe false D.pd (tupI a) (tupI b)) (s := PySem.W.dataLe false D.pd) (f := tupI) fun _ _ _ _ => rfl).symm
theorem sortK_perm (ks : List (List Int)) : (sortK ks).Perm ks := List.mergeSort_perm ks _
theorem dSort_tup (ks : List (List Int)) (h : ∀ k ∈ ks, k ≠ []) : dSort [.tup (ks.map tupI)] = some (.lst ((sortK ks).map tupI)) := by
  show (if _ then _ else _) = _
  rw [if_pos (sortOk_keys ks h), dSortL_keys]
/-! ### truth values in lists -/
theorem eqv_bl (a c : Bool) : PyData.eqv (.bool a) (.bool c) = decide (a = c) := by
  cases a <;> cases c <;> decide
theorem shaped_bls {α : Type} (p : α → Bool) (l : List α) : SeqAt.shaped (.tuple (D.pds (l.map fun x => D.bl (p x)))) = true := by
  have h1 : PyData.canLayAll0 (D.pds (l.map fun x => D.bl (p x))) = true ∧ PyData.depthAll (D.pds (l.map fun x => D.bl (p x))) = 0 := by
    induction l with
    | nil => exact ⟨rfl, rfl⟩
    | cons x r ih =>
      refine ⟨?_, ?_⟩
      · show (true && PyData.canLayAll0 (D.pds (r.map fun x => D.bl (p x)))) = true
        rw [ih.1]
        rfl
      · show max 0 (PyData.depthAll (D.pds (r.map fun x => D.bl (p x)))) = 0
        rw [ih.2]
        rfl
  unfold SeqAt.shaped
  show (PyData.canLayAll0 _ && decide (PyData.depthAll _ + 1 ≤ 64)) = true
  rw [h1.1, h1.2]
  rfl
theorem any_bls {α : Type} (c : Bool) (p : α → Bool) (l : List α) : anyIn (.bl c) (l.map fun x => D.bl (p x)) = some (l.any fun x => decide (p x = c)) := by
  unfold anyIn
  rw [shaped_bls, show SeqAt.shaped (D.bl c).pd = true from rfl]
  have go : ((D.pds (l.map fun x => D.bl (p x))).any fun z => PyData.eqv z (.bool c)) = l.any fun x => decide (p x = c) := by
    induction l with
    | nil => rfl
    | cons x r ih =>
      show (PyData.eqv (.bool (p x)) (.bool c) || _) = _
      rw [eqv_bl, List.any_cons, ← ih]
  show some _ = some _
  congr 1
@[simp] theorem in_bls {α : Type} (c : Bool) (p : α → Bool) (l : List α) : dIn (.bl c) (.lst (l.map fun x => D.bl (p x))) = some (.bl (l.any fun x => decide (p x = c))) := by
  show (anyIn _ _).map _ = _
  rw [any_bls]
  rfl
@[simp] theorem eq_bl (a c : Bool) : dEq (.bl a) (.bl c) = some (.bl (decide (a = c))) := by
  show some (D.bl (PyData.eqv (.bool a) (.bool c))) = _
  rw [eqv_bl]
theorem filter_nth {α : Type} (p : α → Bool) (l : List α) (d : α) : ((List.range l.length).filter fun i => p (nth l i d)).map (fun i => nth l i d) = l.filter p := by
  have e : (List.range l.length).map (fun i => nth l i d) = l := by
    apply List.ext_getElem
    · simp
    · intro i h1 h2
      simp [nth, List.getD, h2]
  conv => rhs; rw [← e]
  rw [List.filter_map]
  rfl
theorem cut_drop1 {α : Type} (l : List α) (n : Nat) : cut l (some ((n : Int) + 1)) none = l.drop (n + 1) := cut_drop l (n + 1)
/-! ### isinstance -/
@[simp] theorem eIsi_eq (t : Ty4) (f : En → Res D) (e : En) : eIsi t f e = (f e).bind fun d e => Res.opt (dIsi t d) e := nr rfl
@[simp] theorem isNon_str (b : PySem.Str) : (D.str b).isNon = false := nr rfl
@[simp] theorem isi_tb_non : dIsi .tb .non = some (.bl false) := nr rfl
@[simp] theorem isi_tb_bl (b : Bool) : dIsi .tb (.bl b) = some (.bl true) := nr rfl
@[simp] theorem isi_tb_int (b : Int) : dIsi .tb (.int b) = some (.bl false) := nr rfl
@[simp] theorem isi_tb_str (b : PySem.Str) : dIsi .tb (.str b) = some (.bl false) := nr rfl
@[simp] theorem isi_tb_tup (b : List D) : dIsi .tb (.tup b) = some (.bl false) := nr rfl
@[simp] theorem isi_tb_lst (b : List D) : dIsi .tb (.lst b) = some (.bl false) := nr rfl
@[simp] theorem isi_ti_non : dIsi .ti .non = some (.bl false) := nr rfl
@[simp] theorem isi_ti_bl (b : Bool) : dIsi .ti (.bl b) = some (.bl true) := nr rfl
@[simp] theorem isi_ti_int (b : Int) : dIsi .ti (.int b) = some (.bl true) := nr rfl
@[simp] theorem isi_ti_str (b : PySem.Str) : dIsi .ti (.str b) = some (.bl false) := nr rfl
@[simp] theorem isi_ti_tup (b : List D) : dIsi .ti (.tup b) = some (.bl false) := nr rfl
@[simp] theorem isi_ti_lst (b : List D) : dIsi .ti (.lst b) = some (.bl false) := nr rfl
@[simp] theorem isi_tt_non : dIsi .tt .non = some (.bl false) := nr rfl
@[simp] theorem isi_tt_bl (b : Bool) : dIsi .tt (.bl b) = some (.bl false) := nr rfl
@[simp] theorem isi_tt_int (b : Int) : dIsi .tt (.int b) = some (.bl false) := nr rfl
@[simp] theorem isi_tt_str (b : PySem.Str) : dIsi .tt (.str b) = some (.bl false) := nr rfl
@[simp] theorem isi_tt_tup (b : List D) : dIsi .tt (.tup b) = some (.bl true) := nr rfl
@[simp] theorem isi_tt_lst (b : List D) : dIsi .tt (.lst b) = some (.bl false) := nr rfl
@[simp] theorem isi_ts_non : dIsi .ts .non = some (.bl false) := nr rfl
@[simp] theorem isi_ts_bl (b : Bool) : dIsi .ts (.bl b) = some (.bl false) := nr rfl
@[simp] theorem isi_ts_int (b : Int) : dIsi .ts (.int b) = some (.bl false) := nr rfl
@[simp] theorem isi_ts_str (b : PySem.Str) : dIsi .ts (.str b) = some (.bl true) := nr rfl
@[simp] theorem isi_ts_tup (b : List D) : dIsi .ts (.tup b) = some (.bl false) := nr rfl
@[simp] theorem isi_ts_lst (b : List D) : dIsi .ts (.lst b) = some (.bl false) := nr rfl
/-! ### loops and comprehensions where they stand -/
theorem forL_elim {gt : D → En → Option En} {body : En → Res Fl} {ys : List D} {e : En} {C : Res Fl → Prop} (I : Nat → En → Prop) (h0 : I 0 e) (h : ∀ i x e, ys[i]? = some x → I i e → ∃ e1, gt x e = some e1 ∧ ∃ e2, body e1 = .ok .nx e2 ∧ I (i + 1) e2) (fin : ∀ e', I ys.length e' → C (.ok .nx e')) : C (forL gt body ys e) := by
  obtain ⟨e', h1, h2⟩ := forL_N I h0 fun i x e hx hI => by
    obtain ⟨e1, h1, e2, h2, h3⟩ := h i x e hx hI
    exact ⟨e1, e2, h1, h2, h3⟩
  rw [h1]
  exact fin e' h2
theorem forL_elimG {gt : D → En → Option En} {body : En → Res Fl} {ys : List D} {e : En} {C : Res Fl → Prop} (I : Nat → En → Prop) (J : En → Prop) (R : D → En → Prop) (h0 : I 0 e) (h : ∀ i x e, ys[i]? = some x → I i e → ∃ e1, gt x e = some e1 ∧ ((∃ e2, body e1 = .ok .nx e2 ∧ I (i + 1) e2) ∨ (∃ e2, body e1 = .ok .bk e2 ∧ J e2) ∨ ∃ d e2, body e1 = .ok (.rt d) e2 ∧ R d e2))
    (fin : ∀ e', (I ys.length e' ∨ J e') → C (.ok .nx e')) (ret : ∀ d e', R d e' → C (.ok (.rt d) e')) : C (forL gt body ys e) := by
  rcases forL_G I J R h0 h with ⟨e', h1, h2⟩ | ⟨d, e', h1, h2⟩
  · rw [h1]
    exact fin e' h2
  · rw [h1]
    exact ret d e' h2
theorem compL_elim {gt : D → En → Option En} {c : En → Res Bool} {f : En → Res D} {vs : List Nat} {ys : List D} {e : En} {C : Res (List D) → Prop} (I : Nat → List D → En → Prop) (h0 : I 0 [] e) (h : ∀ i x acc e, ys[i]? = some x → I i acc e → ∃ e1, gt x e = some e1 ∧ ∃ t e2, c e1 = .ok t e2 ∧ (if t = true then ∃ d e3, f e2 = .ok d e3 ∧ I (i + 1) (acc ++ [d]) (wipeE e3 vs) else I (i + 1) acc (wipeE e2 vs)))
    (fin : ∀ l e', I ys.length l e' → C (.ok l e')) : C (compL gt c f vs ys [] e) := by
  obtain ⟨l, e', h1, h2⟩ := compL_R I h0 fun i x acc e hx hI => by
    obtain ⟨e1, h1, t, e2, h2, h3⟩ := h i x acc e hx hI
    exact ⟨e1, t, e2, h1, h2, h3⟩
  rw [h1]
  exact fin l e' h2
/-! ### what a reading comes to -/
inductive sat {α : Type} (r : Res α) (P : α → En → Prop) : Prop where
  | mk (a : α) (e : En) (h : r = .ok a e) (p : P a e) : sat r P
@[simp] theorem sat_ok {α : Type} (a : α) (e : En) (P : α → En → Prop) : sat (.ok a e) P = P a e := propext ⟨fun ⟨_, _, h, p⟩ => by cases h; exact p, fun p => ⟨a, e, rfl, p⟩⟩
theorem sat_out {α : Type} {r : Res α} {P : α → En → Prop} (h : sat r P) : ∃ a e, r = .ok a e ∧ P a e := by
  obtain ⟨a, e, h, p⟩ := h
  exact ⟨a, e, h, p⟩
theorem sat_bind {α β : Type} {r : Res α} {f : α → En → Res β} {P : β → En → Prop} (Q : α → En → Prop) (h : sat r Q) (g : ∀ a e, Q a e → sat (f a e) P) : sat (r.bind f) P := by
  obtain ⟨a, e, h, p⟩ := h
  rw [h, bind_ok]
  exact g a e p
inductive fsat (r : FRes) (P : D → List D → Prop) : Prop where
  | mk (d : D) (o : List D) (h : r = .ok d o) (p : P d o) : fsat r P
@[simp] theorem fsat_ok (d : D) (o : List D) (P : D → List D → Prop) : fsat (.ok d o) P = P d o := propext ⟨fun ⟨_, _, h, p⟩ => by cases h; exact p, fun p => ⟨d, o, rfl, p⟩⟩
theorem fsat_out {r : FRes} {P : D → List D → Prop} (h : fsat r P) : ∃ d o, r = .ok d o ∧ P d o := by
  obtain ⟨d, o, h, p⟩ := h
  exact ⟨d, o, h, p⟩
theorem fbind {α : Type} {ms : List Bool} {r : Res α} {f : α → En → Res Fl} {P : D → List D → Prop} (Q : α → En → Prop) (h : sat r Q) (g : ∀ a e, Q a e → fsat (endF ms (f a e)) P) : fsat (endF ms (r.bind f)) P := by
  obtain ⟨a, e, h, p⟩ := h
  rw [h, bind_ok]
  exact g a e p
def flP (I : En → Prop) (J : En → Prop) (R : D → En → Prop) (fl : Fl) (e : En) : Prop := match fl with
  | .nx => I e
  | .ct => I e
  | .bk => J e
  | .rt d => R d e
section
variable (I : En → Prop) (J : En → Prop) (R : D → En → Prop) (e : En)
@[simp] theorem flP_nx : flP I J R .nx e = I e := nr rfl
@[simp] theorem flP_ct : flP I J R .ct e = I e := nr rfl
@[simp] theorem flP_bk : flP I J R .bk e = J e := nr rfl
@[simp] theorem flP_rt (d : D) : flP I J R (.rt d) e = R d e := nr rfl
end
theorem forL_sat {gt : D → En → Option En} {body : En → Res Fl} {ys : List D} (I : Nat → En → Prop) (J : En → Prop) (R : D → En → Prop) (h : ∀ i x e, ys[i]? = some x → I i e → ∃ e1, gt x e = some e1 ∧ sat (body e1) (flP (I (i + 1)) J R)) :
    ∀ (xs : List D) (i : Nat) (e : En), ys.drop i = xs → i + xs.length = ys.length → I i e → (∃ e', forL gt body xs e = .ok .nx e' ∧ (I ys.length e' ∨ J e')) ∨ ∃ d e', forL gt body xs e = .ok (.rt d) e' ∧ R d e'
  | [], i, e, _, hl, hI => .inl ⟨e, rfl, .inl (by simp at hl; subst hl; exact hI)⟩
  | x :: xs, i, e, hd, hl, hI => by
    have hx : ys[i]? = some x := by
      have : (ys.drop i)[0]? = some x := by rw [hd]; rfl
      simpa using this
    have hd' : ys.drop (i + 1) = xs := by
      have : (ys.drop i).drop 1 = xs := by rw [hd]; rfl
      simpa [List.drop_drop] using this
    obtain ⟨e1, h1, h2⟩ := h i x e hx hI
    obtain ⟨fl, e2, h2, h3⟩ := sat_out h2
    rw [forL_cons, h1, flB_some, h2, bind_ok]
    cases fl with
    | nx => rw [flK_nx]; exact forL_sat I J R h xs (i + 1) e2 hd' (by simp at hl ⊢; omega) h3
    | ct => rw [flK_ct]; exact forL_sat I J R h xs (i + 1) e2 hd' (by simp at hl ⊢; omega) h3
    | bk => rw [flK_bk]; exact .inl ⟨e2, rfl, .inr h3⟩
    | rt d => rw [flK_rt]; exact .inr ⟨d, e2, rfl, h3⟩
/-- a for loop where it stands: C what is wanted of it -/
theorem forL_G1 {gt : D → En → Option En} {body : En → Res Fl} {ys : List D} {e : En} {C : Res Fl → Prop} (I : Nat → En → Prop) (J : En → Prop) (R : D → En → Prop) (h0 : I 0 e) (h : ∀ i x e, ys[i]? = some x → I i e → ∃ e1, gt x e = some e1 ∧ sat (body e1) (flP (I (i + 1)) J R))
    (fin : ∀ e', (I ys.length e' ∨ J e') → C (.ok .nx e')) (ret : ∀ d e', R d e' → C (.ok (.rt d) e')) : C (forL gt body ys e) := by
  rcases forL_sat I J R h ys 0 e rfl (by simp) h0 with ⟨e', h1, h2⟩ | ⟨d, e', h1, h2⟩
  · rw [h1]
    exact fin e' h2
  · rw [h1]
    exact ret d e' h2
theorem forL_1 {gt : D → En → Option En} {body : En → Res Fl} {ys : List D} {e : En} {C : Res Fl → Prop} (I : Nat → En → Prop) (h0 : I 0 e) (h : ∀ i x e, ys[i]? = some x → I i e → ∃ e1, gt x e = some e1 ∧ sat (body e1) (flP (I (i + 1)) (fun _ => False) (fun _ _ => False)))
    (fin : ∀ e', I ys.length e' → C (.ok .nx e')) : C (forL gt body ys e) :=
  forL_G1 I (fun _ => False) (fun _ _ => False) h0 h (fun e' h => h.elim (fin e') fun z => z.elim) fun _ _ z => z.elim
theorem compL_1 {gt : D → En → Option En} {c : En → Res Bool} {f : En → Res D} {vs : List Nat} {ys : List D} {e : En} {C : Res (List D) → Prop} (I : Nat → List D → En → Prop) (h0 : I 0 [] e) (h : ∀ i x acc e, ys[i]? = some x → I i acc e → ∃ e1, gt x e = some e1 ∧ sat (c e1) fun t e2 => if t = true then sat (f e2) fun d e3 => I (i + 1) (acc ++ [d]) (wipeE e3 vs) else I (i + 1) acc (wipeE e2 vs))
    (fin : ∀ l e', I ys.length l e' → C (.ok l e')) : C (compL gt c f vs ys [] e) :=
  compL_elim I h0 (fun i x acc e hx hI => by
    obtain ⟨e1, h1, h2⟩ := h i x acc e hx hI
    obtain ⟨t, e2, h2, h3⟩ := sat_out h2
    refine ⟨e1, h1, t, e2, h2, ?_⟩
    cases t with
    | true =>
      rw [if_pos rfl] at h3 ⊢
      obtain ⟨d, e3, h4, h5⟩ := sat_out h3
      exact ⟨d, e3, h4, h5⟩
    | false => exact h3) fin
/-! ### arithmetic with bounds -/
theorem mul_int (i j : Int) (h : (-1000000000000 ≤ j ∧ j ≤ 1000000000000) ∨ (-1000000000000 ≤ i ∧ i ≤ 1000000000000)) : dMul (.int i) (.int j) = some (.int (i * j)) := by
  have e : mulOk i j = true := by
    unfold mulOk
    rw [Bool.or_eq_true, Bool.or_eq_true]
    rcases h with h | h
    · exact .inl (.inr (decide_eq_true ⟨by omega, by omega⟩))
    · exact .inl (.inl (decide_eq_true ⟨by omega, by omega⟩))
  show (if mulOk i j = true then _ else _) = _
  rw [if_pos e]
theorem mod_int (i j : Int) (h : 0 < j) : dMod (.int i) (.int j) = some (.int (i % j)) := by
  show (if 0 < j then _ else _) = _
  rw [if_pos h]
theorem fdv_int (i j : Int) (h : 0 < j ∧ j ≤ 1000000000) : dFdv (.int i) (.int j) = some (.int (i / j)) := by
  show (if 0 < j ∧ j < 1073741824 then _ else _) = _
  rw [if_pos ⟨h.1, by omega⟩]
theorem pow_int (i j : Int) (h : 0 ≤ j ∧ j ≤ 1000) (h2 : i.natAbs ≤ 1000000) : dPow (.int i) (.int j) = some (.int (i ^ j.toNat)) := by
  show (if 0 ≤ j ∧ j ≤ 1000000 ∧ i.natAbs < 2 ^ 64 then _ else _) = _
  rw [if_pos ⟨h.1, by omega, by omega⟩]
theorem mul_tup (l : List D) (k : Int) (h : 0 ≤ k ∧ k ≤ 1000) (h2 : l.length ≤ 1000) : dMul (.tup l) (.int k) = some (.tup (repD l k)) := by
  show (if _ then _ else _) = _
  rw [if_pos ⟨by omega, h.2, h2⟩]
theorem mul_lst (l : List D) (k : Int) (h : 0 ≤ k ∧ k ≤ 1000) (h2 : l.length ≤ 1000) : dMul (.lst l) (.int k) = some (.lst (repD l k)) := by
  show (if _ then _ else _) = _
  rw [if_pos ⟨by omega, h.2, h2⟩]
theorem set_lst (l : List D) (i : Nat) (d : D) (h : i < l.length) : dSet (.lst l) (.int i) d = some (.lst (l.set i d)) := by
  show (ixN l.length (i : Int)).map _ = _
  unfold ixN
  simp [h]
def subK (i : Nat) (o : Option D) (e : En) : Res Fl := match o with
  | some c => .ok .nx (eput e i ((eat e i).with c))
  | none => .stuck
@[simp] theorem subK_some (i : Nat) (c : D) (e : En) : subK i (some c) e = .ok .nx (eput e i ((eat e i).with c)) := nr rfl
@[simp] theorem sSub_eq (i : Nat) (fk fe : En → Res D) (e : En) : sSub i fk fe e = (fe e).bind fun d e => mutAt i e fun _ => (fk e).bind fun k e => mutAt i e fun c => subK i (dSet c k d) e := by
  show (fe e).bind _ = _
  congr
  funext d e
  show mutAt i e _ = mutAt i e _
  congr
  funext c0
  show (fk e).bind _ = (fk e).bind _
  congr
  funext k e
  show mutAt i e _ = mutAt i e _
  congr
  funext c
  cases dSet c k d <;> rfl
/-- a comprehension where it stands -/
theorem eLc_sat {fi : En → Res (List D)} {gt : D → En → Option En} {c : En → Res Bool} {f : En → Res D} {vs : List Nat} {e e1 : En} {ds : List D} {P : D → En → Prop} (I : Nat → List D → En → Prop) (hfi : fi e = .ok ds e1) (h0 : I 0 [] (wipeE e1 vs))
    (h : ∀ i x acc e, ds[i]? = some x → I i acc e → ∃ e1, gt x e = some e1 ∧ sat (c e1) fun t e2 => if t = true then sat (f e2) fun d e3 => I (i + 1) (acc ++ [d]) (wipeE e3 vs) else I (i + 1) acc (wipeE e2 vs))
    (fin : ∀ l e', I ds.length l e' → l.length ≤ 1000000 ∧ P (.lst l) (backE e1 e' vs)) : sat (eLc fi gt c f vs e) P := by
  rw [eLc_eq, hfi, bind_ok]
  refine compL_1 (C := fun r => sat (lcK _ _ r) _) I h0 h fun l e' hI => ?_
  obtain ⟨h1, h2⟩ := fin l e' hI
  rw [lcK_ok, lenK_ok _ _ h1, sat_ok]
  exact h2
@[simp] theorem notIo_bk (s : Slot) : notIo (bkK s) = true := by cases s <;> rfl
/-! ### smaller things -/
@[simp] theorem eNeg_eq (f : En → Res D) (e : En) : eNeg f e = (f e).bind fun d e => Res.opt (dNeg d) e := nr rfl
@[simp] theorem neg_int (i : Int) : dNeg (.int i) = some (.int (-i)) := nr rfl
@[simp] theorem min2_int (i j : Int) : dMin [.int i, .int j] = some (.int (if j < i then j else i)) := nr rfl
@[simp] theorem min3_int (i j k : Int) : dMin [.int i, .int j, .int k] = some (.int (minI i [j, k])) := nr rfl
@[simp] theorem max2_int (i j : Int) : dMax [.int i, .int j] = some (.int (if j > i then j else i)) := nr rfl
@[simp] theorem abs_int (i : Int) : dAbs [.int i] = some (.int (if i < 0 then -i else i)) := nr rfl
theorem minI_2 (i j k : Int) : minI i [j, k] ≤ i ∧ minI i [j, k] ≤ j ∧ minI i [j, k] ≤ k ∧ (minI i [j, k] = i ∨ minI i [j, k] = j ∨ minI i [j, k] = k) := by
  unfold minI minI minI
  split <;> split <;> omega
theorem atI_m1 {α : Type} (l : List α) (h : l ≠ []) : atI l (-1) = some (l.getLast h) := by
  have h0 : 0 < l.length := List.length_pos_iff.mpr h
  unfold atI ixN
  rw [if_neg (by omega)]
  simp
  rw [if_pos (by omega), show ((-1 + (l.length : Int)).toNat) = l.length - 1 by omega]
  simp [List.getLast_eq_getElem]
theorem set_m1 (l : List D) (d : D) (h : l ≠ []) : dSet (.lst l) (.int (-1)) d = some (.lst (l.set (l.length - 1) d)) := by
  have h0 : 0 < l.length := List.length_pos_iff.mpr h
  show (ixN l.length (-1)).map _ = _
  unfold ixN
  simp
  rw [show ((-1 + (l.length : Int)).toNat) = l.length - 1 by omega]
  exact ⟨by omega, rfl⟩
theorem fseq {ms : List Bool} {f g : En → Res Fl} {e : En} {P : D → List D → Prop} (Q : En → Prop) (h : sat (f e) fun fl e => fl = .nx ∧ Q e) (k : ∀ e, Q e → fsat (endF ms (g e)) P) : fsat (endF ms (sSeq f g e)) P := by
  rw [sSeq_eq]
  refine fbind _ h ?_
  rintro fl e ⟨rfl, q⟩
  exact k e q
theorem sseq {f g : En → Res Fl} {e : En} {P : Fl → En → Prop} (Q : En → Prop) (h : sat (f e) fun fl e => fl = .nx ∧ Q e) (k : ∀ e, Q e → sat (g e) P) : sat (sSeq f g e) P := by
  rw [sSeq_eq]
  refine sat_bind _ h ?_
  rintro fl e ⟨rfl, q⟩
  exact k e q
def erK (mk : List D → D) (d : D) (e : En) : Res D := match d with
  | .int j => if rgOk 0 j then .ok (mk (rgD 0 j.toNat)) e else .stuck
  | _ => .stuck
@[simp] theorem eRg1_eq (mk : List D → D) (f : En → Res D) (e : En) : eRg1 mk f e = (f e).bind (erK mk) := nr rfl
theorem erK_ok (mk : List D → D) {j : Int} {e : En} (h : j ≤ 1000000 ∧ -1000000 ≤ j) : erK mk (.int j) e = .ok (mk (rgD 0 j.toNat)) e := by
  show (if _ then _ else _) = _
  rw [if_pos (by unfold rgOk; omega)]
end
/-! ### data that may be keys -/
mutual
def D.kd : D → Bool
  | .non => true
  | .int _ => true
  | .str _ => true
  | .tup xs => D.kds xs
  | _ => false
def D.kds : List D → Bool
  | [] => true
  | x :: xs => x.kd && D.kds xs
end
mutual
theorem nk_kd : ∀ d : D, d.kd = true → ∃ z, d.nk = some z ∧ z.depth ≤ d.dp
  | .non, _ => ⟨_, rfl, Nat.le_refl _⟩
  | .int _, _ => ⟨_, rfl, Nat.le_refl _⟩
  | .str _, _ => ⟨_, rfl, Nat.le_refl _⟩
  | .tup xs, h => by
    obtain ⟨zs, h1, h2⟩ := nks_kds xs h
    refine ⟨.tup zs, by rw [D.nk, h1]; rfl, ?_⟩
    show NestedKey.depthAll zs + 1 ≤ D.dps xs + 1
    omega
  | .bl _, h => nomatch h
  | .lst _, h => nomatch h
  | .scr _, h => nomatch h
  | .dct _ _, h => nomatch h
  | .tpx _, h => nomatch h
theorem nks_kds : ∀ ds : List D, D.kds ds = true → ∃ zs, D.nks ds = some zs ∧ NestedKey.depthAll zs ≤ D.dps ds
  | [], _ => ⟨[], rfl, Nat.le_refl _⟩
  | x :: xs, h => by
    have h' : (x.kd && D.kds xs) = true := h
    rw [Bool.and_eq_true] at h'
    obtain ⟨z, h1, h2⟩ := nk_kd x h'.1
    obtain ⟨zs, h3, h4⟩ := nks_kds xs h'.2
    refine ⟨z :: zs, by rw [D.nks, h1, h3], ?_⟩
    show max z.depth (NestedKey.depthAll zs) ≤ max x.dp (D.dps xs)
    omega
end
theorem kds_map {α : Type} (f : α → D) (l : List α) (h : ∀ x ∈ l, (f x).kd = true) : D.kds (l.map f) = true := by
  induction l with
  | nil => rfl
  | cons x xs ih =>
    show ((f x).kd && D.kds (xs.map f)) = true
    rw [h x List.mem_cons_self, ih fun y m => h y (List.mem_cons_of_mem _ m)]
    rfl
theorem keyOk_kd {l : List D} (h : D.kds l = true) (hd : D.dps l ≤ 7) : (D.tup l).keyOk true = true := by
  obtain ⟨z, h1, h2⟩ := nk_kd (.tup l) h
  have h3 : z.depth ≤ D.dps l + 1 := h2
  unfold D.keyOk
  rw [h1]
  show (decide (z.depth ≤ 8) && true) = true
  rw [decide_eq_true (by omega)]
  rfl
theorem idx_tpx {l : List D} {k : D} (h : D.kds l = true) (hk : k ∈ l) (hkk : k.kd = true) (hd : k.dp ≤ 8) : dIdx (.tpx l) [k] = some (.int (l.idxOf k : Nat)) := by
  obtain ⟨z, h1, h2⟩ := nk_kd k hkk
  obtain ⟨zs, h3, h4⟩ := nks_kds l h
  show (if _ then _ else _) = _
  rw [if_pos]
  refine ⟨hk, by rw [h3]; rfl, ?_⟩
  rw [h1]
  exact decide_eq_true (by omega)
section
variable {e : En}
def txK (d : D) (e : En) : Res D := match d with
  | .lst ds => .ok (.tpx ds) e
  | _ => .stuck
def tpK (d : D) (e : En) : Res D := match d with
  | .tpx ds => .ok (.tup ds) e
  | _ => .stuck
@[simp] theorem eTpx_eq (f : En → Res D) : eTpx f e = (f e).bind txK := nr rfl
@[simp] theorem eTp_eq (f : En → Res D) : eTp f e = (f e).bind tpK := nr rfl
@[simp] theorem txK_lst (l : List D) : txK (.lst l) e = .ok (.tpx l) e := nr rfl
@[simp] theorem tpK_tpx (l : List D) : tpK (.tpx l) e = .ok (.tup l) e := nr rfl
@[simp] theorem isTpx_tpx (l : List D) : (D.tpx l).isTpx = true := nr rfl
@[simp] theorem isMut_tpx (l : List D) : (D.tpx l).isMut = false := nr rfl
@[simp] theorem eMt_n (i : Nat) (ok : D → Bool) (os : List Opd) (g : D → List D → Option D) : eMt (.n i) ok os g e = seeAt i e fun d => if ok d then (args os e).bind fun l e => seeAt i e fun d => Res.opt (g d l) e else .stuck := nr rfl
/-! ### dicts -/
theorem nin_dct {a : D} {t : Bool} {kvs : List (D × D)} (h : a.keyOk t = true) : dNi a (.dct t kvs) = some (.bl (!(dget kvs a).isSome)) := by
  show Option.map _ (if a.keyOk t = true then _ else _) = _
  rw [if_pos h]
  rfl
theorem in_dct {a : D} {t : Bool} {kvs : List (D × D)} (h : a.keyOk t = true) : dIn a (.dct t kvs) = some (.bl (dget kvs a).isSome) := by
  show Option.map _ (if a.keyOk t = true then _ else _) = _
  rw [if_pos h]
  rfl
theorem dput_len (kvs : List (D × D)) (k d : D) : (dput kvs k d).length ≤ kvs.length + 1 := by
  unfold dput
  split <;> simp
theorem set_dct {k d : D} {t : Bool} {kvs : List (D × D)} (h : k.keyOk t = true) (hl : kvs.length ≤ 1000000) : dSet (.dct t kvs) k d = some (.dct t (dput kvs k d)) := by
  have := dput_len kvs k d
  show (if _ then _ else _) = _
  rw [if_pos ⟨h, by rw [sizeLine_eq]; omega⟩]
@[simp] theorem eD0_eq (t : Bool) : eD0 t e = .ok (.dct t []) e := nr rfl
theorem repD_one (a : D) (k : Nat) : repD [a] (k : Int) = List.replicate k a := by
  unfold repD
  simp
theorem mul_tup1 (a : D) (k : Nat) (h : k ≤ 1000) : dMul (.tup [a]) (.int (k : Int)) = some (.tup (List.replicate k a)) := by
  rw [mul_tup _ _ ⟨by omega, by omega⟩ (by simp), repD_one]
theorem mul_lst1 (a : D) (k : Nat) (h : k ≤ 1000) : dMul (.lst [a]) (.int (k : Int)) = some (.lst (List.replicate k a)) := by
  rw [mul_lst _ _ ⟨by omega, by omega⟩ (by simp), repD_one]
end
end MP

set_option Elab.async false
set_option linter.all false
set_option maxRecDepth 100000
set_option autoImplicit false
namespace K57
open PySem L2 MP

/-- opens(lock, key): slots lock, key, chamber -/
def B_opens : En → Res Fl := sRet (oN [(.f (eLc (iRg1 (oN [(.n 0)] dLen)) (tgN 2) cYes (o2 (.f (o2 (.n 1) (.n 2) dIx)) (.f (o2 (.n 0) (.n 2) dIx)) dIn) [2]))] dAll)
def F_opens : FSem := runF 3 [false, false] B_opens
/-- opened(house, stand, deed): slots house, stand, deed, key, pinning -/
def B_opened : En → Res Fl := sSeq (sSetE 3 (o2 (.f (o2 (.n 1) (.f (eC (.int 0))) dIx)) (.f (o2 (.n 2) (.f (eC (.int 1))) dIx)) dIx)) <|
  sRet (eLc (iSq (o2 (.n 1) (.f (eC (.int 1))) dIx)) (tgN 4) cYes (eCall (.s (o2 (.f (o2 (.f (o2 (.n 0) (.f (eC (.int 2))) dIx)) (.n 4) dIx)) (.f (o2 (.n 2) (.f (eC (.int 2))) dIx)) dIx) (.s (eN 3) .nil)) F_opens) [4])
def F_opened : FSem := runF 5 [false, false, false] B_opened
/-- answers(house, stand, deed): slots house, stand, deed, told, answer -/
def B_answers : En → Res Fl := sSeq (sIf (asB (o2 (.f (o2 (.n 2) (.f (eC (.int 0))) dIx)) (.f (eC (.str "file"))) dEq)) (sRet (eM (eTup []))) sNop) <|
  sSeq (sSetM 3 (eCall (.s (eN 0) (.s (eN 1) (.s (eN 2) .nil))) F_opened)) <|
  sRet (oN [(.f (eLc (iSq (eTup [eC (.bl false), eC (.bl true)])) (tgN 4) (asB (o2 (.n 4) (.n 3) dIn)) (eN 4) [4]))] dTuple)
def F_answers : FSem := runF 5 [false, false, false] B_answers
/-- after(house, stand, deed, answer): slots house, stand, deed, answer, key, some_keys, pinnings, tries, told, left, kind, number, chamber, cut, at -/
def B_after : En → Res Fl := sSeq (sAsg (tgT [5, 6, 7]) (eN 1)) <|
  sSeq (sIf (asB (o2 (.f (o2 (.n 2) (.f (eC (.int 0))) dIx)) (.f (eC (.str "try"))) dEq)) (sSeq (sSetM 8 (eCall (.s (eN 0) (.s (eN 1) (.s (eN 2) .nil))) F_opened)) (sSeq (sSetM 9 (oN [(.f (eLc (iRg1 (oN [(.n 6)] dLen)) (tgN 14) (asB (o2 (.f (o2 (.n 8) (.n 14) dIx)) (.n 3) dEq)) (o2 (.n 6) (.n 14) dIx) [14]))] dTuple)) (sRet (eM (eTup [eN 5, eN 9, o2 (.n 7) (.f (eC (.int 1))) dSub]))))) sNop) <|
  sSeq (sAsg (tgT [10, 11, 12, 13]) (eN 2)) <|
  sSeq (sSetM 4 (o2 (.f (o2 (.f (eSl (.f (o2 (.n 5) (.n 11) dIx)) none (some (eN 12)))) (.f (eTup [eN 13])) dAdd)) (.f (eSl (.f (o2 (.n 5) (.n 11) dIx)) (some (o2 (.n 12) (.f (eC (.int 1))) dAdd)) none)) dAdd)) <|
  sRet (eM (eTup [oN [(.f (oN [(.f (o2 (.f (o2 (.f (eSl (.n 5) none (some (eN 11)))) (.f (eTup [eN 4])) dAdd)) (.f (eSl (.n 5) (some (o2 (.n 11) (.f (eC (.int 1))) dAdd)) none)) dAdd))] dSort))] dTuple, eN 6, eN 7]))
def F_after : FSem := runF 15 [false, false, false, false] B_after
/-- comes_in(house, stand, deed, answer): slots house, stand, deed, answer -/
def B_comes_in : En → Res Fl := sRet (eM (eAnd (o2 (.f (o2 (.n 2) (.f (eC (.int 0))) dIx)) (.f (eC (.str "try"))) dEq) (eAnd (o2 (.f (o2 (.f (o2 (.n 0) (.f (eC (.int 3))) dIx)) (.f (o2 (.n 2) (.f (eC (.int 2))) dIx)) dIx)) (.f (eC (.int 2))) dEq) (o2 (.n 3) (.f (eC (.bl true))) dIs))))
def F_comes_in : FSem := runF 4 [false, false, false, false] B_comes_in
/-- stands_of(house, stand, course): slots house, stand, course, found, deed, answer -/
def B_stands_of : En → Res Fl := sSeq (sSetM 3 (eLst [eN 1])) <|
  sSeq (sFor (iSq (eN 2)) (tgT [4, 5]) (sDrop (eLM 3 [eCall (.s (eN 0) (.s (o2 (.n 3) (.f (eNeg (eC (.int 1)))) dIx) (.s (eN 4) (.s (eN 5) .nil)))) F_after] gApp))) <|
  sRet (oN [(.n 3)] dTuple)
def F_stands_of : FSem := runF 6 [false, false, false] B_stands_of
/-- _law_draws(script, many): slots script, many, cells, rest, draws, k, at, cell, once -/
def B_l_draws : En → Res Fl := sSeq (sSetM 2 (eLc (iSq (eN 0)) (tgN 7) cYes (oN [(.n 7)] dInt) [7])) <|
  sSeq (sIf (asB (o2 (.f (oN [(.n 2)] dLen)) (.f (eC (.int 0))) dEq)) (sDrop (eLM 2 [eC (.int 0)] gApp)) sNop) <|
  sSeq (sSetM 3 (oN [(.n 2)] dList)) <|
  sSeq (sSetM 4 (eLst [])) <|
  sSeq (sFor (iRg1 (eN 1)) (tgN 5) (sSeq (sSetM 6 (o2 (.n 5) (.f (oN [(.n 2)] dLen)) dMod)) (sIf (asB (o2 (.f (o2 (.n 2) (.n 6) dIx)) (.f (o2 (.f (eC (.int 10))) (.f (eC (.int 18))) dPow)) dGe)) (sSeq (sDrop (eLM 4 [o2 (.f (oN [(.f (o2 (.n 3) (.n 6) dIx))] dInt)) (.f (eC (.int 1000))) dMod] gApp)) (sSub 3 (eN 6) (o2 (.f (o2 (.n 3) (.n 6) dIx)) (.f (eC (.int 1000))) dFdv))) (sSeq (sSetM 8 (o2 (.f (oN [(.f (o2 (.f (o2 (.f (o2 (.f (o2 (.n 2) (.n 6) dIx)) (.f (eC (.int 48271))) dMul)) (.f (o2 (.n 5) (.f (eC (.int 69621))) dMul)) dAdd)) (.f (eC (.int 11))) dAdd))] dInt)) (.f (eC (.int 2147483647))) dMod)) (sDrop (eLM 4 [o2 (.f (oN [(.f (o2 (.f (o2 (.f (o2 (.n 8) (.n 8) dMul)) (.f (o2 (.f (eC (.int 3))) (.n 8) dMul)) dAdd)) (.n 5) dAdd))] dInt)) (.f (eC (.int 1000003))) dMod] gApp)))))) <|
  sSeq (sDrop (eLM 4 [] gRev)) <|
  sRet (eNM 4)
def F_l_draws : FSem := runF 9 [false, false] B_l_draws
/-- _law_take(draws, many): slots draws, many -/
def B_l_take : En → Res Fl := sSeq (sIf (asB (o2 (.f (oN [(.n 0)] dLen)) (.f (eC (.int 0))) dEq)) (sRet (eM (eC (.int 0)))) sNop) <|
  sRet (o2 (.f (oN [(.f (eLM 0 [] gPop))] dInt)) (.n 1) dMod)
def F_l_take : FSem := runF 2 [true, false] B_l_take
/-- _law_cell(script, at): slots script, at -/
def B_l_cell : En → Res Fl := sSeq (sIf (asB (o2 (.f (oN [(.n 0)] dLen)) (.f (eC (.int 0))) dEq)) (sRet (eM (eC (.int 0)))) sNop) <|
  sRet (oN [(.f (o2 (.n 0) (.f (o2 (.f (oN [(.n 1)] dInt)) (.f (oN [(.n 0)] dLen)) dMod)) dIx))] dInt)
def F_l_cell : FSem := runF 2 [false, false] B_l_cell
/-- _law_same(actual, due): slots actual, due, k -/
def B_l_same (self : FSem) : En → Res Fl := sSeq (sIf (asB (o2 (.n 1) (.f (eC .non)) dIs)) (sRet (o2 (.n 0) (.f (eC .non)) dIs)) sNop) <|
  sSeq (sIf (asB (eIsi .tb (eN 1))) (sRet (eM (eAnd (eIsi .tb (eN 0)) (o2 (.n 0) (.n 1) dEq)))) sNop) <|
  sSeq (sIf (asB (eIsi .ti (eN 1))) (sRet (eM (eAnd (eIsi .ti (eN 0)) (eAnd (eNot (eIsi .tb (eN 0))) (o2 (.n 0) (.n 1) dEq))))) sNop) <|
  sSeq (sIf (asB (eIsi .ts (eN 1))) (sRet (eM (eAnd (eIsi .ts (eN 0)) (o2 (.n 0) (.n 1) dEq)))) sNop) <|
  sSeq (sIf (cOr (cNot (asB (eIsi .tt (eN 0)))) (asB (o2 (.f (oN [(.n 0)] dLen)) (.f (oN [(.n 1)] dLen)) dNe))) (sRet (eM (eC (.bl false)))) sNop) <|
  sSeq (sFor (iRg1 (oN [(.n 1)] dLen)) (tgN 2) (sIf (cNot (asB (eCall (.s (o2 (.n 0) (.n 2) dIx) (.s (o2 (.n 1) (.n 2) dIx) .nil)) self))) (sRet (eM (eC (.bl false)))) sNop)) <|
  sRet (eM (eC (.bl true)))
def F_l_same : Nat → FSem
  | 0 => fun _ => .stuck
  | n + 1 => runF 3 [false, false] (B_l_same (F_l_same n))
/-- _law_opens(lock, key): slots lock, key, at -/
def B_l_opens : En → Res Fl := sRet (o2 (.f (oN [(.f (eLc (iRg1 (oN [(.n 0)] dLen)) (tgN 2) (asB (o2 (.f (o2 (.n 1) (.n 2) dIx)) (.f (o2 (.n 0) (.n 2) dIx)) dNi)) (eN 2) [2]))] dLen)) (.f (eC (.int 0))) dEq)
def F_l_opens : FSem := runF 3 [false, false] B_l_opens
/-- _law_moves(house, stand): slots house, stand, found, number, chamber, cut, lock -/
def B_l_moves : En → Res Fl := sSeq (sSetM 2 (eLst [])) <|
  sSeq (sFor (iRg1 (oN [(.f (o2 (.n 1) (.f (eC (.int 0))) dIx))] dLen)) (tgN 3) (sFor (iRg1 (o2 (.f (o2 (.n 0) (.f (eC (.int 0))) dIx)) (.f (eC (.int 0))) dIx)) (tgN 4) (sFor (iRg2 (o2 (.f (o2 (.f (o2 (.f (o2 (.n 1) (.f (eC (.int 0))) dIx)) (.n 3) dIx)) (.n 4) dIx)) (.f (eC (.int 1))) dAdd) (o2 (.f (o2 (.n 0) (.f (eC (.int 0))) dIx)) (.f (eC (.int 1))) dIx)) (tgN 5) (sDrop (eLM 2 [eTup [eC (.str "file"), eN 3, eN 4, eN 5]] gApp))))) <|
  sSeq (sIf (asB (o2 (.f (o2 (.n 1) (.f (eC (.int 2))) dIx)) (.f (eC (.int 0))) dGt)) (sFor (iRg1 (oN [(.f (o2 (.n 1) (.f (eC (.int 0))) dIx))] dLen)) (tgN 3) (sSetM 2 (o2 (.n 2) (.f (eLc (iRg1 (oN [(.f (o2 (.n 0) (.f (eC (.int 3))) dIx))] dLen)) (tgN 6) (asB (o2 (.f (o2 (.f (o2 (.n 0) (.f (eC (.int 3))) dIx)) (.n 6) dIx)) (.f (eC (.int 0))) dNe)) (eTup [eC (.str "try"), eN 3, eN 6]) [6])) dAdd))) sNop) <|
  sRet (eNM 2)
def F_l_moves : FSem := runF 7 [false, false] B_l_moves
/-- _law_behind(house, stand, move): slots house, stand, move, hand, key, yes, no, found, filed, k -/
def B_l_behind : En → Res Fl := sSeq (sSetE 3 (o2 (.n 1) (.f (eC (.int 0))) dIx)) <|
  sSeq (sSetE 4 (o2 (.n 3) (.f (o2 (.n 2) (.f (eC (.int 1))) dIx)) dIx)) <|
  sSeq (sIf (asB (o2 (.f (o2 (.n 2) (.f (eC (.int 0))) dIx)) (.f (eC (.str "file"))) dEq)) (sSeq (sSetM 8 (o2 (.f (o2 (.f (eSl (.n 4) none (some (o2 (.n 2) (.f (eC (.int 2))) dIx)))) (.f (eTup [o2 (.n 2) (.f (eC (.int 3))) dIx])) dAdd)) (.f (eSl (.n 4) (some (o2 (.f (o2 (.n 2) (.f (eC (.int 2))) dIx)) (.f (eC (.int 1))) dAdd)) none)) dAdd)) (sRet (eLst [eTup [eC .non, eTup [oN [(.f (oN [(.f (o2 (.f (o2 (.f (eSl (.n 3) none (some (o2 (.n 2) (.f (eC (.int 1))) dIx)))) (.f (eTup [eN 8])) dAdd)) (.f (eSl (.n 3) (some (o2 (.f (o2 (.n 2) (.f (eC (.int 1))) dIx)) (.f (eC (.int 1))) dAdd)) none)) dAdd))] dSort))] dTuple, o2 (.n 1) (.f (eC (.int 1))) dIx, o2 (.n 1) (.f (eC (.int 2))) dIx]]]))) sNop) <|
  sSeq (sSetM 5 (oN [(.f (eLc (iSq (o2 (.n 1) (.f (eC (.int 1))) dIx)) (tgN 9) (asB (eCall (.s (o2 (.f (o2 (.f (o2 (.n 0) (.f (eC (.int 2))) dIx)) (.n 9) dIx)) (.f (o2 (.n 2) (.f (eC (.int 2))) dIx)) dIx) (.s (eN 4) .nil)) F_l_opens)) (eN 9) [9]))] dTuple)) <|
  sSeq (sSetM 6 (oN [(.f (eLc (iSq (o2 (.n 1) (.f (eC (.int 1))) dIx)) (tgN 9) (asB (o2 (.n 9) (.n 5) dNi)) (eN 9) [9]))] dTuple)) <|
  sSeq (sSetM 7 (eLst [])) <|
  sSeq (sIf (asB (o2 (.f (oN [(.n 6)] dLen)) (.f (eC (.int 0))) dGt)) (sDrop (eLM 7 [eTup [eC (.bl false), eTup [eN 3, eN 6, o2 (.f (o2 (.n 1) (.f (eC (.int 2))) dIx)) (.f (eC (.int 1))) dSub]]] gApp)) sNop) <|
  sSeq (sIf (asB (o2 (.f (oN [(.n 5)] dLen)) (.f (eC (.int 0))) dGt)) (sDrop (eLM 7 [eTup [eC (.bl true), eTup [eN 3, eN 5, o2 (.f (o2 (.n 1) (.f (eC (.int 2))) dIx)) (.f (eC (.int 1))) dSub]]] gApp)) sNop) <|
  sRet (eNM 7)
def F_l_behind : FSem := runF 10 [false, false, false] B_l_behind
/-- _law_some(draws, many): slots draws, many, mask, k -/
def B_l_some : En → Res Fl := sSeq (sSetM 2 (o2 (.f (eC (.int 1))) (.f (eCall (.io 0 (.s (o2 (.f (eLst [eC (.int 1), eC (.int 3), eC (.int 7), eC (.int 15)])) (.f (o2 (.n 1) (.f (eC (.int 1))) dSub)) dIx) .nil)) F_l_take)) dAdd)) <|
  sRet (oN [(.f (eLc (iRg1 (eN 1)) (tgN 3) (asB (o2 (.f (o2 (.f (oN [(.f (o2 (.n 2) (.f (o2 (.f (eLst [eC (.int 1), eC (.int 2), eC (.int 4), eC (.int 8)])) (.n 3) dIx)) dFdv))] dInt)) (.f (eC (.int 2))) dMod)) (.f (eC (.int 1))) dEq)) (eN 3) [3]))] dTuple)
def F_l_some : FSem := runF 4 [true, false] B_l_some
/-- _law_pinnings(draws, key_line, many, locks): slots draws, key_line, many, locks, found, k, pinning, lock, chamber -/
def B_l_pinnings : En → Res Fl := sSeq (sSetM 4 (eLst [])) <|
  sSeq (sFor (iRg1 (eN 2)) (tgN 5) (sSeq (sSetM 6 (eLc (iRg1 (eN 3)) (tgN 7) cYes (oN [(.f (eLc (iRg1 (o2 (.n 1) (.f (eC (.int 0))) dIx)) (tgN 8) cYes (eCall (.io 0 (.s (o2 (.n 1) (.f (eC (.int 1))) dIx) .nil)) F_l_some) [8]))] dTuple) [7])) (sSeq (sFor (iRg1 (eN 3)) (tgN 7) (sIf (cAnd (asB (o2 (.n 5) (.f (eC (.int 0))) dGt)) (asB (o2 (.f (eCall (.io 0 (.s (eC (.int 2)) .nil)) F_l_take)) (.f (eC (.int 0))) dEq))) (sSub 6 (eN 7) (o2 (.f (o2 (.n 4) (.f (eC (.int 0))) dIx)) (.n 7) dIx)) sNop)) (sIf (asB (o2 (.f (oN [(.n 6)] dTuple)) (.n 4) dNi)) (sDrop (eLM 4 [oN [(.n 6)] dTuple] gApp)) sNop)))) <|
  sRet (oN [(.n 4)] dTuple)
def F_l_pinnings : FSem := runF 9 [true, false, false, false] B_l_pinnings
/-- _law_hand(draws, key_line, many, room): slots draws, key_line, many, room, found, sizes, rest, k, key, size, chamber, up -/
def B_l_hand : En → Res Fl := sSeq (sSetM 4 (eLst [])) <|
  sSeq (sSetM 5 (eLst [])) <|
  sSeq (sSetE 6 (eN 3)) <|
  sSeq (sFor (iRg1 (eN 2)) (tgN 7) (sSeq (sSetM 8 (eLst [])) (sSeq (sSetE 9 (eC (.int 1))) (sSeq (sFor (iRg1 (o2 (.n 1) (.f (eC (.int 0))) dIx)) (tgN 10) (sSeq (sSetM 11 (oN [(.f (o2 (.f (eLst [eC (.int 0), eC (.int 1), eC (.int 0), eC (.int 2), eC (.int 0), eC (.int 1), eC (.int 3), eC (.int 0)])) (.f (eCall (.io 0 (.s (eC (.int 8)) .nil)) F_l_take)) dIx)), (.f (o2 (.f (o2 (.n 1) (.f (eC (.int 1))) dIx)) (.f (eC (.int 1))) dSub)), (.f (o2 (.n 6) (.f (eC (.int 1))) dSub))] dMin)) (sSeq (sSetM 6 (o2 (.n 6) (.f (o2 (.n 11) (.f (eC (.int 1))) dAdd)) dFdv)) (sSeq (sSetM 9 (o2 (.n 9) (.f (o2 (.n 11) (.f (eC (.int 1))) dAdd)) dMul)) (sDrop (eLM 8 [o2 (.f (o2 (.f (o2 (.n 1) (.f (eC (.int 1))) dIx)) (.f (eC (.int 1))) dSub)) (.n 11) dSub] gApp)))))) (sSeq (sDrop (eLM 4 [oN [(.n 8)] dTuple] gApp)) (sDrop (eLM 5 [eN 9] gApp))))))) <|
  sSeq (sIf (cAnd (asB (o2 (.f (eCall (.io 0 (.s (eC (.int 4)) .nil)) F_l_take)) (.f (eC (.int 1))) dEq)) (cAnd (asB (o2 (.n 2) (.f (eC (.int 1))) dGt)) (asB (o2 (.f (o2 (.f (o2 (.f (o2 (.n 5) (.f (eC (.int 0))) dIx)) (.f (o2 (.n 5) (.f (eC (.int 0))) dIx)) dMul)) (.f (eIf (asB (o2 (.n 2) (.f (eC (.int 2))) dGt)) (o2 (.n 5) (.f (eC (.int 1))) dIx) (eC (.int 1)))) dMul)) (.n 3) dLe)))) (sSub 4 (eNeg (eC (.int 1))) (o2 (.n 4) (.f (eC (.int 0))) dIx)) sNop) <|
  sSeq (sIf (asB (o2 (.f (eCall (.io 0 (.s (eC (.int 2)) .nil)) F_l_take)) (.f (eC (.int 1))) dEq)) (sDrop (eLM 4 [] gRev)) sNop) <|
  sRet (oN [(.n 4)] dTuple)
def F_l_hand : FSem := runF 12 [true, false, false, false] B_l_hand
/-- _law_house(script, draws, most): slots script, draws, most, step, key_line, locks, tries, pinnings, room, hand, places, lock -/
def B_l_house : En → Res Fl := sSeq (sSetE 3 (o2 (.f (eLst [eC (.int 0), eC (.int 1), eC (.int 2), oN [(.f (eCall (.s (eN 0) (.s (eC (.int 1)) .nil)) F_l_cell))] dAbs])) (.f (eCall (.io 1 (.s (eC (.int 4)) .nil)) F_l_take)) dIx)) <|
  sSeq (sSetE 4 (eTup [o2 (.f (eLst [eC (.int 1), eC (.int 2), eC (.int 3), eC (.int 2), eC (.int 1), eC (.int 3)])) (.f (eCall (.io 1 (.s (eC (.int 6)) .nil)) F_l_take)) dIx, o2 (.f (eLst [eC (.int 2), eC (.int 3), eC (.int 4), eC (.int 2), eC (.int 3), eC (.int 4), eC (.int 2), eC (.int 1)])) (.f (eCall (.io 1 (.s (eC (.int 8)) .nil)) F_l_take)) dIx, eN 3])) <|
  sSeq (sSetE 5 (o2 (.f (eLst [eC (.int 1), eC (.int 2), eC (.int 3), eC (.int 2)])) (.f (eCall (.io 1 (.s (eC (.int 4)) .nil)) F_l_take)) dIx)) <|
  sSeq (sSetE 6 (o2 (.f (eLst [eC (.int 1), eC (.int 2), eC (.int 1), eC (.int 3), eC (.int 0), eC (.int 2), eC (.int 4), eC (.int 1)])) (.f (eCall (.io 1 (.s (eC (.int 8)) .nil)) F_l_take)) dIx)) <|
  sSeq (sSetM 7 (eCall (.io 1 (.s (eN 4) (.s (o2 (.f (eLst [eC (.int 1), eC (.int 2), eC (.int 3), eC (.int 2), eC (.int 4), eC (.int 3), eC (.int 5), eC (.int 8)])) (.f (eCall (.io 1 (.s (eC (.int 8)) .nil)) F_l_take)) dIx) (.s (eN 5) .nil)))) F_l_pinnings)) <|
  sSeq (sSetM 8 (oN [(.f (eC (.int 1))), (.f (o2 (.n 2) (.f (o2 (.f (eC (.int 1))) (.f (o2 (.n 6) (.f (o2 (.f (o2 (.f (eC (.int 2))) (.f (oN [(.n 7)] dLen)) dMul)) (.f (eC (.int 1))) dSub)) dMul)) dAdd)) dFdv))] dMax)) <|
  sSeq (sIf (asB (o2 (.f (eCall (.io 1 (.s (eC (.int 8)) .nil)) F_l_take)) (.f (eC (.int 3))) dEq)) (sSetM 8 (o2 (.f (eC (.int 2))) (.n 2) dMul)) sNop) <|
  sSeq (sSetM 9 (eCall (.io 1 (.s (eN 4) (.s (o2 (.f (eLst [eC (.int 1), eC (.int 2), eC (.int 3), eC (.int 1)])) (.f (eCall (.io 1 (.s (eC (.int 4)) .nil)) F_l_take)) dIx) (.s (eN 8) .nil)))) F_l_hand)) <|
  sSeq (sSetM 10 (oN [(.f (eLc (iRg1 (eN 5)) (tgN 11) cYes (o2 (.f (eLst [eC (.int 2), eC (.int 1), eC (.int 2), eC (.int 0), eC (.int 2)])) (.f (eCall (.io 1 (.s (eC (.int 5)) .nil)) F_l_take)) dIx) [11]))] dTuple)) <|
  sRet (eM (eTup [eN 4, eN 9, eN 7, eN 10, eN 6]))
def F_l_house : FSem := runF 12 [false, true, false] B_l_house
/-- _law_origin(house): slots house -/
def B_l_origin : En → Res Fl := sRet (eM (eTup [oN [(.f (oN [(.f (o2 (.n 0) (.f (eC (.int 1))) dIx))] dSort))] dTuple, eRg1 .tup (oN [(.f (o2 (.n 0) (.f (eC (.int 2))) dIx))] dLen), o2 (.n 0) (.f (eC (.int 4))) dIx]))
def F_l_origin : FSem := runF 1 [false] B_l_origin
/-- _law_any_stand(draws, house, room): slots draws, house, room, hand, some, one, k -/
def B_l_any_stand : En → Res Fl := sSeq (sSetM 3 (eCall (.io 0 (.s (o2 (.n 1) (.f (eC (.int 0))) dIx) (.s (o2 (.f (eC (.int 1))) (.f (eCall (.io 0 (.s (eC (.int 3)) .nil)) F_l_take)) dAdd) (.s (eN 2) .nil)))) F_l_hand)) <|
  sSeq (sSetM 4 (oN [(.f (eLc (iRg1 (oN [(.f (o2 (.n 1) (.f (eC (.int 2))) dIx))] dLen)) (tgN 6) (asB (o2 (.f (eCall (.io 0 (.s (eC (.int 2)) .nil)) F_l_take)) (.f (eC (.int 0))) dEq)) (eN 6) [6]))] dTuple)) <|
  sSeq (sSetM 5 (eCall (.io 0 (.s (oN [(.f (o2 (.n 1) (.f (eC (.int 2))) dIx))] dLen) .nil)) F_l_take)) <|
  sSeq (sIf (asB (o2 (.f (oN [(.n 4)] dLen)) (.f (eC (.int 0))) dEq)) (sSetE 4 (eTup [eN 5])) sNop) <|
  sRet (eM (eTup [oN [(.f (oN [(.n 3)] dSort))] dTuple, eN 4, o2 (.f (eLst [eC (.int 1), eC (.int 2), eC (.int 0), eC (.int 3), eC (.int 1), eC (.int 4)])) (.f (eCall (.io 0 (.s (eC (.int 6)) .nil)) F_l_take)) dIx]))
def F_l_any_stand : FSem := runF 7 [true, false, false] B_l_any_stand
/-- _law_move_right(house, stand, move): slots house, stand, move, results, due, result, enters -/
def B_l_move_right : En → Res Fl := sSeq (sSetM 3 (eCall (.s (eN 0) (.s (eN 1) (.s (eN 2) .nil))) F_l_behind)) <|
  sSeq (sSetM 4 (oN [(.f (eLc (iSq (eN 3)) (tgN 5) (asB (o2 (.f (o2 (.n 5) (.f (eC (.int 0))) dIx)) (.f (eC .non)) dNis)) (o2 (.n 5) (.f (eC (.int 0))) dIx) [5]))] dTuple)) <|
  sSeq (sIf (cNot (asB (eCall (.s (eCall (.s (eN 0) (.s (eN 1) (.s (eN 2) .nil))) F_answers) (.s (eN 4) .nil)) (F_l_same 8)))) (sRet (eM (eC (.bl false)))) sNop) <|
  sSeq (sFor (iSq (eN 3)) (tgN 5) (sSeq (sIf (cNot (asB (eCall (.s (eCall (.s (eN 0) (.s (eN 1) (.s (eN 2) (.s (o2 (.n 5) (.f (eC (.int 0))) dIx) .nil)))) F_after) (.s (o2 (.n 5) (.f (eC (.int 1))) dIx) .nil)) (F_l_same 8)))) (sRet (eM (eC (.bl false)))) sNop) (sSeq (sSetE 6 (eAnd (o2 (.f (o2 (.n 5) (.f (eC (.int 0))) dIx)) (.f (eC (.bl true))) dIs) (o2 (.f (o2 (.f (o2 (.n 0) (.f (eC (.int 3))) dIx)) (.f (o2 (.n 2) (.f (eC (.int 2))) dIx)) dIx)) (.f (eC (.int 2))) dEq))) (sIf (cNot (asB (eCall (.s (eCall (.s (eN 0) (.s (eN 1) (.s (eN 2) (.s (o2 (.n 5) (.f (eC (.int 0))) dIx) .nil)))) F_comes_in) (.s (eN 6) .nil)) (F_l_same 8)))) (sRet (eM (eC (.bl false)))) sNop)))) <|
  sRet (eM (eC (.bl true)))
def F_l_move_right : FSem := runF 7 [false, false, false] B_l_move_right
/-- _law_walk_right(draws, house, stand, many): slots draws, house, stand, many, k, row, move, at, results -/
def B_l_walk_right : En → Res Fl := sSeq (sFor (iRg1 (eN 3)) (tgN 4) (sSeq (sSetM 5 (eCall (.s (eN 1) (.s (eN 2) .nil)) F_l_moves)) (sSeq (sFor (iSq (eN 5)) (tgN 6) (sIf (cNot (asB (eCall (.s (eN 1) (.s (eN 2) (.s (eN 6) .nil))) F_l_move_right))) (sRet (eM (eC (.bl false)))) sNop)) (sSeq (sIf (asB (o2 (.f (oN [(.n 5)] dLen)) (.f (eC (.int 0))) dEq)) sBk sNop) (sSeq (sSetM 7 (eCall (.io 0 (.s (oN [(.n 5)] dLen) .nil)) F_l_take)) (sSeq (sIf (cAnd (asB (o2 (.f (o2 (.n 2) (.f (eC (.int 2))) dIx)) (.f (eC (.int 0))) dGt)) (asB (o2 (.f (eCall (.io 0 (.s (eC (.int 2)) .nil)) F_l_take)) (.f (eC (.int 1))) dEq))) (sSetM 7 (o2 (.f (o2 (.f (oN [(.n 5)] dLen)) (.f (eC (.int 1))) dSub)) (.f (eCall (.io 0 (.s (oN [(.f (oN [(.n 5)] dLen)), (.f (eC (.int 6)))] dMin) .nil)) F_l_take)) dSub)) sNop) (sSeq (sSetM 8 (eCall (.s (eN 1) (.s (eN 2) (.s (o2 (.n 5) (.n 7) dIx) .nil))) F_l_behind)) (sSeq (sIf (cNot (asB (eCall (.s (eN 1) (.s (eN 2) (.s (o2 (.n 5) (.n 7) dIx) .nil))) F_l_move_right))) (sRet (eM (eC (.bl false)))) sNop) (sSetE 2 (o2 (.f (o2 (.n 8) (.f (eCall (.io 0 (.s (oN [(.n 8)] dLen) .nil)) F_l_take)) dIx)) (.f (eC (.int 1))) dIx)))))))))) <|
  sRet (eM (eC (.bl true)))
def F_l_walk_right : FSem := runF 9 [true, false, false, false] B_l_walk_right
/-- _law_known_right(depths, cut, place, tries): slots depths, cut, place, tries, others, house, keys, number, stand, move, told, one -/
def B_l_known_right : En → Res Fl := sSeq (sSetM 4 (oN [(.f (eLc (iRg1 (eN 0)) (tgN 11) (asB (o2 (.n 11) (.n 1) dNe)) (eN 11) [11]))] dTuple)) <|
  sSeq (sSetE 5 (eTup [eTup [eC (.int 1), eN 0, eC (.int 0)], eTup [eTup [eN 1], eTup [eC (.int 0)]], eTup [eTup [eTup [eTup [eN 1]]], eTup [eTup [eN 4]]], eTup [eN 2], eN 3])) <|
  sSeq (sSetE 6 (eTpx (oN [(.f (o2 (.n 5) (.f (eC (.int 1))) dIx))] dSort))) <|
  sSeq (sSetE 7 (eMt (.n 6) D.isTpx [(.f (eTup [eN 1]))] (fun c l => if c.isTpx then dIdx c l else none))) <|
  sSeq (sSetE 8 (eTup [eTp (eN 6), eTup [eC (.int 0), eC (.int 1)], eN 3])) <|
  sSeq (sSetE 9 (eTup [eC (.str "try"), eN 7, eC (.int 0)])) <|
  sSeq (sIf (cNot (asB (eCall (.s (eCall (.s (eN 5) (.s (eN 8) (.s (eN 9) .nil))) F_answers) (.s (eTup [eC (.bl false), eC (.bl true)]) .nil)) (F_l_same 8)))) (sRet (eM (eC (.bl false)))) sNop) <|
  sSeq (sIf (cNot (asB (eCall (.s (eCall (.s (eN 5) (.s (eN 8) (.s (eN 9) (.s (eC (.bl false)) .nil)))) F_after) (.s (eTup [eTp (eN 6), eTup [eC (.int 1)], o2 (.n 3) (.f (eC (.int 1))) dSub]) .nil)) (F_l_same 8)))) (sRet (eM (eC (.bl false)))) sNop) <|
  sSeq (sIf (cNot (asB (eCall (.s (eCall (.s (eN 5) (.s (eN 8) (.s (eN 9) (.s (eC (.bl true)) .nil)))) F_after) (.s (eTup [eTp (eN 6), eTup [eC (.int 0)], o2 (.n 3) (.f (eC (.int 1))) dSub]) .nil)) (F_l_same 8)))) (sRet (eM (eC (.bl false)))) sNop) <|
  sSeq (sSetM 10 (eLst [eCall (.s (eN 5) (.s (eN 8) (.s (eN 9) (.s (eC (.bl false)) .nil)))) F_comes_in, eCall (.s (eN 5) (.s (eN 8) (.s (eN 9) (.s (eC (.bl true)) .nil)))) F_comes_in])) <|
  sSeq (sIf (cNot (asB (eCall (.s (oN [(.n 10)] dTuple) (.s (eTup [eC (.bl false), o2 (.n 2) (.f (eC (.int 2))) dEq]) .nil)) (F_l_same 8)))) (sRet (eM (eC (.bl false)))) sNop) <|
  sRet (eCall (.s (eCall (.s (eN 5) (.s (eTup [eTp (eN 6), eTup [eC (.int 1)], eN 3]) (.s (eN 9) .nil))) F_answers) (.s (eTup [eC (.bl false)]) .nil)) (F_l_same 8))
def F_l_known_right : FSem := runF 12 [false, false, false, false] B_l_known_right
/-- _law_results(house, stand, move): slots house, stand, move, found, result -/
def B_l_results : En → Res Fl := sSeq (sSetM 3 (eLst [])) <|
  sSeq (sFor (iSq (eCall (.s (eN 0) (.s (eN 1) (.s (eN 2) .nil))) F_l_behind)) (tgN 4) (sIf (cAnd (asB (o2 (.f (o2 (.n 4) (.f (eC (.int 0))) dIx)) (.f (eC (.bl true))) dIs)) (asB (o2 (.f (o2 (.f (o2 (.n 0) (.f (eC (.int 3))) dIx)) (.f (o2 (.n 2) (.f (eC (.int 2))) dIx)) dIx)) (.f (eC (.int 2))) dEq))) (sDrop (eLM 3 [eTup [eC (.bl true), eC .non]] gApp)) (sDrop (eLM 3 [eN 4] gApp)))) <|
  sRet (eNM 3)
def F_l_results : FSem := runF 5 [false, false, false] B_l_results
/-- _law_met(house, first, most): slots house, first, most, order, known, stand, rows, k, row, pair, result, move -/
def B_l_met : En → Res Fl := sSeq (sSetM 3 (eLst [])) <|
  sSeq (sSetM 4 (eD0 true)) <|
  sSeq (sFor (iSq (eN 1)) (tgN 5) (sIf (asB (o2 (.n 5) (.n 4) dNi)) (sSeq (sSub 4 (eN 5) (eC (.bl true))) (sDrop (eLM 3 [eN 5] gApp))) sNop)) <|
  sSeq (sSetM 6 (eD0 true)) <|
  sSeq (sFor (iRg1 (eN 2)) (tgN 7) (sSeq (sIf (asB (o2 (.n 7) (.f (oN [(.n 3)] dLen)) dGe)) (sRet (eNM 6)) sNop) (sSeq (sSetM 8 (eLc (iSq (eCall (.s (eN 0) (.s (o2 (.n 3) (.n 7) dIx) .nil)) F_l_moves)) (tgN 11) cYes (eTup [eN 11, eCall (.s (eN 0) (.s (o2 (.n 3) (.n 7) dIx) (.s (eN 11) .nil))) F_l_results]) [11])) (sSeq (sFor (iSq (eN 8)) (tgN 9) (sFor (iSq (o2 (.n 9) (.f (eC (.int 1))) dIx)) (tgN 10) (sIf (cAnd (asB (o2 (.f (o2 (.n 10) (.f (eC (.int 1))) dIx)) (.f (eC .non)) dNis)) (asB (o2 (.f (o2 (.n 10) (.f (eC (.int 1))) dIx)) (.n 4) dNi))) (sSeq (sSub 4 (o2 (.n 10) (.f (eC (.int 1))) dIx) (eC (.bl true))) (sDrop (eLM 3 [o2 (.n 10) (.f (eC (.int 1))) dIx] gApp))) sNop))) (sSeq (sIf (asB (o2 (.f (oN [(.n 3)] dLen)) (.n 2) dGt)) (sRet (eM (eC .non))) sNop) (sSub 6 (o2 (.n 3) (.n 7) dIx) (eN 8))))))) <|
  sRet (eNM 6)
def F_l_met : FSem := runF 12 [false, false, false] B_l_met
/-- _law_fitting(house, most): slots house, most, less, deep, tried_house, rows -/
def B_l_fitting : En → Res Fl := sSeq (sFor (iRg1 (o2 (.f (o2 (.n 0) (.f (eC (.int 4))) dIx)) (.f (eC (.int 1))) dAdd)) (tgN 2) (sSeq (sSetM 4 (o2 (.f (eSl (.n 0) none (some (eC (.int 4))))) (.f (eTup [o2 (.f (o2 (.n 0) (.f (eC (.int 4))) dIx)) (.n 2) dSub])) dAdd)) (sSeq (sSetM 5 (eCall (.s (eN 4) (.s (eLst [eCall (.s (eN 4) .nil) F_l_origin]) (.s (eN 1) .nil))) F_l_met)) (sIf (asB (o2 (.n 5) (.f (eC .non)) dNis)) (sRet (eM (eTup [eN 4, eN 5]))) sNop)))) <|
  sSeq (sSetM 3 (o2 (.f (eTup [o2 (.f (eTup [o2 (.f (o2 (.f (o2 (.n 0) (.f (eC (.int 0))) dIx)) (.f (eC (.int 1))) dIx)) (.f (eC (.int 1))) dSub])) (.f (o2 (.f (o2 (.n 0) (.f (eC (.int 0))) dIx)) (.f (eC (.int 0))) dIx)) dMul])) (.f (oN [(.f (o2 (.n 0) (.f (eC (.int 1))) dIx))] dLen)) dMul)) <|
  sSeq (sSetM 4 (o2 (.f (o2 (.f (eTup [o2 (.n 0) (.f (eC (.int 0))) dIx, eN 3])) (.f (eSl (.n 0) (some (eC (.int 2))) (some (eC (.int 4))))) dAdd)) (.f (eTup [eC (.int 0)])) dAdd)) <|
  sRet (eM (eTup [eN 4, eCall (.s (eN 4) (.s (eLst [eCall (.s (eN 4) .nil) F_l_origin]) (.s (eN 1) .nil))) F_l_met]))
def F_l_fitting : FSem := runF 6 [false, false] B_l_fitting
/-- _law_drawn_course(draws, house, stand, many): slots draws, house, stand, many, course, stands, k, row, move, results, result -/
def B_l_drawn_course : En → Res Fl := sSeq (sSetM 4 (eLst [])) <|
  sSeq (sSetM 5 (eLst [eN 2])) <|
  sSeq (sFor (iRg1 (eN 3)) (tgN 6) (sSeq (sSetM 7 (eCall (.s (eN 1) (.s (o2 (.n 5) (.f (eNeg (eC (.int 1)))) dIx) .nil)) F_l_moves)) (sSeq (sIf (asB (o2 (.f (oN [(.n 7)] dLen)) (.f (eC (.int 0))) dEq)) sBk sNop) (sSeq (sSetE 8 (o2 (.n 7) (.f (eCall (.io 0 (.s (oN [(.n 7)] dLen) .nil)) F_l_take)) dIx)) (sSeq (sIf (cAnd (asB (o2 (.f (o2 (.f (o2 (.n 5) (.f (eNeg (eC (.int 1)))) dIx)) (.f (eC (.int 2))) dIx)) (.f (eC (.int 0))) dGt)) (asB (o2 (.f (eCall (.io 0 (.s (eC (.int 3)) .nil)) F_l_take)) (.f (eC (.int 0))) dEq))) (sSetE 8 (o2 (.n 7) (.f (o2 (.f (o2 (.f (oN [(.n 7)] dLen)) (.f (eC (.int 1))) dSub)) (.f (eCall (.io 0 (.s (oN [(.f (oN [(.n 7)] dLen)), (.f (eC (.int 5)))] dMin) .nil)) F_l_take)) dSub)) dIx)) sNop) (sSeq (sSetM 9 (eCall (.s (eN 1) (.s (o2 (.n 5) (.f (eNeg (eC (.int 1)))) dIx) (.s (eN 8) .nil))) F_l_behind)) (sSeq (sSetE 10 (o2 (.n 9) (.f (eCall (.io 0 (.s (oN [(.n 9)] dLen) .nil)) F_l_take)) dIx)) (sSeq (sDrop (eLM 4 [eTup [eN 8, o2 (.n 10) (.f (eC (.int 0))) dIx]] gApp)) (sSeq (sDrop (eLM 5 [o2 (.n 10) (.f (eC (.int 1))) dIx] gApp)) (sIf (cAnd (asB (o2 (.f (o2 (.n 10) (.f (eC (.int 0))) dIx)) (.f (eC (.bl true))) dIs)) (asB (o2 (.f (o2 (.f (o2 (.n 1) (.f (eC (.int 3))) dIx)) (.f (o2 (.n 8) (.f (eC (.int 2))) dIx)) dIx)) (.f (eC (.int 2))) dEq))) sBk sNop)))))))))) <|
  sRet (eM (eTup [oN [(.n 4)] dTuple, oN [(.n 5)] dTuple]))
def F_l_drawn_course : FSem := runF 11 [true, false, false, false] B_l_drawn_course
/-- _law_quiet(house): slots house, place -/
def B_l_quiet : En → Res Fl := sRet (o2 (.f (eSl (.n 0) none (some (eC (.int 3))))) (.f (eTup [oN [(.f (eLc (iSq (o2 (.n 0) (.f (eC (.int 3))) dIx)) (tgN 1) cYes (oN [(.n 1), (.f (eC (.int 1)))] dMin) [1]))] dTuple, o2 (.n 0) (.f (eC (.int 4))) dIx])) dAdd)
def F_l_quiet : FSem := runF 2 [false] B_l_quiet
/-- _law_b_known_right(draws): slots draws, chambers, depths, lock, house, key, course, due, chamber, cut -/
def B_l_b_known_right : En → Res Fl := sSeq (sSetM 1 (o2 (.f (eC (.int 1))) (.f (eCall (.io 0 (.s (eC (.int 3)) .nil)) F_l_take)) dAdd)) <|
  sSeq (sSetM 2 (o2 (.f (eC (.int 2))) (.f (eCall (.io 0 (.s (eC (.int 3)) .nil)) F_l_take)) dAdd)) <|
  sSeq (sSetM 3 (o2 (.f (eTup [eTup [o2 (.n 2) (.f (eC (.int 1))) dSub]])) (.n 1) dMul)) <|
  sSeq (sSetE 4 (eTup [eTup [eN 1, eN 2, eC (.int 0)], eTup [o2 (.f (eTup [eC (.int 0)])) (.n 1) dMul], eTup [eTup [eN 3]], eTup [eC (.int 2)], eC (.int 1)])) <|
  sSeq (sSetM 5 (o2 (.f (eLst [eC (.int 0)])) (.n 1) dMul)) <|
  sSeq (sSetM 6 (eLst [])) <|
  sSeq (sSetM 7 (eLst [eTup [eTup [oN [(.n 5)] dTuple], eTup [eC (.int 0)], eC (.int 1)]])) <|
  sSeq (sFor (iRg1 (eN 1)) (tgN 8) (sFor (iRg2 (eC (.int 1)) (eN 2)) (tgN 9) (sSeq (sSub 5 (eN 8) (eN 9)) (sSeq (sDrop (eLM 6 [eTup [eTup [eC (.str "file"), eC (.int 0), eN 8, eN 9], eC .non]] gApp)) (sDrop (eLM 7 [eTup [eTup [oN [(.n 5)] dTuple], eTup [eC (.int 0)], eC (.int 1)]] gApp)))))) <|
  sSeq (sDrop (eLM 6 [eTup [eTup [eC (.str "try"), eC (.int 0), eC (.int 0)], eC (.bl true)]] gApp)) <|
  sSeq (sDrop (eLM 7 [eTup [eTup [oN [(.n 5)] dTuple], eTup [eC (.int 0)], eC (.int 0)]] gApp)) <|
  sRet (eCall (.s (eCall (.s (eN 4) (.s (o2 (.n 7) (.f (eC (.int 0))) dIx) (.s (oN [(.n 6)] dTuple) .nil))) F_stands_of) (.s (oN [(.n 7)] dTuple) .nil)) (F_l_same 8))
def F_l_b_known_right : FSem := runF 10 [true] B_l_b_known_right
/-- _law_part_one(script): slots script, draws, house, depths -/
def B_l_part_one : En → Res Fl := sSeq (sSetM 1 (eCall (.s (eN 0) (.s (eC (.int 460)) .nil)) F_l_draws)) <|
  sSeq (sSetM 2 (eCall (.s (eN 0) (.tmp (eSl (.n 1) (some (eC (.int 120))) none) [(.int ((10 : Int) ^ (9 : Int).toNat))])) F_l_house)) <|
  sSeq (sSetM 1 (eSl (.n 1) none (some (eC (.int 120))))) <|
  sSeq (sSetM 3 (o2 (.f (eC (.int 2))) (.f (eCall (.io 1 (.s (eC (.int 3)) .nil)) F_l_take)) dAdd)) <|
  sSeq (sIf (cNot (asB (eCall (.s (eN 3) (.s (eCall (.io 1 (.s (eN 3) .nil)) F_l_take) (.s (o2 (.f (eC (.int 1))) (.f (eCall (.io 1 (.s (eC (.int 2)) .nil)) F_l_take)) dAdd) (.s (o2 (.f (eC (.int 1))) (.f (eCall (.io 1 (.s (eC (.int 4)) .nil)) F_l_take)) dAdd) .nil)))) F_l_known_right))) (sRet (eM (eC (.bl false)))) sNop) <|
  sSeq (sIf (cNot (asB (eCall (.io 1 (.s (eN 2) (.s (eCall (.s (eN 2) .nil) F_l_origin) (.s (o2 (.f (eC (.int 1))) (.f (eCall (.io 1 (.s (eC (.int 5)) .nil)) F_l_take)) dAdd) .nil)))) F_l_walk_right))) (sRet (eM (eC (.bl false)))) sNop) <|
  sRet (eCall (.io 1 (.s (eN 2) (.s (eCall (.io 1 (.s (eN 2) (.s (o2 (.f (eC (.int 10))) (.f (eC (.int 9))) dPow) .nil))) F_l_any_stand) (.s (o2 (.f (eC (.int 1))) (.f (eCall (.io 1 (.s (eC (.int 4)) .nil)) F_l_take)) dAdd) .nil)))) F_l_walk_right)
def F_l_part_one : FSem := runF 4 [false] B_l_part_one
/-- _law_part_two(script): slots script, draws, drawn, most, house, stand, asked, quiet, pair, some, course, stands -/
def B_l_part_two : En → Res Fl := sSeq (sSetM 1 (eCall (.s (eN 0) (.s (eC (.int 760)) .nil)) F_l_draws)) <|
  sSeq (sSetM 2 (eSl (.n 1) none (some (eC (.int 320))))) <|
  sSeq (sSetM 1 (eSl (.n 1) (some (eC (.int 320))) none)) <|
  sSeq (sIf (cNot (asB (eCall (.io 2 .nil) F_l_b_known_right))) (sRet (eM (eC (.bl false)))) sNop) <|
  sSeq (sSetE 3 (o2 (.f (eLst [eC (.int 60), eC (.int 300)])) (.f (oN [(.f (o2 (.f (eCall (.io 2 (.s (eC (.int 8)) .nil)) F_l_take)) (.f (eC (.int 5))) dEq))] dInt)) dIx)) <|
  sSeq (sSetE 4 (o2 (.f (eCall (.s (eCall (.s (eN 0) (.io 1 (.s (eN 3) .nil))) F_l_house) (.s (eN 3) .nil)) F_l_fitting)) (.f (eC (.int 0))) dIx)) <|
  sSeq (sSetM 5 (eCall (.io 2 (.s (eN 4) (.s (o2 (.f (eLst [eC (.int 4), eC (.int 60)])) (.f (eCall (.io 2 (.s (eC (.int 2)) .nil)) F_l_take)) dIx) .nil))) F_l_any_stand)) <|
  sSeq (sSetM 6 (eLst [eCall (.io 2 (.s (eN 4) (.s (eCall (.s (eN 4) .nil) F_l_origin) (.s (eC (.int 30)) .nil)))) F_l_drawn_course, eTup [eTup [], eTup [eCall (.s (eN 4) .nil) F_l_origin]]])) <|
  sSeq (sIf (asB (o2 (.f (eCall (.s (eN 4) (.s (eLst [eN 5]) (.s (eC (.int 200)) .nil))) F_l_met)) (.f (eC .non)) dNis)) (sSeq (sDrop (eLM 6 [eTup [eTup [], eTup [eN 5]]] gApp)) (sDrop (eLM 6 [eCall (.io 2 (.s (eN 4) (.s (eN 5) (.s (o2 (.f (eC (.int 1))) (.f (eCall (.io 2 (.s (eC (.int 12)) .nil)) F_l_take)) dAdd) .nil)))) F_l_drawn_course] gApp))) sNop) <|
  sSeq (sSetM 7 (eCall (.s (eN 4) .nil) F_l_quiet)) <|
  sSeq (sIf (asB (o2 (.f (eCall (.s (eN 7) (.s (eLst [eCall (.s (eN 7) .nil) F_l_origin]) (.s (eC (.int 300)) .nil))) F_l_met)) (.f (eC .non)) dNis)) (sSeq (sAsg (tgT [10, 11]) (eCall (.io 2 (.s (eN 7) (.s (eCall (.s (eN 7) .nil) F_l_origin) (.s (eC (.int 30)) .nil)))) F_l_drawn_course)) (sIf (cNot (asB (eCall (.s (eCall (.s (eN 7) (.s (o2 (.n 11) (.f (eC (.int 0))) dIx) (.s (eN 10) .nil))) F_stands_of) (.s (eN 11) .nil)) (F_l_same 8)))) (sRet (eM (eC (.bl false)))) sNop)) sNop) <|
  sSeq (sFor (iSq (o2 (.n 6) (.f (eSl (.n 6) none (some (eC (.int 1))))) dAdd)) (tgN 8) (sSeq (sIf (cNot (asB (eCall (.s (eCall (.s (eN 4) (.s (o2 (.f (o2 (.n 8) (.f (eC (.int 1))) dIx)) (.f (eC (.int 0))) dIx) (.s (o2 (.n 8) (.f (eC (.int 0))) dIx) .nil))) F_stands_of) (.s (o2 (.n 8) (.f (eC (.int 1))) dIx) .nil)) (F_l_same 8)))) (sRet (eM (eC (.bl false)))) sNop) (sSeq (sSetM 9 (o2 (.f (oN [(.f (o2 (.n 8) (.f (eC (.int 0))) dIx))] dLen)) (.f (eC (.int 2))) dFdv)) (sIf (cNot (asB (eCall (.s (eCall (.s (eN 4) (.s (o2 (.f (o2 (.n 8) (.f (eC (.int 1))) dIx)) (.f (eC (.int 0))) dIx) (.s (eSl (.f (o2 (.n 8) (.f (eC (.int 0))) dIx)) none (some (eN 9))) .nil))) F_stands_of) (.s (eSl (.f (o2 (.n 8) (.f (eC (.int 1))) dIx)) none (some (o2 (.n 9) (.f (eC (.int 1))) dAdd))) .nil)) (F_l_same 8)))) (sRet (eM (eC (.bl false)))) sNop)))) <|
  sRet (eM (eC (.bl true)))
def F_l_part_two : FSem := runF 12 [false] B_l_part_two
/-- law(script): slots script -/
def B_law : En → Res Fl := sRet (eM (eAnd (eCall (.s (eN 0) .nil) F_l_part_one) (eCall (.s (eN 0) .nil) F_l_part_two)))
def F_law : FSem := runF 1 [false] B_law
end K57

set_option Elab.async false
set_option linter.all false
set_option maxRecDepth 100000
set_option autoImplicit false
set_option maxHeartbeats 4000000
namespace K57
open PySem L2 MP
def topS (i : Nat) : Stmt := PySem.Challenge.pw_nothiefin_k57_what_comes_of_deeds.main.body.getD i (.Pass ⟨0, 0, 0, 0⟩)
section
variable {P : Program} {w : World} {K : PySem.W.Frag} {mg : Str → Option Value} {base : Heap}
theorem s_opens : FnScope ["lock", "key", "chamber"] ["lock", "key"] (defScope (topS 1)) := ⟨rfl, rfl, rfl, by decide +kernel, rfl, by decide +kernel, by decide +kernel⟩
theorem d_opens (bt : Bt mg) (A : DefAt K "opens" (topS 1)) (X0 : OnK K mg)  : DefOk P w K mg base CX0 ce0 1 "opens" [false, false] F_opens := by
  refine A.ok X0 (N := ["lock", "key", "chamber"]) (k := 0) (f := B_opens) s_opens rfl (by decide) (fun _ _ _ _ _ _ us hl => match us, hl with | [_, _], _ => rfl) fun cdv AA outer s H E b fa hr => ?_
  have hu := hu_room hr
  have hN := s_opens.nd
  exact ss_one (s_ret (m_callB (g_all rfl) (by rfl) bt.all bo_all (a_f (e_m (m_lc (own := [("chamber", 2)]) (sl := [2]) rfl hN (i_rg1 (by rfl) bt.range (e_m (m_callB g_len (by rfl) bt.len bo_len (a_n 0 (pv 0) a_nil)))) (blkOk_by (by rfl)) (fun s H C cl fp b => (g_n (i := 2) hN rfl (by first | exact .inl rfl | exact .inr rfl))) (fun s H C cl fp b => ts_nil) (fun s H C cl fp b => e_m (m_cmp (g_in hu) (e_ix (g_ix hu) (pv 1) (pv 2)) (e_ix (g_ix hu) (pv 0) (pv 2)) (by with_unfolding_all rfl))) tgN_len)) a_nil)))
theorem s_opened : FnScope ["house", "stand", "deed", "key", "pinning"] ["house", "stand", "deed"] (defScope (topS 3)) := ⟨rfl, rfl, rfl, by decide +kernel, rfl, by decide +kernel, by decide +kernel⟩
theorem d_opened (bt : Bt mg) (A : DefAt K "opened" (topS 3)) (X0 : OnK K mg) (G_opens : DefOk P w K mg base CX0 ce0 1 "opens" [false, false] F_opens) : DefOk P w K mg base CX0 ce0 2 "opened" [false, false, false] F_opened := by
  refine A.ok X0 (N := ["house", "stand", "deed", "key", "pinning"]) (k := 1) (f := B_opened) s_opened rfl (by decide) (fun _ _ _ _ _ _ us hl => match us, hl with | [_, _, _], _ => rfl) fun cdv AA outer s H E b fa hr => ?_
  have hu := hu_room hr
  have hN := s_opened.nd
  refine ss_cons (s_setE (i := 3) hN rfl (by first | exact .inl rfl | exact .inr rfl) (e_ix (g_ix hu) (e_ix (g_ix hu) (pv 1) e_int) (e_ix (g_ix hu) (pv 2) e_int))) ?_
  exact ss_one (s_ret (m_lc (own := [("pinning", 4)]) (sl := [4]) rfl hN (i_sq (e_ix (g_ix hu) (pv 1) e_int)) (blkOk_by (by rfl)) (fun s H C cl fp b => (g_n (i := 4) hN rfl (by first | exact .inl rfl | exact .inr rfl))) (fun s H C cl fp b => ts_nil) (fun s H C cl fp b => e_m (m_call G_opens (hr.mono (by decide)) (by rfl) (c_s (e_ix (g_ix hu) (e_ix (g_ix hu) (e_ix (g_ix hu) (pv 0) e_int) (pv 4)) (e_ix (g_ix hu) (pv 2) e_int)) (c_s (e_n 3 (pv 3)) c_nil)))) tgN_len))
theorem s_answers : FnScope ["house", "stand", "deed", "told", "answer"] ["house", "stand", "deed"] (defScope (topS 4)) := ⟨rfl, rfl, rfl, by decide +kernel, rfl, by decide +kernel, by decide +kernel⟩
theorem d_answers (bt : Bt mg) (A : DefAt K "answers" (topS 4)) (X0 : OnK K mg) (G_opened : DefOk P w K mg base CX0 ce0 2 "opened" [false, false, false] F_opened) : DefOk P w K mg base CX0 ce0 3 "answers" [false, false, false] F_answers := by
  refine A.ok X0 (N := ["house", "stand", "deed", "told", "answer"]) (k := 2) (f := B_answers) s_answers rfl (by decide) (fun _ _ _ _ _ _ us hl => match us, hl with | [_, _, _], _ => rfl) fun cdv AA outer s H E b fa hr => ?_
  have hu := hu_room hr
  have hN := s_answers.nd
  refine ss_cons (s_if (t_cmp (g_eq hu) (e_ix (g_ix hu) (pv 2) e_int) e_str (nomark _)) (ss_one (s_ret (m_e (e_tup d_nil)))) ss_nil) ?_
  refine ss_cons (s_setM (i := 3) hN rfl (by first | exact .inl rfl | exact .inr rfl) (m_call G_opened (hr.mono (by decide)) (by rfl) (c_s (e_n 0 (pv 0)) (c_s (e_n 1 (pv 1)) (c_s (e_n 2 (pv 2)) c_nil))))) ?_
  exact ss_one (s_ret (m_callTy g_tuple (by rfl) bt.ty_tuple bo_tuple (a_f (e_m (m_lc (own := [("answer", 4)]) (sl := [4]) rfl hN (i_sq (e_tup (d_cons e_bl (d_cons e_bl d_nil)))) (blkOk_by (by rfl)) (fun s H C cl fp b => (g_n (i := 4) hN rfl (by first | exact .inl rfl | exact .inr rfl))) (fun s H C cl fp b => ts_one (t_cmp (g_in hu) (pv 4) (pv 3) (by with_unfolding_all rfl))) (fun s H C cl fp b => e_n 4 (pv 4)) tgN_len)) a_nil)))
theorem s_after : FnScope ["house", "stand", "deed", "answer", "key", "some_keys", "pinnings", "tries", "told", "left", "kind", "number", "chamber", "cut", "at"] ["house", "stand", "deed", "answer"] (defScope (topS 5)) := ⟨rfl, rfl, rfl, by decide +kernel, rfl, by decide +kernel, by decide +kernel⟩
theorem d_after (bt : Bt mg) (A : DefAt K "after" (topS 5)) (X0 : OnK K mg) (G_opened : DefOk P w K mg base CX0 ce0 2 "opened" [false, false, false] F_opened) : DefOk P w K mg base CX0 ce0 3 "after" [false, false, false, false] F_after := by
  refine A.ok X0 (N := ["house", "stand", "deed", "answer", "key", "some_keys", "pinnings", "tries", "told", "left", "kind", "number", "chamber", "cut", "at"]) (k := 2) (f := B_after) s_after rfl (by decide) (fun _ _ _ _ _ _ us hl => match us, hl with | [_, _, _, _], _ => rfl) fun cdv AA outer s H E b fa hr => ?_
  have hu := hu_room hr
  have hN := s_after.nd
  refine ss_cons (s_asg (e_n 1 (pv 1)) (g_t rfl (gs_cons (i := 5) hN rfl (by first | exact .inl rfl | exact .inr rfl) (gs_cons (i := 6) hN rfl (by first | exact .inl rfl | exact .inr rfl) (gs_cons (i := 7) hN rfl (by first | exact .inl rfl | exact .inr rfl) gs_nil))))) ?_
  refine ss_cons (s_if (t_cmp (g_eq hu) (e_ix (g_ix hu) (pv 2) e_int) e_str (nomark _)) (ss_cons (s_setM (i := 8) hN rfl (by first | exact .inl rfl | exact .inr rfl) (m_call G_opened (hr.mono (by decide)) (by rfl) (c_s (e_n 0 (pv 0)) (c_s (e_n 1 (pv 1)) (c_s (e_n 2 (pv 2)) c_nil))))) (ss_cons (s_setM (i := 9) hN rfl (by first | exact .inl rfl | exact .inr rfl) (m_callTy g_tuple (by rfl) bt.ty_tuple bo_tuple (a_f (e_m (m_lc (own := [("at", 14)]) (sl := [14]) rfl hN (i_rg1 (by rfl) bt.range (e_m (m_callB g_len (by rfl) bt.len bo_len (a_n 6 (pv 6) a_nil)))) (blkOk_by (by rfl)) (fun s H C cl fp b => (g_n (i := 14) hN rfl (by first | exact .inl rfl | exact .inr rfl))) (fun s H C cl fp b => ts_one (t_cmp (g_eq hu) (e_ix (g_ix hu) (pv 8) (pv 14)) (pv 3) (nomark _))) (fun s H C cl fp b => e_ix (g_ix hu) (pv 6) (pv 14)) tgN_len)) a_nil))) (ss_one (s_ret (m_e (e_tup (d_cons (e_n 5 (pv 5)) (d_cons (e_n 9 (pv 9)) (d_cons (e_m (m_op g_sub (pv 7) e_int)) d_nil))))))))) ss_nil) ?_
  refine ss_cons (s_asg (e_n 2 (pv 2)) (g_t rfl (gs_cons (i := 10) hN rfl (by first | exact .inl rfl | exact .inr rfl) (gs_cons (i := 11) hN rfl (by first | exact .inl rfl | exact .inr rfl) (gs_cons (i := 12) hN rfl (by first | exact .inl rfl | exact .inr rfl) (gs_cons (i := 13) hN rfl (by first | exact .inl rfl | exact .inr rfl) gs_nil)))))) ?_
  refine ss_cons (s_setM (i := 4) hN rfl (by first | exact .inl rfl | exact .inr rfl) (m_op g_add (e_m (m_op g_add (e_m (m_sl (e_ix (g_ix hu) (pv 5) (pv 11)) p_none (p_some (e_n 12 (pv 12))))) (e_tup (d_cons (e_n 13 (pv 13)) d_nil)))) (e_m (m_sl (e_ix (g_ix hu) (pv 5) (pv 11)) (p_some (e_m (m_op g_add (pv 12) e_int))) p_none)))) ?_
  exact ss_one (s_ret (m_e (e_tup (d_cons (e_m (m_callTy g_tuple (by rfl) bt.ty_tuple bo_tuple (a_f (e_m (m_callB (g_sorted rfl hu) (by rfl) bt.sorted bo_sorted (a_f (e_m (m_op g_add (e_m (m_op g_add (e_m (m_sl (pv 5) p_none (p_some (e_n 11 (pv 11))))) (e_tup (d_cons (e_n 4 (pv 4)) d_nil)))) (e_m (m_sl (pv 5) (p_some (e_m (m_op g_add (pv 11) e_int))) p_none)))) a_nil))) a_nil))) (d_cons (e_n 6 (pv 6)) (d_cons (e_n 7 (pv 7)) d_nil))))))
theorem s_comes_in : FnScope ["house", "stand", "deed", "answer"] ["house", "stand", "deed", "answer"] (defScope (topS 6)) := ⟨rfl, rfl, rfl, by decide +kernel, rfl, by decide +kernel, by decide +kernel⟩
theorem d_comes_in (bt : Bt mg) (A : DefAt K "comes_in" (topS 6)) (X0 : OnK K mg)  : DefOk P w K mg base CX0 ce0 1 "comes_in" [false, false, false, false] F_comes_in := by
  refine A.ok X0 (N := ["house", "stand", "deed", "answer"]) (k := 0) (f := B_comes_in) s_comes_in rfl (by decide) (fun _ _ _ _ _ _ us hl => match us, hl with | [_, _, _, _], _ => rfl) fun cdv AA outer s H E b fa hr => ?_
  have hu := hu_room hr
  have hN := s_comes_in.nd
  exact ss_one (s_ret (m_e (e_and (e_m (m_cmp (g_eq hu) (e_ix (g_ix hu) (pv 2) e_int) e_str (nomark _))) (e_and (e_m (m_cmp (g_eq hu) (e_ix (g_ix hu) (e_ix (g_ix hu) (pv 0) e_int) (e_ix (g_ix hu) (pv 2) e_int)) e_int (nomark _))) (e_one (e_m (m_cmp g_is (pv 3) e_bl (nomark _))))))))
theorem s_stands_of : FnScope ["house", "stand", "course", "found", "deed", "answer"] ["house", "stand", "course"] (defScope (topS 8)) := ⟨rfl, rfl, rfl, by decide +kernel, rfl, by decide +kernel, by decide +kernel⟩
theorem d_stands_of (bt : Bt mg) (A : DefAt K "stands_of" (topS 8)) (X0 : OnK K mg) (G_after : DefOk P w K mg base CX0 ce0 3 "after" [false, false, false, false] F_after) : DefOk P w K mg base CX0 ce0 4 "stands_of" [false, false, false] F_stands_of := by
  refine A.ok X0 (N := ["house", "stand", "course", "found", "deed", "answer"]) (k := 3) (f := B_stands_of) s_stands_of rfl (by decide) (fun _ _ _ _ _ _ us hl => match us, hl with | [_, _, _], _ => rfl) fun cdv AA outer s H E b fa hr => ?_
  have hu := hu_room hr
  have hN := s_stands_of.nd
  refine ss_cons (s_setM (i := 3) hN rfl (by first | exact .inl rfl | exact .inr rfl) (m_lst (d_cons (e_n 1 (pv 1)) d_nil))) ?_
  refine ss_cons (s_for PassesOwn.never rfl (i_sq (e_n 2 (pv 2))) (g_t rfl (gs_cons (i := 4) hN rfl (by first | exact .inl rfl | exact .inr rfl) (gs_cons (i := 5) hN rfl (by first | exact .inl rfl | exact .inr rfl) gs_nil))) (ss_one (s_expr (e_lm lm_app PySem.F.slot_list_append PySem.F.type_list_append mt_append (pv 3) (d_cons (e_m (m_call G_after (hr.mono (by decide)) (by rfl) (c_s (e_n 0 (pv 0)) (c_s (e_ix (g_ix hu) (pv 3) (e_neg e_int)) (c_s (e_n 4 (pv 4)) (c_s (e_n 5 (pv 5)) c_nil)))))) d_nil))))) ?_
  exact ss_one (s_ret (m_callTy g_tuple (by rfl) bt.ty_tuple bo_tuple (a_n 3 (pv 3) a_nil)))
theorem s_l_draws : FnScope ["script", "many", "cells", "rest", "draws", "k", "at", "cell", "once"] ["script", "many"] (defScope (topS 10)) := ⟨rfl, rfl, rfl, by decide +kernel, rfl, by decide +kernel, by decide +kernel⟩
theorem d_l_draws (bt : Bt mg) (A : DefAt K "_law_draws" (topS 10)) (X0 : OnK K mg)  : DefOk P w K mg base CX0 ce0 1 "_law_draws" [false, false] F_l_draws := by
  refine A.ok X0 (N := ["script", "many", "cells", "rest", "draws", "k", "at", "cell", "once"]) (k := 0) (f := B_l_draws) s_l_draws rfl (by decide) (fun _ _ _ _ _ _ us hl => match us, hl with | [_, _], _ => rfl) fun cdv AA outer s H E b fa hr => ?_
  have hu := hu_room hr
  have hN := s_l_draws.nd
  refine ss_cons (s_setLc (i := 2) (own := [("cell", 7)]) (sl := [7]) rfl hN rfl rfl (by rfl) (i_sq (e_n 0 (pv 0))) (blkOk_by (by rfl)) (fun s H C cl fp b => (g_n (i := 7) hN rfl (by first | exact .inl rfl | exact .inr rfl))) (fun s H C cl fp b => ts_nil) (fun s H C cl fp b => e_m (m_callTy g_int (by rfl) bt.ty_int bo_int (a_n 7 (pv 7) a_nil))) tgN_len) ?_
  refine ss_cons (s_if (t_cmp (g_eq hu) (e_m (m_callB g_len (by rfl) bt.len bo_len (a_n 2 (pv 2) a_nil))) e_int (nomark _)) (ss_one (s_expr (e_lm lm_app PySem.F.slot_list_append PySem.F.type_list_append mt_append (pv 2) (d_cons e_int d_nil)))) ss_nil) ?_
  refine ss_cons (s_setM (i := 3) hN rfl (by first | exact .inl rfl | exact .inr rfl) (m_callTy g_list (by rfl) bt.ty_list bo_list (a_n 2 (pv 2) a_nil))) ?_
  refine ss_cons (s_setM (i := 4) hN rfl (by first | exact .inl rfl | exact .inr rfl) (m_lst d_nil)) ?_
  refine ss_cons (s_for PassesOwn.never rfl (i_rg1 (by rfl) bt.range (e_n 1 (pv 1))) (g_n (i := 5) hN rfl (by first | exact .inl rfl | exact .inr rfl)) (ss_cons (s_setM (i := 6) hN rfl (by first | exact .inl rfl | exact .inr rfl) (m_op g_mod (pv 5) (e_m (m_callB g_len (by rfl) bt.len bo_len (a_n 2 (pv 2) a_nil))))) (ss_one (s_if (t_cmp (g_ge hu) (e_ix (g_ix hu) (pv 2) (pv 6)) (e_m (m_op g_pow e_int e_int)) (nomark _)) (ss_cons (s_expr (e_lm lm_app PySem.F.slot_list_append PySem.F.type_list_append mt_append (pv 4) (d_cons (e_m (m_op g_mod (e_m (m_callTy g_int (by rfl) bt.ty_int bo_int (a_f (e_ix (g_ix hu) (pv 3) (pv 6)) a_nil))) e_int)) d_nil))) (ss_one (s_sub hu (e_m (m_op g_fdv (e_ix (g_ix hu) (pv 3) (pv 6)) e_int)) (pv 3) (e_n 6 (pv 6))))) (ss_cons (s_setM (i := 8) hN rfl (by first | exact .inl rfl | exact .inr rfl) (m_op g_mod (e_m (m_callTy g_int (by rfl) bt.ty_int bo_int (a_f (e_m (m_op g_add (e_m (m_op g_add (e_m (m_op g_mul (e_ix (g_ix hu) (pv 2) (pv 6)) e_int)) (e_m (m_op g_mul (pv 5) e_int)))) e_int)) a_nil))) e_int)) (ss_one (s_expr (e_lm lm_app PySem.F.slot_list_append PySem.F.type_list_append mt_append (pv 4) (d_cons (e_m (m_op g_mod (e_m (m_callTy g_int (by rfl) bt.ty_int bo_int (a_f (e_m (m_op g_add (e_m (m_op g_add (e_m (m_op g_mul (pv 8) (pv 8))) (e_m (m_op g_mul e_int (pv 8))))) (pv 5))) a_nil))) e_int)) d_nil))))))))) ?_
  refine ss_cons (s_expr (e_lm0 lm_rev PySem.F.slot_list_reverse PySem.F.type_list_reverse mt_reverse (pv 4))) ?_
  exact ss_one (s_ret (m_n 4 (pv 4)))
theorem s_l_take : FnScope ["draws", "many"] ["draws", "many"] (defScope (topS 11)) := ⟨rfl, rfl, rfl, by decide +kernel, rfl, by decide +kernel, by decide +kernel⟩
theorem d_l_take (bt : Bt mg) (A : DefAt K "_law_take" (topS 11)) (X0 : OnK K mg)  : DefOk P w K mg base CX0 ce0 1 "_law_take" [true, false] F_l_take := by
  refine A.ok X0 (N := ["draws", "many"]) (k := 0) (f := B_l_take) s_l_take rfl (by decide) (fun _ _ _ _ _ _ us hl => match us, hl with | [_, _], _ => rfl) fun cdv AA outer s H E b fa hr => ?_
  have hu := hu_room hr
  have hN := s_l_take.nd
  refine ss_cons (s_if (t_cmp (g_eq hu) (e_m (m_callB g_len (by rfl) bt.len bo_len (a_n 0 (pv 0) a_nil))) e_int (nomark _)) (ss_one (s_ret (m_e e_int))) ss_nil) ?_
  exact ss_one (s_ret (m_op g_mod (e_m (m_callTy g_int (by rfl) bt.ty_int bo_int (a_f (e_lm0 lm_pop PySem.F.slot_list_pop PySem.F.type_list_pop mt_pop (pv 0)) a_nil))) (pv 1)))
theorem s_l_cell : FnScope ["script", "at"] ["script", "at"] (defScope (topS 12)) := ⟨rfl, rfl, rfl, by decide +kernel, rfl, by decide +kernel, by decide +kernel⟩
theorem d_l_cell (bt : Bt mg) (A : DefAt K "_law_cell" (topS 12)) (X0 : OnK K mg)  : DefOk P w K mg base CX0 ce0 1 "_law_cell" [false, false] F_l_cell := by
  refine A.ok X0 (N := ["script", "at"]) (k := 0) (f := B_l_cell) s_l_cell rfl (by decide) (fun _ _ _ _ _ _ us hl => match us, hl with | [_, _], _ => rfl) fun cdv AA outer s H E b fa hr => ?_
  have hu := hu_room hr
  have hN := s_l_cell.nd
  refine ss_cons (s_if (t_cmp (g_eq hu) (e_m (m_callB g_len (by rfl) bt.len bo_len (a_n 0 (pv 0) a_nil))) e_int (nomark _)) (ss_one (s_ret (m_e e_int))) ss_nil) ?_
  exact ss_one (s_ret (m_callTy g_int (by rfl) bt.ty_int bo_int (a_f (e_ix (g_ix hu) (pv 0) (e_m (m_op g_mod (e_m (m_callTy g_int (by rfl) bt.ty_int bo_int (a_n 1 (pv 1) a_nil))) (e_m (m_callB g_len (by rfl) bt.len bo_len (a_n 0 (pv 0) a_nil)))))) a_nil)))
theorem s_l_same : FnScope ["actual", "due", "k"] ["actual", "due"] (defScope (topS 13)) := ⟨rfl, rfl, rfl, by decide +kernel, rfl, by decide +kernel, by decide +kernel⟩
theorem d_l_same (bt : Bt mg) (A : DefAt K "_law_same" (topS 13)) (X0 : OnK K mg)  : ∀ n, DefOk P w K mg base CX0 ce0 (n + 1) "_law_same" [false, false] (F_l_same n)
  | 0 => A.stuck X0 s_l_same rfl (by decide) (fun _ _ _ _ _ _ us hl => match us, hl with | [_, _], _ => rfl)
  | n + 1 => by
    have G_self := d_l_same bt A X0  n
    refine A.ok X0 (N := ["actual", "due", "k"]) (f := B_l_same (F_l_same n)) s_l_same rfl (by decide) (fun _ _ _ _ _ _ us hl => match us, hl with | [_, _], _ => rfl) fun cdv AA outer s H E b fa hr => ?_
    have hu := hu_room hr
    have hN := s_l_same.nd
    have hrs : Room (n + 1) _ := hr
    refine ss_cons (s_if (t_cmp g_is (pv 1) e_non (nomark _)) (ss_one (s_ret (m_cmp g_is (pv 0) e_non (nomark _)))) ss_nil) ?_
    refine ss_cons (s_if (t_val (e_isi .tb rfl (by rfl) bt.isinstance (by rfl) bt.ty_bool (e_n 1 (pv 1)))) (ss_one (s_ret (m_e (e_and (e_isi .tb rfl (by rfl) bt.isinstance (by rfl) bt.ty_bool (e_n 0 (pv 0))) (e_one (e_m (m_cmp (g_eq hu) (pv 0) (pv 1) (nomark _)))))))) ss_nil) ?_
    refine ss_cons (s_if (t_val (e_isi .ti rfl (by rfl) bt.isinstance (by rfl) bt.ty_int (e_n 1 (pv 1)))) (ss_one (s_ret (m_e (e_and (e_isi .ti rfl (by rfl) bt.isinstance (by rfl) bt.ty_int (e_n 0 (pv 0))) (e_and (e_not (e_isi .tb rfl (by rfl) bt.isinstance (by rfl) bt.ty_bool (e_n 0 (pv 0)))) (e_one (e_m (m_cmp (g_eq hu) (pv 0) (pv 1) (nomark _))))))))) ss_nil) ?_
    refine ss_cons (s_if (t_val (e_isi .ts rfl (by rfl) bt.isinstance (by rfl) bt.ty_str (e_n 1 (pv 1)))) (ss_one (s_ret (m_e (e_and (e_isi .ts rfl (by rfl) bt.isinstance (by rfl) bt.ty_str (e_n 0 (pv 0))) (e_one (e_m (m_cmp (g_eq hu) (pv 0) (pv 1) (nomark _)))))))) ss_nil) ?_
    refine ss_cons (s_if (PW.pt (t_or (t_not (t_val (e_isi .tt rfl (by rfl) bt.isinstance (by rfl) bt.ty_tuple (e_n 0 (pv 0))))) (t_or1 (t_cmp (g_ne hu) (e_m (m_callB g_len (by rfl) bt.len bo_len (a_n 0 (pv 0) a_nil))) (e_m (m_callB g_len (by rfl) bt.len bo_len (a_n 1 (pv 1) a_nil))) (nomark _))))) (ss_one (s_ret (m_e e_bl))) ss_nil) ?_
    refine ss_cons (s_for PassesOwn.never rfl (i_rg1 (by rfl) bt.range (e_m (m_callB g_len (by rfl) bt.len bo_len (a_n 1 (pv 1) a_nil)))) (g_n (i := 2) hN rfl (by first | exact .inl rfl | exact .inr rfl)) (ss_one (s_if (t_not (t_val (e_m (m_call G_self hrs (by rfl) (c_s (e_ix (g_ix hu) (pv 0) (pv 2)) (c_s (e_ix (g_ix hu) (pv 1) (pv 2)) c_nil)))))) (ss_one (s_ret (m_e e_bl))) ss_nil))) ?_
    exact ss_one (s_ret (m_e e_bl))
theorem s_l_opens : FnScope ["lock", "key", "at"] ["lock", "key"] (defScope (topS 14)) := ⟨rfl, rfl, rfl, by decide +kernel, rfl, by decide +kernel, by decide +kernel⟩
theorem d_l_opens (bt : Bt mg) (A : DefAt K "_law_opens" (topS 14)) (X0 : OnK K mg)  : DefOk P w K mg base CX0 ce0 1 "_law_opens" [false, false] F_l_opens := by
  refine A.ok X0 (N := ["lock", "key", "at"]) (k := 0) (f := B_l_opens) s_l_opens rfl (by decide) (fun _ _ _ _ _ _ us hl => match us, hl with | [_, _], _ => rfl) fun cdv AA outer s H E b fa hr => ?_
  have hu := hu_room hr
  have hN := s_l_opens.nd
  exact ss_one (s_ret (m_cmp (g_eq hu) (e_m (m_callB g_len (by rfl) bt.len bo_len (a_f (e_m (m_lc (own := [("at", 2)]) (sl := [2]) rfl hN (i_rg1 (by rfl) bt.range (e_m (m_callB g_len (by rfl) bt.len bo_len (a_n 0 (pv 0) a_nil)))) (blkOk_by (by rfl)) (fun s H C cl fp b => (g_n (i := 2) hN rfl (by first | exact .inl rfl | exact .inr rfl))) (fun s H C cl fp b => ts_one (t_cmp (g_ni hu) (e_ix (g_ix hu) (pv 1) (pv 2)) (e_ix (g_ix hu) (pv 0) (pv 2)) (by with_unfolding_all rfl))) (fun s H C cl fp b => e_n 2 (pv 2)) tgN_len)) a_nil))) e_int (nomark _)))
theorem s_l_moves : FnScope ["house", "stand", "found", "number", "chamber", "cut", "lock"] ["house", "stand"] (defScope (topS 15)) := ⟨rfl, rfl, rfl, by decide +kernel, rfl, by decide +kernel, by decide +kernel⟩
theorem d_l_moves (bt : Bt mg) (A : DefAt K "_law_moves" (topS 15)) (X0 : OnK K mg)  : DefOk P w K mg base CX0 ce0 1 "_law_moves" [false, false] F_l_moves := by
  refine A.ok X0 (N := ["house", "stand", "found", "number", "chamber", "cut", "lock"]) (k := 0) (f := B_l_moves) s_l_moves rfl (by decide) (fun _ _ _ _ _ _ us hl => match us, hl with | [_, _], _ => rfl) fun cdv AA outer s H E b fa hr => ?_
  have hu := hu_room hr
  have hN := s_l_moves.nd
  refine ss_cons (s_setM (i := 2) hN rfl (by first | exact .inl rfl | exact .inr rfl) (m_lst d_nil)) ?_
  refine ss_cons (s_for PassesOwn.never rfl (i_rg1 (by rfl) bt.range (e_m (m_callB g_len (by rfl) bt.len bo_len (a_f (e_ix (g_ix hu) (pv 1) e_int) a_nil)))) (g_n (i := 3) hN rfl (by first | exact .inl rfl | exact .inr rfl)) (ss_one (s_for PassesOwn.never rfl (i_rg1 (by rfl) bt.range (e_ix (g_ix hu) (e_ix (g_ix hu) (pv 0) e_int) e_int)) (g_n (i := 4) hN rfl (by first | exact .inl rfl | exact .inr rfl)) (ss_one (s_for PassesOwn.never rfl (i_rg2 (by rfl) bt.range (e_m (m_op g_add (e_ix (g_ix hu) (e_ix (g_ix hu) (e_ix (g_ix hu) (pv 1) e_int) (pv 3)) (pv 4)) e_int)) (e_ix (g_ix hu) (e_ix (g_ix hu) (pv 0) e_int) e_int)) (g_n (i := 5) hN rfl (by first | exact .inl rfl | exact .inr rfl)) (ss_one (s_expr (e_lm lm_app PySem.F.slot_list_append PySem.F.type_list_append mt_append (pv 2) (d_cons (e_tup (d_cons e_str (d_cons (e_n 3 (pv 3)) (d_cons (e_n 4 (pv 4)) (d_cons (e_n 5 (pv 5)) d_nil))))) d_nil))))))))) ?_
  refine ss_cons (s_if (t_cmp (g_gt hu) (e_ix (g_ix hu) (pv 1) e_int) e_int (nomark _)) (ss_one (s_for PassesOwn.never rfl (i_rg1 (by rfl) bt.range (e_m (m_callB g_len (by rfl) bt.len bo_len (a_f (e_ix (g_ix hu) (pv 1) e_int) a_nil)))) (g_n (i := 3) hN rfl (by first | exact .inl rfl | exact .inr rfl)) (ss_one (s_setM (i := 2) hN rfl (by first | exact .inl rfl | exact .inr rfl) (m_op g_add (pv 2) (e_m (m_lc (own := [("lock", 6)]) (sl := [6]) rfl hN (i_rg1 (by rfl) bt.range (e_m (m_callB g_len (by rfl) bt.len bo_len (a_f (e_ix (g_ix hu) (pv 0) e_int) a_nil)))) (blkOk_by (by rfl)) (fun s H C cl fp b => (g_n (i := 6) hN rfl (by first | exact .inl rfl | exact .inr rfl))) (fun s H C cl fp b => ts_one (t_cmp (g_ne hu) (e_ix (g_ix hu) (e_ix (g_ix hu) (pv 0) e_int) (pv 6)) e_int (nomark _))) (fun s H C cl fp b => e_tup (d_cons e_str (d_cons (e_n 3 (pv 3)) (d_cons (e_n 6 (pv 6)) d_nil)))) tgN_len))))))) ss_nil) ?_
  exact ss_one (s_ret (m_n 2 (pv 2)))
theorem s_l_behind : FnScope ["house", "stand", "move", "hand", "key", "yes", "no", "found", "filed", "k"] ["house", "stand", "move"] (defScope (topS 16)) := ⟨rfl, rfl, rfl, by decide +kernel, rfl, by decide +kernel, by decide +kernel⟩
theorem d_l_behind (bt : Bt mg) (A : DefAt K "_law_behind" (topS 16)) (X0 : OnK K mg) (G_l_opens : DefOk P w K mg base CX0 ce0 1 "_law_opens" [false, false] F_l_opens) : DefOk P w K mg base CX0 ce0 2 "_law_behind" [false, false, false] F_l_behind := by
  refine A.ok X0 (N := ["house", "stand", "move", "hand", "key", "yes", "no", "found", "filed", "k"]) (k := 1) (f := B_l_behind) s_l_behind rfl (by decide) (fun _ _ _ _ _ _ us hl => match us, hl with | [_, _, _], _ => rfl) fun cdv AA outer s H E b fa hr => ?_
  have hu := hu_room hr
  have hN := s_l_behind.nd
  refine ss_cons (s_setE (i := 3) hN rfl (by first | exact .inl rfl | exact .inr rfl) (e_ix (g_ix hu) (pv 1) e_int)) ?_
  refine ss_cons (s_setE (i := 4) hN rfl (by first | exact .inl rfl | exact .inr rfl) (e_ix (g_ix hu) (pv 3) (e_ix (g_ix hu) (pv 2) e_int))) ?_
  refine ss_cons (s_if (t_cmp (g_eq hu) (e_ix (g_ix hu) (pv 2) e_int) e_str (nomark _)) (ss_cons (s_setM (i := 8) hN rfl (by first | exact .inl rfl | exact .inr rfl) (m_op g_add (e_m (m_op g_add (e_m (m_sl (pv 4) p_none (p_some (e_ix (g_ix hu) (pv 2) e_int)))) (e_tup (d_cons (e_ix (g_ix hu) (pv 2) e_int) d_nil)))) (e_m (m_sl (pv 4) (p_some (e_m (m_op g_add (e_ix (g_ix hu) (pv 2) e_int) e_int))) p_none)))) (ss_one (s_ret (m_lst (d_cons (e_tup (d_cons e_non (d_cons (e_tup (d_cons (e_m (m_callTy g_tuple (by rfl) bt.ty_tuple bo_tuple (a_f (e_m (m_callB (g_sorted rfl hu) (by rfl) bt.sorted bo_sorted (a_f (e_m (m_op g_add (e_m (m_op g_add (e_m (m_sl (pv 3) p_none (p_some (e_ix (g_ix hu) (pv 2) e_int)))) (e_tup (d_cons (e_n 8 (pv 8)) d_nil)))) (e_m (m_sl (pv 3) (p_some (e_m (m_op g_add (e_ix (g_ix hu) (pv 2) e_int) e_int))) p_none)))) a_nil))) a_nil))) (d_cons (e_ix (g_ix hu) (pv 1) e_int) (d_cons (e_ix (g_ix hu) (pv 1) e_int) d_nil)))) d_nil))) d_nil))))) ss_nil) ?_
  refine ss_cons (s_setM (i := 5) hN rfl (by first | exact .inl rfl | exact .inr rfl) (m_callTy g_tuple (by rfl) bt.ty_tuple bo_tuple (a_f (e_m (m_lc (own := [("k", 9)]) (sl := [9]) rfl hN (i_sq (e_ix (g_ix hu) (pv 1) e_int)) (blkOk_by (by rfl)) (fun s H C cl fp b => (g_n (i := 9) hN rfl (by first | exact .inl rfl | exact .inr rfl))) (fun s H C cl fp b => ts_one (t_val (e_m (m_call G_l_opens (hr.mono (by decide)) (by rfl) (c_s (e_ix (g_ix hu) (e_ix (g_ix hu) (e_ix (g_ix hu) (pv 0) e_int) (pv 9)) (e_ix (g_ix hu) (pv 2) e_int)) (c_s (e_n 4 (pv 4)) c_nil)))))) (fun s H C cl fp b => e_n 9 (pv 9)) tgN_len)) a_nil))) ?_
  refine ss_cons (s_setM (i := 6) hN rfl (by first | exact .inl rfl | exact .inr rfl) (m_callTy g_tuple (by rfl) bt.ty_tuple bo_tuple (a_f (e_m (m_lc (own := [("k", 9)]) (sl := [9]) rfl hN (i_sq (e_ix (g_ix hu) (pv 1) e_int)) (blkOk_by (by rfl)) (fun s H C cl fp b => (g_n (i := 9) hN rfl (by first | exact .inl rfl | exact .inr rfl))) (fun s H C cl fp b => ts_one (t_cmp (g_ni hu) (pv 9) (pv 5) (by with_unfolding_all rfl))) (fun s H C cl fp b => e_n 9 (pv 9)) tgN_len)) a_nil))) ?_
  refine ss_cons (s_setM (i := 7) hN rfl (by first | exact .inl rfl | exact .inr rfl) (m_lst d_nil)) ?_
  refine ss_cons (s_if (t_cmp (g_gt hu) (e_m (m_callB g_len (by rfl) bt.len bo_len (a_n 6 (pv 6) a_nil))) e_int (nomark _)) (ss_one (s_expr (e_lm lm_app PySem.F.slot_list_append PySem.F.type_list_append mt_append (pv 7) (d_cons (e_tup (d_cons e_bl (d_cons (e_tup (d_cons (e_n 3 (pv 3)) (d_cons (e_n 6 (pv 6)) (d_cons (e_m (m_op g_sub (e_ix (g_ix hu) (pv 1) e_int) e_int)) d_nil)))) d_nil))) d_nil)))) ss_nil) ?_
  refine ss_cons (s_if (t_cmp (g_gt hu) (e_m (m_callB g_len (by rfl) bt.len bo_len (a_n 5 (pv 5) a_nil))) e_int (nomark _)) (ss_one (s_expr (e_lm lm_app PySem.F.slot_list_append PySem.F.type_list_append mt_append (pv 7) (d_cons (e_tup (d_cons e_bl (d_cons (e_tup (d_cons (e_n 3 (pv 3)) (d_cons (e_n 5 (pv 5)) (d_cons (e_m (m_op g_sub (e_ix (g_ix hu) (pv 1) e_int) e_int)) d_nil)))) d_nil))) d_nil)))) ss_nil) ?_
  exact ss_one (s_ret (m_n 7 (pv 7)))
theorem s_l_some : FnScope ["draws", "many", "mask", "k"] ["draws", "many"] (defScope (topS 17)) := ⟨rfl, rfl, rfl, by decide +kernel, rfl, by decide +kernel, by decide +kernel⟩
theorem d_l_some (bt : Bt mg) (A : DefAt K "_law_some" (topS 17)) (X0 : OnK K mg) (G_l_take : DefOk P w K mg base CX0 ce0 1 "_law_take" [true, false] F_l_take) : DefOk P w K mg base CX0 ce0 2 "_law_some" [true, false] F_l_some := by
  refine A.ok X0 (N := ["draws", "many", "mask", "k"]) (k := 1) (f := B_l_some) s_l_some rfl (by decide) (fun _ _ _ _ _ _ us hl => match us, hl with | [_, _], _ => rfl) fun cdv AA outer s H E b fa hr => ?_
  have hu := hu_room hr
  have hN := s_l_some.nd
  refine ss_cons (s_setM (i := 2) hN rfl (by first | exact .inl rfl | exact .inr rfl) (m_op g_add e_int (e_m (m_call G_l_take (hr.mono (by decide)) (by rfl) (c_io 0 (pv 0) (c_s (e_ix (g_ix hu) (e_m (m_lst (d_cons e_int (d_cons e_int (d_cons e_int (d_cons e_int d_nil)))))) (e_m (m_op g_sub (pv 1) e_int))) c_nil)))))) ?_
  exact ss_one (s_ret (m_callTy g_tuple (by rfl) bt.ty_tuple bo_tuple (a_f (e_m (m_lc (own := [("k", 3)]) (sl := [3]) rfl hN (i_rg1 (by rfl) bt.range (e_n 1 (pv 1))) (blkOk_by (by rfl)) (fun s H C cl fp b => (g_n (i := 3) hN rfl (by first | exact .inl rfl | exact .inr rfl))) (fun s H C cl fp b => ts_one (t_cmp (g_eq hu) (e_m (m_op g_mod (e_m (m_callTy g_int (by rfl) bt.ty_int bo_int (a_f (e_m (m_op g_fdv (pv 2) (e_ix (g_ix hu) (e_m (m_lst (d_cons e_int (d_cons e_int (d_cons e_int (d_cons e_int d_nil)))))) (pv 3)))) a_nil))) e_int)) e_int (nomark _))) (fun s H C cl fp b => e_n 3 (pv 3)) tgN_len)) a_nil)))
theorem s_l_pinnings : FnScope ["draws", "key_line", "many", "locks", "found", "k", "pinning", "lock", "chamber"] ["draws", "key_line", "many", "locks"] (defScope (topS 18)) := ⟨rfl, rfl, rfl, by decide +kernel, rfl, by decide +kernel, by decide +kernel⟩
theorem d_l_pinnings (bt : Bt mg) (A : DefAt K "_law_pinnings" (topS 18)) (X0 : OnK K mg) (G_l_some : DefOk P w K mg base CX0 ce0 2 "_law_some" [true, false] F_l_some) (G_l_take : DefOk P w K mg base CX0 ce0 1 "_law_take" [true, false] F_l_take) : DefOk P w K mg base CX0 ce0 3 "_law_pinnings" [true, false, false, false] F_l_pinnings := by
  refine A.ok X0 (N := ["draws", "key_line", "many", "locks", "found", "k", "pinning", "lock", "chamber"]) (k := 2) (f := B_l_pinnings) s_l_pinnings rfl (by decide) (fun _ _ _ _ _ _ us hl => match us, hl with | [_, _, _, _], _ => rfl) fun cdv AA outer s H E b fa hr => ?_
  have hu := hu_room hr
  have hN := s_l_pinnings.nd
  refine ss_cons (s_setM (i := 4) hN rfl (by first | exact .inl rfl | exact .inr rfl) (m_lst d_nil)) ?_
  refine ss_cons (s_for PassesOwn.never rfl (i_rg1 (by rfl) bt.range (e_n 2 (pv 2))) (g_n (i := 5) hN rfl (by first | exact .inl rfl | exact .inr rfl)) (ss_cons (s_setLc (i := 6) (own := [("lock", 7)]) (sl := [7]) rfl hN rfl rfl (by rfl) (i_rg1 (by rfl) bt.range (e_n 3 (pv 3))) (blkOk_by (by rfl)) (fun s H C cl fp b => (g_n (i := 7) hN rfl (by first | exact .inl rfl | exact .inr rfl))) (fun s H C cl fp b => ts_nil) (fun s H C cl fp b => e_m (m_callTy g_tuple (by rfl) bt.ty_tuple bo_tuple (a_f (e_m (m_lc (own := [("chamber", 8)]) (sl := [8]) rfl hN (i_rg1 (by rfl) bt.range (e_ix (g_ix hu) (pv 1) e_int)) (blkOk_by (by rfl)) (fun s H C cl fp b => (g_n (i := 8) hN rfl (by first | exact .inl rfl | exact .inr rfl))) (fun s H C cl fp b => ts_nil) (fun s H C cl fp b => e_m (m_call G_l_some (hr.mono (by decide)) (by rfl) (c_io 0 (pv 0) (c_s (e_ix (g_ix hu) (pv 1) e_int) c_nil)))) tgN_len)) a_nil))) tgN_len) (ss_cons (s_for PassesOwn.never rfl (i_rg1 (by rfl) bt.range (e_n 3 (pv 3))) (g_n (i := 7) hN rfl (by first | exact .inl rfl | exact .inr rfl)) (ss_one (s_if (PW.pt (t_and (t_cmp (g_gt hu) (pv 5) e_int (nomark _)) (t_and1 (t_cmp (g_eq hu) (e_m (m_call G_l_take (hr.mono (by decide)) (by rfl) (c_io 0 (pv 0) (c_s e_int c_nil)))) e_int (nomark _))))) (ss_one (s_sub hu (e_ix (g_ix hu) (e_ix (g_ix hu) (pv 4) e_int) (pv 7)) (pv 6) (e_n 7 (pv 7)))) ss_nil))) (ss_one (s_if (t_cmp (g_ni hu) (e_m (m_callTy g_tuple (by rfl) bt.ty_tuple bo_tuple (a_n 6 (pv 6) a_nil))) (pv 4) (by with_unfolding_all rfl)) (ss_one (s_expr (e_lm lm_app PySem.F.slot_list_append PySem.F.type_list_append mt_append (pv 4) (d_cons (e_m (m_callTy g_tuple (by rfl) bt.ty_tuple bo_tuple (a_n 6 (pv 6) a_nil))) d_nil)))) ss_nil))))) ?_
  exact ss_one (s_ret (m_callTy g_tuple (by rfl) bt.ty_tuple bo_tuple (a_n 4 (pv 4) a_nil)))
theorem s_l_hand : FnScope ["draws", "key_line", "many", "room", "found", "sizes", "rest", "k", "key", "size", "chamber", "up"] ["draws", "key_line", "many", "room"] (defScope (topS 19)) := ⟨rfl, rfl, rfl, by decide +kernel, rfl, by decide +kernel, by decide +kernel⟩
theorem d_l_hand (bt : Bt mg) (A : DefAt K "_law_hand" (topS 19)) (X0 : OnK K mg) (G_l_take : DefOk P w K mg base CX0 ce0 1 "_law_take" [true, false] F_l_take) : DefOk P w K mg base CX0 ce0 2 "_law_hand" [true, false, false, false] F_l_hand := by
  refine A.ok X0 (N := ["draws", "key_line", "many", "room", "found", "sizes", "rest", "k", "key", "size", "chamber", "up"]) (k := 1) (f := B_l_hand) s_l_hand rfl (by decide) (fun _ _ _ _ _ _ us hl => match us, hl with | [_, _, _, _], _ => rfl) fun cdv AA outer s H E b fa hr => ?_
  have hu := hu_room hr
  have hN := s_l_hand.nd
  refine ss_cons (s_setM (i := 4) hN rfl (by first | exact .inl rfl | exact .inr rfl) (m_lst d_nil)) ?_
  refine ss_cons (s_setM (i := 5) hN rfl (by first | exact .inl rfl | exact .inr rfl) (m_lst d_nil)) ?_
  refine ss_cons (s_setE (i := 6) hN rfl (by first | exact .inl rfl | exact .inr rfl) (e_n 3 (pv 3))) ?_
  refine ss_cons (s_for PassesOwn.never rfl (i_rg1 (by rfl) bt.range (e_n 2 (pv 2))) (g_n (i := 7) hN rfl (by first | exact .inl rfl | exact .inr rfl)) (ss_cons (s_setM (i := 8) hN rfl (by first | exact .inl rfl | exact .inr rfl) (m_lst d_nil)) (ss_cons (s_setE (i := 9) hN rfl (by first | exact .inl rfl | exact .inr rfl) e_int) (ss_cons (s_for PassesOwn.never rfl (i_rg1 (by rfl) bt.range (e_ix (g_ix hu) (pv 1) e_int)) (g_n (i := 10) hN rfl (by first | exact .inl rfl | exact .inr rfl)) (ss_cons (s_setM (i := 11) hN rfl (by first | exact .inl rfl | exact .inr rfl) (m_callB (g_min rfl) (by rfl) bt.min bo_min (a_f (e_ix (g_ix hu) (e_m (m_lst (d_cons e_int (d_cons e_int (d_cons e_int (d_cons e_int (d_cons e_int (d_cons e_int (d_cons e_int (d_cons e_int d_nil)))))))))) (e_m (m_call G_l_take (hr.mono (by decide)) (by rfl) (c_io 0 (pv 0) (c_s e_int c_nil))))) (a_f (e_m (m_op g_sub (e_ix (g_ix hu) (pv 1) e_int) e_int)) (a_f (e_m (m_op g_sub (pv 6) e_int)) a_nil))))) (ss_cons (s_setM (i := 6) hN rfl (by first | exact .inl rfl | exact .inr rfl) (m_op g_fdv (pv 6) (e_m (m_op g_add (pv 11) e_int)))) (ss_cons (s_setM (i := 9) hN rfl (by first | exact .inl rfl | exact .inr rfl) (m_op g_mul (pv 9) (e_m (m_op g_add (pv 11) e_int)))) (ss_one (s_expr (e_lm lm_app PySem.F.slot_list_append PySem.F.type_list_append mt_append (pv 8) (d_cons (e_m (m_op g_sub (e_m (m_op g_sub (e_ix (g_ix hu) (pv 1) e_int) e_int)) (pv 11))) d_nil)))))))) (ss_cons (s_expr (e_lm lm_app PySem.F.slot_list_append PySem.F.type_list_append mt_append (pv 4) (d_cons (e_m (m_callTy g_tuple (by rfl) bt.ty_tuple bo_tuple (a_n 8 (pv 8) a_nil))) d_nil))) (ss_one (s_expr (e_lm lm_app PySem.F.slot_list_append PySem.F.type_list_append mt_append (pv 5) (d_cons (e_n 9 (pv 9)) d_nil))))))))) ?_
  refine ss_cons (s_if (PW.pt (t_and (t_cmp (g_eq hu) (e_m (m_call G_l_take (hr.mono (by decide)) (by rfl) (c_io 0 (pv 0) (c_s e_int c_nil)))) e_int (nomark _)) (t_and (t_cmp (g_gt hu) (pv 2) e_int (nomark _)) (t_and1 (t_cmp (g_le hu) (e_m (m_op g_mul (e_m (m_op g_mul (e_ix (g_ix hu) (pv 5) e_int) (e_ix (g_ix hu) (pv 5) e_int))) (e_if (t_cmp (g_gt hu) (pv 2) e_int (nomark _)) (e_ix (g_ix hu) (pv 5) e_int) e_int))) (pv 3) (nomark _)))))) (ss_one (s_sub hu (e_ix (g_ix hu) (pv 4) e_int) (pv 4) (e_neg e_int))) ss_nil) ?_
  refine ss_cons (s_if (t_cmp (g_eq hu) (e_m (m_call G_l_take (hr.mono (by decide)) (by rfl) (c_io 0 (pv 0) (c_s e_int c_nil)))) e_int (nomark _)) (ss_one (s_expr (e_lm0 lm_rev PySem.F.slot_list_reverse PySem.F.type_list_reverse mt_reverse (pv 4)))) ss_nil) ?_
  exact ss_one (s_ret (m_callTy g_tuple (by rfl) bt.ty_tuple bo_tuple (a_n 4 (pv 4) a_nil)))
theorem s_l_house : FnScope ["script", "draws", "most", "step", "key_line", "locks", "tries", "pinnings", "room", "hand", "places", "lock"] ["script", "draws", "most"] (defScope (topS 20)) := ⟨rfl, rfl, rfl, by decide +kernel, rfl, by decide +kernel, by decide +kernel⟩
theorem d_l_house (bt : Bt mg) (A : DefAt K "_law_house" (topS 20)) (X0 : OnK K mg) (G_l_cell : DefOk P w K mg base CX0 ce0 1 "_law_cell" [false, false] F_l_cell) (G_l_take : DefOk P w K mg base CX0 ce0 1 "_law_take" [true, false] F_l_take) (G_l_pinnings : DefOk P w K mg base CX0 ce0 3 "_law_pinnings" [true, false, false, false] F_l_pinnings) (G_l_hand : DefOk P w K mg base CX0 ce0 2 "_law_hand" [true, false, false, false] F_l_hand) : DefOk P w K mg base CX0 ce0 4 "_law_house" [false, true, false] F_l_house := by
  refine A.ok X0 (N := ["script", "draws", "most", "step", "key_line", "locks", "tries", "pinnings", "room", "hand", "places", "lock"]) (k := 3) (f := B_l_house) s_l_house rfl (by decide) (fun _ _ _ _ _ _ us hl => match us, hl with | [_, _, _], _ => rfl) fun cdv AA outer s H E b fa hr => ?_
  have hu := hu_room hr
  have hN := s_l_house.nd
  refine ss_cons (s_setE (i := 3) hN rfl (by first | exact .inl rfl | exact .inr rfl) (e_ix (g_ix hu) (e_m (m_lst (d_cons e_int (d_cons e_int (d_cons e_int (d_cons (e_m (m_callB g_abs (by rfl) bt.abs bo_abs (a_f (e_m (m_call G_l_cell (hr.mono (by decide)) (by rfl) (c_s (e_n 0 (pv 0)) (c_s e_int c_nil)))) a_nil))) d_nil)))))) (e_m (m_call G_l_take (hr.mono (by decide)) (by rfl) (c_io 1 (pv 1) (c_s e_int c_nil)))))) ?_
  refine ss_cons (s_setE (i := 4) hN rfl (by first | exact .inl rfl | exact .inr rfl) (e_tup (d_cons (e_ix (g_ix hu) (e_m (m_lst (d_cons e_int (d_cons e_int (d_cons e_int (d_cons e_int (d_cons e_int (d_cons e_int d_nil)))))))) (e_m (m_call G_l_take (hr.mono (by decide)) (by rfl) (c_io 1 (pv 1) (c_s e_int c_nil))))) (d_cons (e_ix (g_ix hu) (e_m (m_lst (d_cons e_int (d_cons e_int (d_cons e_int (d_cons e_int (d_cons e_int (d_cons e_int (d_cons e_int (d_cons e_int d_nil)))))))))) (e_m (m_call G_l_take (hr.mono (by decide)) (by rfl) (c_io 1 (pv 1) (c_s e_int c_nil))))) (d_cons (e_n 3 (pv 3)) d_nil))))) ?_
  refine ss_cons (s_setE (i := 5) hN rfl (by first | exact .inl rfl | exact .inr rfl) (e_ix (g_ix hu) (e_m (m_lst (d_cons e_int (d_cons e_int (d_cons e_int (d_cons e_int d_nil)))))) (e_m (m_call G_l_take (hr.mono (by decide)) (by rfl) (c_io 1 (pv 1) (c_s e_int c_nil)))))) ?_
  refine ss_cons (s_setE (i := 6) hN rfl (by first | exact .inl rfl | exact .inr rfl) (e_ix (g_ix hu) (e_m (m_lst (d_cons e_int (d_cons e_int (d_cons e_int (d_cons e_int (d_cons e_int (d_cons e_int (d_cons e_int (d_cons e_int d_nil)))))))))) (e_m (m_call G_l_take (hr.mono (by decide)) (by rfl) (c_io 1 (pv 1) (c_s e_int c_nil)))))) ?_
  refine ss_cons (s_setM (i := 7) hN rfl (by first | exact .inl rfl | exact .inr rfl) (m_call G_l_pinnings (hr.mono (by decide)) (by rfl) (c_io 1 (pv 1) (c_s (e_n 4 (pv 4)) (c_s (e_ix (g_ix hu) (e_m (m_lst (d_cons e_int (d_cons e_int (d_cons e_int (d_cons e_int (d_cons e_int (d_cons e_int (d_cons e_int (d_cons e_int d_nil)))))))))) (e_m (m_call G_l_take (hr.mono (by decide)) (by rfl) (c_io 1 (pv 1) (c_s e_int c_nil))))) (c_s (e_n 5 (pv 5)) c_nil)))))) ?_
  refine ss_cons (s_setM (i := 8) hN rfl (by first | exact .inl rfl | exact .inr rfl) (m_callB (g_max rfl) (by rfl) bt.max bo_max (a_f e_int (a_f (e_m (m_op g_fdv (pv 2) (e_m (m_op g_add e_int (e_m (m_op g_mul (pv 6) (e_m (m_op g_sub (e_m (m_op g_mul e_int (e_m (m_callB g_len (by rfl) bt.len bo_len (a_n 7 (pv 7) a_nil))))) e_int)))))))) a_nil)))) ?_
  refine ss_cons (s_if (t_cmp (g_eq hu) (e_m (m_call G_l_take (hr.mono (by decide)) (by rfl) (c_io 1 (pv 1) (c_s e_int c_nil)))) e_int (nomark _)) (ss_one (s_setM (i := 8) hN rfl (by first | exact .inl rfl | exact .inr rfl) (m_op g_mul e_int (pv 2)))) ss_nil) ?_
  refine ss_cons (s_setM (i := 9) hN rfl (by first | exact .inl rfl | exact .inr rfl) (m_call G_l_hand (hr.mono (by decide)) (by rfl) (c_io 1 (pv 1) (c_s (e_n 4 (pv 4)) (c_s (e_ix (g_ix hu) (e_m (m_lst (d_cons e_int (d_cons e_int (d_cons e_int (d_cons e_int d_nil)))))) (e_m (m_call G_l_take (hr.mono (by decide)) (by rfl) (c_io 1 (pv 1) (c_s e_int c_nil))))) (c_s (e_n 8 (pv 8)) c_nil)))))) ?_
  refine ss_cons (s_setM (i := 10) hN rfl (by first | exact .inl rfl | exact .inr rfl) (m_callTy g_tuple (by rfl) bt.ty_tuple bo_tuple (a_f (e_m (m_lc (own := [("lock", 11)]) (sl := [11]) rfl hN (i_rg1 (by rfl) bt.range (e_n 5 (pv 5))) (blkOk_by (by rfl)) (fun s H C cl fp b => (g_n (i := 11) hN rfl (by first | exact .inl rfl | exact .inr rfl))) (fun s H C cl fp b => ts_nil) (fun s H C cl fp b => e_ix (g_ix hu) (e_m (m_lst (d_cons e_int (d_cons e_int (d_cons e_int (d_cons e_int (d_cons e_int d_nil))))))) (e_m (m_call G_l_take (hr.mono (by decide)) (by rfl) (c_io 1 (pv 1) (c_s e_int c_nil))))) tgN_len)) a_nil))) ?_
  exact ss_one (s_ret (m_e (e_tup (d_cons (e_n 4 (pv 4)) (d_cons (e_n 9 (pv 9)) (d_cons (e_n 7 (pv 7)) (d_cons (e_n 10 (pv 10)) (d_cons (e_n 6 (pv 6)) d_nil))))))))
theorem s_l_origin : FnScope ["house"] ["house"] (defScope (topS 21)) := ⟨rfl, rfl, rfl, by decide +kernel, rfl, by decide +kernel, by decide +kernel⟩
theorem d_l_origin (bt : Bt mg) (A : DefAt K "_law_origin" (topS 21)) (X0 : OnK K mg)  : DefOk P w K mg base CX0 ce0 1 "_law_origin" [false] F_l_origin := by
  refine A.ok X0 (N := ["house"]) (k := 0) (f := B_l_origin) s_l_origin rfl (by decide) (fun _ _ _ _ _ _ us hl => match us, hl with | [_], _ => rfl) fun cdv AA outer s H E b fa hr => ?_
  have hu := hu_room hr
  have hN := s_l_origin.nd
  exact ss_one (s_ret (m_e (e_tup (d_cons (e_m (m_callTy g_tuple (by rfl) bt.ty_tuple bo_tuple (a_f (e_m (m_callB (g_sorted rfl hu) (by rfl) bt.sorted bo_sorted (a_f (e_ix (g_ix hu) (pv 0) e_int) a_nil))) a_nil))) (d_cons (e_m (m_tupRg1 rfl (by rfl) bt.range (by rfl) bt.ty_tuple (e_m (m_callB g_len (by rfl) bt.len bo_len (a_f (e_ix (g_ix hu) (pv 0) e_int) a_nil))))) (d_cons (e_ix (g_ix hu) (pv 0) e_int) d_nil))))))
theorem s_l_any_stand : FnScope ["draws", "house", "room", "hand", "some", "one", "k"] ["draws", "house", "room"] (defScope (topS 22)) := ⟨rfl, rfl, rfl, by decide +kernel, rfl, by decide +kernel, by decide +kernel⟩
theorem d_l_any_stand (bt : Bt mg) (A : DefAt K "_law_any_stand" (topS 22)) (X0 : OnK K mg) (G_l_take : DefOk P w K mg base CX0 ce0 1 "_law_take" [true, false] F_l_take) (G_l_hand : DefOk P w K mg base CX0 ce0 2 "_law_hand" [true, false, false, false] F_l_hand) : DefOk P w K mg base CX0 ce0 3 "_law_any_stand" [true, false, false] F_l_any_stand := by
  refine A.ok X0 (N := ["draws", "house", "room", "hand", "some", "one", "k"]) (k := 2) (f := B_l_any_stand) s_l_any_stand rfl (by decide) (fun _ _ _ _ _ _ us hl => match us, hl with | [_, _, _], _ => rfl) fun cdv AA outer s H E b fa hr => ?_
  have hu := hu_room hr
  have hN := s_l_any_stand.nd
  refine ss_cons (s_setM (i := 3) hN rfl (by first | exact .inl rfl | exact .inr rfl) (m_call G_l_hand (hr.mono (by decide)) (by rfl) (c_io 0 (pv 0) (c_s (e_ix (g_ix hu) (pv 1) e_int) (c_s (e_m (m_op g_add e_int (e_m (m_call G_l_take (hr.mono (by decide)) (by rfl) (c_io 0 (pv 0) (c_s e_int c_nil)))))) (c_s (e_n 2 (pv 2)) c_nil)))))) ?_
  refine ss_cons (s_setM (i := 4) hN rfl (by first | exact .inl rfl | exact .inr rfl) (m_callTy g_tuple (by rfl) bt.ty_tuple bo_tuple (a_f (e_m (m_lc (own := [("k", 6)]) (sl := [6]) rfl hN (i_rg1 (by rfl) bt.range (e_m (m_callB g_len (by rfl) bt.len bo_len (a_f (e_ix (g_ix hu) (pv 1) e_int) a_nil)))) (blkOk_by (by rfl)) (fun s H C cl fp b => (g_n (i := 6) hN rfl (by first | exact .inl rfl | exact .inr rfl))) (fun s H C cl fp b => ts_one (t_cmp (g_eq hu) (e_m (m_call G_l_take (hr.mono (by decide)) (by rfl) (c_io 0 (pv 0) (c_s e_int c_nil)))) e_int (nomark _))) (fun s H C cl fp b => e_n 6 (pv 6)) tgN_len)) a_nil))) ?_
  refine ss_cons (s_setM (i := 5) hN rfl (by first | exact .inl rfl | exact .inr rfl) (m_call G_l_take (hr.mono (by decide)) (by rfl) (c_io 0 (pv 0) (c_s (e_m (m_callB g_len (by rfl) bt.len bo_len (a_f (e_ix (g_ix hu) (pv 1) e_int) a_nil))) c_nil)))) ?_
  refine ss_cons (s_if (t_cmp (g_eq hu) (e_m (m_callB g_len (by rfl) bt.len bo_len (a_n 4 (pv 4) a_nil))) e_int (nomark _)) (ss_one (s_setE (i := 4) hN rfl (by first | exact .inl rfl | exact .inr rfl) (e_tup (d_cons (e_n 5 (pv 5)) d_nil)))) ss_nil) ?_
  exact ss_one (s_ret (m_e (e_tup (d_cons (e_m (m_callTy g_tuple (by rfl) bt.ty_tuple bo_tuple (a_f (e_m (m_callB (g_sorted rfl hu) (by rfl) bt.sorted bo_sorted (a_n 3 (pv 3) a_nil))) a_nil))) (d_cons (e_n 4 (pv 4)) (d_cons (e_ix (g_ix hu) (e_m (m_lst (d_cons e_int (d_cons e_int (d_cons e_int (d_cons e_int (d_cons e_int (d_cons e_int d_nil)))))))) (e_m (m_call G_l_take (hr.mono (by decide)) (by rfl) (c_io 0 (pv 0) (c_s e_int c_nil))))) d_nil))))))
theorem s_l_move_right : FnScope ["house", "stand", "move", "results", "due", "result", "enters"] ["house", "stand", "move"] (defScope (topS 23)) := ⟨rfl, rfl, rfl, by decide +kernel, rfl, by decide +kernel, by decide +kernel⟩
theorem d_l_move_right (bt : Bt mg) (A : DefAt K "_law_move_right" (topS 23)) (X0 : OnK K mg) (G_l_behind : DefOk P w K mg base CX0 ce0 2 "_law_behind" [false, false, false] F_l_behind) (G_answers : DefOk P w K mg base CX0 ce0 3 "answers" [false, false, false] F_answers) (G_l_same : DefOk P w K mg base CX0 ce0 9 "_law_same" [false, false] (F_l_same 8)) (G_after : DefOk P w K mg base CX0 ce0 3 "after" [false, false, false, false] F_after) (G_comes_in : DefOk P w K mg base CX0 ce0 1 "comes_in" [false, false, false, false] F_comes_in) : DefOk P w K mg base CX0 ce0 10 "_law_move_right" [false, false, false] F_l_move_right := by
  refine A.ok X0 (N := ["house", "stand", "move", "results", "due", "result", "enters"]) (k := 9) (f := B_l_move_right) s_l_move_right rfl (by decide) (fun _ _ _ _ _ _ us hl => match us, hl with | [_, _, _], _ => rfl) fun cdv AA outer s H E b fa hr => ?_
  have hu := hu_room hr
  have hN := s_l_move_right.nd
  refine ss_cons (s_setM (i := 3) hN rfl (by first | exact .inl rfl | exact .inr rfl) (m_call G_l_behind (hr.mono (by decide)) (by rfl) (c_s (e_n 0 (pv 0)) (c_s (e_n 1 (pv 1)) (c_s (e_n 2 (pv 2)) c_nil))))) ?_
  refine ss_cons (s_setM (i := 4) hN rfl (by first | exact .inl rfl | exact .inr rfl) (m_callTy g_tuple (by rfl) bt.ty_tuple bo_tuple (a_f (e_m (m_lc (own := [("result", 5)]) (sl := [5]) rfl hN (i_sq (e_n 3 (pv 3))) (blkOk_by (by rfl)) (fun s H C cl fp b => (g_n (i := 5) hN rfl (by first | exact .inl rfl | exact .inr rfl))) (fun s H C cl fp b => ts_one (t_cmp g_nis (e_ix (g_ix hu) (pv 5) e_int) e_non (nomark _))) (fun s H C cl fp b => e_ix (g_ix hu) (pv 5) e_int) tgN_len)) a_nil))) ?_
  refine ss_cons (s_if (t_not (t_val (e_m (m_call G_l_same (hr.mono (by decide)) (by rfl) (c_s (e_m (m_call G_answers (hr.mono (by decide)) (by rfl) (c_s (e_n 0 (pv 0)) (c_s (e_n 1 (pv 1)) (c_s (e_n 2 (pv 2)) c_nil))))) (c_s (e_n 4 (pv 4)) c_nil)))))) (ss_one (s_ret (m_e e_bl))) ss_nil) ?_
  refine ss_cons (s_for PassesOwn.never rfl (i_sq (e_n 3 (pv 3))) (g_n (i := 5) hN rfl (by first | exact .inl rfl | exact .inr rfl)) (ss_cons (s_if (t_not (t_val (e_m (m_call G_l_same (hr.mono (by decide)) (by rfl) (c_s (e_m (m_call G_after (hr.mono (by decide)) (by rfl) (c_s (e_n 0 (pv 0)) (c_s (e_n 1 (pv 1)) (c_s (e_n 2 (pv 2)) (c_s (e_ix (g_ix hu) (pv 5) e_int) c_nil)))))) (c_s (e_ix (g_ix hu) (pv 5) e_int) c_nil)))))) (ss_one (s_ret (m_e e_bl))) ss_nil) (ss_cons (s_setE (i := 6) hN rfl (by first | exact .inl rfl | exact .inr rfl) (e_and (e_m (m_cmp g_is (e_ix (g_ix hu) (pv 5) e_int) e_bl (nomark _))) (e_one (e_m (m_cmp (g_eq hu) (e_ix (g_ix hu) (e_ix (g_ix hu) (pv 0) e_int) (e_ix (g_ix hu) (pv 2) e_int)) e_int (nomark _)))))) (ss_one (s_if (t_not (t_val (e_m (m_call G_l_same (hr.mono (by decide)) (by rfl) (c_s (e_m (m_call G_comes_in (hr.mono (by decide)) (by rfl) (c_s (e_n 0 (pv 0)) (c_s (e_n 1 (pv 1)) (c_s (e_n 2 (pv 2)) (c_s (e_ix (g_ix hu) (pv 5) e_int) c_nil)))))) (c_s (e_n 6 (pv 6)) c_nil)))))) (ss_one (s_ret (m_e e_bl))) ss_nil))))) ?_
  exact ss_one (s_ret (m_e e_bl))
theorem s_l_walk_right : FnScope ["draws", "house", "stand", "many", "k", "row", "move", "at", "results"] ["draws", "house", "stand", "many"] (defScope (topS 24)) := ⟨rfl, rfl, rfl, by decide +kernel, rfl, by decide +kernel, by decide +kernel⟩
theorem d_l_walk_right (bt : Bt mg) (A : DefAt K "_law_walk_right" (topS 24)) (X0 : OnK K mg) (G_l_moves : DefOk P w K mg base CX0 ce0 1 "_law_moves" [false, false] F_l_moves) (G_l_move_right : DefOk P w K mg base CX0 ce0 10 "_law_move_right" [false, false, false] F_l_move_right) (G_l_take : DefOk P w K mg base CX0 ce0 1 "_law_take" [true, false] F_l_take) (G_l_behind : DefOk P w K mg base CX0 ce0 2 "_law_behind" [false, false, false] F_l_behind) : DefOk P w K mg base CX0 ce0 11 "_law_walk_right" [true, false, false, false] F_l_walk_right := by
  refine A.ok X0 (N := ["draws", "house", "stand", "many", "k", "row", "move", "at", "results"]) (k := 10) (f := B_l_walk_right) s_l_walk_right rfl (by decide) (fun _ _ _ _ _ _ us hl => match us, hl with | [_, _, _, _], _ => rfl) fun cdv AA outer s H E b fa hr => ?_
  have hu := hu_room hr
  have hN := s_l_walk_right.nd
  refine ss_cons (s_for PassesOwn.never rfl (i_rg1 (by rfl) bt.range (e_n 3 (pv 3))) (g_n (i := 4) hN rfl (by first | exact .inl rfl | exact .inr rfl)) (ss_cons (s_setM (i := 5) hN rfl (by first | exact .inl rfl | exact .inr rfl) (m_call G_l_moves (hr.mono (by decide)) (by rfl) (c_s (e_n 1 (pv 1)) (c_s (e_n 2 (pv 2)) c_nil)))) (ss_cons (s_for PassesOwn.never rfl (i_sq (e_n 5 (pv 5))) (g_n (i := 6) hN rfl (by first | exact .inl rfl | exact .inr rfl)) (ss_one (s_if (t_not (t_val (e_m (m_call G_l_move_right (hr.mono (by decide)) (by rfl) (c_s (e_n 1 (pv 1)) (c_s (e_n 2 (pv 2)) (c_s (e_n 6 (pv 6)) c_nil))))))) (ss_one (s_ret (m_e e_bl))) ss_nil))) (ss_cons (s_if (t_cmp (g_eq hu) (e_m (m_callB g_len (by rfl) bt.len bo_len (a_n 5 (pv 5) a_nil))) e_int (nomark _)) (ss_one s_break) ss_nil) (ss_cons (s_setM (i := 7) hN rfl (by first | exact .inl rfl | exact .inr rfl) (m_call G_l_take (hr.mono (by decide)) (by rfl) (c_io 0 (pv 0) (c_s (e_m (m_callB g_len (by rfl) bt.len bo_len (a_n 5 (pv 5) a_nil))) c_nil)))) (ss_cons (s_if (PW.pt (t_and (t_cmp (g_gt hu) (e_ix (g_ix hu) (pv 2) e_int) e_int (nomark _)) (t_and1 (t_cmp (g_eq hu) (e_m (m_call G_l_take (hr.mono (by decide)) (by rfl) (c_io 0 (pv 0) (c_s e_int c_nil)))) e_int (nomark _))))) (ss_one (s_setM (i := 7) hN rfl (by first | exact .inl rfl | exact .inr rfl) (m_op g_sub (e_m (m_op g_sub (e_m (m_callB g_len (by rfl) bt.len bo_len (a_n 5 (pv 5) a_nil))) e_int)) (e_m (m_call G_l_take (hr.mono (by decide)) (by rfl) (c_io 0 (pv 0) (c_s (e_m (m_callB (g_min rfl) (by rfl) bt.min bo_min (a_f (e_m (m_callB g_len (by rfl) bt.len bo_len (a_n 5 (pv 5) a_nil))) (a_f e_int a_nil)))) c_nil))))))) ss_nil) (ss_cons (s_setM (i := 8) hN rfl (by first | exact .inl rfl | exact .inr rfl) (m_call G_l_behind (hr.mono (by decide)) (by rfl) (c_s (e_n 1 (pv 1)) (c_s (e_n 2 (pv 2)) (c_s (e_ix (g_ix hu) (pv 5) (pv 7)) c_nil))))) (ss_cons (s_if (t_not (t_val (e_m (m_call G_l_move_right (hr.mono (by decide)) (by rfl) (c_s (e_n 1 (pv 1)) (c_s (e_n 2 (pv 2)) (c_s (e_ix (g_ix hu) (pv 5) (pv 7)) c_nil))))))) (ss_one (s_ret (m_e e_bl))) ss_nil) (ss_one (s_setE (i := 2) hN rfl (by first | exact .inl rfl | exact .inr rfl) (e_ix (g_ix hu) (e_ix (g_ix hu) (pv 8) (e_m (m_call G_l_take (hr.mono (by decide)) (by rfl) (c_io 0 (pv 0) (c_s (e_m (m_callB g_len (by rfl) bt.len bo_len (a_n 8 (pv 8) a_nil))) c_nil))))) e_int))))))))))) ?_
  exact ss_one (s_ret (m_e e_bl))
theorem s_l_known_right : FnScope ["depths", "cut", "place", "tries", "others", "house", "keys", "number", "stand", "move", "told", "one"] ["depths", "cut", "place", "tries"] (defScope (topS 25)) := ⟨rfl, rfl, rfl, by decide +kernel, rfl, by decide +kernel, by decide +kernel⟩
theorem d_l_known_right (bt : Bt mg) (A : DefAt K "_law_known_right" (topS 25)) (X0 : OnK K mg) (G_answers : DefOk P w K mg base CX0 ce0 3 "answers" [false, false, false] F_answers) (G_l_same : DefOk P w K mg base CX0 ce0 9 "_law_same" [false, false] (F_l_same 8)) (G_after : DefOk P w K mg base CX0 ce0 3 "after" [false, false, false, false] F_after) (G_comes_in : DefOk P w K mg base CX0 ce0 1 "comes_in" [false, false, false, false] F_comes_in) : DefOk P w K mg base CX0 ce0 10 "_law_known_right" [false, false, false, false] F_l_known_right := by
  refine A.ok X0 (N := ["depths", "cut", "place", "tries", "others", "house", "keys", "number", "stand", "move", "told", "one"]) (k := 9) (f := B_l_known_right) s_l_known_right rfl (by decide) (fun _ _ _ _ _ _ us hl => match us, hl with | [_, _, _, _], _ => rfl) fun cdv AA outer s H E b fa hr => ?_
  have hu := hu_room hr
  have hN := s_l_known_right.nd
  refine ss_cons (s_setM (i := 4) hN rfl (by first | exact .inl rfl | exact .inr rfl) (m_callTy g_tuple (by rfl) bt.ty_tuple bo_tuple (a_f (e_m (m_lc (own := [("one", 11)]) (sl := [11]) rfl hN (i_rg1 (by rfl) bt.range (e_n 0 (pv 0))) (blkOk_by (by rfl)) (fun s H C cl fp b => (g_n (i := 11) hN rfl (by first | exact .inl rfl | exact .inr rfl))) (fun s H C cl fp b => ts_one (t_cmp (g_ne hu) (pv 11) (pv 1) (nomark _))) (fun s H C cl fp b => e_n 11 (pv 11)) tgN_len)) a_nil))) ?_
  refine ss_cons (s_setE (i := 5) hN rfl (by first | exact .inl rfl | exact .inr rfl) (e_tup (d_cons (e_tup (d_cons e_int (d_cons (e_n 0 (pv 0)) (d_cons e_int d_nil)))) (d_cons (e_tup (d_cons (e_tup (d_cons (e_n 1 (pv 1)) d_nil)) (d_cons (e_tup (d_cons e_int d_nil)) d_nil))) (d_cons (e_tup (d_cons (e_tup (d_cons (e_tup (d_cons (e_tup (d_cons (e_n 1 (pv 1)) d_nil)) d_nil)) d_nil)) (d_cons (e_tup (d_cons (e_tup (d_cons (e_n 4 (pv 4)) d_nil)) d_nil)) d_nil))) (d_cons (e_tup (d_cons (e_n 2 (pv 2)) d_nil)) (d_cons (e_n 3 (pv 3)) d_nil))))))) ?_
  refine ss_cons (s_setE (i := 6) hN rfl (by first | exact .inl rfl | exact .inr rfl) (e_tpx (by rfl) bt.ty_tuple (e_m (m_callB (g_sorted rfl hu) (by rfl) bt.sorted bo_sorted (a_f (e_ix (g_ix hu) (pv 5) e_int) a_nil))))) ?_
  refine ss_cons (s_setE (i := 7) hN rfl (by first | exact .inl rfl | exact .inr rfl) (e_m (m_mt isT_tpx (mt_tidx hu) PySem.F.plainAttrs_tuple PySem.F.slot_tuple_index PySem.F.type_tuple_index (pv 6) (a_f (e_tup (d_cons (e_n 1 (pv 1)) d_nil)) a_nil)))) ?_
  refine ss_cons (s_setE (i := 8) hN rfl (by first | exact .inl rfl | exact .inr rfl) (e_tup (d_cons (e_tp (e_n 6 (pv 6))) (d_cons (e_tup (d_cons e_int (d_cons e_int d_nil))) (d_cons (e_n 3 (pv 3)) d_nil))))) ?_
  refine ss_cons (s_setE (i := 9) hN rfl (by first | exact .inl rfl | exact .inr rfl) (e_tup (d_cons e_str (d_cons (e_n 7 (pv 7)) (d_cons e_int d_nil))))) ?_
  refine ss_cons (s_if (t_not (t_val (e_m (m_call G_l_same (hr.mono (by decide)) (by rfl) (c_s (e_m (m_call G_answers (hr.mono (by decide)) (by rfl) (c_s (e_n 5 (pv 5)) (c_s (e_n 8 (pv 8)) (c_s (e_n 9 (pv 9)) c_nil))))) (c_s (e_tup (d_cons e_bl (d_cons e_bl d_nil))) c_nil)))))) (ss_one (s_ret (m_e e_bl))) ss_nil) ?_
  refine ss_cons (s_if (t_not (t_val (e_m (m_call G_l_same (hr.mono (by decide)) (by rfl) (c_s (e_m (m_call G_after (hr.mono (by decide)) (by rfl) (c_s (e_n 5 (pv 5)) (c_s (e_n 8 (pv 8)) (c_s (e_n 9 (pv 9)) (c_s e_bl c_nil)))))) (c_s (e_tup (d_cons (e_tp (e_n 6 (pv 6))) (d_cons (e_tup (d_cons e_int d_nil)) (d_cons (e_m (m_op g_sub (pv 3) e_int)) d_nil)))) c_nil)))))) (ss_one (s_ret (m_e e_bl))) ss_nil) ?_
  refine ss_cons (s_if (t_not (t_val (e_m (m_call G_l_same (hr.mono (by decide)) (by rfl) (c_s (e_m (m_call G_after (hr.mono (by decide)) (by rfl) (c_s (e_n 5 (pv 5)) (c_s (e_n 8 (pv 8)) (c_s (e_n 9 (pv 9)) (c_s e_bl c_nil)))))) (c_s (e_tup (d_cons (e_tp (e_n 6 (pv 6))) (d_cons (e_tup (d_cons e_int d_nil)) (d_cons (e_m (m_op g_sub (pv 3) e_int)) d_nil)))) c_nil)))))) (ss_one (s_ret (m_e e_bl))) ss_nil) ?_
  refine ss_cons (s_setM (i := 10) hN rfl (by first | exact .inl rfl | exact .inr rfl) (m_lst (d_cons (e_m (m_call G_comes_in (hr.mono (by decide)) (by rfl) (c_s (e_n 5 (pv 5)) (c_s (e_n 8 (pv 8)) (c_s (e_n 9 (pv 9)) (c_s e_bl c_nil)))))) (d_cons (e_m (m_call G_comes_in (hr.mono (by decide)) (by rfl) (c_s (e_n 5 (pv 5)) (c_s (e_n 8 (pv 8)) (c_s (e_n 9 (pv 9)) (c_s e_bl c_nil)))))) d_nil)))) ?_
  refine ss_cons (s_if (t_not (t_val (e_m (m_call G_l_same (hr.mono (by decide)) (by rfl) (c_s (e_m (m_callTy g_tuple (by rfl) bt.ty_tuple bo_tuple (a_n 10 (pv 10) a_nil))) (c_s (e_tup (d_cons e_bl (d_cons (e_m (m_cmp (g_eq hu) (pv 2) e_int (nomark _))) d_nil))) c_nil)))))) (ss_one (s_ret (m_e e_bl))) ss_nil) ?_
  exact ss_one (s_ret (m_call G_l_same (hr.mono (by decide)) (by rfl) (c_s (e_m (m_call G_answers (hr.mono (by decide)) (by rfl) (c_s (e_n 5 (pv 5)) (c_s (e_tup (d_cons (e_tp (e_n 6 (pv 6))) (d_cons (e_tup (d_cons e_int d_nil)) (d_cons (e_n 3 (pv 3)) d_nil)))) (c_s (e_n 9 (pv 9)) c_nil))))) (c_s (e_tup (d_cons e_bl d_nil)) c_nil))))
theorem s_l_results : FnScope ["house", "stand", "move", "found", "result"] ["house", "stand", "move"] (defScope (topS 26)) := ⟨rfl, rfl, rfl, by decide +kernel, rfl, by decide +kernel, by decide +kernel⟩
theorem d_l_results (bt : Bt mg) (A : DefAt K "_law_results" (topS 26)) (X0 : OnK K mg) (G_l_behind : DefOk P w K mg base CX0 ce0 2 "_law_behind" [false, false, false] F_l_behind) : DefOk P w K mg base CX0 ce0 3 "_law_results" [false, false, false] F_l_results := by
  refine A.ok X0 (N := ["house", "stand", "move", "found", "result"]) (k := 2) (f := B_l_results) s_l_results rfl (by decide) (fun _ _ _ _ _ _ us hl => match us, hl with | [_, _, _], _ => rfl) fun cdv AA outer s H E b fa hr => ?_
  have hu := hu_room hr
  have hN := s_l_results.nd
  refine ss_cons (s_setM (i := 3) hN rfl (by first | exact .inl rfl | exact .inr rfl) (m_lst d_nil)) ?_
  refine ss_cons (s_for PassesOwn.never rfl (i_sq (e_m (m_call G_l_behind (hr.mono (by decide)) (by rfl) (c_s (e_n 0 (pv 0)) (c_s (e_n 1 (pv 1)) (c_s (e_n 2 (pv 2)) c_nil)))))) (g_n (i := 4) hN rfl (by first | exact .inl rfl | exact .inr rfl)) (ss_one (s_if (PW.pt (t_and (t_cmp g_is (e_ix (g_ix hu) (pv 4) e_int) e_bl (nomark _)) (t_and1 (t_cmp (g_eq hu) (e_ix (g_ix hu) (e_ix (g_ix hu) (pv 0) e_int) (e_ix (g_ix hu) (pv 2) e_int)) e_int (nomark _))))) (ss_one (s_expr (e_lm lm_app PySem.F.slot_list_append PySem.F.type_list_append mt_append (pv 3) (d_cons (e_tup (d_cons e_bl (d_cons e_non d_nil))) d_nil)))) (ss_one (s_expr (e_lm lm_app PySem.F.slot_list_append PySem.F.type_list_append mt_append (pv 3) (d_cons (e_n 4 (pv 4)) d_nil))))))) ?_
  exact ss_one (s_ret (m_n 3 (pv 3)))
theorem s_l_met : FnScope ["house", "first", "most", "order", "known", "stand", "rows", "k", "row", "pair", "result", "move"] ["house", "first", "most"] (defScope (topS 27)) := ⟨rfl, rfl, rfl, by decide +kernel, rfl, by decide +kernel, by decide +kernel⟩
theorem d_l_met (bt : Bt mg) (A : DefAt K "_law_met" (topS 27)) (X0 : OnK K mg) (G_l_moves : DefOk P w K mg base CX0 ce0 1 "_law_moves" [false, false] F_l_moves) (G_l_results : DefOk P w K mg base CX0 ce0 3 "_law_results" [false, false, false] F_l_results) : DefOk P w K mg base CX0 ce0 4 "_law_met" [false, false, false] F_l_met := by
  refine A.ok X0 (N := ["house", "first", "most", "order", "known", "stand", "rows", "k", "row", "pair", "result", "move"]) (k := 3) (f := B_l_met) s_l_met rfl (by decide) (fun _ _ _ _ _ _ us hl => match us, hl with | [_, _, _], _ => rfl) fun cdv AA outer s H E b fa hr => ?_
  have hu := hu_room hr
  have hN := s_l_met.nd
  refine ss_cons (s_setM (i := 3) hN rfl (by first | exact .inl rfl | exact .inr rfl) (m_lst d_nil)) ?_
  refine ss_cons (s_setM (i := 4) hN rfl (by first | exact .inl rfl | exact .inr rfl) (m_d0 true)) ?_
  refine ss_cons (s_for PassesOwn.never rfl (i_sq (e_n 1 (pv 1))) (g_n (i := 5) hN rfl (by first | exact .inl rfl | exact .inr rfl)) (ss_one (s_if (t_cmp (g_ni hu) (pv 5) (pv 4) (by with_unfolding_all rfl)) (ss_cons (s_sub hu e_bl (pv 4) (e_n 5 (pv 5))) (ss_one (s_expr (e_lm lm_app PySem.F.slot_list_append PySem.F.type_list_append mt_append (pv 3) (d_cons (e_n 5 (pv 5)) d_nil))))) ss_nil))) ?_
  refine ss_cons (s_setM (i := 6) hN rfl (by first | exact .inl rfl | exact .inr rfl) (m_d0 true)) ?_
  refine ss_cons (s_for PassesOwn.never rfl (i_rg1 (by rfl) bt.range (e_n 2 (pv 2))) (g_n (i := 7) hN rfl (by first | exact .inl rfl | exact .inr rfl)) (ss_cons (s_if (t_cmp (g_ge hu) (pv 7) (e_m (m_callB g_len (by rfl) bt.len bo_len (a_n 3 (pv 3) a_nil))) (nomark _)) (ss_one (s_ret (m_n 6 (pv 6)))) ss_nil) (ss_cons (s_setLc (i := 8) (own := [("move", 11)]) (sl := [11]) rfl hN rfl rfl (by rfl) (i_sq (e_m (m_call G_l_moves (hr.mono (by decide)) (by rfl) (c_s (e_n 0 (pv 0)) (c_s (e_ix (g_ix hu) (pv 3) (pv 7)) c_nil))))) (blkOk_by (by rfl)) (fun s H C cl fp b => (g_n (i := 11) hN rfl (by first | exact .inl rfl | exact .inr rfl))) (fun s H C cl fp b => ts_nil) (fun s H C cl fp b => e_tup (d_cons (e_n 11 (pv 11)) (d_cons (e_m (m_call G_l_results (hr.mono (by decide)) (by rfl) (c_s (e_n 0 (pv 0)) (c_s (e_ix (g_ix hu) (pv 3) (pv 7)) (c_s (e_n 11 (pv 11)) c_nil))))) d_nil))) tgN_len) (ss_cons (s_for PassesOwn.never rfl (i_sq (e_n 8 (pv 8))) (g_n (i := 9) hN rfl (by first | exact .inl rfl | exact .inr rfl)) (ss_one (s_for PassesOwn.never rfl (i_sq (e_ix (g_ix hu) (pv 9) e_int)) (g_n (i := 10) hN rfl (by first | exact .inl rfl | exact .inr rfl)) (ss_one (s_if (PW.pt (t_and (t_cmp g_nis (e_ix (g_ix hu) (pv 10) e_int) e_non (nomark _)) (t_and1 (t_cmp (g_ni hu) (e_ix (g_ix hu) (pv 10) e_int) (pv 4) (by with_unfolding_all rfl))))) (ss_cons (s_sub hu e_bl (pv 4) (e_ix (g_ix hu) (pv 10) e_int)) (ss_one (s_expr (e_lm lm_app PySem.F.slot_list_append PySem.F.type_list_append mt_append (pv 3) (d_cons (e_ix (g_ix hu) (pv 10) e_int) d_nil))))) ss_nil))))) (ss_cons (s_if (t_cmp (g_gt hu) (e_m (m_callB g_len (by rfl) bt.len bo_len (a_n 3 (pv 3) a_nil))) (pv 2) (nomark _)) (ss_one (s_ret (m_e e_non))) ss_nil) (ss_one (s_sub hu (e_n 8 (pv 8)) (pv 6) (e_ix (g_ix hu) (pv 3) (pv 7))))))))) ?_
  exact ss_one (s_ret (m_n 6 (pv 6)))
theorem s_l_fitting : FnScope ["house", "most", "less", "deep", "tried_house", "rows"] ["house", "most"] (defScope (topS 28)) := ⟨rfl, rfl, rfl, by decide +kernel, rfl, by decide +kernel, by decide +kernel⟩
theorem d_l_fitting (bt : Bt mg) (A : DefAt K "_law_fitting" (topS 28)) (X0 : OnK K mg) (G_l_origin : DefOk P w K mg base CX0 ce0 1 "_law_origin" [false] F_l_origin) (G_l_met : DefOk P w K mg base CX0 ce0 4 "_law_met" [false, false, false] F_l_met) : DefOk P w K mg base CX0 ce0 5 "_law_fitting" [false, false] F_l_fitting := by
  refine A.ok X0 (N := ["house", "most", "less", "deep", "tried_house", "rows"]) (k := 4) (f := B_l_fitting) s_l_fitting rfl (by decide) (fun _ _ _ _ _ _ us hl => match us, hl with | [_, _], _ => rfl) fun cdv AA outer s H E b fa hr => ?_
  have hu := hu_room hr
  have hN := s_l_fitting.nd
  refine ss_cons (s_for PassesOwn.never rfl (i_rg1 (by rfl) bt.range (e_m (m_op g_add (e_ix (g_ix hu) (pv 0) e_int) e_int))) (g_n (i := 2) hN rfl (by first | exact .inl rfl | exact .inr rfl)) (ss_cons (s_setM (i := 4) hN rfl (by first | exact .inl rfl | exact .inr rfl) (m_op g_add (e_m (m_sl (pv 0) p_none (p_some e_int))) (e_tup (d_cons (e_m (m_op g_sub (e_ix (g_ix hu) (pv 0) e_int) (pv 2))) d_nil)))) (ss_cons (s_setM (i := 5) hN rfl (by first | exact .inl rfl | exact .inr rfl) (m_call G_l_met (hr.mono (by decide)) (by rfl) (c_s (e_n 4 (pv 4)) (c_s (e_m (m_lst (d_cons (e_m (m_call G_l_origin (hr.mono (by decide)) (by rfl) (c_s (e_n 4 (pv 4)) c_nil))) d_nil))) (c_s (e_n 1 (pv 1)) c_nil))))) (ss_one (s_if (t_cmp g_nis (pv 5) e_non (nomark _)) (ss_one (s_ret (m_e (e_tup (d_cons (e_n 4 (pv 4)) (d_cons (e_n 5 (pv 5)) d_nil)))))) ss_nil))))) ?_
  refine ss_cons (s_setM (i := 3) hN rfl (by first | exact .inl rfl | exact .inr rfl) (m_op g_mul (e_tup (d_cons (e_m (m_op g_mul (e_tup (d_cons (e_m (m_op g_sub (e_ix (g_ix hu) (e_ix (g_ix hu) (pv 0) e_int) e_int) e_int)) d_nil)) (e_ix (g_ix hu) (e_ix (g_ix hu) (pv 0) e_int) e_int))) d_nil)) (e_m (m_callB g_len (by rfl) bt.len bo_len (a_f (e_ix (g_ix hu) (pv 0) e_int) a_nil))))) ?_
  refine ss_cons (s_setM (i := 4) hN rfl (by first | exact .inl rfl | exact .inr rfl) (m_op g_add (e_m (m_op g_add (e_tup (d_cons (e_ix (g_ix hu) (pv 0) e_int) (d_cons (e_n 3 (pv 3)) d_nil))) (e_m (m_sl (pv 0) (p_some e_int) (p_some e_int))))) (e_tup (d_cons e_int d_nil)))) ?_
  exact ss_one (s_ret (m_e (e_tup (d_cons (e_n 4 (pv 4)) (d_cons (e_m (m_call G_l_met (hr.mono (by decide)) (by rfl) (c_s (e_n 4 (pv 4)) (c_s (e_m (m_lst (d_cons (e_m (m_call G_l_origin (hr.mono (by decide)) (by rfl) (c_s (e_n 4 (pv 4)) c_nil))) d_nil))) (c_s (e_n 1 (pv 1)) c_nil))))) d_nil)))))
theorem s_l_drawn_course : FnScope ["draws", "house", "stand", "many", "course", "stands", "k", "row", "move", "results", "result"] ["draws", "house", "stand", "many"] (defScope (topS 29)) := ⟨rfl, rfl, rfl, by decide +kernel, rfl, by decide +kernel, by decide +kernel⟩
theorem d_l_drawn_course (bt : Bt mg) (A : DefAt K "_law_drawn_course" (topS 29)) (X0 : OnK K mg) (G_l_moves : DefOk P w K mg base CX0 ce0 1 "_law_moves" [false, false] F_l_moves) (G_l_take : DefOk P w K mg base CX0 ce0 1 "_law_take" [true, false] F_l_take) (G_l_behind : DefOk P w K mg base CX0 ce0 2 "_law_behind" [false, false, false] F_l_behind) : DefOk P w K mg base CX0 ce0 3 "_law_drawn_course" [true, false, false, false] F_l_drawn_course := by
  refine A.ok X0 (N := ["draws", "house", "stand", "many", "course", "stands", "k", "row", "move", "results", "result"]) (k := 2) (f := B_l_drawn_course) s_l_drawn_course rfl (by decide) (fun _ _ _ _ _ _ us hl => match us, hl with | [_, _, _, _], _ => rfl) fun cdv AA outer s H E b fa hr => ?_
  have hu := hu_room hr
  have hN := s_l_drawn_course.nd
  refine ss_cons (s_setM (i := 4) hN rfl (by first | exact .inl rfl | exact .inr rfl) (m_lst d_nil)) ?_
  refine ss_cons (s_setM (i := 5) hN rfl (by first | exact .inl rfl | exact .inr rfl) (m_lst (d_cons (e_n 2 (pv 2)) d_nil))) ?_
  refine ss_cons (s_for PassesOwn.never rfl (i_rg1 (by rfl) bt.range (e_n 3 (pv 3))) (g_n (i := 6) hN rfl (by first | exact .inl rfl | exact .inr rfl)) (ss_cons (s_setM (i := 7) hN rfl (by first | exact .inl rfl | exact .inr rfl) (m_call G_l_moves (hr.mono (by decide)) (by rfl) (c_s (e_n 1 (pv 1)) (c_s (e_ix (g_ix hu) (pv 5) (e_neg e_int)) c_nil)))) (ss_cons (s_if (t_cmp (g_eq hu) (e_m (m_callB g_len (by rfl) bt.len bo_len (a_n 7 (pv 7) a_nil))) e_int (nomark _)) (ss_one s_break) ss_nil) (ss_cons (s_setE (i := 8) hN rfl (by first | exact .inl rfl | exact .inr rfl) (e_ix (g_ix hu) (pv 7) (e_m (m_call G_l_take (hr.mono (by decide)) (by rfl) (c_io 0 (pv 0) (c_s (e_m (m_callB g_len (by rfl) bt.len bo_len (a_n 7 (pv 7) a_nil))) c_nil)))))) (ss_cons (s_if (PW.pt (t_and (t_cmp (g_gt hu) (e_ix (g_ix hu) (e_ix (g_ix hu) (pv 5) (e_neg e_int)) e_int) e_int (nomark _)) (t_and1 (t_cmp (g_eq hu) (e_m (m_call G_l_take (hr.mono (by decide)) (by rfl) (c_io 0 (pv 0) (c_s e_int c_nil)))) e_int (nomark _))))) (ss_one (s_setE (i := 8) hN rfl (by first | exact .inl rfl | exact .inr rfl) (e_ix (g_ix hu) (pv 7) (e_m (m_op g_sub (e_m (m_op g_sub (e_m (m_callB g_len (by rfl) bt.len bo_len (a_n 7 (pv 7) a_nil))) e_int)) (e_m (m_call G_l_take (hr.mono (by decide)) (by rfl) (c_io 0 (pv 0) (c_s (e_m (m_callB (g_min rfl) (by rfl) bt.min bo_min (a_f (e_m (m_callB g_len (by rfl) bt.len bo_len (a_n 7 (pv 7) a_nil))) (a_f e_int a_nil)))) c_nil))))))))) ss_nil) (ss_cons (s_setM (i := 9) hN rfl (by first | exact .inl rfl | exact .inr rfl) (m_call G_l_behind (hr.mono (by decide)) (by rfl) (c_s (e_n 1 (pv 1)) (c_s (e_ix (g_ix hu) (pv 5) (e_neg e_int)) (c_s (e_n 8 (pv 8)) c_nil))))) (ss_cons (s_setE (i := 10) hN rfl (by first | exact .inl rfl | exact .inr rfl) (e_ix (g_ix hu) (pv 9) (e_m (m_call G_l_take (hr.mono (by decide)) (by rfl) (c_io 0 (pv 0) (c_s (e_m (m_callB g_len (by rfl) bt.len bo_len (a_n 9 (pv 9) a_nil))) c_nil)))))) (ss_cons (s_expr (e_lm lm_app PySem.F.slot_list_append PySem.F.type_list_append mt_append (pv 4) (d_cons (e_tup (d_cons (e_n 8 (pv 8)) (d_cons (e_ix (g_ix hu) (pv 10) e_int) d_nil))) d_nil))) (ss_cons (s_expr (e_lm lm_app PySem.F.slot_list_append PySem.F.type_list_append mt_append (pv 5) (d_cons (e_ix (g_ix hu) (pv 10) e_int) d_nil))) (ss_one (s_if (PW.pt (t_and (t_cmp g_is (e_ix (g_ix hu) (pv 10) e_int) e_bl (nomark _)) (t_and1 (t_cmp (g_eq hu) (e_ix (g_ix hu) (e_ix (g_ix hu) (pv 1) e_int) (e_ix (g_ix hu) (pv 8) e_int)) e_int (nomark _))))) (ss_one s_break) ss_nil))))))))))) ?_
  exact ss_one (s_ret (m_e (e_tup (d_cons (e_m (m_callTy g_tuple (by rfl) bt.ty_tuple bo_tuple (a_n 4 (pv 4) a_nil))) (d_cons (e_m (m_callTy g_tuple (by rfl) bt.ty_tuple bo_tuple (a_n 5 (pv 5) a_nil))) d_nil)))))
theorem s_l_quiet : FnScope ["house", "place"] ["house"] (defScope (topS 30)) := ⟨rfl, rfl, rfl, by decide +kernel, rfl, by decide +kernel, by decide +kernel⟩
theorem d_l_quiet (bt : Bt mg) (A : DefAt K "_law_quiet" (topS 30)) (X0 : OnK K mg)  : DefOk P w K mg base CX0 ce0 1 "_law_quiet" [false] F_l_quiet := by
  refine A.ok X0 (N := ["house", "place"]) (k := 0) (f := B_l_quiet) s_l_quiet rfl (by decide) (fun _ _ _ _ _ _ us hl => match us, hl with | [_], _ => rfl) fun cdv AA outer s H E b fa hr => ?_
  have hu := hu_room hr
  have hN := s_l_quiet.nd
  exact ss_one (s_ret (m_op g_add (e_m (m_sl (pv 0) p_none (p_some e_int))) (e_tup (d_cons (e_m (m_callTy g_tuple (by rfl) bt.ty_tuple bo_tuple (a_f (e_m (m_lc (own := [("place", 1)]) (sl := [1]) rfl hN (i_sq (e_ix (g_ix hu) (pv 0) e_int)) (blkOk_by (by rfl)) (fun s H C cl fp b => (g_n (i := 1) hN rfl (by first | exact .inl rfl | exact .inr rfl))) (fun s H C cl fp b => ts_nil) (fun s H C cl fp b => e_m (m_callB (g_min rfl) (by rfl) bt.min bo_min (a_n 1 (pv 1) (a_f e_int a_nil)))) tgN_len)) a_nil))) (d_cons (e_ix (g_ix hu) (pv 0) e_int) d_nil)))))
theorem s_l_b_known_right : FnScope ["draws", "chambers", "depths", "lock", "house", "key", "course", "due", "chamber", "cut"] ["draws"] (defScope (topS 31)) := ⟨rfl, rfl, rfl, by decide +kernel, rfl, by decide +kernel, by decide +kernel⟩
theorem d_l_b_known_right (bt : Bt mg) (A : DefAt K "_law_b_known_right" (topS 31)) (X0 : OnK K mg) (G_l_take : DefOk P w K mg base CX0 ce0 1 "_law_take" [true, false] F_l_take) (G_stands_of : DefOk P w K mg base CX0 ce0 4 "stands_of" [false, false, false] F_stands_of) (G_l_same : DefOk P w K mg base CX0 ce0 9 "_law_same" [false, false] (F_l_same 8)) : DefOk P w K mg base CX0 ce0 10 "_law_b_known_right" [true] F_l_b_known_right := by
  refine A.ok X0 (N := ["draws", "chambers", "depths", "lock", "house", "key", "course", "due", "chamber", "cut"]) (k := 9) (f := B_l_b_known_right) s_l_b_known_right rfl (by decide) (fun _ _ _ _ _ _ us hl => match us, hl with | [_], _ => rfl) fun cdv AA outer s H E b fa hr => ?_
  have hu := hu_room hr
  have hN := s_l_b_known_right.nd
  refine ss_cons (s_setM (i := 1) hN rfl (by first | exact .inl rfl | exact .inr rfl) (m_op g_add e_int (e_m (m_call G_l_take (hr.mono (by decide)) (by rfl) (c_io 0 (pv 0) (c_s e_int c_nil)))))) ?_
  refine ss_cons (s_setM (i := 2) hN rfl (by first | exact .inl rfl | exact .inr rfl) (m_op g_add e_int (e_m (m_call G_l_take (hr.mono (by decide)) (by rfl) (c_io 0 (pv 0) (c_s e_int c_nil)))))) ?_
  refine ss_cons (s_setM (i := 3) hN rfl (by first | exact .inl rfl | exact .inr rfl) (m_op g_mul (e_tup (d_cons (e_tup (d_cons (e_m (m_op g_sub (pv 2) e_int)) d_nil)) d_nil)) (pv 1))) ?_
  refine ss_cons (s_setE (i := 4) hN rfl (by first | exact .inl rfl | exact .inr rfl) (e_tup (d_cons (e_tup (d_cons (e_n 1 (pv 1)) (d_cons (e_n 2 (pv 2)) (d_cons e_int d_nil)))) (d_cons (e_tup (d_cons (e_m (m_op g_mul (e_tup (d_cons e_int d_nil)) (pv 1))) d_nil)) (d_cons (e_tup (d_cons (e_tup (d_cons (e_n 3 (pv 3)) d_nil)) d_nil)) (d_cons (e_tup (d_cons e_int d_nil)) (d_cons e_int d_nil))))))) ?_
  refine ss_cons (s_setM (i := 5) hN rfl (by first | exact .inl rfl | exact .inr rfl) (m_op g_mul (e_m (m_lst (d_cons e_int d_nil))) (pv 1))) ?_
  refine ss_cons (s_setM (i := 6) hN rfl (by first | exact .inl rfl | exact .inr rfl) (m_lst d_nil)) ?_
  refine ss_cons (s_setM (i := 7) hN rfl (by first | exact .inl rfl | exact .inr rfl) (m_lst (d_cons (e_tup (d_cons (e_tup (d_cons (e_m (m_callTy g_tuple (by rfl) bt.ty_tuple bo_tuple (a_n 5 (pv 5) a_nil))) d_nil)) (d_cons (e_tup (d_cons e_int d_nil)) (d_cons e_int d_nil)))) d_nil))) ?_
  refine ss_cons (s_for PassesOwn.never rfl (i_rg1 (by rfl) bt.range (e_n 1 (pv 1))) (g_n (i := 8) hN rfl (by first | exact .inl rfl | exact .inr rfl)) (ss_one (s_for PassesOwn.never rfl (i_rg2 (by rfl) bt.range e_int (e_n 2 (pv 2))) (g_n (i := 9) hN rfl (by first | exact .inl rfl | exact .inr rfl)) (ss_cons (s_sub hu (e_n 9 (pv 9)) (pv 5) (e_n 8 (pv 8))) (ss_cons (s_expr (e_lm lm_app PySem.F.slot_list_append PySem.F.type_list_append mt_append (pv 6) (d_cons (e_tup (d_cons (e_tup (d_cons e_str (d_cons e_int (d_cons (e_n 8 (pv 8)) (d_cons (e_n 9 (pv 9)) d_nil))))) (d_cons e_non d_nil))) d_nil))) (ss_one (s_expr (e_lm lm_app PySem.F.slot_list_append PySem.F.type_list_append mt_append (pv 7) (d_cons (e_tup (d_cons (e_tup (d_cons (e_m (m_callTy g_tuple (by rfl) bt.ty_tuple bo_tuple (a_n 5 (pv 5) a_nil))) d_nil)) (d_cons (e_tup (d_cons e_int d_nil)) (d_cons e_int d_nil)))) d_nil))))))))) ?_
  refine ss_cons (s_expr (e_lm lm_app PySem.F.slot_list_append PySem.F.type_list_append mt_append (pv 6) (d_cons (e_tup (d_cons (e_tup (d_cons e_str (d_cons e_int (d_cons e_int d_nil)))) (d_cons e_bl d_nil))) d_nil))) ?_
  refine ss_cons (s_expr (e_lm lm_app PySem.F.slot_list_append PySem.F.type_list_append mt_append (pv 7) (d_cons (e_tup (d_cons (e_tup (d_cons (e_m (m_callTy g_tuple (by rfl) bt.ty_tuple bo_tuple (a_n 5 (pv 5) a_nil))) d_nil)) (d_cons (e_tup (d_cons e_int d_nil)) (d_cons e_int d_nil)))) d_nil))) ?_
  exact ss_one (s_ret (m_call G_l_same (hr.mono (by decide)) (by rfl) (c_s (e_m (m_call G_stands_of (hr.mono (by decide)) (by rfl) (c_s (e_n 4 (pv 4)) (c_s (e_ix (g_ix hu) (pv 7) e_int) (c_s (e_m (m_callTy g_tuple (by rfl) bt.ty_tuple bo_tuple (a_n 6 (pv 6) a_nil))) c_nil))))) (c_s (e_m (m_callTy g_tuple (by rfl) bt.ty_tuple bo_tuple (a_n 7 (pv 7) a_nil))) c_nil))))
theorem s_l_part_one : FnScope ["script", "draws", "house", "depths"] ["script"] (defScope (topS 32)) := ⟨rfl, rfl, rfl, by decide +kernel, rfl, by decide +kernel, by decide +kernel⟩
theorem d_l_part_one (bt : Bt mg) (A : DefAt K "_law_part_one" (topS 32)) (X0 : OnK K mg) (G_l_draws : DefOk P w K mg base CX0 ce0 1 "_law_draws" [false, false] F_l_draws) (G_l_house : DefOk P w K mg base CX0 ce0 4 "_law_house" [false, true, false] F_l_house) (G_l_take : DefOk P w K mg base CX0 ce0 1 "_law_take" [true, false] F_l_take) (G_l_known_right : DefOk P w K mg base CX0 ce0 10 "_law_known_right" [false, false, false, false] F_l_known_right) (G_l_origin : DefOk P w K mg base CX0 ce0 1 "_law_origin" [false] F_l_origin) (G_l_walk_right : DefOk P w K mg base CX0 ce0 11 "_law_walk_right" [true, false, false, false] F_l_walk_right) (G_l_any_stand : DefOk P w K mg base CX0 ce0 3 "_law_any_stand" [true, false, false] F_l_any_stand) : DefOk P w K mg base CX0 ce0 12 "_law_part_one" [false] F_l_part_one := by
  refine A.ok X0 (N := ["script", "draws", "house", "depths"]) (k := 11) (f := B_l_part_one) s_l_part_one rfl (by decide) (fun _ _ _ _ _ _ us hl => match us, hl with | [_], _ => rfl) fun cdv AA outer s H E b fa hr => ?_
  have hu := hu_room hr
  have hN := s_l_part_one.nd
  refine ss_cons (s_setM (i := 1) hN rfl (by first | exact .inl rfl | exact .inr rfl) (m_call G_l_draws (hr.mono (by decide)) (by rfl) (c_s (e_n 0 (pv 0)) (c_s e_int c_nil)))) ?_
  refine ss_cons (s_setM (i := 2) hN rfl (by first | exact .inl rfl | exact .inr rfl) (m_call G_l_house (hr.mono (by decide)) (by rfl) (c_s (e_n 0 (pv 0)) (c_tmp (m_sl (pv 1) (p_some e_int) p_none) (k_cons (pe_pow10 (by decide)) (fun _ _ _ => .int _) k_nil))))) ?_
  refine ss_cons (s_setM (i := 1) hN rfl (by first | exact .inl rfl | exact .inr rfl) (m_sl (pv 1) p_none (p_some e_int))) ?_
  refine ss_cons (s_setM (i := 3) hN rfl (by first | exact .inl rfl | exact .inr rfl) (m_op g_add e_int (e_m (m_call G_l_take (hr.mono (by decide)) (by rfl) (c_io 1 (pv 1) (c_s e_int c_nil)))))) ?_
  refine ss_cons (s_if (t_not (t_val (e_m (m_call G_l_known_right (hr.mono (by decide)) (by rfl) (c_s (e_n 3 (pv 3)) (c_s (e_m (m_call G_l_take (hr.mono (by decide)) (by rfl) (c_io 1 (pv 1) (c_s (e_n 3 (pv 3)) c_nil)))) (c_s (e_m (m_op g_add e_int (e_m (m_call G_l_take (hr.mono (by decide)) (by rfl) (c_io 1 (pv 1) (c_s e_int c_nil)))))) (c_s (e_m (m_op g_add e_int (e_m (m_call G_l_take (hr.mono (by decide)) (by rfl) (c_io 1 (pv 1) (c_s e_int c_nil)))))) c_nil)))))))) (ss_one (s_ret (m_e e_bl))) ss_nil) ?_
  refine ss_cons (s_if (t_not (t_val (e_m (m_call G_l_walk_right (hr.mono (by decide)) (by rfl) (c_io 1 (pv 1) (c_s (e_n 2 (pv 2)) (c_s (e_m (m_call G_l_origin (hr.mono (by decide)) (by rfl) (c_s (e_n 2 (pv 2)) c_nil))) (c_s (e_m (m_op g_add e_int (e_m (m_call G_l_take (hr.mono (by decide)) (by rfl) (c_io 1 (pv 1) (c_s e_int c_nil)))))) c_nil)))))))) (ss_one (s_ret (m_e e_bl))) ss_nil) ?_
  exact ss_one (s_ret (m_call G_l_walk_right (hr.mono (by decide)) (by rfl) (c_io 1 (pv 1) (c_s (e_n 2 (pv 2)) (c_s (e_m (m_call G_l_any_stand (hr.mono (by decide)) (by rfl) (c_io 1 (pv 1) (c_s (e_n 2 (pv 2)) (c_s (e_m (m_op g_pow e_int e_int)) c_nil))))) (c_s (e_m (m_op g_add e_int (e_m (m_call G_l_take (hr.mono (by decide)) (by rfl) (c_io 1 (pv 1) (c_s e_int c_nil)))))) c_nil))))))
theorem s_l_part_two : FnScope ["script", "draws", "drawn", "most", "house", "stand", "asked", "quiet", "pair", "some", "course", "stands"] ["script"] (defScope (topS 33)) := ⟨rfl, rfl, rfl, by decide +kernel, rfl, by decide +kernel, by decide +kernel⟩
theorem d_l_part_two (bt : Bt mg) (A : DefAt K "_law_part_two" (topS 33)) (X0 : OnK K mg) (G_l_draws : DefOk P w K mg base CX0 ce0 1 "_law_draws" [false, false] F_l_draws) (G_l_b_known_right : DefOk P w K mg base CX0 ce0 10 "_law_b_known_right" [true] F_l_b_known_right) (G_l_take : DefOk P w K mg base CX0 ce0 1 "_law_take" [true, false] F_l_take) (G_l_house : DefOk P w K mg base CX0 ce0 4 "_law_house" [false, true, false] F_l_house) (G_l_fitting : DefOk P w K mg base CX0 ce0 5 "_law_fitting" [false, false] F_l_fitting) (G_l_any_stand : DefOk P w K mg base CX0 ce0 3 "_law_any_stand" [true, false, false] F_l_any_stand) (G_l_origin : DefOk P w K mg base CX0 ce0 1 "_law_origin" [false] F_l_origin) (G_l_drawn_course : DefOk P w K mg base CX0 ce0 3 "_law_drawn_course" [true, false, false, false] F_l_drawn_course) (G_l_met : DefOk P w K mg base CX0 ce0 4 "_law_met" [false, false, false] F_l_met) (G_l_quiet : DefOk P w K mg base CX0 ce0 1 "_law_quiet" [false] F_l_quiet) (G_stands_of : DefOk P w K mg base CX0 ce0 4 "stands_of" [false, false, false] F_stands_of) (G_l_same : DefOk P w K mg base CX0 ce0 9 "_law_same" [false, false] (F_l_same 8)) : DefOk P w K mg base CX0 ce0 11 "_law_part_two" [false] F_l_part_two := by
  refine A.ok X0 (N := ["script", "draws", "drawn", "most", "house", "stand", "asked", "quiet", "pair", "some", "course", "stands"]) (k := 10) (f := B_l_part_two) s_l_part_two rfl (by decide) (fun _ _ _ _ _ _ us hl => match us, hl with | [_], _ => rfl) fun cdv AA outer s H E b fa hr => ?_
  have hu := hu_room hr
  have hN := s_l_part_two.nd
  refine ss_cons (s_setM (i := 1) hN rfl (by first | exact .inl rfl | exact .inr rfl) (m_call G_l_draws (hr.mono (by decide)) (by rfl) (c_s (e_n 0 (pv 0)) (c_s e_int c_nil)))) ?_
  refine ss_cons (s_setM (i := 2) hN rfl (by first | exact .inl rfl | exact .inr rfl) (m_sl (pv 1) p_none (p_some e_int))) ?_
  refine ss_cons (s_setM (i := 1) hN rfl (by first | exact .inl rfl | exact .inr rfl) (m_sl (pv 1) (p_some e_int) p_none)) ?_
  refine ss_cons (s_if (t_not (t_val (e_m (m_call G_l_b_known_right (hr.mono (by decide)) (by rfl) (c_io 2 (pv 2) c_nil))))) (ss_one (s_ret (m_e e_bl))) ss_nil) ?_
  refine ss_cons (s_setE (i := 3) hN rfl (by first | exact .inl rfl | exact .inr rfl) (e_ix (g_ix hu) (e_m (m_lst (d_cons e_int (d_cons e_int d_nil)))) (e_m (m_callTy g_int (by rfl) bt.ty_int bo_int (a_f (e_m (m_cmp (g_eq hu) (e_m (m_call G_l_take (hr.mono (by decide)) (by rfl) (c_io 2 (pv 2) (c_s e_int c_nil)))) e_int (nomark _))) a_nil))))) ?_
  refine ss_cons (s_setE (i := 4) hN rfl (by first | exact .inl rfl | exact .inr rfl) (e_ix (g_ix hu) (e_m (m_call G_l_fitting (hr.mono (by decide)) (by rfl) (c_s (e_m (m_call G_l_house (hr.mono (by decide)) (by rfl) (c_s (e_n 0 (pv 0)) (c_io 1 (pv 1) (c_s (e_n 3 (pv 3)) c_nil))))) (c_s (e_n 3 (pv 3)) c_nil)))) e_int)) ?_
  refine ss_cons (s_setM (i := 5) hN rfl (by first | exact .inl rfl | exact .inr rfl) (m_call G_l_any_stand (hr.mono (by decide)) (by rfl) (c_io 2 (pv 2) (c_s (e_n 4 (pv 4)) (c_s (e_ix (g_ix hu) (e_m (m_lst (d_cons e_int (d_cons e_int d_nil)))) (e_m (m_call G_l_take (hr.mono (by decide)) (by rfl) (c_io 2 (pv 2) (c_s e_int c_nil))))) c_nil))))) ?_
  refine ss_cons (s_setM (i := 6) hN rfl (by first | exact .inl rfl | exact .inr rfl) (m_lst (d_cons (e_m (m_call G_l_drawn_course (hr.mono (by decide)) (by rfl) (c_io 2 (pv 2) (c_s (e_n 4 (pv 4)) (c_s (e_m (m_call G_l_origin (hr.mono (by decide)) (by rfl) (c_s (e_n 4 (pv 4)) c_nil))) (c_s e_int c_nil)))))) (d_cons (e_tup (d_cons (e_tup d_nil) (d_cons (e_tup (d_cons (e_m (m_call G_l_origin (hr.mono (by decide)) (by rfl) (c_s (e_n 4 (pv 4)) c_nil))) d_nil)) d_nil))) d_nil)))) ?_
  refine ss_cons (s_if (t_cmp g_nis (e_m (m_call G_l_met (hr.mono (by decide)) (by rfl) (c_s (e_n 4 (pv 4)) (c_s (e_m (m_lst (d_cons (e_n 5 (pv 5)) d_nil))) (c_s e_int c_nil))))) e_non (nomark _)) (ss_cons (s_expr (e_lm lm_app PySem.F.slot_list_append PySem.F.type_list_append mt_append (pv 6) (d_cons (e_tup (d_cons (e_tup d_nil) (d_cons (e_tup (d_cons (e_n 5 (pv 5)) d_nil)) d_nil))) d_nil))) (ss_one (s_expr (e_lm lm_app PySem.F.slot_list_append PySem.F.type_list_append mt_append (pv 6) (d_cons (e_m (m_call G_l_drawn_course (hr.mono (by decide)) (by rfl) (c_io 2 (pv 2) (c_s (e_n 4 (pv 4)) (c_s (e_n 5 (pv 5)) (c_s (e_m (m_op g_add e_int (e_m (m_call G_l_take (hr.mono (by decide)) (by rfl) (c_io 2 (pv 2) (c_s e_int c_nil)))))) c_nil)))))) d_nil))))) ss_nil) ?_
  refine ss_cons (s_setM (i := 7) hN rfl (by first | exact .inl rfl | exact .inr rfl) (m_call G_l_quiet (hr.mono (by decide)) (by rfl) (c_s (e_n 4 (pv 4)) c_nil))) ?_
  refine ss_cons (s_if (t_cmp g_nis (e_m (m_call G_l_met (hr.mono (by decide)) (by rfl) (c_s (e_n 7 (pv 7)) (c_s (e_m (m_lst (d_cons (e_m (m_call G_l_origin (hr.mono (by decide)) (by rfl) (c_s (e_n 7 (pv 7)) c_nil))) d_nil))) (c_s e_int c_nil))))) e_non (nomark _)) (ss_cons (s_asg (e_m (m_call G_l_drawn_course (hr.mono (by decide)) (by rfl) (c_io 2 (pv 2) (c_s (e_n 7 (pv 7)) (c_s (e_m (m_call G_l_origin (hr.mono (by decide)) (by rfl) (c_s (e_n 7 (pv 7)) c_nil))) (c_s e_int c_nil)))))) (g_t rfl (gs_cons (i := 10) hN rfl (by first | exact .inl rfl | exact .inr rfl) (gs_cons (i := 11) hN rfl (by first | exact .inl rfl | exact .inr rfl) gs_nil)))) (ss_one (s_if (t_not (t_val (e_m (m_call G_l_same (hr.mono (by decide)) (by rfl) (c_s (e_m (m_call G_stands_of (hr.mono (by decide)) (by rfl) (c_s (e_n 7 (pv 7)) (c_s (e_ix (g_ix hu) (pv 11) e_int) (c_s (e_n 10 (pv 10)) c_nil))))) (c_s (e_n 11 (pv 11)) c_nil)))))) (ss_one (s_ret (m_e e_bl))) ss_nil))) ss_nil) ?_
  refine ss_cons (s_for PassesOwn.never rfl (i_sq (e_m (m_op g_add (pv 6) (e_m (m_sl (pv 6) p_none (p_some e_int)))))) (g_n (i := 8) hN rfl (by first | exact .inl rfl | exact .inr rfl)) (ss_cons (s_if (t_not (t_val (e_m (m_call G_l_same (hr.mono (by decide)) (by rfl) (c_s (e_m (m_call G_stands_of (hr.mono (by decide)) (by rfl) (c_s (e_n 4 (pv 4)) (c_s (e_ix (g_ix hu) (e_ix (g_ix hu) (pv 8) e_int) e_int) (c_s (e_ix (g_ix hu) (pv 8) e_int) c_nil))))) (c_s (e_ix (g_ix hu) (pv 8) e_int) c_nil)))))) (ss_one (s_ret (m_e e_bl))) ss_nil) (ss_cons (s_setM (i := 9) hN rfl (by first | exact .inl rfl | exact .inr rfl) (m_op g_fdv (e_m (m_callB g_len (by rfl) bt.len bo_len (a_f (e_ix (g_ix hu) (pv 8) e_int) a_nil))) e_int)) (ss_one (s_if (t_not (t_val (e_m (m_call G_l_same (hr.mono (by decide)) (by rfl) (c_s (e_m (m_call G_stands_of (hr.mono (by decide)) (by rfl) (c_s (e_n 4 (pv 4)) (c_s (e_ix (g_ix hu) (e_ix (g_ix hu) (pv 8) e_int) e_int) (c_s (e_m (m_sl (e_ix (g_ix hu) (pv 8) e_int) p_none (p_some (e_n 9 (pv 9))))) c_nil))))) (c_s (e_m (m_sl (e_ix (g_ix hu) (pv 8) e_int) p_none (p_some (e_m (m_op g_add (pv 9) e_int))))) c_nil)))))) (ss_one (s_ret (m_e e_bl))) ss_nil))))) ?_
  exact ss_one (s_ret (m_e e_bl))
theorem s_law : FnScope ["script"] ["script"] (defScope (topS 34)) := ⟨rfl, rfl, rfl, by decide +kernel, rfl, by decide +kernel, by decide +kernel⟩
theorem d_law {fa : Addr} (bt : Bt mg) (A : DefAt K "law" (topS 34)) (X0 : OnK K mg) (hfa : mg "law" = some (.ref fa)) (G0_l_part_one : ∀ base, DefOk P w K mg base CX0 ce0 12 "_law_part_one" [false] F_l_part_one) (G0_l_part_two : ∀ base, DefOk P w K mg base CX0 ce0 11 "_law_part_two" [false] F_l_part_two) : ∃ fd : FuncData, (∀ (s : Shared) (u : Value), BindsTo s fd ⟨[u], []⟩ [("script", u)]) ∧ ∀ base : Heap, FnOk P w K mg base CX0 13 fa fd ["script"] (spF w K ce0 [false] F_law) := by
  refine A.okLaw X0 hfa (N := ["script"]) (k := 12) (f := B_law) s_law (by decide) (fun _ _ _ _ _ _ us hl => match us, hl with | [_], _ => rfl) fun base cdv AA outer s H E b fa hr => ?_
  have hu := hu_room hr
  have hN := s_law.nd
  have G_l_part_one := G0_l_part_one base
  have G_l_part_two := G0_l_part_two base
  exact ss_one (s_ret (m_e (e_and (e_m (m_call G_l_part_one (hr.mono (by decide)) (by rfl) (c_s (e_n 0 (pv 0)) c_nil))) (e_one (e_m (m_call G_l_part_two (hr.mono (by decide)) (by rfl) (c_s (e_n 0 (pv 0)) c_nil)))))))
end
end K57

set_option Elab.async false
set_option linter.all false
set_option autoImplicit false
set_option maxRecDepth 100000
namespace K57
open PySem L2 MP
/-! ### houses, stands, moves -/
def tL (l : List (List Int)) : D := .tup (l.map tupI)
def tP (p : List (List (List Int))) : D := .tup (p.map tL)
def tN (l : List Nat) : D := .tup (l.map fun k : Nat => D.int k)
structure Hs where
  c : Nat
  d : Nat
  s : Int
  hand : List (List Int)
  pins : List (List (List (List Int)))
  places : List Int
  tries : Int
structure Sd where
  hand : List (List Int)
  ps : List Nat
  tries : Int
inductive Mv0 where
  | file (n c : Nat) (cut : Int)
  | tr (n l : Nat)
def encH (h : Hs) : D := .tup [.tup [.int h.c, .int h.d, .int h.s], tL h.hand, .tup (h.pins.map tP), tupI h.places, .int h.tries]
def encS (s : Sd) : D := .tup [tL s.hand, tN s.ps, .int s.tries]
def encM : Mv0 → D
  | .file n c cut => .tup [.str "file", .int n, .int c, .int cut]
  | .tr n l => .tup [.str "try", .int n, .int l]
structure HOk (h : Hs) : Prop where
  c1 : 1 ≤ h.c
  c2 : h.c ≤ 3
  d2 : h.d ≤ 10
  l1 : 1 ≤ h.places.length
  l2 : h.places.length ≤ 10
  p1 : 1 ≤ h.pins.length
  p2 : h.pins.length ≤ 10
  pin : ∀ p ∈ h.pins, p.length = h.places.length ∧ ∀ l ∈ p, l.length = h.c
  h1 : 1 ≤ h.hand.length
  h2 : h.hand.length ≤ 5
  hk : ∀ k ∈ h.hand, k.length = h.c ∧ ∀ x ∈ k, 0 ≤ x ∧ x ≤ 10
structure SOk (h : Hs) (s : Sd) : Prop where
  h1 : 1 ≤ s.hand.length
  h2 : s.hand.length ≤ 5
  hk : ∀ k ∈ s.hand, k.length = h.c ∧ ∀ x ∈ k, 0 ≤ x ∧ x ≤ 10
  p1 : 1 ≤ s.ps.length
  p2 : s.ps.length ≤ 10
  pk : ∀ k ∈ s.ps, k < h.pins.length
def MOk (h : Hs) (s : Sd) : Mv0 → Prop
  | .file n c cut => n < s.hand.length ∧ c < h.c ∧ 0 ≤ cut ∧ cut ≤ 10
  | .tr n l => n < s.hand.length ∧ l < h.places.length
theorem lay_file : PyData.canLay0 (.str "file") = true := by decide +kernel
theorem lay_try : PyData.canLay0 (.str "try") = true := by decide +kernel
@[simp] theorem file_file : dEq (.str "file") (.str "file") = some (.bl true) := by rw [eq_str _ _ lay_file lay_file]; simp
@[simp] theorem try_try : dEq (.str "try") (.str "try") = some (.bl true) := by rw [eq_str _ _ lay_try lay_try]; simp
@[simp] theorem try_file : dEq (.str "try") (.str "file") = some (.bl false) := by rw [eq_str _ _ lay_try lay_file]; congr 2
@[simp] theorem file_try : dEq (.str "file") (.str "try") = some (.bl false) := by rw [eq_str _ _ lay_file lay_try]; congr 2
def lockAt (h : Hs) (k l : Nat) : List (List Int) := nth (nth h.pins k []) l []
def keyAt (s : Sd) (n : Nat) : List Int := nth s.hand n []
/-! ### opens -/
def opB (lock : List (List Int)) (key : List Int) : Bool := (List.range lock.length).all fun i => decide (nth key i 0 ∈ nth lock i [])
theorem opens_ok (lock : List (List Int)) (key : List Int) (h : lock.length ≤ key.length) (hs : lock.length ≤ 100) : F_opens [tL lock, tupI key] = .ok (.bl (opB lock key)) [] := by
  simp [F_opens, runF_eq, startE_eq, B_opens, tL, tupI]
  rw [rg1K_ok (by omega)]
  simp [rgD_map]
  rw [compL_all (fun k : Nat => D.int k) (fun k : Nat => .bl (decide (nth key k 0 ∈ nth lock k [])))]
  · simp
    rw [lenK_ok _ _ (by simp; omega)]
    simp [opB]
  · intro x hx k acc
    simp at hx
    have h1 : x < key.length := by omega
    simp [at_mapR, at_mapL, h1, hx, tupI]
theorem l_opens_ok (lock : List (List Int)) (key : List Int) (h : lock.length ≤ key.length) (hs : lock.length ≤ 100) : F_l_opens [tL lock, tupI key] = .ok (.bl (opB lock key)) [] := by
  simp [F_l_opens, runF_eq, startE_eq, B_l_opens, tL, tupI]
  rw [rg1K_ok (by omega)]
  simp [rgD_map]
  rw [compL_T (fun k : Nat => D.int k) (fun k : Nat => !decide (nth key k 0 ∈ nth lock k [])) (fun k : Nat => .int k)]
  · simp
    rw [lenK_ok _ _ (by simp; exact Nat.le_trans (List.length_filter_le _ _) (by simp; omega))]
    simp [opB]
    rw [Bool.eq_iff_iff]
    simp
  · intro x hx k acc
    simp at hx
    have h1 : x < key.length := by omega
    simp [at_mapR, at_mapL, h1, hx, tupI]
/-! ### opened, answers, after, comes_in -/
section
variable {h : Hs} {s : Sd} {n l : Nat}
theorem lock_len (H : HOk h) {k : Nat} (hk : k < h.pins.length) (hl : l < h.places.length) : (lockAt h k l).length = h.c := by
  have m1 : nth h.pins k [] ∈ h.pins := nth_mem hk
  obtain ⟨h1, h2⟩ := H.pin _ m1
  exact h2 _ (nth_mem (by rw [h1]; exact hl))
theorem key_len (S : SOk h s) (hn : n < s.hand.length) : (keyAt s n).length = h.c := (S.hk _ (nth_mem hn)).1
def toldB (h : Hs) (s : Sd) (n l : Nat) (k : Nat) : Bool := opB (lockAt h k l) (keyAt s n)
theorem opened_ok (H : HOk h) (S : SOk h s) (hn : n < s.hand.length) (hl : l < h.places.length) : F_opened [encH h, encS s, encM (.tr n l)] = .ok (.lst (s.ps.map fun k => .bl (toldB h s n l k))) [] := by
  simp [F_opened, runF_eq, startE_eq, B_opened, encH, encS, encM, tL, tN]
  rw [at_mapL _ _ _ hn]
  simp
  rw [compL_all (fun k : Nat => D.int k) (fun k : Nat => .bl (toldB h s n l k))]
  · simp
    rw [lenK_ok _ _ (by simp; have := S.p2; omega)]
    simp
  · intro k hk kk acc
    have hk' := S.pk k hk
    have h1 := H.pin _ (nth_mem (d := []) hk')
    have h2 := lock_len (l := l) H hk' hl
    have h3 := key_len S hn
    have e : F_opens [tL (lockAt h k l), tupI (keyAt s n)] = _ := opens_ok (lockAt h k l) (keyAt s n) (by omega) (by have := H.c2; omega)
    have hl' : l < (nth h.pins k []).length := by rw [h1.1]; exact hl
    simp [at_mapL, hk', tP, hl']
    simp [lockAt, keyAt] at e
    rw [e]
    simp [toldB, lockAt, keyAt]
def ansT (h : Hs) (s : Sd) : Mv0 → List Bool
  | .file _ _ _ => []
  | .tr n l => [false, true].filter fun b => s.ps.any fun k => decide (toldB h s n l k = b)
theorem answers_ok (H : HOk h) (S : SOk h s) {m : Mv0} (M : MOk h s m) : F_answers [encH h, encS s, encM m] = .ok (.tup ((ansT h s m).map D.bl)) [] := by
  cases m with
  | file n c cut =>
    simp [F_answers, runF_eq, startE_eq, B_answers, encM, ansT]
  | tr n l =>
    have e := opened_ok H S M.1 M.2
    simp [encM] at e
    simp [F_answers, runF_eq, startE_eq, B_answers, encM]
    rw [e]
    simp
    rw [show [D.bl false, D.bl true] = [false, true].map D.bl from rfl, compL_T D.bl (fun b => s.ps.any fun k => decide (toldB h s n l k = b)) D.bl]
    · simp [ansT]
      rw [lenK_ok _ _ (by simp; exact Nat.le_trans (List.length_filter_le _ _) (by simp))]
      simp
    · intro b hb kk acc
      simp
def filed (k : List Int) (c : Nat) (cut : Int) : List Int := k.take c ++ [cut] ++ k.drop (c + 1)
def refiled (s : Sd) (n c : Nat) (cut : Int) : List (List Int) := s.hand.take n ++ [filed (keyAt s n) c cut] ++ s.hand.drop (n + 1)
def afterT (h : Hs) (s : Sd) (m : Mv0) (b : Bool) : Sd := match m with
  | .file n c cut => ⟨sortK (refiled s n c cut), s.ps, s.tries⟩
  | .tr n l => ⟨s.hand, s.ps.filter fun k => decide (toldB h s n l k = b), s.tries - 1⟩
theorem refiled_ok (H : HOk h) (S : SOk h s) {n c : Nat} {cut : Int} (M : MOk h s (.file n c cut)) : (refiled s n c cut).length = s.hand.length ∧ ∀ k ∈ refiled s n c cut, k.length = h.c ∧ ∀ x ∈ k, 0 ≤ x ∧ x ≤ 10 := by
  obtain ⟨h1, h2, h3, h4⟩ := M
  have kl := key_len S h1
  refine ⟨by simp [refiled]; omega, fun k hk => ?_⟩
  simp [refiled] at hk
  rcases hk with hk | rfl | hk
  · exact S.hk _ (List.mem_of_mem_take hk)
  · refine ⟨by simp [filed]; omega, fun x hx => ?_⟩
    have hkk := (S.hk _ (nth_mem (d := []) h1)).2
    simp [filed] at hx
    rcases hx with hx | rfl | hx
    · exact hkk _ (List.mem_of_mem_take hx)
    · exact ⟨h3, h4⟩
    · exact hkk _ (List.mem_of_mem_drop hx)
  · exact S.hk _ (List.mem_of_mem_drop hk)
theorem after_file (H : HOk h) (S : SOk h s) {c : Nat} {cut : Int} (M : MOk h s (.file n c cut)) (a : D) : F_after [encH h, encS s, encM (.file n c cut), a] = .ok (encS (afterT h s (.file n c cut) false)) [] := by
  obtain ⟨r1, r2⟩ := refiled_ok H S M
  have r3 : ∀ k ∈ refiled s n c cut, k ≠ [] := fun k hk z => by
    have := (r2 k hk).1
    subst z
    simp at this
    have := H.c1
    omega
  obtain ⟨h1, h2, h3, h4⟩ := M
  have kl := key_len S h1
  have sz := S.h2
  have c2 := H.c2
  have kl' : (nth s.hand n []).length = h.c := kl
  have e3 : ((s.hand.map tupI).take n ++ D.tup (((nth s.hand n []).map D.int).take c ++ D.int cut :: ((nth s.hand n []).map D.int).drop (c + 1)) :: (s.hand.map tupI).drop (n + 1)) = (refiled s n c cut).map tupI := by
    simp [refiled, filed, tupI, keyAt]
  simp (disch := first | assumption | omega | (simp; omega)) [F_after, runF_eq, startE_eq, B_after, encM, encS, tL, at_mapL, cut_take, cut_drop1, add_tup, tupI]
  rw [e3, dSort_tup _ r3]
  simp [afterT]
theorem filter_at (l : List Nat) (p : Nat → Bool) : ((List.range l.length).filter fun i => p (nth l i 0)).map (fun i => D.int (nth l i 0 : Nat)) = (l.filter p).map fun k : Nat => D.int k := by
  rw [← filter_nth p l 0, List.map_map]
  rfl
theorem at_B (f : Nat → Bool) (l : List Nat) (i : Nat) (h : i < l.length) : atI (l.map fun k => D.bl (f k)) (i : Int) = some (.bl (f (nth l i 0))) := by
  rw [atI_map, atI_nat l i h]
  simp [nth, h]
theorem after_tr (H : HOk h) (S : SOk h s) (M : MOk h s (.tr n l)) (b : Bool) : F_after [encH h, encS s, encM (.tr n l), .bl b] = .ok (encS (afterT h s (.tr n l) b)) [] := by
  have e := opened_ok H S M.1 M.2
  have p2 := S.p2
  simp [encM, encS, tN] at e
  simp (disch := first | assumption | omega | (simp; omega)) [F_after, runF_eq, startE_eq, B_after, encM, encS, e, rg1K_ok, rgD_map, tN]
  rw [compL_T (fun k : Nat => D.int k) (fun i => decide (toldB h s n l (nth s.ps i 0) = b)) (fun i => D.int (nth s.ps i 0 : Nat))]
  · rw [List.nil_append, filter_at s.ps fun k => decide (toldB h s n l k = b)]
    simp
    rw [lenK_ok _ _ (by simp; exact Nat.le_trans (List.length_filter_le _ _) (by omega))]
    simp [afterT]
  · intro i hi kk acc
    simp at hi
    simp (disch := first | assumption | omega | (simp; omega)) [at_B, at_N]
def entersT (h : Hs) : Mv0 → Bool → Bool
  | .file _ _ _, _ => false
  | .tr _ l, b => b && decide (nth h.places l 0 = 2)
theorem comes_file {c : Nat} {cut : Int} (a : D) : F_comes_in [encH h, encS s, encM (.file n c cut), a] = .ok (.bl false) [] := by
  simp [F_comes_in, runF_eq, startE_eq, B_comes_in, encM]
theorem comes_tr (hl : l < h.places.length) (b : Bool) : F_comes_in [encH h, encS s, encM (.tr n l), .bl b] = .ok (.bl (entersT h (.tr n l) b)) [] := by
  simp (disch := first | assumption | omega | (simp; omega)) [F_comes_in, runF_eq, startE_eq, B_comes_in, encM, encH, tupI, at_mapR, entersT]
  by_cases q : nth h.places l 0 = 2 <;> simp [q]
/-! ### behind -/
def encO : Option Bool → D
  | none => .non
  | some b => .bl b
def encR (r : Option Bool × Sd) : D := .tup [encO r.1, encS r.2]
def ysT (h : Hs) (s : Sd) (n l : Nat) : List Nat := s.ps.filter fun k => toldB h s n l k
def noT (h : Hs) (s : Sd) (n l : Nat) : List Nat := s.ps.filter fun k => !toldB h s n l k
def behT (h : Hs) (s : Sd) : Mv0 → List (Option Bool × Sd)
  | .file n c cut => [(none, afterT h s (.file n c cut) false)]
  | .tr n l => (if noT h s n l = [] then [] else [(some false, ⟨s.hand, noT h s n l, s.tries - 1⟩)]) ++ (if ysT h s n l = [] then [] else [(some true, ⟨s.hand, ysT h s n l, s.tries - 1⟩)])
theorem behind_file (H : HOk h) (S : SOk h s) {c : Nat} {cut : Int} (M : MOk h s (.file n c cut)) : F_l_behind [encH h, encS s, encM (.file n c cut)] = .ok (.lst ((behT h s (.file n c cut)).map encR)) [] := by
  obtain ⟨r1, r2⟩ := refiled_ok H S M
  have r3 : ∀ k ∈ refiled s n c cut, k ≠ [] := fun k hk z => by
    have := (r2 k hk).1
    subst z
    simp at this
    have := H.c1
    omega
  obtain ⟨h1, h2, h3, h4⟩ := M
  have kl := key_len S h1
  have sz := S.h2
  have c2 := H.c2
  have kl' : (nth s.hand n []).length = h.c := kl
  have e3 : ((s.hand.map tupI).take n ++ D.tup (((nth s.hand n []).map D.int).take c ++ D.int cut :: ((nth s.hand n []).map D.int).drop (c + 1)) :: (s.hand.map tupI).drop (n + 1)) = (refiled s n c cut).map tupI := by
    simp [refiled, filed, tupI, keyAt]
  simp (disch := first | assumption | omega | (simp; omega)) [F_l_behind, runF_eq, startE_eq, B_l_behind, encM, encS, tL, at_mapL, cut_take, cut_drop1, add_tup, tupI]
  rw [e3, dSort_tup _ r3]
  simp [afterT, behT, encR, encO, encS, tL]
theorem nin_N (x : Nat) (l : List Nat) : dNi (.int x) (.tup (l.map fun k : Nat => D.int k)) = some (.bl (!decide (x ∈ l))) := by
  have e : (l.map fun k : Nat => D.int k) = (l.map fun k : Nat => (k : Int)).map D.int := by rw [List.map_map]; rfl
  rw [e, nin_ints]
  congr 3
  rw [Bool.eq_iff_iff]
  simp
  constructor
  · rintro ⟨a, h1, h2⟩
    have : a = x := by omega
    exact this ▸ h1
  · intro h
    exact ⟨x, h, rfl⟩
theorem behind_tr (H : HOk h) (S : SOk h s) (M : MOk h s (.tr n l)) : F_l_behind [encH h, encS s, encM (.tr n l)] = .ok (.lst ((behT h s (.tr n l)).map encR)) [] := by
  obtain ⟨h1, h2⟩ := M
  have p2 := S.p2
  have f1 := Nat.le_trans (List.length_filter_le (fun k => toldB h s n l k) s.ps) p2
  have f2 := Nat.le_trans (List.length_filter_le (fun k => !toldB h s n l k) s.ps) p2
  simp (disch := first | assumption | omega | (simp; omega)) [F_l_behind, runF_eq, startE_eq, B_l_behind, encM, encS, tL, at_mapL, tN]
  rw [compL_T (fun k : Nat => D.int k) (fun k => toldB h s n l k) (fun k : Nat => .int k)]
  · generalize hy : List.filter (fun k => toldB h s n l k) s.ps = ys at *
    simp (disch := first | assumption | omega | (simp; omega)) [lenK_ok]
    rw [compL_T (fun k : Nat => D.int k) (fun k => !toldB h s n l k) (fun k : Nat => .int k)]
    · generalize hn : List.filter (fun k => !toldB h s n l k) s.ps = ns at *
      simp (disch := first | assumption | omega | (simp; omega)) [lenK_ok]
      have g1 : ysT h s n l = ys := hy
      have g2 : noT h s n l = ns := hn
      by_cases q1 : ns = [] <;> by_cases q2 : ys = [] <;> simp [q1, q2, behT, g1, g2, encR, encO, encS, tL, tN, gApp_ok, List.length_pos_iff]
    · intro k hk kk acc
      have e : decide (k ∈ ys) = toldB h s n l k := by
        rw [← hy, Bool.eq_iff_iff]
        simp [hk]
      simp [nin_N, e]
  · intro k hk kk acc
    have hk' := S.pk k hk
    have q1 := H.pin _ (nth_mem (d := []) hk')
    have q2 := lock_len (l := l) H hk' h2
    have q3 := key_len S h1
    have e : F_l_opens [tL (lockAt h k l), tupI (keyAt s n)] = _ := l_opens_ok (lockAt h k l) (keyAt s n) (by omega) (by have := H.c2; omega)
    have hl' : l < (nth h.pins k []).length := by rw [q1.1]; exact h2
    simp [lockAt, keyAt] at e
    by_cases q : opB (nth (nth h.pins k []) l []) (nth s.hand n []) = true <;> simp [encH, at_mapL, hk', tP, hl', e, toldB, lockAt, keyAt, q]
/-! ### the same -/
mutual
def smd : D → Bool
  | .non => true
  | .bl _ => true
  | .int _ => true
  | .str x => PyData.canLay0 (.str x)
  | .tup xs => decide (xs.length ≤ 1000) && smds xs
  | _ => false
def smds : List D → Bool
  | [] => true
  | x :: xs => smd x && smds xs
end
theorem smds_at : ∀ {xs : List D} {i : Nat} {x : D}, smds xs = true → xs[i]? = some x → smd x = true
  | [], i, x, _, h => by simp at h
  | y :: ys, 0, x, h, e => by
    have h' : (smd y && smds ys) = true := h
    rw [Bool.and_eq_true] at h'
    simp at e
    exact e ▸ h'.1
  | y :: ys, i + 1, x, h, e => by
    have h' : (smd y && smds ys) = true := h
    rw [Bool.and_eq_true] at h'
    exact smds_at h'.2 (by simpa using e)
theorem dps_at : ∀ {xs : List D} {i : Nat} {x : D}, xs[i]? = some x → x.dp ≤ D.dps xs
  | [], i, x, h => by simp at h
  | y :: ys, 0, x, e => by
    simp at e
    subst e
    show _ ≤ max _ _
    omega
  | y :: ys, i + 1, x, e => by
    have := dps_at (xs := ys) (i := i) (x := x) (by simpa using e)
    show _ ≤ max _ _
    omega
theorem same_ok : ∀ (n : Nat) (d : D), smd d = true → d.dp < n → F_l_same n [d, d] = .ok (.bl true) []
  | 0, d, _, h => absurd h (Nat.not_lt_zero _)
  | n + 1, d, hs, hd => by
    cases d with
    | non => simp [F_l_same, runF_eq, startE_eq, B_l_same]
    | bl c => simp [F_l_same, runF_eq, startE_eq, B_l_same]
    | int i => simp [F_l_same, runF_eq, startE_eq, B_l_same]
    | str x =>
      have e := eq_str x x hs hs
      simp [F_l_same, runF_eq, startE_eq, B_l_same, e]
    | tup xs =>
      have hs' : (decide (xs.length ≤ 1000) && smds xs) = true := hs
      rw [Bool.and_eq_true] at hs'
      have hl := of_decide_eq_true hs'.1
      have hd' : D.dps xs + 1 < n + 1 := hd
      simp (disch := first | assumption | omega | (simp; omega)) [F_l_same, runF_eq, startE_eq, B_l_same, rg1K_ok, rgD_map]
      obtain ⟨e', h1, s', h2, h3⟩ := forL_N (gt := tgN 2) (ys := (List.range xs.length).map fun k : Nat => D.int k) (body := sIf (cNot (asB (eCall (CArgs.s (o2 (Opd.n 0) (Opd.n 2) dIx) (CArgs.s (o2 (Opd.n 1) (Opd.n 2) dIx) CArgs.nil)) (F_l_same n)))) (sRet (eM (eC (D.bl false)))) sNop) (e := [.sh (.tup xs), .sh (.tup xs), .no])
        (fun _ e => ∃ s', notIo s' = true ∧ e = [.sh (.tup xs), .sh (.tup xs), s']) ⟨.no, rfl, rfl⟩ fun i x e hx hI => by
          obtain ⟨s', h2, rfl⟩ := hI
          rw [List.getElem?_map] at hx
          obtain ⟨k, hk, rfl⟩ := Option.map_eq_some_iff.mp hx
          have hk1 : k < xs.length := by
            have := List.mem_of_getElem? hk
            simpa using this
          have hx2 : xs[k]? = some xs[k] := List.getElem?_eq_getElem hk1
          have e3 := same_ok n xs[k] (smds_at hs'.2 hx2) (by have := dps_at hx2; omega)
          refine ⟨_, [.sh (.tup xs), .sh (.tup xs), .sh (.int k)], by rw [tgN_eq]; exact tgK_n h2, ?_, _, rfl, rfl⟩
          simp [MP.atI_nat, hk1, e3]
      rw [h1]
      subst h3
      simp
    | _ => cases hs
theorem smds_map {α : Type} (f : α → D) (l : List α) (h : ∀ x ∈ l, smd (f x) = true) : smds (l.map f) = true := by
  induction l with
  | nil => rfl
  | cons x xs ih =>
    show (smd (f x) && smds (xs.map f)) = true
    rw [h x List.mem_cons_self, ih fun y m => h y (List.mem_cons_of_mem _ m)]
    rfl
theorem smd_tup (l : List D) (h1 : l.length ≤ 1000) (h2 : smds l = true) : smd (.tup l) = true := by
  show (decide _ && _) = true
  rw [decide_eq_true h1, h2]
  rfl
theorem smd_I (l : List Int) (h : l.length ≤ 1000) : smd (tupI l) = true := smd_tup _ (by simpa using h) (smds_map _ _ fun _ _ => rfl)
theorem smd_N (l : List Nat) (h : l.length ≤ 1000) : smd (tN l) = true := smd_tup _ (by simpa using h) (smds_map _ _ fun _ _ => rfl)
theorem smd_L (l : List (List Int)) (h : l.length ≤ 1000) (h2 : ∀ x ∈ l, x.length ≤ 1000) : smd (tL l) = true := smd_tup _ (by simpa using h) (smds_map _ _ fun x m => smd_I x (h2 x m))
theorem smd_B (l : List Bool) (h : l.length ≤ 1000) : smd (.tup (l.map D.bl)) = true := smd_tup _ (by simpa using h) (smds_map _ _ fun _ _ => rfl)
theorem dp_I (l : List Int) : (tupI l).dp ≤ 1 := by
  show D.dps _ + 1 ≤ 1
  have := dps_ints l
  omega
theorem dp_N (l : List Nat) : (tN l).dp ≤ 1 := by
  show D.dps _ + 1 ≤ 1
  have := dps_map (fun k : Nat => D.int k) l 0 fun _ _ => Nat.le_refl _
  omega
theorem dp_B (l : List Bool) : (D.tup (l.map D.bl)).dp ≤ 1 := by
  show D.dps _ + 1 ≤ 1
  have := dps_map D.bl l 0 fun _ _ => Nat.le_refl _
  omega
theorem dp_L (l : List (List Int)) : (tL l).dp ≤ 2 := by
  show D.dps _ + 1 ≤ 2
  have := dps_map tupI l 1 fun x _ => dp_I x
  omega
theorem smd_S (s : Sd) (h1 : s.hand.length ≤ 1000) (h2 : ∀ x ∈ s.hand, x.length ≤ 1000) (h3 : s.ps.length ≤ 1000) : smd (encS s) = true := by
  refine smd_tup _ (by simp) ?_
  show (smd (tL s.hand) && (smd (tN s.ps) && (true && true))) = true
  rw [smd_L _ h1 h2, smd_N _ h3]
  rfl
theorem dp_S (s : Sd) : (encS s).dp ≤ 3 := by
  show max (tL s.hand).dp (max (tN s.ps).dp (max 0 0)) + 1 ≤ 3
  have := dp_L s.hand
  have := dp_N s.ps
  omega
section
variable {h : Hs} {s : Sd} {n l : Nat} {m : Mv0}
/-- a stand behind a stand -/
theorem beh_ok (H : HOk h) (S : SOk h s) (M : MOk h s m) : ∀ r ∈ behT h s m, SOk h r.2 := by
  intro r hr
  cases m with
  | file n c cut =>
    obtain ⟨r1, r2⟩ := refiled_ok H S M
    simp [behT, afterT] at hr
    subst hr
    have pm := sortK_perm (refiled s n c cut)
    refine ⟨?_, ?_, ?_, S.p1, S.p2, S.pk⟩
    · show 1 ≤ (sortK _).length
      rw [pm.length_eq, r1]
      exact S.h1
    · show (sortK _).length ≤ 5
      rw [pm.length_eq, r1]
      exact S.h2
    · intro k hk
      exact r2 k (pm.mem_iff.mp hk)
  | tr n l =>
    simp [behT] at hr
    have go : ∀ p : Nat → Bool, s.ps.filter p ≠ [] → SOk h ⟨s.hand, s.ps.filter p, s.tries - 1⟩ := fun p hp =>
      ⟨S.h1, S.h2, S.hk, List.length_pos_iff.mpr hp, Nat.le_trans (List.length_filter_le _ _) S.p2, fun k hk => S.pk k (List.mem_filter.mp hk).1⟩
    rcases hr with ⟨q, rfl⟩ | ⟨q, rfl⟩
    · exact go _ q
    · exact go _ q
theorem after_beh (H : HOk h) (S : SOk h s) (M : MOk h s m) : ∀ r ∈ behT h s m, F_after [encH h, encS s, encM m, encO r.1] = .ok (encS r.2) [] := by
  intro r hr
  cases m with
  | file n c cut =>
    simp [behT] at hr
    subst hr
    exact after_file H S M _
  | tr n l =>
    simp [behT] at hr
    rcases hr with ⟨q, rfl⟩ | ⟨q, rfl⟩
    · rw [show encO (some false) = .bl false from rfl, after_tr H S M false]
      simp [afterT, noT]
    · rw [show encO (some true) = .bl true from rfl, after_tr H S M true]
      simp [afterT, ysT]
theorem comes_beh (M : MOk h s m) : ∀ r ∈ behT h s m, F_comes_in [encH h, encS s, encM m, encO r.1] = .ok (.bl (match r.1 with | none => false | some b => entersT h m b)) [] := by
  intro r hr
  cases m with
  | file n c cut =>
    simp [behT] at hr
    subst hr
    exact comes_file _
  | tr n l =>
    simp [behT] at hr
    rcases hr with ⟨q, rfl⟩ | ⟨q, rfl⟩
    · exact comes_tr M.2 false
    · exact comes_tr M.2 true
theorem behind_ok (H : HOk h) (S : SOk h s) (M : MOk h s m) : F_l_behind [encH h, encS s, encM m] = .ok (.lst ((behT h s m).map encR)) [] := by
  cases m with
  | file n c cut => exact behind_file H S M
  | tr n l => exact behind_tr H S M
theorem beh_len : (behT h s m).length ≤ 2 := by
  cases m with
  | file n c cut => simp [behT]
  | tr n l =>
    simp [behT]
    split <;> split <;> simp
theorem due_eq : ((behT h s m).filter fun r => !(encO r.1).isNon).map (fun r => encO r.1) = (ansT h s m).map D.bl := by
  cases m with
  | file n c cut => simp [behT, ansT, encO]
  | tr n l =>
    have q1 : (s.ps.any fun k => decide (toldB h s n l k = false)) = !decide (noT h s n l = []) := by
      rw [Bool.eq_iff_iff]
      simp [noT, List.filter_eq_nil_iff]
    have q2 : (s.ps.any fun k => decide (toldB h s n l k = true)) = !decide (ysT h s n l = []) := by
      rw [Bool.eq_iff_iff]
      simp [ysT, List.filter_eq_nil_iff]
    simp only [behT, ansT, List.filter_cons, List.filter_nil, q1, q2]
    by_cases z1 : noT h s n l = [] <;> by_cases z2 : ysT h s n l = [] <;> simp [z1, z2, encO]
theorem ans_len : (ansT h s m).length ≤ 2 := by
  cases m with
  | file n c cut => simp [ansT]
  | tr n l => exact Nat.le_trans (List.length_filter_le _ _) (by simp)
theorem move_right_ok (H : HOk h) (S : SOk h s) (M : MOk h s m) : F_l_move_right [encH h, encS s, encM m] = .ok (.bl true) [] := by
  have e1 := behind_ok H S M
  have e2 := answers_ok H S M
  have hl := beh_len (h := h) (s := s) (m := m)
  have e3 := same_ok 8 _ (smd_B (ansT h s m) (by have := ans_len (h := h) (s := s) (m := m); omega)) (by have := dp_B (ansT h s m); omega)
  simp (disch := first | assumption | omega | (simp; omega)) [F_l_move_right, runF_eq, startE_eq, B_l_move_right, e1]
  rw [compL_T encR (fun r => !(encO r.1).isNon) (fun r => encO r.1)]
  · have f1 := Nat.le_trans (List.length_filter_le (fun r : Option Bool × Sd => !(encO r.1).isNon) (behT h s m)) hl
    rw [List.nil_append, due_eq]
    have f2 := ans_len (h := h) (s := s) (m := m)
    simp (disch := first | assumption | omega | (simp; omega)) [lenK_ok, e2, e3]
    refine forL_elim (C := fun r => endF _ (Res.bind r _) = _) (fun _ e => ∃ s1 s2, notIo s1 = true ∧ notIo s2 = true ∧ e = [.sh (encH h), .sh (encS s), .sh (encM m), .sh (.lst ((behT h s m).map encR)), .sh (.tup ((ansT h s m).map D.bl)), s1, s2]) ⟨.no, .no, rfl, rfl, rfl⟩ ?_ ?_
    · rintro i x e hx ⟨s1, s2, n1, n2, rfl⟩
      rw [List.getElem?_map] at hx
      obtain ⟨r, hr, rfl⟩ := Option.map_eq_some_iff.mp hx
      have hr := List.mem_of_getElem? hr
      have a1 := after_beh H S M r hr
      have a2 := comes_beh M r hr
      have S2 := beh_ok H S M r hr
      have a3 := same_ok 8 (encS r.2) (smd_S r.2 (by have := S2.h2; omega) (fun x m => by have := (S2.hk x m).1; have := H.c2; omega) (by have := S2.p2; omega)) (by have := dp_S r.2; omega)
      have a4 : ∀ c : Bool, F_l_same 8 [.bl c, .bl c] = .ok (.bl true) [] := fun c => same_ok 8 (.bl c) rfl (by show 0 < 8; omega)
      have a5 : ∀ e : En, eAnd (o2 (.f (o2 (.n 5) (.f (eC (.int 0))) dIx)) (.f (eC (.bl true))) dIs) (o2 (.f (o2 (.f (o2 (.n 0) (.f (eC (.int 3))) dIx)) (.f (o2 (.n 2) (.f (eC (.int 2))) dIx)) dIx)) (.f (eC (.int 2))) dEq) [.sh (encH h), .sh (encS s), .sh (encM m), .sh (.lst ((behT h s m).map encR)), .sh (.tup ((ansT h s m).map D.bl)), .sh (encR r), s2] = .ok (.bl (match r.1 with | none => false | some b => entersT h m b)) [.sh (encH h), .sh (encS s), .sh (encM m), .sh (.lst ((behT h s m).map encR)), .sh (.tup ((ansT h s m).map D.bl)), .sh (encR r), s2] := by
        intro _
        cases m with
        | file n c cut =>
          simp [behT] at hr
          subst hr
          simp [encR, encO]
        | tr n l =>
          simp [behT] at hr
          rcases hr with ⟨q, rfl⟩ | ⟨q, rfl⟩
          · simp [encR, encO, entersT]
          · simp [encR, encO, entersT, encM, encH, tupI, at_mapR, M.2]
      refine ⟨_, by rw [tgN_eq]; exact tgK_n n1, ?_⟩
      have a5 := a5 []
      simp only [encR] at a5 ⊢
      simp [-eAnd_eq, a1, a2, a3, a4, a5, stK_n n2]
    · rintro e' ⟨s1, s2, n1, n2, rfl⟩
      simp
  · intro r hr kk acc
    simp [encR]
end
end
/-! ### what is drawn -/
def dr (l : List Int) : D := .lst (l.map D.int)
def tkV (l : List Int) (m : Int) : Int := match l.getLast? with
  | some x => x % m
  | none => 0
theorem tkV_ge (l : List Int) (m : Int) (h : 0 < m) : 0 ≤ tkV l m := by
  unfold tkV
  split
  · exact Int.emod_nonneg _ (by omega)
  · omega
theorem tkV_lt (l : List Int) (m : Int) (h : 0 < m) : tkV l m < m := by
  unfold tkV
  split
  · exact Int.emod_lt_of_pos _ h
  · exact h
theorem take_ok (l : List Int) (m : Int) (h : 0 < m) : F_l_take [dr l, .int m] = .ok (.int (tkV l m)) [dr l.dropLast] := by
  cases q : l.getLast? with
  | none =>
    have e : l = [] := by simpa using q
    subst e
    simp [F_l_take, runF_eq, startE_eq, B_l_take, dr, tkV]
  | some x =>
    have e : l ≠ [] := fun z => by subst z; simp at q
    have e1 : (l.map D.int).getLast? = some (.int x) := by rw [List.getLast?_map, q]; rfl
    have e2 : gPop (l.map D.int) [] = some (.int x, (l.map D.int).dropLast) := by
      show ((l.map D.int).getLast?).map _ = _
      rw [e1]
      rfl
    have e3 : dMod (.int x) (.int m) = some (.int (x % m)) := by
      show (if 0 < m then _ else _) = _
      rw [if_pos h]
    simp [F_l_take, runF_eq, startE_eq, B_l_take, dr, tkV, e, e2, e3, q]
section
variable {h : Hs} {s : Sd}
@[simp] theorem ixH0 : dIx (encH h) (.int 0) = some (.tup [.int h.c, .int h.d, .int h.s]) := nr rfl
@[simp] theorem ixH1 : dIx (encH h) (.int 1) = some (tL h.hand) := by simp [encH]
@[simp] theorem ixH2 : dIx (encH h) (.int 2) = some (.tup (h.pins.map tP)) := by simp [encH]
@[simp] theorem ixH3 : dIx (encH h) (.int 3) = some (tupI h.places) := by simp [encH]
@[simp] theorem ixH4 : dIx (encH h) (.int 4) = some (.int h.tries) := by simp [encH]
@[simp] theorem ixS0 : dIx (encS s) (.int 0) = some (tL s.hand) := by simp [encS]
@[simp] theorem ixS1 : dIx (encS s) (.int 1) = some (tN s.ps) := by simp [encS]
@[simp] theorem ixS2 : dIx (encS s) (.int 2) = some (.int s.tries) := by simp [encS]
@[simp] theorem len_L (l : List (List Int)) : dLen [tL l] = some (.int l.length) := by simp [tL]
@[simp] theorem len_I (l : List Int) : dLen [tupI l] = some (.int l.length) := by simp [tupI]
@[simp] theorem len_N (l : List Nat) : dLen [tN l] = some (.int l.length) := by simp [tN]
theorem ix_L (l : List (List Int)) (i : Nat) (h : i < l.length) : dIx (tL l) (.int i) = some (tupI (nth l i [])) := by
  simp [tL, at_mapL, h]
theorem ix_I (l : List Int) (i : Nat) (h : i < l.length) : dIx (tupI l) (.int i) = some (.int (nth l i 0)) := by
  simp [tupI, at_mapR, h]
theorem ix_N (l : List Nat) (i : Nat) (h : i < l.length) : dIx (tN l) (.int i) = some (.int (nth l i 0 : Nat)) := by
  simp [tN, at_N, h]
def MI (h : Hs) (s : Sd) (B : Nat) (e : En) : Prop := ∃ (ms : List Mv0) (s3 s4 s5 : MP.Slot), notIo s3 = true ∧ notIo s4 = true ∧ notIo s5 = true ∧ e = [.sh (encH h), .sh (encS s), .ow (.lst (ms.map encM)), s3, s4, s5, .no] ∧ (∀ m ∈ ms, MOk h s m) ∧ ms.length ≤ B
theorem rgD_at {a : Int} {n i : Nat} {d : D} (h : (rgD a n)[i]? = some d) : i < n ∧ d = .int (a + i) := rangeD_get h
theorem nat_at {n i : Nat} {d : D} (h : ((List.range n).map fun k : Nat => D.int k)[i]? = some d) : i < n ∧ d = .int i := by
  rw [List.getElem?_map] at h
  obtain ⟨k, hk, rfl⟩ := Option.map_eq_some_iff.mp h
  obtain ⟨h1, h2⟩ := List.getElem?_eq_some_iff.mp hk
  rw [List.length_range] at h1
  rw [List.getElem_range] at h2
  subst h2
  exact ⟨h1, rfl⟩
theorem moves_ok (H : HOk h) (S : SOk h s) : fsat (F_l_moves [encH h, encS s]) fun d o => ∃ ms : List Mv0, d = .lst (ms.map encM) ∧ o = [] ∧ (∀ m ∈ ms, MOk h s m) ∧ ms.length ≤ 1000 := by
  have h2 := S.h2
  have c2 := H.c2
  have d2 := H.d2
  have l2 := H.l2
  simp (disch := first | assumption | omega | (simp; omega)) [F_l_moves, runF_eq, startE_eq, B_l_moves, rg1K_ok, rgD_map]
  refine forL_1 (C := fun r => fsat (endF _ (Res.bind r _)) _) (fun i e => MI h s (i * 30) e) ⟨[], .no, .no, .no, rfl, rfl, rfl, rfl, by simp, by simp⟩ ?_ ?_
  · rintro i x e hx ⟨ms, s3, s4, s5, n3, n4, n5, rfl, hm, hl⟩
    obtain ⟨hi, rfl⟩ := nat_at hx
    have hk := S.hk _ (nth_mem (d := []) hi)
    refine ⟨_, by rw [tgN_eq]; exact tgK_n n3, ?_⟩
    simp (disch := first | assumption | omega | (simp; omega)) [rg1K_ok, rgD_map]
    refine forL_1 (C := fun r => sat r _) (fun j e => ∃ (ms : List Mv0) (s4 s5 : MP.Slot), notIo s4 = true ∧ notIo s5 = true ∧ e = [.sh (encH h), .sh (encS s), .ow (.lst (ms.map encM)), .sh (.int i), s4, s5, .no] ∧ (∀ m ∈ ms, MOk h s m) ∧ ms.length ≤ i * 30 + j * 10) ⟨ms, s4, s5, n4, n5, rfl, hm, by omega⟩ ?_ ?_
    · rintro j x e hx ⟨ms, s4, s5, n4, n5, rfl, hm, hl⟩
      obtain ⟨hj, rfl⟩ := nat_at hx
      have hc := hk.2 _ (nth_mem (d := 0) (show j < (nth s.hand i []).length by rw [hk.1]; exact hj))
      have hj' : j < (nth s.hand i []).length := by rw [hk.1]; exact hj
      refine ⟨_, by rw [tgN_eq]; exact tgK_n n4, ?_⟩
      simp (disch := first | assumption | omega | (simp; omega)) [rg2K_ok, ix_L, ix_I]
      refine forL_1 (C := fun r => sat r _) (fun k e => ∃ (ms : List Mv0) (s5 : MP.Slot), notIo s5 = true ∧ e = [.sh (encH h), .sh (encS s), .ow (.lst (ms.map encM)), .sh (.int i), .sh (.int j), s5, .no] ∧ (∀ m ∈ ms, MOk h s m) ∧ ms.length ≤ i * 30 + j * 10 + k) ⟨ms, s5, n5, rfl, hm, by omega⟩ ?_ ?_
      · rintro k x e hx ⟨ms, s5, n5, rfl, hm, hl⟩
        obtain ⟨hk2, rfl⟩ := rgD_at hx
        have c3 := H.c2
        refine ⟨_, by rw [tgN_eq]; exact tgK_n n5, ?_⟩
        simp (disch := first | assumption | omega | (simp; omega)) [gApp_ok]
        refine ⟨ms ++ [.file i j (nth (nth s.hand i []) j 0 + 1 + k)], .sh (.int (nth (nth s.hand i []) j 0 + 1 + k)), rfl, by simp [encM], ?_, by simp; omega⟩
        intro m hm'
        rcases List.mem_append.mp hm' with q | q
        · exact hm m q
        · simp at q
          subst q
          exact ⟨hi, hj, by omega, by omega⟩
      · rintro e' ⟨ms, s5, n5, rfl, hm, hl⟩
        rw [rgD_len] at hl
        rw [sat_ok, flP_nx]
        exact ⟨ms, .sh (.int j), rfl, s5, n5, rfl, hm, by omega⟩
    · rintro e' ⟨ms, s4, s5, n4, n5, rfl, hm, hl⟩
      simp at hl
      rw [sat_ok, flP_nx]
      exact ⟨ms, .sh (.int i), s4, s5, rfl, n4, n5, rfl, hm, by omega⟩
  · rintro e' ⟨ms, s3, s4, s5, n3, n4, n5, rfl, hm, hl⟩
    simp at hl
    by_cases ht : 0 < s.tries
    · simp (disch := first | assumption | omega | (simp; omega)) [ht, rg1K_ok, rgD_map]
      refine forL_1 (C := fun r => fsat (endF _ (Res.bind r _)) _) (fun i e => ∃ ms : List Mv0, ∃ s3 : MP.Slot, notIo s3 = true ∧ e = [.sh (encH h), .sh (encS s), .ow (.lst (ms.map encM)), s3, s4, s5, .no] ∧ (∀ m ∈ ms, MOk h s m) ∧ ms.length ≤ 150 + i * 10) ⟨ms, s3, n3, rfl, hm, by omega⟩ ?_ ?_
      · rintro i x e hx ⟨ms, s3, n3, rfl, hm, hl⟩
        obtain ⟨hi, rfl⟩ := nat_at hx
        refine ⟨_, by rw [tgN_eq]; exact tgK_n n3, ?_⟩
        simp (disch := first | assumption | omega | (simp; omega)) [rg1K_ok, rgD_map]
        rw [compL_T (fun k : Nat => D.int k) (fun k => !decide (nth h.places k 0 = 0)) (fun k : Nat => encM (.tr i k))]
        · have f1 : (List.filter (fun k => !decide (nth h.places k 0 = 0)) (List.range h.places.length)).length ≤ 10 := Nat.le_trans (List.length_filter_le _ _) (by simp; exact l2)
          simp (disch := first | assumption | omega | (simp; omega)) [lenK_ok, add_lst]
          refine ⟨ms ++ ((List.range h.places.length).filter fun k => !decide (nth h.places k 0 = 0)).map (fun k => Mv0.tr i k), .sh (.int i), rfl, ?_, ?_, ?_⟩
          · simp
          · intro m hm'
            rcases List.mem_append.mp hm' with q | q
            · exact hm m q
            · obtain ⟨k, hk, rfl⟩ := List.mem_map.mp q
              have := (List.mem_filter.mp hk).1
              simp at this
              exact ⟨hi, this⟩
          · simp
            omega
        · intro k hk kk acc
          simp at hk
          by_cases q : nth h.places k 0 = 0 <;> simp [ix_I, hk, q, encM]
      · rintro e' ⟨ms, s3, n3, rfl, hm, hl⟩
        simp at hl
        simp
        exact ⟨ms, rfl, hm, by omega⟩
    · simp [ht]
      exact ⟨ms, rfl, hm, by omega⟩
end
end K57

set_option Elab.async false
set_option linter.all false
set_option autoImplicit false
set_option maxRecDepth 100000
namespace K57
open PySem L2 MP
section
variable {h : Hs} {s : Sd}
@[simp] theorem min_2 (i j : Int) : dMin [.int i, .int j] = some (.int (if j < i then j else i)) := nr rfl
theorem ix_M (ms : List Mv0) (i : Int) (h0 : 0 ≤ i) (h1 : i < ms.length) : ∃ m ∈ ms, dIx (.lst (ms.map encM)) (.int i) = some (encM m) := by
  obtain ⟨k, rfl⟩ := Int.eq_ofNat_of_zero_le h0
  have hk : k < ms.length := by omega
  refine ⟨ms[k], List.getElem_mem hk, ?_⟩
  rw [ix_lst, atI_map, MP.atI_nat ms k hk]
  rfl
theorem ix_R (rs : List (Option Bool × Sd)) (i : Int) (h0 : 0 ≤ i) (h1 : i < rs.length) : ∃ r ∈ rs, dIx (.lst (rs.map encR)) (.int i) = some (encR r) := by
  obtain ⟨k, rfl⟩ := Int.eq_ofNat_of_zero_le h0
  have hk : k < rs.length := by omega
  refine ⟨rs[k], List.getElem_mem hk, ?_⟩
  rw [ix_lst, atI_map, MP.atI_nat rs k hk]
  rfl
theorem beh_ne (S : SOk h s) (m : Mv0) : behT h s m ≠ [] := by
  cases m with
  | file n c cut => simp [behT]
  | tr n l =>
    intro z
    simp [behT] at z
    obtain ⟨z1, z2⟩ := z
    cases hp : s.ps with
    | nil =>
      have := S.p1
      rw [hp] at this
      simp at this
    | cons k r =>
      rw [noT, hp] at z1
      rw [ysT, hp] at z2
      simp at z1 z2
      rw [z1.1] at z2
      simp at z2
def WI (h : Hs) (many : Int) (e : En) : Prop := ∃ (l : List Int) (s : Sd) (s4 s5 s6 s7 s8 : MP.Slot), notIo s4 = true ∧ notIo s5 = true ∧ notIo s6 = true ∧ notIo s7 = true ∧ notIo s8 = true ∧ SOk h s ∧ e = [.io (dr l), .sh (encH h), .sh (encS s), .sh (.int many), s4, s5, s6, s7, s8]
theorem walk_right_ok (H : HOk h) (S : SOk h s) (l : List Int) (many : Int) (hm : 0 ≤ many ∧ many ≤ 1000) : fsat (F_l_walk_right [dr l, encH h, encS s, .int many]) fun d o => d = .bl true ∧ ∃ l', o = [dr l'] := by
  simp (disch := first | assumption | omega | (simp; omega)) [F_l_walk_right, runF_eq, startE_eq, B_l_walk_right, rg1K_ok]
  refine forL_G1 (C := fun r => fsat (endF _ (Res.bind r _)) _) (fun i e => WI h many e) (WI h many) (fun _ _ => False) ⟨l, s, .no, .no, .no, .no, .no, rfl, rfl, rfl, rfl, rfl, S, rfl⟩ ?_ ?_ (fun _ _ z => z.elim)
  · rintro i x e hx ⟨l, s, s4, s5, s6, s7, s8, n4, n5, n6, n7, n8, S, rfl⟩
    refine ⟨_, by rw [tgN_eq]; exact tgK_n n4, ?_⟩
    have q := moves_ok H S
    have q2 := fsat_out q
    obtain ⟨d0, o0, hE, P0⟩ := q2
    obtain ⟨ms, e1, e2, hms, hml⟩ := P0
    subst e1
    subst e2
    simp [hE, stK_n n5]
    refine forL_1 (C := fun r => sat (Res.bind r _) _) (fun _ e => ∃ s6, notIo s6 = true ∧ e = [.io (dr l), .sh (encH h), .sh (encS s), .sh (.int many), .sh x, .sh (.lst (ms.map encM)), s6, s7, s8]) ⟨s6, n6, rfl⟩ ?_ ?_
    · rintro j y e hy ⟨s6, n6, rfl⟩
      rw [List.getElem?_map] at hy
      obtain ⟨m, hm2, rfl⟩ := Option.map_eq_some_iff.mp hy
      have e1 := move_right_ok H S (hms m (List.mem_of_getElem? hm2))
      refine ⟨_, by rw [tgN_eq]; exact tgK_n n6, ?_⟩
      simp [e1]
    · rintro e' ⟨s6, n6, rfl⟩
      by_cases q0 : ms = []
      · subst q0
        simp
        exact ⟨l, s, .sh x, .sh (.lst []), s6, s7, s8, rfl, rfl, n6, n7, n8, S, rfl⟩
      · have q1 : 0 < ms.length := List.length_pos_iff.mpr q0
        have t1 := tkV_ge l ms.length (by omega)
        have t2 := tkV_lt l ms.length (by omega)
        simp (disch := first | assumption | omega | (simp; omega)) [q0, take_ok, stK_n n7]
        refine sat_bind (fun fl e => fl = .nx ∧ ∃ (l' : List Int) (a : Int), 0 ≤ a ∧ a < ms.length ∧ e = [.io (dr l'), .sh (encH h), .sh (encS s), .sh (.int many), .sh x, .sh (.lst (ms.map encM)), s6, .sh (.int a), s8]) ?_ ?_
        · have lit : ∀ (L : List Int) (A : Int), 0 ≤ A → A < ms.length → (fun (fl : Fl) (e : En) => fl = .nx ∧ ∃ (l' : List Int) (a : Int), 0 ≤ a ∧ a < ms.length ∧ e = [.io (dr l'), .sh (encH h), .sh (encS s), .sh (.int many), .sh x, .sh (.lst (ms.map encM)), s6, .sh (.int a), s8]) .nx [.io (dr L), .sh (encH h), .sh (encS s), .sh (.int many), .sh x, .sh (.lst (ms.map encM)), s6, .sh (.int A), s8] := fun L A h0 h1 => ⟨rfl, L, A, h0, h1, rfl⟩
          by_cases c1 : 0 < s.tries
          · by_cases c2 : tkV l.dropLast 2 = 1
            · have m1 : (0 : Int) < if (6 : Int) < (ms.length : Int) then (6 : Int) else (ms.length : Int) := by split <;> omega
              have u1 := tkV_ge l.dropLast.dropLast (if (6 : Int) < (ms.length : Int) then (6 : Int) else (ms.length : Int)) m1
              have u2 := tkV_lt l.dropLast.dropLast (if (6 : Int) < (ms.length : Int) then (6 : Int) else (ms.length : Int)) m1
              have u3 : (if (6 : Int) < (ms.length : Int) then (6 : Int) else (ms.length : Int)) ≤ ms.length := by split <;> omega
              have e1 := take_ok l.dropLast.dropLast (if (6 : Int) < (ms.length : Int) then (6 : Int) else (ms.length : Int)) m1
              exact ⟨_, _, by simp [c1, c2, e1]; exact ⟨rfl, rfl⟩, lit _ _ (by omega) (by omega)⟩
            · exact ⟨_, _, by simp [c1, c2]; exact rfl, lit _ _ t1 t2⟩
          · exact ⟨_, _, by simp [c1]; exact rfl, lit _ _ t1 t2⟩
        · rintro fl e ⟨rfl, l', a, a0, a1, rfl⟩
          obtain ⟨m, hm1, hm2⟩ := ix_M ms a a0 a1
          have M := hms m hm1
          have b1 := behind_ok H S M
          have b2 := move_right_ok H S M
          have b3 : 0 < (behT h s m).length := List.length_pos_iff.mpr (beh_ne S m)
          have v1 := tkV_ge l' (behT h s m).length (by omega)
          have v2 := tkV_lt l' (behT h s m).length (by omega)
          obtain ⟨r, hr1, hr2⟩ := ix_R (behT h s m) _ v1 v2
          have S2 := beh_ok H S M r hr1
          have e3 := take_ok l' (behT h s m).length (by omega)
          simp [-ix_lst, hm2, b1, b2, stK_n n8, e3, hr2, encR]
          exact ⟨l'.dropLast, r.2, .sh x, .sh (.lst (ms.map encM)), s6, .sh (.int a), .ow (.lst ((behT h s m).map encR)), rfl, rfl, n6, rfl, rfl, S2, rfl⟩
  · intro e' he
    have he : WI h many e' := he.elim id id
    obtain ⟨l, s, s4, s5, s6, s7, s8, n4, n5, n6, n7, n8, S, rfl⟩ := he
    simp
    exact ⟨l, rfl⟩
end
end K57

set_option Elab.async false
set_option linter.all false
set_option autoImplicit false
set_option maxRecDepth 100000
namespace K57
open PySem L2 MP
/-! ### the draws -/
def scr (ns : List Int) : D := .scr (ns.map D.int)
theorem cell_ok (ns : List Int) (a : Int) : ∃ v : Int, F_l_cell [scr ns, .int a] = .ok (.int v) [] := by
  by_cases q : ns = []
  · subst q
    exact ⟨0, by simp [F_l_cell, runF_eq, startE_eq, B_l_cell, scr]⟩
  · have q1 : 0 < ns.length := List.length_pos_iff.mpr q
    have h0 := Int.emod_nonneg a (show (ns.length : Int) ≠ 0 by omega)
    have h1 := Int.emod_lt_of_pos a (show (0 : Int) < ns.length by omega)
    obtain ⟨k, hk⟩ := Int.eq_ofNat_of_zero_le h0
    refine ⟨nth ns k 0, ?_⟩
    have hk' : k < ns.length := by omega
    simp (disch := first | assumption | omega | (simp; omega)) [F_l_cell, runF_eq, startE_eq, B_l_cell, scr, q, mod_int, hk, at_mapR, hk']
def DI (ns : List Int) (many : Int) (cs : List Int) (i : Nat) (e : En) : Prop := ∃ (rs ds : List Int) (s5 s6 s8 : MP.Slot), notIo s5 = true ∧ notIo s6 = true ∧ notIo s8 = true ∧ rs.length = cs.length ∧ ds.length ≤ i ∧ e = [.sh (scr ns), .sh (.int many), .ow (dr cs), .ow (dr rs), .ow (dr ds), s5, s6, .no, s8]
theorem draws_ok (ns : List Int) (many : Int) (hm : 0 ≤ many ∧ many ≤ 1000) (hn : ns.length ≤ 63) : fsat (F_l_draws [scr ns, .int many]) fun d o => o = [] ∧ ∃ l, d = dr l := by
  show fsat (endF [false, false] (B_l_draws [.sh (scr ns), .sh (.int many), .no, .no, .no, .no, .no, .no, .no])) _
  unfold B_l_draws
  rw [sSeq_eq]
  have e1 : compL (tgN 7) cYes (oN [(.n 7)] dInt) [7] (ns.map D.int) [] [.sh (scr ns), .sh (.int many), .no, .no, .no, .no, .no, .no, .no] = .ok (ns.map D.int) [.sh (scr ns), .sh (.int many), .no, .no, .no, .no, .no, .no, .no] := by
    rw [compL_all D.int D.int]
    intro x hx k acc
    simp
  refine fbind (fun fl e => fl = .nx ∧ e = [.sh (scr ns), .sh (.int many), .ow (dr ns), .no, .no, .no, .no, .no, .no]) ?_ ?_
  · simp [scr] at e1
    simp (disch := first | assumption | omega | (simp; omega)) [scr, e1, lenK_ok, dr]
  rintro fl e ⟨rfl, rfl⟩
  rw [sqK_nx, sSeq_eq]
  refine fbind (fun fl e => fl = .nx ∧ ∃ cs : List Int, cs ≠ [] ∧ cs.length ≤ 63 ∧ e = [.sh (scr ns), .sh (.int many), .ow (dr cs), .no, .no, .no, .no, .no, .no]) ?_ ?_
  · by_cases q : ns = []
    · subst q
      simp (disch := first | assumption | omega | (simp; omega)) [gApp_ok, dr]
      exact ⟨[0], by simp, by simp, rfl⟩
    · simp (disch := first | assumption | omega | (simp; omega)) [gApp_ok, dr, q]
      exact ⟨ns, q, hn, rfl⟩
  rintro fl e ⟨rfl, cs, c1, c2, rfl⟩
  have c3 : 0 < cs.length := List.length_pos_iff.mpr c1
  simp (disch := first | assumption | omega | (simp; omega)) [rg1K_ok, dr]
  refine forL_1 (C := fun r => fsat (endF _ (Res.bind r _)) _) (fun i e => DI ns many cs i e) ⟨cs, [], .no, .no, .no, rfl, rfl, rfl, rfl, by simp, rfl⟩ ?_ ?_
  · rintro i x e hx ⟨rs, ds, s5, s6, s8, n5, n6, n8, hr, hd, rfl⟩
    obtain ⟨hi, rfl⟩ := rgD_at hx
    refine ⟨_, by rw [tgN_eq]; exact tgK_n n5, ?_⟩
    have h0 := Int.emod_nonneg (0 + (i : Int)) (show (cs.length : Int) ≠ 0 by omega)
    have h1 := Int.emod_lt_of_pos (0 + (i : Int)) (show (0 : Int) < cs.length by omega)
    obtain ⟨k, hk⟩ := Int.eq_ofNat_of_zero_le h0
    have hk1 : k < cs.length := by omega
    have hk2 : k < rs.length := by omega
    have p18 : ((10 : Int) ^ (18 : Int).toNat) = 1000000000000000000 := by decide
    simp at hk
    simp (disch := first | assumption | omega | (simp; omega)) [dr, mod_int, stK_n n6, hk, at_mapR, pow_int]
    have hd' : ds.length ≤ 1000 := by omega
    by_cases c18 : (1000000000000000000 : Int) ≤ nth cs k 0
    · simp (disch := first | assumption | omega | (simp; omega)) [c18, gApp_ok, at_mapR, fdv_int, set_lst]
      exact ⟨rs.set k (nth rs k 0 / 1000), ds ++ [nth rs k 0 % 1000], .sh (.int i), .sh (.int k), s8, rfl, rfl, n8, by simp [hr], by simp; omega, by simp [dr, List.map_set]⟩
    · have g1 := Int.emod_nonneg (nth cs k 0 * 48271 + i * 69621 + 11) (show (2147483647 : Int) ≠ 0 by omega)
      have g2 := Int.emod_lt_of_pos (nth cs k 0 * 48271 + i * 69621 + 11) (show (0 : Int) < 2147483647 by omega)
      simp (disch := first | assumption | omega | (simp; omega)) [c18, gApp_ok, at_mapR, mul_int, mod_int, stK_n n8]
      exact ⟨rs, ds ++ [_], .sh (.int i), .sh (.int k), .sh (.int _), rfl, rfl, rfl, hr, by simp; omega, by simp [dr]; exact ⟨rfl, rfl⟩⟩
  · rintro e ⟨rs, ds, s5, s6, s8, n5, n6, n8, hr, hd, rfl⟩
    simp [dr]
    exact ⟨ds.reverse, by simp⟩
/-! ### the drawn houses -/
theorem pick (l : List Int) (v : Int) (h0 : 0 ≤ v) (h1 : v < l.length) : ∃ x ∈ l, dIx (.lst (l.map D.int)) (.int v) = some (.int x) := by
  obtain ⟨k, rfl⟩ := Int.eq_ofNat_of_zero_le h0
  have hk : k < l.length := by omega
  exact ⟨nth l k 0, nth_mem hk, by rw [ix_lst, at_mapR _ _ _ hk]⟩
theorem some_ok (l : List Int) (m : Nat) (h1 : 1 ≤ m) (h2 : m ≤ 4) : ∃ (v l' : List Int), F_l_some [dr l, .int m] = .ok (tupI v) [dr l'] := by
  obtain ⟨x, hx, ex⟩ := pick [1, 3, 7, 15] ((m : Int) - 1) (by omega) (by simp; omega)
  have hx0 : 0 < x := by simp at hx; omega
  simp at ex
  have p4 : ∀ k : Nat, k < 4 → atI [D.int 1, D.int 2, D.int 4, D.int 8] (k : Int) = some (.int (nth [1, 2, 4, 8] k 0)) := fun k hk => at_mapR D.int [1, 2, 4, 8] k hk
  refine ⟨((List.range m).filter fun k => decide (((1 + tkV l x) / nth [1, 2, 4, 8] k 0) % 2 = 1)).map fun k : Nat => (k : Int), l.dropLast, ?_⟩
  simp (disch := first | assumption | omega | (simp; omega)) [F_l_some, runF_eq, startE_eq, B_l_some, ex, take_ok, rg1K_ok, rgD_map]
  rw [compL_T (fun k : Nat => D.int k) (fun k => decide (((1 + tkV l x) / nth [1, 2, 4, 8] k 0) % 2 = 1)) (fun k : Nat => D.int k)]
  · have f1 := Nat.le_trans (List.length_filter_le (fun k => decide (((1 + tkV l x) / nth [1, 2, 4, 8] k 0) % 2 = 1)) (List.range m)) (by simp; exact h2)
    simp (disch := first | assumption | omega | (simp; omega)) [lenK_ok, tupI]
  · intro k hk kk acc
    simp at hk
    have hk4 : k < 4 := by omega
    have hm : nth ([1, 2, 4, 8] : List Int) k 0 ∈ ([1, 2, 4, 8] : List Int) := nth_mem hk4
    have hp : 0 < nth ([1, 2, 4, 8] : List Int) k 0 ∧ nth ([1, 2, 4, 8] : List Int) k 0 ≤ 1000000000 := by
      simp at hm
      omega
    simp (disch := first | assumption | omega | (simp; omega)) [p4, fdv_int, mod_int, hp]
def encPk (c d : Nat) (s : Int) : D := .tup [.int c, .int d, .int s]
@[simp] theorem pk0 (c d : Nat) (s : Int) : dIx (encPk c d s) (.int 0) = some (.int c) := by simp [encPk]
@[simp] theorem pk1 (c d : Nat) (s : Int) : dIx (encPk c d s) (.int 1) = some (.int d) := by simp [encPk]
/-- the pinnings so far -/
def PI0 (c d : Nat) (s : Int) (many L : Nat) (i : Nat) (e : En) : Prop := ∃ (l : List Int) (ps : List (List (List (List Int)))) (s5 s6 s7 : MP.Slot), notIo s5 = true ∧ notIo s6 = true ∧ notIo s7 = true ∧ ps.length ≤ i ∧ (1 ≤ i → 1 ≤ ps.length) ∧ (∀ p ∈ ps, p.length = L ∧ ∀ k ∈ p, k.length = c) ∧ e = [.io (dr l), .sh (encPk c d s), .sh (.int many), .sh (.int L), .ow (.lst (ps.map tP)), s5, s6, s7, .no]
theorem pl_I (l : List Int) : (tupI l).pl = true := pls_ints l
theorem pl_L (l : List (List Int)) : (tL l).pl = true := pls_map _ _ fun x _ => pl_I x
theorem pl_P (l : List (List (List Int))) : (tP l).pl = true := pls_map _ _ fun x _ => pl_L x
theorem dp_P (l : List (List (List Int))) : (tP l).dp ≤ 3 := by
  show D.dps _ + 1 ≤ 3
  have := dps_map tL l 2 fun x _ => dp_L x
  omega
theorem nin_P (p : List (List (List Int))) (ps : List (List (List (List Int)))) : dNi (tP p) (.lst (ps.map tP)) = some (.bl (!decide (tP p ∈ ps.map tP))) := by
  show (anyIn _ _).map _ = _
  rw [anyIn_pl (pl_P p) (pls_map _ _ fun x _ => pl_P x) (by have := dp_P p; omega) (by have := dps_map tP ps 3 fun x _ => dp_P x; omega)]
  rfl
theorem pinnings_ok (l : List Int) (c d : Nat) (s : Int) (many L : Nat) (hc : 1 ≤ c ∧ c ≤ 3) (hd : 1 ≤ d ∧ d ≤ 4) (hm : 1 ≤ many ∧ many ≤ 10) (hL : 1 ≤ L ∧ L ≤ 10) : fsat (F_l_pinnings [dr l, encPk c d s, .int many, .int L]) fun r o => ∃ (ps : List (List (List (List Int)))) (l' : List Int), r = .tup (ps.map tP) ∧ o = [dr l'] ∧ 1 ≤ ps.length ∧ ps.length ≤ 10 ∧ ∀ p ∈ ps, p.length = L ∧ ∀ k ∈ p, k.length = c := by
  simp (disch := first | assumption | omega | (simp; omega)) [F_l_pinnings, runF_eq, startE_eq, B_l_pinnings, rg1K_ok, rgD_map]
  refine forL_1 (C := fun r => fsat (endF _ (Res.bind r _)) _) (fun i e => PI0 c d s many L i e) ⟨l, [], .no, .no, .no, rfl, rfl, rfl, by simp, by simp, by simp, rfl⟩ ?_ ?_
  · rintro i x e hx ⟨l, ps, s5, s6, s7, n5, n6, n7, hp1, hp2, hp3, rfl⟩
    obtain ⟨hi, rfl⟩ := nat_at hx
    refine ⟨_, by rw [tgN_eq]; exact tgK_n n5, ?_⟩
    rw [sSeq_eq]
    refine sat_bind (fun fl e => fl = .nx ∧ ∃ (l' : List Int) (p : List (List (List Int))) (t7 : MP.Slot), notIo t7 = true ∧ p.length = L ∧ (∀ k ∈ p, k.length = c) ∧ e = [.io (dr l'), .sh (encPk c d s), .sh (.int many), .sh (.int L), .ow (.lst (ps.map tP)), .sh (.int i), .ow (.lst (p.map tL)), t7, .no]) ?_ ?_
    · rw [sSetM_eq]
      refine sat_bind (fun r e => ∃ (l' : List Int) (p : List (List (List Int))) (t7 : MP.Slot), r = .lst (p.map tL) ∧ notIo t7 = true ∧ p.length = L ∧ (∀ k ∈ p, k.length = c) ∧ e = [.io (dr l'), .sh (encPk c d s), .sh (.int many), .sh (.int L), .ow (.lst (ps.map tP)), .sh (.int i), s6, t7, .no]) ?_ ?_
      · refine eLc_sat (e1 := [.io (dr l), .sh (encPk c d s), .sh (.int many), .sh (.int L), .ow (.lst (ps.map tP)), .sh (.int i), s6, s7, .no]) (ds := (List.range L).map fun k : Nat => D.int k) (fun j acc e => ∃ (l' : List Int) (p : List (List (List Int))), acc = p.map tL ∧ p.length = j ∧ (∀ k ∈ p, k.length = c) ∧ e = [.io (dr l'), .sh (encPk c d s), .sh (.int many), .sh (.int L), .ow (.lst (ps.map tP)), .sh (.int i), s6, .no, .no])
          (by simp (disch := first | assumption | omega | (simp; omega)) [rg1K_ok, rgD_map]) ⟨l, [], rfl, rfl, by simp, by simp⟩ ?_ ?_
        · rintro j x acc e hx ⟨l', p, rfl, hpl, hpk, rfl⟩
          obtain ⟨hj, rfl⟩ := nat_at hx
          refine ⟨_, by rw [tgN_eq]; exact tgK_n rfl, ?_⟩
          rw [cYes_eq, sat_ok, if_pos rfl]
          rw [oN_eq, args_f, bind_bind]
          refine sat_bind (fun r e => ∃ (l'' : List Int) (v : List (List Int)), r = .lst (v.map tupI) ∧ v.length = c ∧ e = [.io (dr l''), .sh (encPk c d s), .sh (.int many), .sh (.int L), .ow (.lst (ps.map tP)), .sh (.int i), s6, .sh (.int j), .no]) ?_ ?_
          · refine eLc_sat (e1 := [.io (dr l'), .sh (encPk c d s), .sh (.int many), .sh (.int L), .ow (.lst (ps.map tP)), .sh (.int i), s6, .sh (.int j), .no]) (ds := (List.range c).map fun k : Nat => D.int k) (fun q acc e => ∃ (l'' : List Int) (v : List (List Int)), acc = v.map tupI ∧ v.length = q ∧ e = [.io (dr l''), .sh (encPk c d s), .sh (.int many), .sh (.int L), .ow (.lst (ps.map tP)), .sh (.int i), s6, .sh (.int j), .no])
              (by simp (disch := first | assumption | omega | (simp; omega)) [rg1K_ok, rgD_map]) ⟨l', [], rfl, rfl, by simp⟩ ?_ ?_
            · rintro q x acc e hx ⟨l'', v, rfl, hv, rfl⟩
              obtain ⟨hq, rfl⟩ := nat_at hx
              refine ⟨_, by rw [tgN_eq]; exact tgK_n rfl, ?_⟩
              obtain ⟨w, l3, hw⟩ := some_ok l'' d hd.1 hd.2
              simp [hw]
              exact ⟨l3, v ++ [w], by simp, by simp [hv], rfl⟩
            · rintro acc e ⟨l'', v, rfl, hv, rfl⟩
              simp at hv
              exact ⟨by simp; omega, l'', v, rfl, hv, by simp⟩
          · rintro r e ⟨l'', v, rfl, hv, rfl⟩
            simp
            exact ⟨l'', p ++ [v], by simp [tL], by simp [hpl], by simpa [or_imp, forall_and, hv] using hpk, rfl⟩
        · rintro acc e ⟨l', p, rfl, hpl, hpk, rfl⟩
          simp at hpl
          refine ⟨by simp; omega, l', p, bkK s7, rfl, by simp, hpl, hpk, by simp⟩
      · rintro r e ⟨l', p, t7, rfl, n7', hpl, hpk, rfl⟩
        simp [stK_n n6]
        exact ⟨l', p, t7, n7', hpl, hpk, rfl, rfl, rfl⟩
    · rintro fl e ⟨rfl, l', p, t7, n7', hpl, hpk, rfl⟩
      rw [sqK_nx, sSeq_eq]
      refine sat_bind (fun fl e => fl = .nx ∧ ∃ (l' : List Int) (p : List (List (List Int))) (t7 : MP.Slot), notIo t7 = true ∧ p.length = L ∧ (∀ k ∈ p, k.length = c) ∧ e = [.io (dr l'), .sh (encPk c d s), .sh (.int many), .sh (.int L), .ow (.lst (ps.map tP)), .sh (.int i), .ow (.lst (p.map tL)), t7, .no]) ?_ ?_
      · simp (disch := first | assumption | omega | (simp; omega)) [rg1K_ok, rgD_map]
        refine forL_1 (C := fun r => sat r _) (fun j e => ∃ (l' : List Int) (p : List (List (List Int))) (t7 : MP.Slot), notIo t7 = true ∧ p.length = L ∧ (∀ k ∈ p, k.length = c) ∧ e = [.io (dr l'), .sh (encPk c d s), .sh (.int many), .sh (.int L), .ow (.lst (ps.map tP)), .sh (.int i), .ow (.lst (p.map tL)), t7, .no]) ⟨l', p, t7, n7', hpl, hpk, rfl⟩ ?_ ?_
        · rintro j x e hx ⟨l', p, t7, n7', hpl, hpk, rfl⟩
          obtain ⟨hj, rfl⟩ := nat_at hx
          refine ⟨_, by rw [tgN_eq]; exact tgK_n n7', ?_⟩
          by_cases hi0 : 0 < i
          · have e2 := take_ok l' 2 (by omega)
            have hpz := hp2 hi0
            have hpm : nth ps 0 [] ∈ ps := nth_mem hpz
            obtain ⟨g1, g2⟩ := hp3 _ hpm
            by_cases c0 : tkV l' 2 = 0
            · simp (disch := first | assumption | omega | (simp; omega)) [e2, hi0, c0]
              have a0 : atI (ps.map tP) 0 = some (tP (nth ps 0 [])) := at_mapL tP ps 0 hpz
              have a1 : dIx (tP (nth ps 0 [])) (.int j) = some (tL (nth (nth ps 0 []) j [])) := at_mapL tL _ j (by omega)
              simp (disch := first | assumption | omega | (simp; omega)) [a0, a1, set_lst]
              have hm2 : nth (nth ps 0 []) j [] ∈ nth ps 0 [] := nth_mem (by omega)
              refine ⟨_, p.set j (nth (nth ps 0 []) j []), _, rfl, by simp [hpl], ?_, rfl, by simp [List.map_set], rfl⟩
              intro k hk
              rcases List.mem_or_eq_of_mem_set hk with hk | rfl
              · exact hpk k hk
              · exact g2 _ hm2
            · simp (disch := first | assumption | omega | (simp; omega)) [e2, hi0, c0]
              exact ⟨_, p, _, rfl, hpl, hpk, rfl, rfl, rfl⟩
          · simp (disch := first | assumption | omega | (simp; omega)) [hi0]
            exact ⟨_, p, _, rfl, hpl, hpk, rfl, rfl, rfl⟩
        · rintro e ⟨l', p, t7, n7', hpl, hpk, rfl⟩
          rw [sat_ok]
          exact ⟨rfl, l', p, t7, n7', hpl, hpk, rfl⟩
      · rintro fl e ⟨rfl, l', p, t7, n7', hpl, hpk, rfl⟩
        have nn := nin_P p ps
        by_cases hin : tP p ∈ ps.map tP
        · have nn' : dNi (.tup (p.map tL)) (.lst (ps.map tP)) = some (.bl false) := by
            show dNi (tP p) _ = _
            simp [nn, hin]
          simp [nn']
          have hne : 1 ≤ ps.length := by
            cases ps with
            | nil => simp at hin
            | cons x r => simp
          exact ⟨l', ps, _, _, _, rfl, rfl, n7', by omega, fun _ => hne, hp3, rfl⟩
        · have nn' : dNi (.tup (p.map tL)) (.lst (ps.map tP)) = some (.bl true) := by
            show dNi (tP p) _ = _
            simp [nn, hin]
          simp (disch := first | assumption | omega | (simp; omega)) [nn', gApp_ok]
          refine ⟨l', ps ++ [p], .sh (.int i), .ow (.lst (p.map tL)), t7, rfl, rfl, n7', by simp; omega, by simp, ?_, by simp [tP]⟩
          intro q hq
          rcases List.mem_append.mp hq with hq | hq
          · exact hp3 q hq
          · simp at hq
            subst hq
            exact ⟨hpl, hpk⟩
  · rintro e ⟨l, ps, s5, s6, s7, n5, n6, n7, hp1, hp2, hp3, rfl⟩
    simp at hp1 hp2
    simp
    exact ⟨ps, rfl, ⟨l, rfl⟩, hp2 hm.1, by omega, hp3⟩
end K57

set_option Elab.async false
set_option linter.all false
set_option autoImplicit false
set_option maxRecDepth 100000
namespace K57
open PySem L2 MP
def KeyOk (c : Nat) (k : List Int) : Prop := k.length = c ∧ ∀ x ∈ k, 0 ≤ x ∧ x ≤ 10
/-- the hand so far -/
def HI (c d : Nat) (s : Int) (m : Nat) (r : Int) (i : Nat) (e : En) : Prop := ∃ (l : List Int) (ks : List (List Int)) (zs : List Int) (rest : Int) (s6 s7 s8 s9 s10 s11 : MP.Slot), notIo s6 = true ∧ notIo s7 = true ∧ notIo s8 = true ∧ notIo s9 = true ∧ notIo s10 = true ∧ notIo s11 = true ∧ s6.see = some (.int rest) ∧ 1 ≤ rest ∧ ks.length = i ∧ zs.length = i ∧ (∀ k ∈ ks, KeyOk c k) ∧ (∀ z ∈ zs, 0 ≤ z ∧ z ≤ 64) ∧
  e = [.io (dr l), .sh (encPk c d s), .sh (.int m), .sh (.int r), .ow (.lst (ks.map tupI)), .ow (.lst (zs.map D.int)), s6, s7, s8, s9, s10, s11]
def HJ (c d : Nat) (s : Int) (m : Nat) (r : Int) (ks : List (List Int)) (zs : List Int) (i : Nat) (j : Nat) (e : En) : Prop := ∃ (l key : List Int) (size rest : Int) (s6 s9 s10 s11 : MP.Slot), notIo s6 = true ∧ notIo s9 = true ∧ notIo s10 = true ∧ notIo s11 = true ∧ s6.see = some (.int rest) ∧ s9.see = some (.int size) ∧ 1 ≤ rest ∧ 0 ≤ size ∧ size ≤ 4 ^ j ∧ key.length = j ∧ (∀ x ∈ key, 0 ≤ x ∧ x ≤ 10) ∧
  e = [.io (dr l), .sh (encPk c d s), .sh (.int m), .sh (.int r), .ow (.lst (ks.map tupI)), .ow (.lst (zs.map D.int)), s6, .sh (.int i), .ow (.lst (key.map D.int)), s9, s10, s11]
theorem up_pick (l : List Int) : ∃ x : Int, 0 ≤ x ∧ x ≤ 3 ∧ atI [D.int 0, D.int 1, D.int 0, D.int 2, D.int 0, D.int 1, D.int 3, D.int 0] (tkV l 8) = some (.int x) := by
  obtain ⟨x, hx, ex⟩ := pick [0, 1, 0, 2, 0, 1, 3, 0] (tkV l 8) (tkV_ge l 8 (by omega)) (by have := tkV_lt l 8 (by omega); simpa using this)
  refine ⟨x, ?_, ?_, by simpa [ix_lst] using ex⟩ <;> (simp at hx; omega)
theorem hand_ok (l : List Int) (c d : Nat) (s : Int) (m : Nat) (r : Int) (hc : 1 ≤ c ∧ c ≤ 3) (hd : 1 ≤ d ∧ d ≤ 4) (hm : 1 ≤ m ∧ m ≤ 3) (hr : 1 ≤ r) : fsat (F_l_hand [dr l, encPk c d s, .int m, .int r]) fun x o => ∃ (ks : List (List Int)) (l' : List Int), x = tL ks ∧ o = [dr l'] ∧ ks.length = m ∧ ∀ k ∈ ks, KeyOk c k := by
  show fsat (endF [true, false, false, false] (B_l_hand [.io (dr l), .sh (encPk c d s), .sh (.int m), .sh (.int r), .no, .no, .no, .no, .no, .no, .no, .no])) _
  unfold B_l_hand
  rw [sSeq_eq]
  simp
  refine fbind (fun fl e => fl = .nx ∧ HI c d s m r m e) ?_ ?_
  · simp (disch := first | assumption | omega | (simp; omega)) [rg1K_ok, rgD_map]
    refine forL_1 (C := fun r => sat r _) (fun i e => HI c d s m r i e) ⟨l, [], [], r, _, _, _, _, _, _, rfl, rfl, rfl, rfl, rfl, rfl, rfl, hr, rfl, rfl, by simp, by simp, rfl⟩ ?_ ?_
    · rintro i x e hx ⟨l, ks, zs, rest, s6, s7, s8, s9, s10, s11, n6, n7, n8, n9, n10, n11, h6, h1, hk, hz, hko, hzo, rfl⟩
      obtain ⟨hi, rfl⟩ := nat_at hx
      refine ⟨_, by rw [tgN_eq]; exact tgK_n n7, ?_⟩
      simp (disch := first | assumption | omega | (simp; omega)) [rg1K_ok, rgD_map, stK_n n8, stK_n n9]
      refine forL_1 (C := fun r => sat (Res.bind r _) _) (fun j e => HJ c d s m r ks zs i j e) ⟨l, [], 1, rest, s6, _, s10, s11, n6, rfl, n10, n11, h6, rfl, h1, by omega, by simp, rfl, by simp, rfl⟩ ?_ ?_
      · rintro j x e hx ⟨l, key, size, rest, s6, s9, s10, s11, n6, n9, n10, n11, h6, h9, h1, hs0, hs, hkl, hkx, rfl⟩
        obtain ⟨hj, rfl⟩ := nat_at hx
        refine ⟨_, by rw [tgN_eq]; exact tgK_n n10, ?_⟩
        have e1 := take_ok l 8 (by omega)
        obtain ⟨u, u0, u3, eu⟩ := up_pick l
        obtain ⟨m1, m2, m3, m4⟩ := minI_2 u ((d : Int) - 1) (rest - 1)
        generalize hv : minI u [(d : Int) - 1, rest - 1] = v at m1 m2 m3 m4
        have v0 : 0 ≤ v := by omega
        have hq : 1 ≤ rest / (v + 1) := Int.le_ediv_of_mul_le (by omega) (by omega)
        simp (disch := first | assumption | omega | (simp; omega)) [e1, eu, h6, h9, hv, stK_n n11, stK_n n6, stK_n n9, fdv_int, mul_int, gApp_ok]
        refine ⟨l.dropLast, key ++ [(d : Int) - 1 - v], size * (v + 1), rest / (v + 1), .sh (.int (rest / (v + 1))), .sh (.int (size * (v + 1))), .sh (.int j), .sh (.int v), rfl, rfl, rfl, rfl, rfl, rfl, hq, Int.mul_nonneg hs0 (by omega), ?_, by simp [hkl], ?_, by simp⟩
        · rw [Int.pow_succ]
          exact Int.mul_le_mul hs (by omega) (by omega) (by exact Int.pow_nonneg (by omega))
        · intro x hx
          rcases List.mem_append.mp hx with hx | hx
          · exact hkx x hx
          · simp at hx
            omega
      · rintro e ⟨l, key, size, rest, s6, s9, s10, s11, n6, n9, n10, n11, h6, h9, h1, hs0, hs, hkl, hkx, rfl⟩
        simp at hs hkl
        have hs2 : size ≤ 64 := by
          have : c = 1 ∨ c = 2 ∨ c = 3 := by omega
          rcases this with rfl | rfl | rfl <;> simp at hs <;> omega
        cases s9 with
        | sh q9 => ?_
        | ow q9 => ?_
        | io q9 => cases n9
        | no => cases h9
        all_goals
          simp at h9
          subst h9
          simp (disch := first | assumption | omega | (simp; omega)) [gApp_ok]
          refine ⟨l, ks ++ [key], zs ++ [size], rest, s6, .sh (.int i), .ow (.lst (key.map D.int)), .sh (.int size), s10, s11, n6, rfl, rfl, rfl, n10, n11, h6, h1, by simp [hk], by simp [hz], ?_, ?_, by simp [tupI]⟩
          · intro k hkk
            rcases List.mem_append.mp hkk with hkk | hkk
            · exact hko k hkk
            · simp at hkk
              subst hkk
              exact ⟨hkl, hkx⟩
          · intro z hzz
            rcases List.mem_append.mp hzz with hzz | hzz
            · exact hzo z hzz
            · simp at hzz
              omega
    · rintro e H
      simp at H
      rw [sat_ok]
      exact ⟨rfl, H⟩
  · rintro fl e ⟨rfl, l, ks, zs, rest, s6, s7, s8, s9, s10, s11, n6, n7, n8, n9, n10, n11, h6, h1, hk, hz, hko, hzo, rfl⟩
    have e1 := take_ok l 4 (by omega)
    have e2 := take_ok l.dropLast 2 (by omega)
    have k0 : ks ≠ [] := fun z => by subst z; simp at hk; omega
    have a0 := at_mapR D.int zs 0 (by omega)
    have b0 := at_mapL tupI ks 0 (by omega)
    have z0 := hzo _ (nth_mem (l := zs) (i := 0) (d := 0) (by omega))
    simp at a0 b0
    rw [sqK_nx, sSeq_eq]
    refine fbind (fun fl e => fl = .nx ∧ ∃ (ks : List (List Int)), ks.length = m ∧ (∀ k ∈ ks, KeyOk c k) ∧ e = [.io (dr l.dropLast), .sh (encPk c d s), .sh (.int m), .sh (.int r), .ow (.lst (ks.map tupI)), .ow (.lst (zs.map D.int)), s6, s7, s8, s9, s10, s11]) ?_ ?_
    · have stay : ∃ (ks' : List (List Int)), ks'.length = m ∧ (∀ k ∈ ks', KeyOk c k) ∧ ks'.map tupI = ks.map tupI := ⟨ks, hk, hko, rfl⟩
      have move : ∃ (ks' : List (List Int)), ks'.length = m ∧ (∀ k ∈ ks', KeyOk c k) ∧ ks'.map tupI = (ks.map tupI).set (ks.length - 1) (tupI (nth ks 0 [])) := by
        refine ⟨ks.set (ks.length - 1) (nth ks 0 []), by simp [hk], ?_, by simp [List.map_set]⟩
        intro k hkk
        rcases List.mem_or_eq_of_mem_set hkk with hkk | rfl
        · exact hko k hkk
        · exact hko _ (nth_mem (by omega))
      obtain ⟨k1, g1, g2, g3⟩ := stay
      obtain ⟨k2, g4, g5, g6⟩ := move
      have fin1 : ∃ ks' : List (List Int), ks'.length = m ∧ (∀ k ∈ ks', KeyOk c k) ∧ ks.map tupI = ks'.map tupI := ⟨k1, g1, g2, g3.symm⟩
      have fin2 : ∃ ks' : List (List Int), ks'.length = m ∧ (∀ k ∈ ks', KeyOk c k) ∧ (ks.map tupI).set (ks.length - 1) (tupI (nth ks 0 [])) = ks'.map tupI := ⟨k2, g4, g5, g6.symm⟩
      by_cases c1 : tkV l 4 = 1
      · by_cases c2 : 1 < (m : Int)
        · by_cases c3 : 2 < (m : Int)
          · have a1 := at_mapR D.int zs 1 (by omega)
            simp at a1
            by_cases c4 : nth zs 0 0 * nth zs 0 0 * nth zs 1 0 ≤ r
            · have z1 := hzo _ (nth_mem (l := zs) (i := 1) (d := 0) (by omega))
              simp (disch := first | assumption | omega | (simp; omega)) [e1, c1, c2, c3, c4, a0, a1, b0, mul_int, set_m1, k0, fin1, fin2]
            · have z1 := hzo _ (nth_mem (l := zs) (i := 1) (d := 0) (by omega))
              simp (disch := first | assumption | omega | (simp; omega)) [e1, c1, c2, c3, c4, a0, a1, b0, mul_int, set_m1, k0, fin1, fin2]
          · by_cases c4 : nth zs 0 0 * nth zs 0 0 * 1 ≤ r
            · have c5 := c4
              simp at c5
              simp (disch := first | assumption | omega | (simp; omega)) [e1, c1, c2, c3, c4, c5, a0, b0, mul_int, set_m1, k0, fin1, fin2]
            · have c5 := c4
              simp at c5
              simp (disch := first | assumption | omega | (simp; omega)) [e1, c1, c2, c3, c4, c5, a0, b0, mul_int, set_m1, k0, fin1, fin2]
              rw [if_neg (by omega)]
              simp [fin1]
        · simp (disch := first | assumption | omega | (simp; omega)) [e1, c1, c2, fin1]
      · simp (disch := first | assumption | omega | (simp; omega)) [e1, c1, fin1]
    · rintro fl e ⟨rfl, ks, hk, hko, rfl⟩
      by_cases c1 : tkV l.dropLast 2 = 1
      · simp (disch := first | assumption | omega | (simp; omega)) [e2, c1]
        exact ⟨ks.reverse, by simp [tL], ⟨_, rfl⟩, by simp [hk], by simpa using hko⟩
      · simp (disch := first | assumption | omega | (simp; omega)) [e2, c1]
        exact ⟨ks, by simp [tL], ⟨_, rfl⟩, by simp [hk], by simpa using hko⟩
theorem lpick (l : List Int) (ds : List Int) (m : Int) (h : m = ds.length) (hm : 0 < m) : ∃ x ∈ ds, atI (ds.map D.int) (tkV l m) = some (.int x) := by
  obtain ⟨x, hx, ex⟩ := pick ds (tkV l m) (tkV_ge l m hm) (by have := tkV_lt l m hm; omega)
  exact ⟨x, hx, by simpa [ix_lst] using ex⟩
end K57

set_option Elab.async false
set_option linter.all false
set_option autoImplicit false
set_option maxRecDepth 100000
namespace K57
open PySem L2 MP
theorem npick (l : List Int) (ds : List Nat) (m : Int) (h : m = ds.length) (hm : 0 < m) : ∃ x ∈ ds, atI (ds.map fun k : Nat => D.int k) (tkV l m) = some (.int (x : Nat)) := by
  have g := tkV_ge l m hm
  have g' := tkV_lt l m hm
  obtain ⟨k, hk⟩ := Int.eq_ofNat_of_zero_le g
  have hk2 : k < ds.length := by omega
  exact ⟨nth ds k 0, nth_mem hk2, by rw [hk, at_N _ _ hk2]⟩
structure HOk2 (h : Hs) : Prop extends HOk h where
  d1 : 1 ≤ h.d
  d4 : h.d ≤ 4
  t0 : 0 ≤ h.tries
  t4 : h.tries ≤ 4
theorem house_ok (ns : List Int) (l : List Int) (most : Int) (hm : 1 ≤ most ∧ most ≤ 1000000000) : fsat (F_l_house [scr ns, dr l, .int most]) fun x o => ∃ (h : Hs) (l' : List Int), x = encH h ∧ o = [dr l'] ∧ HOk2 h := by
  show fsat (endF [false, true, false] (B_l_house [.sh (scr ns), .io (dr l), .sh (.int most), .no, .no, .no, .no, .no, .no, .no, .no, .no])) _
  unfold B_l_house
  obtain ⟨v, hv⟩ := cell_ok ns 1
  have e1 := take_ok l 4 (by omega)
  obtain ⟨s, -, es⟩ := lpick l [0, 1, 2, if v < 0 then -v else v] 4 rfl (by omega)
  generalize l.dropLast = l1 at *
  have e2 := take_ok l1 6 (by omega)
  obtain ⟨c, hc, ec⟩ := npick l1 [1, 2, 3, 2, 1, 3] 6 rfl (by omega)
  generalize l1.dropLast = l2 at *
  have e3 := take_ok l2 8 (by omega)
  obtain ⟨d, hd, ed⟩ := npick l2 [2, 3, 4, 2, 3, 4, 2, 1] 8 rfl (by omega)
  generalize l2.dropLast = l3 at *
  have e4 := take_ok l3 4 (by omega)
  obtain ⟨L, hL, eL⟩ := npick l3 [1, 2, 3, 2] 4 rfl (by omega)
  generalize l3.dropLast = l4 at *
  have e5 := take_ok l4 8 (by omega)
  obtain ⟨t, ht, et⟩ := npick l4 [1, 2, 1, 3, 0, 2, 4, 1] 8 rfl (by omega)
  generalize l4.dropLast = l5 at *
  have e6 := take_ok l5 8 (by omega)
  obtain ⟨q, hq, eq⟩ := npick l5 [1, 2, 3, 2, 4, 3, 5, 8] 8 rfl (by omega)
  generalize l5.dropLast = l6 at *
  have hc' : 1 ≤ c ∧ c ≤ 3 := by simp at hc; omega
  have hd' : 1 ≤ d ∧ d ≤ 4 := by simp at hd; omega
  have hL' : 1 ≤ L ∧ L ≤ 3 := by simp at hL; omega
  have ht' : 0 ≤ t ∧ t ≤ 4 := by simp at ht; omega
  have hq' : 1 ≤ q ∧ q ≤ 8 := by simp at hq; omega
  obtain ⟨r0, o0, ep, ps, l7, rfl, rfl, ps1, ps2, ps3⟩ := fsat_out (pinnings_ok l6 c d s q L hc' hd' (by omega) (by omega))
  simp at es ec ed eL et eq
  have e7 := take_ok l7 8 (by omega)
  have hdiv : 1 ≤ 1 + (t : Int) * (2 * (ps.length : Int) - 1) ∧ 1 + (t : Int) * (2 * (ps.length : Int) - 1) ≤ 1000000000 := by
    have a1 : 0 ≤ (t : Int) * (2 * (ps.length : Int) - 1) := Int.mul_nonneg (by omega) (by omega)
    have a2 : (t : Int) * (2 * (ps.length : Int) - 1) ≤ 4 * 19 := Int.mul_le_mul (by omega) (by omega) (by omega) (by omega)
    omega
  refine fseq (fun e => e = [.sh (scr ns), .io (dr l1), .sh (.int most), .sh (.int s), .no, .no, .no, .no, .no, .no, .no, .no]) ?_ ?_
  · simp [hv, e1, es]
  rintro e rfl
  refine fseq (fun e => e = [.sh (scr ns), .io (dr l3), .sh (.int most), .sh (.int s), .sh (encPk c d s), .no, .no, .no, .no, .no, .no, .no]) ?_ ?_
  · simp [e2, ec, e3, ed, encPk]
  rintro e rfl
  refine fseq (fun e => e = [.sh (scr ns), .io (dr l4), .sh (.int most), .sh (.int s), .sh (encPk c d s), .sh (.int L), .no, .no, .no, .no, .no, .no]) ?_ ?_
  · simp [e4, eL]
  rintro e rfl
  refine fseq (fun e => e = [.sh (scr ns), .io (dr l5), .sh (.int most), .sh (.int s), .sh (encPk c d s), .sh (.int L), .sh (.int t), .no, .no, .no, .no, .no]) ?_ ?_
  · simp [e5, et]
  rintro e rfl
  refine fseq (fun e => e = [.sh (scr ns), .io (dr l7), .sh (.int most), .sh (.int s), .sh (encPk c d s), .sh (.int L), .sh (.int t), .sh (.tup (ps.map tP)), .no, .no, .no, .no]) ?_ ?_
  · simp [e6, eq, ep]
  rintro e rfl
  refine fseq (fun e => ∃ r : Int, 1 ≤ r ∧ e = [.sh (scr ns), .io (dr l7), .sh (.int most), .sh (.int s), .sh (encPk c d s), .sh (.int L), .sh (.int t), .sh (.tup (ps.map tP)), .sh (.int r), .no, .no, .no]) ?_ ?_
  · simp (disch := first | assumption | omega | (simp; omega)) [mul_int, fdv_int, hdiv]
    split <;> omega
  rintro e ⟨r, hr, rfl⟩
  refine fseq (fun e => ∃ r : Int, 1 ≤ r ∧ e = [.sh (scr ns), .io (dr l7.dropLast), .sh (.int most), .sh (.int s), .sh (encPk c d s), .sh (.int L), .sh (.int t), .sh (.tup (ps.map tP)), .sh (.int r), .no, .no, .no]) ?_ ?_
  · by_cases c3 : tkV l7 8 = 3
    · simp (disch := first | assumption | omega | (simp; omega)) [e7, c3, mul_int]
      omega
    · simp (disch := first | assumption | omega | (simp; omega)) [e7, c3]
      exact hr
  clear hr r
  rintro e ⟨r, hr, rfl⟩
  generalize l7.dropLast = l8 at *
  have e8 := take_ok l8 4 (by omega)
  obtain ⟨m, hm, em⟩ := npick l8 [1, 2, 3, 1] 4 rfl (by omega)
  have hm' : 1 ≤ m ∧ m ≤ 3 := by simp at hm; omega
  simp at em
  obtain ⟨r0, o0, eh, ks, l9, rfl, rfl, hk1, hk2⟩ := fsat_out (hand_ok l8.dropLast c d s m r hc' hd' hm' hr)
  refine fseq (fun e => e = [.sh (scr ns), .io (dr l9), .sh (.int most), .sh (.int s), .sh (encPk c d s), .sh (.int L), .sh (.int t), .sh (.tup (ps.map tP)), .sh (.int r), .sh (tL ks), .no, .no]) ?_ ?_
  · simp [e8, em, eh, tL]
  rintro e rfl
  refine fseq (fun e => ∃ (pl : List Int) (l' : List Int), pl.length = L ∧ e = [.sh (scr ns), .io (dr l'), .sh (.int most), .sh (.int s), .sh (encPk c d s), .sh (.int L), .sh (.int t), .sh (.tup (ps.map tP)), .sh (.int r), .sh (tL ks), .sh (tupI pl), .no]) ?_ ?_
  · rw [sSetM_eq, oN_eq, args_f]
    simp only [bind_bind]
    refine sat_bind (fun x e => ∃ (pl : List Int) (l' : List Int), pl.length = L ∧ x = .lst (pl.map D.int) ∧ e = [.sh (scr ns), .io (dr l'), .sh (.int most), .sh (.int s), .sh (encPk c d s), .sh (.int L), .sh (.int t), .sh (.tup (ps.map tP)), .sh (.int r), .sh (tL ks), .no, .no]) ?_ ?_
    · refine eLc_sat (e1 := [.sh (scr ns), .io (dr l9), .sh (.int most), .sh (.int s), .sh (encPk c d s), .sh (.int L), .sh (.int t), .sh (.tup (ps.map tP)), .sh (.int r), .sh (tL ks), .no, .no]) (ds := (List.range L).map fun k : Nat => D.int k) (fun j acc e => ∃ (pl : List Int) (l' : List Int), pl.length = j ∧ acc = pl.map D.int ∧ e = [.sh (scr ns), .io (dr l'), .sh (.int most), .sh (.int s), .sh (encPk c d s), .sh (.int L), .sh (.int t), .sh (.tup (ps.map tP)), .sh (.int r), .sh (tL ks), .no, .no])
        (by simp (disch := first | assumption | omega | (simp; omega)) [rg1K_ok, rgD_map]) ⟨[], l9, rfl, rfl, by simp⟩ ?_ ?_
      · rintro j x acc e hx ⟨pl, l', hpl, rfl, rfl⟩
        obtain ⟨hj, rfl⟩ := nat_at hx
        refine ⟨_, by rw [tgN_eq]; exact tgK_n rfl, ?_⟩
        have e9 := take_ok l' 5 (by omega)
        obtain ⟨y, hy, ey⟩ := lpick l' [2, 1, 2, 0, 2] 5 rfl (by omega)
        simp at ey
        simp [e9, ey]
        exact ⟨pl ++ [y], by simp [hpl], by simp, _, rfl⟩
      · rintro acc e ⟨pl, l', hpl, rfl, rfl⟩
        simp at hpl
        exact ⟨by simp; omega, pl, l', hpl, rfl, by simp⟩
    · rintro x e ⟨pl, l', hpl, rfl, rfl⟩
      simp [tupI]
      exact ⟨pl, hpl, ⟨_, rfl⟩, rfl⟩
  rintro e ⟨pl, l', hpl, rfl⟩
  simp
  refine ⟨⟨c, d, s, ks, ps, pl, t⟩, by simp [encH, encPk], ⟨_, rfl⟩, ?_⟩
  exact { c1 := hc'.1, c2 := hc'.2, d2 := by show d ≤ 10; omega, l1 := by show 1 ≤ pl.length; omega, l2 := by show pl.length ≤ 10; omega, p1 := ps1, p2 := ps2, pin := fun p hp => ⟨by show p.length = pl.length; rw [hpl]; exact (ps3 p hp).1, (ps3 p hp).2⟩, h1 := by show 1 ≤ ks.length; omega, h2 := by show ks.length ≤ 5; omega, hk := hk2, d1 := hd'.1, d4 := hd'.2, t0 := by show 0 ≤ (t : Int); omega, t4 := by show (t : Int) ≤ 4; omega }
/-! ### origins and stands -/
def origin (h : Hs) : Sd := ⟨sortK h.hand, List.range h.pins.length, h.tries⟩
theorem hand_ne {c : Nat} (hc : 1 ≤ c) {ks : List (List Int)} (h : ∀ k ∈ ks, KeyOk c k) : ∀ k ∈ ks, k ≠ [] := fun k hk z => by
  have := (h k hk).1
  subst z
  simp at this
  omega
theorem sortK_key {c : Nat} {ks : List (List Int)} (h : ∀ k ∈ ks, KeyOk c k) : ∀ k ∈ sortK ks, KeyOk c k := fun k hk => h k ((sortK_perm ks).mem_iff.mp hk)
theorem origin_ok {h : Hs} (H : HOk h) : F_l_origin [encH h] = .ok (encS (origin h)) [] := by
  have h1 := hand_ne H.c1 (ks := h.hand) (fun k hk => H.hk k hk)
  have p2 := H.p2
  simp (disch := first | assumption | omega | (simp; omega)) [F_l_origin, runF_eq, startE_eq, B_l_origin, encH, tL, dSort_tup, erK_ok, rgD_map]
  simp [origin, encS, tL, tN]
theorem origin_s {h : Hs} (H : HOk h) : SOk h (origin h) := by
  have hk := sortK_key (ks := h.hand) (c := h.c) fun k hk => H.hk k hk
  have hl := (sortK_perm h.hand).length_eq
  exact { h1 := by show 1 ≤ (sortK h.hand).length; rw [hl]; exact H.h1, h2 := by show (sortK h.hand).length ≤ 5; rw [hl]; exact H.h2, hk := hk, p1 := by simp [origin]; exact H.p1, p2 := by simp [origin]; exact H.p2, pk := by simp [origin] }
theorem any_stand_ok {h : Hs} (H : HOk2 h) (l : List Int) (room : Int) (hr : 1 ≤ room) : fsat (F_l_any_stand [dr l, encH h, .int room]) fun x o => ∃ (s : Sd) (l' : List Int), x = encS s ∧ o = [dr l'] ∧ SOk h s := by
  show fsat (endF [true, false, false] (B_l_any_stand [.io (dr l), .sh (encH h), .sh (.int room), .no, .no, .no, .no])) _
  unfold B_l_any_stand
  have e1 := take_ok l 3 (by omega)
  have g1 := tkV_ge l 3 (by omega)
  have g2 := tkV_lt l 3 (by omega)
  obtain ⟨q, hq⟩ := Int.eq_ofNat_of_zero_le g1
  obtain ⟨r0, o0, eh, ks, l2, rfl, rfl, hk1, hk2⟩ := fsat_out (hand_ok l.dropLast h.c h.d h.s (1 + q) room ⟨H.c1, H.c2⟩ ⟨H.d1, H.d4⟩ (by omega) hr)
  have hP := H.p2
  have hP1 := H.p1
  simp [encPk] at eh
  refine fseq (fun e => e = [.io (dr l2), .sh (encH h), .sh (.int room), .sh (tL ks), .no, .no, .no]) ?_ ?_
  · simp [e1, hq, eh, tL]
  rintro e rfl
  refine fseq (fun e => ∃ (v : List Nat) (l' : List Int), v.length ≤ h.pins.length ∧ (∀ k ∈ v, k < h.pins.length) ∧ e = [.io (dr l'), .sh (encH h), .sh (.int room), .sh (tL ks), .sh (tN v), .no, .no]) ?_ ?_
  · rw [sSetM_eq, oN_eq, args_f]
    simp only [bind_bind]
    refine sat_bind (fun x e => ∃ (v : List Nat) (l' : List Int), v.length ≤ h.pins.length ∧ (∀ k ∈ v, k < h.pins.length) ∧ x = .lst (v.map fun k : Nat => D.int k) ∧ e = [.io (dr l'), .sh (encH h), .sh (.int room), .sh (tL ks), .no, .no, .no]) ?_ ?_
    · refine eLc_sat (e1 := [.io (dr l2), .sh (encH h), .sh (.int room), .sh (tL ks), .no, .no, .no]) (ds := (List.range h.pins.length).map fun k : Nat => D.int k) (fun j acc e => ∃ (v : List Nat) (l' : List Int), v.length ≤ j ∧ (∀ k ∈ v, k < h.pins.length) ∧ acc = v.map (fun k : Nat => D.int k) ∧ e = [.io (dr l'), .sh (encH h), .sh (.int room), .sh (tL ks), .no, .no, .no])
        (by simp (disch := first | assumption | omega | (simp; omega)) [rg1K_ok, rgD_map]) ⟨[], l2, by simp, by simp, rfl, by simp⟩ ?_ ?_
      · rintro j x acc e hx ⟨v, l', hv, hvk, rfl, rfl⟩
        obtain ⟨hj, rfl⟩ := nat_at hx
        refine ⟨_, by rw [tgN_eq]; exact tgK_n rfl, ?_⟩
        have e9 := take_ok l' 2 (by omega)
        by_cases c0 : tkV l' 2 = 0
        · simp [e9, c0]
          refine ⟨v ++ [j], by simp; omega, ?_, by simp, _, rfl⟩
          intro k hk
          rcases List.mem_append.mp hk with hk | hk
          · exact hvk k hk
          · simp at hk
            omega
        · simp [e9, c0]
          exact ⟨v, by omega, hvk, rfl, _, rfl⟩
      · rintro acc e ⟨v, l', hv, hvk, rfl, rfl⟩
        simp at hv
        exact ⟨by simp; omega, v, l', hv, hvk, rfl, by simp⟩
    · rintro x e ⟨v, l', hv, hvk, rfl, rfl⟩
      simp [tN]
      exact ⟨v, hv, hvk, ⟨_, rfl⟩, rfl⟩
  rintro e ⟨v, l3, hv, hvk, rfl⟩
  have e3 := take_ok l3 h.pins.length (by omega)
  have g1 := tkV_ge l3 h.pins.length (by omega)
  have g2 := tkV_lt l3 h.pins.length (by omega)
  obtain ⟨one, ho⟩ := Int.eq_ofNat_of_zero_le g1
  refine fseq (fun e => e = [.io (dr l3.dropLast), .sh (encH h), .sh (.int room), .sh (tL ks), .sh (tN v), .sh (.int one), .no]) ?_ ?_
  · simp [e3, ho]
  rintro e rfl
  refine fseq (fun e => ∃ (v : List Nat), 1 ≤ v.length ∧ v.length ≤ h.pins.length ∧ (∀ k ∈ v, k < h.pins.length) ∧ e = [.io (dr l3.dropLast), .sh (encH h), .sh (.int room), .sh (tL ks), .sh (tN v), .sh (.int one), .no]) ?_ ?_
  · by_cases c0 : v = []
    · subst c0
      simp
      exact ⟨[one], by simp, by simp; omega, by simp; omega, by simp [tN]⟩
    · simp [c0]
      exact ⟨v, List.length_pos_iff.mpr c0, hv, hvk, rfl⟩
  clear hv hvk v
  rintro e ⟨v, hv1, hv, hvk, rfl⟩
  generalize l3.dropLast = l4 at *
  have e4 := take_ok l4 6 (by omega)
  obtain ⟨t, ht, et⟩ := npick l4 [1, 2, 0, 3, 1, 4] 6 rfl (by omega)
  simp at et
  have hs := dSort_tup ks (hand_ne H.c1 hk2)
  have hl := (sortK_perm ks).length_eq
  simp [hs, tL, e4, et]
  exact ⟨⟨sortK ks, v, t⟩, by simp [encS, tL], ⟨_, rfl⟩, { h1 := by show 1 ≤ (sortK ks).length; omega, h2 := by show (sortK ks).length ≤ 5; omega, hk := sortK_key hk2, p1 := hv1, p2 := by show v.length ≤ 10; omega, pk := hvk }⟩
end K57

set_option Elab.async false
set_option linter.all false
set_option autoImplicit false
set_option maxRecDepth 100000
namespace K57
open PySem L2 MP
theorem kd_I (l : List Int) : (tupI l).kd = true := kds_map _ _ fun _ _ => rfl
theorem tupI_inj {a b : List Int} (h : tupI a = tupI b) : a = b := by
  have h' : a.map D.int = b.map D.int := by injection h
  exact (List.map_inj_right fun x y z => by injection z).mp h'
theorem idx_keys (ks : List (List Int)) (k : List Int) (h : k ∈ ks) : ∃ n, dIdx (.tpx (ks.map tupI)) [tupI k] = some (.int (n : Nat)) ∧ n < ks.length ∧ nth ks n [] = k := by
  have m : tupI k ∈ ks.map tupI := List.mem_map.mpr ⟨k, h, rfl⟩
  have hlt : (ks.map tupI).idxOf (tupI k) < (ks.map tupI).length := List.idxOf_lt_length_iff.mpr m
  refine ⟨(ks.map tupI).idxOf (tupI k), idx_tpx (kds_map _ _ fun x _ => kd_I x) m (kd_I k) (Nat.le_trans (dp_I k) (by omega)), by simpa using hlt, ?_⟩
  have e := List.getElem_idxOf hlt
  rw [List.getElem_map] at e
  have e2 := tupI_inj e
  have hlt2 : (ks.map tupI).idxOf (tupI k) < ks.length := by simpa using hlt
  simp [nth, List.getD, hlt2, e2]
def kH (depths : Nat) (cut place tries : Int) (others : List Int) : Hs := ⟨1, depths, 0, [[cut], [0]], [[[[cut]]], [[others]]], [place], tries⟩
theorem kH_ok (depths : Nat) (cut place tries : Int) (others : List Int) (h : depths ≤ 10) (hc : 0 ≤ cut ∧ cut ≤ 10) : HOk (kH depths cut place tries others) := by
  refine { c1 := Nat.le_refl _, c2 := by show 1 ≤ 3; omega, d2 := h, l1 := Nat.le_refl _, l2 := by show 1 ≤ 10; omega, p1 := by show 1 ≤ 2; omega, p2 := by show 2 ≤ 10; omega, pin := ?_, h1 := by show 1 ≤ 2; omega, h2 := by show 2 ≤ 5; omega, hk := ?_ }
  · intro p hp
    simp [kH] at hp
    rcases hp with rfl | rfl <;> simp [kH]
  · intro k hk
    simp [kH] at hk
    rcases hk with rfl | rfl <;> simp [kH, hc]
theorem kS_ok (depths : Nat) (cut place tries : Int) (others : List Int) (ps : List Nat) (hc : 0 ≤ cut ∧ cut ≤ 10) (p1 : 1 ≤ ps.length) (p2 : ps.length ≤ 2) (p3 : ∀ k ∈ ps, k < 2) : SOk (kH depths cut place tries others) ⟨sortK [[cut], [0]], ps, tries⟩ := by
  have hl := (sortK_perm [[cut], [0]]).length_eq
  refine { h1 := by show 1 ≤ (sortK [[cut], [0]]).length; rw [hl]; simp, h2 := by show (sortK [[cut], [0]]).length ≤ 5; rw [hl]; simp, hk := ?_, p1 := p1, p2 := by show ps.length ≤ 10; omega, pk := p3 }
  intro k hk
  have hk' := (sortK_perm [[cut], [0]]).mem_iff.mp hk
  simp at hk'
  rcases hk' with rfl | rfl <;> simp [kH, hc]
theorem known_ok (depths : Nat) (cut place tries : Int) (hd : 1 ≤ depths ∧ depths ≤ 10) (hc : 0 ≤ cut ∧ cut ≤ 10) : F_l_known_right [.int depths, .int cut, .int place, .int tries] = .ok (.bl true) [] := by
  have e0 : compL (tgN 11) (asB (o2 (.n 11) (.n 1) dNe)) (eN 11) [11] ((List.range depths).map fun k : Nat => D.int k) [] [.sh (.int depths), .sh (.int cut), .sh (.int place), .sh (.int tries), .no, .no, .no, .no, .no, .no, .no, .no] = .ok ((((List.range depths).filter fun k : Nat => !decide ((k : Int) = cut)).map fun k : Nat => (k : Int)).map D.int) [.sh (.int depths), .sh (.int cut), .sh (.int place), .sh (.int tries), .no, .no, .no, .no, .no, .no, .no, .no] := by
    rw [compL_T (fun k : Nat => D.int k) (fun k : Nat => !decide ((k : Int) = cut)) (fun k : Nat => D.int k)]
    · simp
    · intro k hk kk acc
      simp
  have l0 : (((List.range depths).filter fun k : Nat => !decide ((k : Int) = cut)).map fun k : Nat => (k : Int)).length ≤ 1000 := by
    rw [List.length_map]
    exact Nat.le_trans (List.length_filter_le _ _) (by simp; omega)
  have nm : cut ∉ (((List.range depths).filter fun k : Nat => !decide ((k : Int) = cut)).map fun k : Nat => (k : Int)) := by
    simp
  generalize (((List.range depths).filter fun k : Nat => !decide ((k : Int) = cut)).map fun k : Nat => (k : Int)) = others at *
  have H := kH_ok depths cut place tries others hd.2 hc
  have S := kS_ok depths cut place tries others [0, 1] hc (by simp) (by simp) (by simp)
  have S2 := kS_ok depths cut place tries others [1] hc (by simp) (by simp) (by simp)
  obtain ⟨n, en, hn, hnk⟩ := idx_keys (sortK [[cut], [0]]) [cut] ((sortK_perm _).mem_iff.mpr (by simp))
  have M : MOk (kH depths cut place tries others) ⟨sortK [[cut], [0]], [0, 1], tries⟩ (.tr n 0) := ⟨hn, by simp [kH]⟩
  have M2 : MOk (kH depths cut place tries others) ⟨sortK [[cut], [0]], [1], tries⟩ (.tr n 0) := ⟨hn, by simp [kH]⟩
  have a1 := answers_ok H S M
  have a2 := answers_ok H S2 M2
  have f1 := after_tr H S M false
  have f2 := after_tr H S M true
  have c1 := comes_tr (h := kH depths cut place tries others) (s := ⟨sortK [[cut], [0]], [0, 1], tries⟩) (n := n) (l := 0) (by simp [kH]) false
  have c2 := comes_tr (h := kH depths cut place tries others) (s := ⟨sortK [[cut], [0]], [0, 1], tries⟩) (n := n) (l := 0) (by simp [kH]) true
  have t0 : ∀ ps, toldB (kH depths cut place tries others) ⟨sortK [[cut], [0]], ps, tries⟩ n 0 0 = true := by
    intro ps
    simp only [toldB, lockAt, keyAt, hnk]
    simp [kH, opB, nth]
  have t1 : ∀ ps, toldB (kH depths cut place tries others) ⟨sortK [[cut], [0]], ps, tries⟩ n 0 1 = false := by
    intro ps
    simp only [toldB, lockAt, keyAt, hnk]
    simp [kH, opB, nth, nm]
  simp [ansT, t0, t1] at a1 a2
  simp [afterT, t0, t1] at f1 f2
  simp [entersT] at c1 c2
  have hs := dSort_tup [[cut], [0]] (by simp)
  have s1 := same_ok 8 (.tup [.bl false, .bl true]) rfl (by show 1 < 8; omega)
  have s2 := same_ok 8 (.tup [.bl false]) rfl (by show 1 < 8; omega)
  have s3 := same_ok 8 (.tup [.bl false, .bl (decide (place = 2))]) rfl (by show 1 < 8; omega)
  have s4 := same_ok 8 (encS ⟨sortK [[cut], [0]], [1], tries - 1⟩) (smd_S _ (by have := S.h2; exact Nat.le_trans this (by omega)) (fun x hx => by have := (S.hk x hx).1; rw [this]; exact Nat.le_of_lt_succ (by show 1 < 1001; omega)) (by simp)) (Nat.lt_of_le_of_lt (dp_S _) (by omega))
  have s5 := same_ok 8 (encS ⟨sortK [[cut], [0]], [0], tries - 1⟩) (smd_S _ (by have := S.h2; exact Nat.le_trans this (by omega)) (fun x hx => by have := (S.hk x hx).1; rw [this]; exact Nat.le_of_lt_succ (by show 1 < 1001; omega)) (by simp)) (Nat.lt_of_le_of_lt (dp_S _) (by omega))
  have et : tupI [cut] = .tup [.int cut] := rfl
  simp only [encH, encS, encM, kH, tL, tP, tN, List.map_cons, List.map_nil, et] at a1 a2 f1 f2 c1 c2 s4 s5 en hs
  generalize List.map tupI (sortK [[cut], [0]]) = K at *
  simp [tupI, nth] at a1 a2 f1 f2 c1 c2 s4 s5 hs
  simp [F_l_known_right, runF_eq, startE_eq, B_l_known_right]
  rw [rg1K_ok (by omega)]
  simp [rgD_map] at e0 ⊢
  rw [e0]
  simp
  rw [lenK_ok _ _ (by simp; omega)]
  simp [hs, en, a1, a2, f1, f2, c1, c2, s1, s2, s3, s4, s5]
/-! ### part one -/
theorem part_one_ok (ns : List Int) (hn : ns.length ≤ 63) : F_l_part_one [scr ns] = .ok (.bl true) [] := by
  suffices h : fsat (F_l_part_one [scr ns]) fun d o => d = .bl true ∧ o = [] by
    obtain ⟨d, o, e, rfl, rfl⟩ := fsat_out h
    exact e
  show fsat (endF [false] (B_l_part_one [.sh (scr ns), .no, .no, .no])) _
  unfold B_l_part_one
  obtain ⟨d0, o0, ed, rfl, l, rfl⟩ := fsat_out (draws_ok ns 460 (by omega) hn)
  refine fseq (fun e => e = [.sh (scr ns), .ow (dr l), .no, .no]) ?_ ?_
  · simp [ed, dr]
  rintro e rfl
  obtain ⟨d1, o1, eh, h, l1, rfl, rfl, H⟩ := fsat_out (house_ok ns (l.drop 120) 1000000000 (by omega))
  refine fseq (fun e => e = [.sh (scr ns), .ow (dr l), .sh (encH h), .no]) ?_ ?_
  · have cd : cut (l.map D.int) (some 120) none = (l.map D.int).drop 120 := cut_drop (l.map D.int) 120
    simp only [dr, List.map_drop] at eh
    simp [dr, cd, eh]
    rfl
  rintro e rfl
  refine fseq (fun e => e = [.sh (scr ns), .ow (dr (l.take 120)), .sh (encH h), .no]) ?_ ?_
  · have cd : cut (l.map D.int) none (some 120) = (l.map D.int).take 120 := cut_take (l.map D.int) 120
    simp [dr, cd]
  rintro e rfl
  generalize l.take 120 = l2
  have a1 := take_ok l2 3 (by omega)
  have a2 := tkV_ge l2 3 (by omega)
  have a3 := tkV_lt l2 3 (by omega)
  obtain ⟨q, hq⟩ := Int.eq_ofNat_of_zero_le a2
  generalize l2.dropLast = l3 at *
  refine fseq (fun e => e = [.sh (scr ns), .ow (dr l3), .sh (encH h), .sh (.int ((2 + q : Nat) : Int))]) ?_ ?_
  · simp [a1, hq]
  rintro e rfl
  have b1 := take_ok l3 ((2 + q : Nat) : Int) (by omega)
  have b2 := tkV_ge l3 ((2 + q : Nat) : Int) (by omega)
  have b3 := tkV_lt l3 ((2 + q : Nat) : Int) (by omega)
  generalize l3.dropLast = l4 at *
  have c1 := take_ok l4 2 (by omega)
  generalize l4.dropLast = l5 at *
  have d1 := take_ok l5 4 (by omega)
  generalize l5.dropLast = l6 at *
  have k1 := known_ok (2 + q) (tkV l3 ((2 + q : Nat) : Int)) (1 + tkV l4 2) (1 + tkV l5 4) (by omega) (by omega)
  refine fseq (fun e => e = [.sh (scr ns), .ow (dr l6), .sh (encH h), .sh (.int ((2 + q : Nat) : Int))]) ?_ ?_
  · simp [-Int.natCast_add, b1, c1, d1, k1]
  rintro e rfl
  have o1 := origin_ok H.toHOk
  have f1 := take_ok l6 5 (by omega)
  have f2 := tkV_ge l6 5 (by omega)
  have f3 := tkV_lt l6 5 (by omega)
  generalize l6.dropLast = l7 at *
  obtain ⟨d2, o2, w1, rfl, l8, rfl⟩ := fsat_out (walk_right_ok H.toHOk (origin_s H.toHOk) l7 (1 + tkV l6 5) (by omega))
  refine fseq (fun e => e = [.sh (scr ns), .ow (dr l8), .sh (encH h), .sh (.int ((2 + q : Nat) : Int))]) ?_ ?_
  · simp [o1, f1, w1]
  rintro e rfl
  obtain ⟨d3, o3, g1, s, l9, rfl, rfl, S⟩ := fsat_out (any_stand_ok H l8 1000000000 (by omega))
  have h1 := take_ok l9 4 (by omega)
  have h2 := tkV_ge l9 4 (by omega)
  have h3 := tkV_lt l9 4 (by omega)
  generalize l9.dropLast = l10 at *
  obtain ⟨d2, o2, w2, rfl, l11, rfl⟩ := fsat_out (walk_right_ok H.toHOk S l10 (1 + tkV l9 4) (by omega))
  have p9 : dPow (.int 10) (.int 9) = some (.int 1000000000) := by
    rw [pow_int _ _ (by omega) (by decide)]
    rfl
  simp [p9, g1, h1, w2]
end K57

set_option Elab.async false
set_option linter.all false
set_option autoImplicit false
set_option maxRecDepth 100000
namespace K57
open PySem L2 MP
/-! ### courses -/
abbrev Crs := List (Mv0 × Option Bool × Sd)
def encC (x : Mv0 × Option Bool × Sd) : D := .tup [encM x.1, encO x.2.1]
def sts (s : Sd) (l : Crs) : List Sd := s :: l.map (·.2.2)
def cur (s : Sd) (l : Crs) (i : Nat) : Sd := nth (sts s l) i s
def Ch (h : Hs) (s : Sd) (l : Crs) : Prop := ∀ (i : Nat) (hi : i < l.length), F_after [encH h, encS (cur s l i), encM l[i].1, encO l[i].2.1] = .ok (encS l[i].2.2) [] ∧ SOk h l[i].2.2
theorem cur_take {s : Sd} {l : Crs} {k i : Nat} (h : i ≤ k) (h2 : i ≤ l.length) : cur s (l.take k) i = cur s l i := by
  cases i with
  | zero => rfl
  | succ i =>
    have : i < l.length := by omega
    simp [cur, sts, nth, List.getElem?_take, show i < k by omega]
theorem ch_take {h : Hs} {s : Sd} {l : Crs} (c : Ch h s l) (k : Nat) : Ch h s (l.take k) := fun i hi => by
  have hi' : i < k ∧ i < l.length := by simp at hi; omega
  rw [cur_take (by omega) (by omega)]
  have := c i hi'.2
  simpa using this
theorem cur_app {s : Sd} {l : Crs} {x : Mv0 × Option Bool × Sd} {i : Nat} (h : i ≤ l.length) : cur s (l ++ [x]) i = cur s l i := by
  have e : (l ++ [x]).take l.length = l := by simp
  rw [← cur_take (k := l.length) h (by simp; omega), e]
theorem ch_app {h : Hs} {s : Sd} {l : Crs} (c : Ch h s l) {x : Mv0 × Option Bool × Sd} (hx : F_after [encH h, encS (cur s l l.length), encM x.1, encO x.2.1] = .ok (encS x.2.2) []) (hs : SOk h x.2.2) : Ch h s (l ++ [x]) := fun i hi => by
  by_cases q : i < l.length
  · rw [cur_app (by omega), List.getElem_append_left q]
    exact c i q
  · have : i = l.length := by simp at hi; omega
    subst this
    rw [cur_app (Nat.le_refl _)]
    exact ⟨by simpa using hx, by simpa using hs⟩
theorem cur_end {s : Sd} {l : Crs} {x : Mv0 × Option Bool × Sd} : cur s (l ++ [x]) (l.length + 1) = x.2.2 := by
  simp [cur, sts, nth]
theorem cur_last (s : Sd) (l : Crs) : atI ((sts s l).map encS) (-1) = some (encS (cur s l l.length)) := by
  rw [atI_map, atI_m1 _ (by simp [sts])]
  simp [cur, sts, nth, List.getLast_eq_getElem]
theorem ch_smd {h : Hs} {s : Sd} {l : Crs} (c : Ch h s l) (H : HOk h) (S : SOk h s) (hl : l.length ≤ 900) : F_l_same 8 [.tup ((sts s l).map encS), .tup ((sts s l).map encS)] = .ok (.bl true) [] := by
  have q : ∀ x ∈ sts s l, SOk h x := by
    intro x hx
    rcases List.mem_cons.mp hx with rfl | hx
    · exact S
    · obtain ⟨y, hy, rfl⟩ := List.mem_map.mp hx
      obtain ⟨i, hi, rfl⟩ := List.getElem_of_mem hy
      exact (c i hi).2
  refine same_ok 8 _ (smd_tup _ (by simp [sts]; omega) (smds_map _ _ fun x hx => ?_)) ?_
  · have S2 := q x hx
    exact smd_S x (by have := S2.h2; omega) (fun y m => by have := (S2.hk y m).1; have := H.c2; omega) (by have := S2.p2; omega)
  · have := dps_map encS (sts s l) 4 fun x _ => Nat.le_of_lt_succ (by have := dp_S x; omega)
    show D.dps _ + 1 < 8
    omega
theorem stands_of_ok (h : Hs) (s : Sd) (l : Crs) (c : Ch h s l) (hl : l.length ≤ 1000) : F_stands_of [encH h, encS s, .tup (l.map encC)] = .ok (.tup ((sts s l).map encS)) [] := by
  suffices q : fsat (F_stands_of [encH h, encS s, .tup (l.map encC)]) fun d o => d = .tup ((sts s l).map encS) ∧ o = [] by
    obtain ⟨d, o, e, rfl, rfl⟩ := fsat_out q
    exact e
  show fsat (endF [false, false, false] (B_stands_of [.sh (encH h), .sh (encS s), .sh (.tup (l.map encC)), .no, .no, .no])) _
  unfold B_stands_of
  refine fseq (fun e => e = [.sh (encH h), .sh (encS s), .sh (.tup (l.map encC)), .ow (.lst ((sts s []).map encS)), .no, .no]) ?_ ?_
  · simp [sts]
  rintro e rfl
  refine fseq (fun e => ∃ s4 s5, e = [.sh (encH h), .sh (encS s), .sh (.tup (l.map encC)), .ow (.lst ((sts s l).map encS)), s4, s5]) ?_ ?_
  · simp
    refine forL_1 (C := fun r => sat r _) (fun i e => ∃ s4 s5, notIo s4 = true ∧ notIo s5 = true ∧ e = [.sh (encH h), .sh (encS s), .sh (.tup (l.map encC)), .ow (.lst ((sts s (l.take i)).map encS)), s4, s5]) ⟨.no, .no, rfl, rfl, rfl⟩ ?_ ?_
    · rintro i x e hx ⟨s4, s5, n4, n5, rfl⟩
      rw [List.getElem?_map] at hx
      obtain ⟨y, hy, rfl⟩ := Option.map_eq_some_iff.mp hx
      obtain ⟨hi, rfl⟩ := List.getElem?_eq_some_iff.mp hy
      have e1 := (c i hi).1
      have e2 := cur_last s (l.take i)
      have tl : (l.take i).length = i := by simp; omega
      rw [tl, cur_take (Nat.le_refl _) (by omega)] at e2
      refine ⟨[.sh (encH h), .sh (encS s), .sh (.tup (l.map encC)), .ow (.lst ((sts s (l.take i)).map encS)), .sh (encM l[i].1), .sh (encO l[i].2.1)], ?_, ?_⟩
      · simp [encC, tgK_n n4, tgK_n n5]
      · have e3 : (sts s (l.take i)).map encS ++ [encS l[i].2.2] = (sts s (l.take (i + 1))).map encS := by
          rw [List.take_succ_eq_append_getElem hi]
          simp only [sts, List.map_append, List.map_cons, List.map_nil, List.cons_append]
        have sl : (sts s (l.take i)).length ≤ 1000000 := by simp [sts]; omega
        simp (disch := first | assumption | omega | (simp; omega)) [e2, e1, gApp_ok]
        exact ⟨_, rfl, _, rfl, e3, rfl, rfl⟩
    · rintro e ⟨s4, s5, n4, n5, rfl⟩
      simp
  · rintro e ⟨s4, s5, rfl⟩
    simp
theorem beh_true {h : Hs} {s : Sd} {m : Mv0} {r : Option Bool × Sd} (hr : r ∈ behT h s m) : r.1 = none ∨ r.1 = some false ∨ (r.1 = some true ∧ ∃ n l, m = .tr n l) := by
  cases m with
  | file n c cut =>
    simp [behT] at hr
    subst hr
    exact .inl rfl
  | tr n l =>
    rcases hr' : r.1 with _ | b
    · exact .inl rfl
    · cases b
      · exact .inr (.inl rfl)
      · exact .inr (.inr ⟨rfl, n, l, rfl⟩)
def DC (h : Hs) (s : Sd) (many : Int) (i : Nat) (e : En) : Prop := ∃ (l : List Int) (cs : Crs) (s6 s7 s8 s9 s10 : MP.Slot), notIo s6 = true ∧ notIo s7 = true ∧ notIo s8 = true ∧ notIo s9 = true ∧ notIo s10 = true ∧ Ch h s cs ∧ SOk h (cur s cs cs.length) ∧ cs.length ≤ i ∧ e = [.io (dr l), .sh (encH h), .sh (encS s), .sh (.int many), .ow (.lst (cs.map encC)), .ow (.lst ((sts s cs).map encS)), s6, s7, s8, s9, s10]
theorem drawn_ok {h : Hs} {s : Sd} (H : HOk h) (S : SOk h s) (l : List Int) (many : Int) (hm : 0 ≤ many ∧ many ≤ 900) : fsat (F_l_drawn_course [dr l, encH h, encS s, .int many]) fun d o => ∃ (cs : Crs) (l' : List Int), d = .tup [.tup (cs.map encC), .tup ((sts s cs).map encS)] ∧ o = [dr l'] ∧ Ch h s cs ∧ cs.length ≤ 900 := by
  show fsat (endF [true, false, false, false] (B_l_drawn_course [.io (dr l), .sh (encH h), .sh (encS s), .sh (.int many), .no, .no, .no, .no, .no, .no, .no])) _
  unfold B_l_drawn_course
  refine fseq (fun e => e = [.io (dr l), .sh (encH h), .sh (encS s), .sh (.int many), .ow (.lst []), .no, .no, .no, .no, .no, .no]) ?_ ?_
  · simp
  rintro e rfl
  refine fseq (fun e => e = [.io (dr l), .sh (encH h), .sh (encS s), .sh (.int many), .ow (.lst []), .ow (.lst [encS s]), .no, .no, .no, .no, .no]) ?_ ?_
  · simp
  rintro e rfl
  refine fseq (fun e => DC h s many 900 e) ?_ ?_
  · simp (disch := first | assumption | omega | (simp; omega)) [rg1K_ok]
    refine forL_G1 (C := fun r => sat r _) (fun i e => i ≤ 900 ∧ DC h s many i e) (DC h s many 900) (fun _ _ => False) ⟨by omega, l, [], .no, .no, .no, .no, .no, rfl, rfl, rfl, rfl, rfl, fun i hi => absurd hi (Nat.not_lt_zero _), S, by simp, rfl⟩ ?_ ?_ (fun _ _ z => z.elim)
    · rintro i x e hx ⟨hi9, l, cs, s6, s7, s8, s9, s10, n6, n7, n8, n9, n10, C, S, hcl, rfl⟩
      obtain ⟨hi, rfl⟩ := rgD_at hx
      refine ⟨_, by rw [tgN_eq]; exact tgK_n n6, ?_⟩
      have hlast := cur_last s cs
      have hsl : (sts s cs).length ≤ 1000 := by simp [sts]; omega
      generalize hcu : cur s cs cs.length = c at *
      obtain ⟨d0, o0, hE, ms, rfl, rfl, hms, hml⟩ := fsat_out (moves_ok H S)
      refine sseq (fun e => e = [.io (dr l), .sh (encH h), .sh (encS s), .sh (.int many), .ow (.lst (cs.map encC)), .ow (.lst ((sts s cs).map encS)), .sh (.int (0 + (i : Int))), .ow (.lst (ms.map encM)), s8, s9, s10]) ?_ ?_
      · simp [hlast, hE, stK_n n7]
      rintro e rfl
      by_cases q0 : ms = []
      · subst q0
        simp
        exact ⟨l, cs, .sh (.int i), .ow (.lst []), s8, s9, s10, rfl, rfl, n8, n9, n10, C, hcu ▸ S, by omega, rfl⟩
      · have q1 : 0 < ms.length := List.length_pos_iff.mpr q0
        refine sseq (fun e => e = [.io (dr l), .sh (encH h), .sh (encS s), .sh (.int many), .ow (.lst (cs.map encC)), .ow (.lst ((sts s cs).map encS)), .sh (.int (0 + (i : Int))), .ow (.lst (ms.map encM)), s8, s9, s10]) ?_ ?_
        · simp [q0]
        rintro e rfl
        have t0 := take_ok l ms.length (by omega)
        have t1 := tkV_ge l ms.length (by omega)
        have t2 := tkV_lt l ms.length (by omega)
        obtain ⟨m, hm1, hm2⟩ := ix_M ms _ t1 t2
        simp only [ix_lst] at hm2
        refine sseq (fun e => e = [.io (dr l.dropLast), .sh (encH h), .sh (encS s), .sh (.int many), .ow (.lst (cs.map encC)), .ow (.lst ((sts s cs).map encS)), .sh (.int (0 + (i : Int))), .ow (.lst (ms.map encM)), .sh (encM m), s9, s10]) ?_ ?_
        · simp [t0, hm2, stK_n n8]
        rintro e rfl
        generalize l.dropLast = l1 at *
        refine sseq (fun e => ∃ (l' : List Int) (m : Mv0), m ∈ ms ∧ e = [.io (dr l'), .sh (encH h), .sh (encS s), .sh (.int many), .ow (.lst (cs.map encC)), .ow (.lst ((sts s cs).map encS)), .sh (.int (0 + (i : Int))), .ow (.lst (ms.map encM)), .sh (encM m), s9, s10]) ?_ ?_
        · by_cases c1 : 0 < c.tries
          · have u0 := take_ok l1 3 (by omega)
            by_cases c2 : tkV l1 3 = 0
            · have m1 : (0 : Int) < if (5 : Int) < (ms.length : Int) then (5 : Int) else (ms.length : Int) := by split <;> omega
              have u1 := tkV_ge l1.dropLast (if (5 : Int) < (ms.length : Int) then (5 : Int) else (ms.length : Int)) m1
              have u2 := tkV_lt l1.dropLast (if (5 : Int) < (ms.length : Int) then (5 : Int) else (ms.length : Int)) m1
              have u3 : (if (5 : Int) < (ms.length : Int) then (5 : Int) else (ms.length : Int)) ≤ ms.length := by split <;> omega
              have e1 := take_ok l1.dropLast (if (5 : Int) < (ms.length : Int) then (5 : Int) else (ms.length : Int)) m1
              obtain ⟨m', hm1', hm2'⟩ := ix_M ms (ms.length - 1 - tkV l1.dropLast (if (5 : Int) < (ms.length : Int) then (5 : Int) else (ms.length : Int))) (by omega) (by omega)
              simp only [ix_lst] at hm2'
              simp [hlast, c1, u0, c2, e1, hm2']
              exact ⟨_, m', hm1', rfl, rfl⟩
            · simp [hlast, c1, u0, c2]
              exact ⟨_, m, hm1, rfl, rfl⟩
          · simp [hlast, c1]
            exact ⟨_, m, hm1, rfl, rfl⟩
        clear hm1 hm2 m
        rintro e ⟨l2, m, hm1, rfl⟩
        have M := hms m hm1
        have b1 := behind_ok H S M
        have b3 : 0 < (behT h c m).length := List.length_pos_iff.mpr (beh_ne S m)
        have v0 := take_ok l2 (behT h c m).length (by omega)
        have v1 := tkV_ge l2 (behT h c m).length (by omega)
        have v2 := tkV_lt l2 (behT h c m).length (by omega)
        obtain ⟨r, hr1, hr2⟩ := ix_R (behT h c m) _ v1 v2
        simp only [ix_lst] at hr2
        have S2 := beh_ok H S M r hr1
        have A := after_beh H S M r hr1
        refine sseq (fun e => e = [.io (dr l2), .sh (encH h), .sh (encS s), .sh (.int many), .ow (.lst (cs.map encC)), .ow (.lst ((sts s cs).map encS)), .sh (.int (0 + (i : Int))), .ow (.lst (ms.map encM)), .sh (encM m), .ow (.lst ((behT h c m).map encR)), s10]) ?_ ?_
        · simp [hlast, b1, stK_n n9]
        rintro e rfl
        refine sseq (fun e => e = [.io (dr l2.dropLast), .sh (encH h), .sh (encS s), .sh (.int many), .ow (.lst (cs.map encC)), .ow (.lst ((sts s cs).map encS)), .sh (.int (0 + (i : Int))), .ow (.lst (ms.map encM)), .sh (encM m), .ow (.lst ((behT h c m).map encR)), .sh (encR r)]) ?_ ?_
        · simp [v0, hr2, stK_n n10]
        rintro e rfl
        generalize l2.dropLast = l3 at *
        have hs1 : (cs ++ [(m, r.1, r.2)]).map encC = cs.map encC ++ [.tup [encM m, encO r.1]] := by simp [encC]
        have hs2 : (sts s (cs ++ [(m, r.1, r.2)])).map encS = (sts s cs).map encS ++ [encS r.2] := by simp [sts]
        refine sseq (fun e => e = [.io (dr l3), .sh (encH h), .sh (encS s), .sh (.int many), .ow (.lst ((cs ++ [(m, r.1, r.2)]).map encC)), .ow (.lst ((sts s cs).map encS)), .sh (.int (0 + (i : Int))), .ow (.lst (ms.map encM)), .sh (encM m), .ow (.lst ((behT h c m).map encR)), .sh (encR r)]) ?_ ?_
        · rw [hs1]
          simp (disch := first | assumption | omega | (simp; omega)) [encR, gApp_ok]
        rintro e rfl
        refine sseq (fun e => e = [.io (dr l3), .sh (encH h), .sh (encS s), .sh (.int many), .ow (.lst ((cs ++ [(m, r.1, r.2)]).map encC)), .ow (.lst ((sts s (cs ++ [(m, r.1, r.2)])).map encS)), .sh (.int (0 + (i : Int))), .ow (.lst (ms.map encM)), .sh (encM m), .ow (.lst ((behT h c m).map encR)), .sh (encR r)]) ?_ ?_
        · rw [hs2]
          simp (disch := first | assumption | omega | (simp; omega)) [encR, gApp_ok]
        rintro e rfl
        have C2 : Ch h s (cs ++ [(m, r.1, r.2)]) := ch_app C (by rw [hcu]; exact A) S2
        have S3 : SOk h (cur s (cs ++ [(m, r.1, r.2)]) (cs ++ [(m, r.1, r.2)]).length) := by
          rw [List.length_append]
          show SOk h (cur s (cs ++ [(m, r.1, r.2)]) (cs.length + 1))
          rw [cur_end]
          exact S2
        have L2 : (cs ++ [(m, r.1, r.2)]).length ≤ i + 1 := by simp; omega
        generalize cs ++ [(m, r.1, r.2)] = cs2 at *
        have fin : ∀ k, i + 1 ≤ k → DC h s many k [.io (dr l3), .sh (encH h), .sh (encS s), .sh (.int many), .ow (.lst (cs2.map encC)), .ow (.lst ((sts s cs2).map encS)), .sh (.int (0 + (i : Int))), .ow (.lst (ms.map encM)), .sh (encM m), .ow (.lst ((behT h c m).map encR)), .sh (encR r)] := fun k hk => ⟨l3, cs2, _, _, _, _, _, rfl, rfl, rfl, rfl, rfl, C2, S3, by omega, rfl⟩
        have hi900 : i + 1 ≤ 900 := by omega
        rw [sIf_eq]
        refine sat_bind (fun _ e => e = [.io (dr l3), .sh (encH h), .sh (encS s), .sh (.int many), .ow (.lst (cs2.map encC)), .ow (.lst ((sts s cs2).map encS)), .sh (.int (0 + (i : Int))), .ow (.lst (ms.map encM)), .sh (encM m), .ow (.lst ((behT h c m).map encR)), .sh (encR r)]) ?_ ?_
        · rcases beh_true hr1 with z | z | ⟨z, n, lk, rfl⟩
          · simp [encR, z, encO]
          · simp [encR, z, encO]
          · have e1 := ix_I h.places lk M.2
            simp [encR, z, encO, encM, e1]
        · rintro b e rfl
          cases b with
          | true => simpa using fin 900 hi900
          | false =>
            have f2 := fin (i + 1) (Nat.le_refl _)
            rw [show (0 + (i : Int)) = i by omega] at f2
            simpa using ⟨Nat.le_of_succ_le_succ hi900, f2⟩
    · rintro e he
      rw [sat_ok]
      refine ⟨rfl, ?_⟩
      rcases he with ⟨h1, l, cs, s6, s7, s8, s9, s10, n6, n7, n8, n9, n10, C, S, hcl, rfl⟩ | he
      · exact ⟨l, cs, s6, s7, s8, s9, s10, n6, n7, n8, n9, n10, C, S, by omega, rfl⟩
      · exact he
  · rintro e ⟨l, cs, s6, s7, s8, s9, s10, n6, n7, n8, n9, n10, C, S, hcl, rfl⟩
    simp
    exact ⟨cs, ⟨rfl, rfl⟩, ⟨_, rfl⟩, C, hcl⟩
/-! ### quiet houses -/
def quietH (h : Hs) : Hs := { h with places := h.places.map fun p => if 1 < p then 1 else p }
theorem quiet_ok {h : Hs} (H : HOk h) : F_l_quiet [encH h] = .ok (encH (quietH h)) [] := by
  have l2 := H.l2
  have ct : ∀ l : List D, cut l none (some 3) = l.take 3 := fun l => cut_take l 3
  simp [F_l_quiet, runF_eq, startE_eq, B_l_quiet, encH, ct, tupI]
  rw [compL_all D.int (fun p => D.int (if 1 < p then 1 else p))]
  · simp (disch := first | assumption | omega | (simp; omega)) [lenK_ok]
    rw [add_tup _ _ (by simp)]
    simp [quietH]
  · intro p hp k acc
    simp
theorem quiet_h {h : Hs} (H : HOk2 h) : HOk2 (quietH h) := { H with l1 := by simpa [quietH] using H.l1, l2 := by simpa [quietH] using H.l2, pin := by simpa [quietH] using H.pin }
/-! ### results -/
def resD (h : Hs) (m : Mv0) (r : Option Bool × Sd) : D := match r.1 with
  | some true => if entersT h m true then .tup [.bl true, .non] else encR r
  | _ => encR r
theorem results_ok {h : Hs} {s : Sd} {m : Mv0} (H : HOk h) (S : SOk h s) (M : MOk h s m) : F_l_results [encH h, encS s, encM m] = .ok (.lst ((behT h s m).map (resD h m))) [] := by
  suffices q : fsat (F_l_results [encH h, encS s, encM m]) fun d o => d = .lst ((behT h s m).map (resD h m)) ∧ o = [] by
    obtain ⟨d, o, e, rfl, rfl⟩ := fsat_out q
    exact e
  show fsat (endF [false, false, false] (B_l_results [.sh (encH h), .sh (encS s), .sh (encM m), .no, .no])) _
  unfold B_l_results
  have b1 := behind_ok H S M
  have bl : (behT h s m).length ≤ 2 := by
    cases m with
    | file n c cut => simp [behT]
    | tr n l =>
      simp [behT]
      split <;> split <;> simp
  refine fseq (fun e => e = [.sh (encH h), .sh (encS s), .sh (encM m), .ow (.lst []), .no]) ?_ ?_
  · simp
  rintro e rfl
  refine fseq (fun e => ∃ s4, e = [.sh (encH h), .sh (encS s), .sh (encM m), .ow (.lst ((behT h s m).map (resD h m))), s4]) ?_ ?_
  · simp [b1]
    refine forL_1 (C := fun r => sat r _) (fun i e => ∃ s4, notIo s4 = true ∧ e = [.sh (encH h), .sh (encS s), .sh (encM m), .ow (.lst (((behT h s m).take i).map (resD h m))), s4]) ⟨.no, rfl, rfl⟩ ?_ ?_
    · rintro i x e hx ⟨s4, n4, rfl⟩
      rw [List.getElem?_map] at hx
      obtain ⟨r, hr, rfl⟩ := Option.map_eq_some_iff.mp hx
      obtain ⟨hi, hr2⟩ := List.getElem?_eq_some_iff.mp hr
      have hr1 : r ∈ behT h s m := List.mem_of_getElem? hr
      refine ⟨_, by rw [tgN_eq]; exact tgK_n n4, ?_⟩
      have e3 : ((behT h s m).take i).map (resD h m) ++ [resD h m r] = ((behT h s m).take (i + 1)).map (resD h m) := by
        rw [List.take_succ_eq_append_getElem hi, hr2]
        simp only [List.map_append, List.map_cons, List.map_nil]
      have tl : (((behT h s m).take i).map (resD h m)).length ≤ 1000 := by simp; omega
      generalize ((behT h s m).take i).map (resD h m) = acc at *
      rw [← e3]
      rcases beh_true hr1 with z | z | ⟨z, n, lk, rfl⟩
      · simp (disch := first | assumption | omega | (simp; omega)) [encR, z, encO, gApp_ok, resD]
      · simp (disch := first | assumption | omega | (simp; omega)) [encR, z, encO, gApp_ok, resD]
      · have e1 := ix_I h.places lk M.2
        by_cases pz : nth h.places lk 0 = 2
        · simp (disch := first | assumption | omega | (simp; omega)) [encR, z, encO, gApp_ok, resD, encM, e1, pz, entersT]
        · simp (disch := first | assumption | omega | (simp; omega)) [encR, z, encO, gApp_ok, resD, encM, e1, pz, entersT]
    · rintro e ⟨s4, n4, rfl⟩
      simp
  · rintro e ⟨s4, rfl⟩
    simp
end K57

set_option Elab.async false
set_option linter.all false
set_option autoImplicit false
set_option maxRecDepth 100000
namespace K57
open PySem L2 MP
theorem kd_L (l : List (List Int)) : (tL l).kd = true := kds_map _ _ fun x _ => kd_I x
theorem kd_N (l : List Nat) : (tN l).kd = true := kds_map _ _ fun _ _ => rfl
theorem keyOk_S (s : Sd) : (encS s).keyOk true = true := by
  refine keyOk_kd ?_ ?_
  · show ((tL s.hand).kd && ((tN s.ps).kd && (true && true))) = true
    rw [kd_L, kd_N]
    rfl
  · show max (tL s.hand).dp (max (tN s.ps).dp (max 0 0)) ≤ 7
    have := dp_L s.hand
    have := dp_N s.ps
    omega
@[simp] theorem isNon_S (s : Sd) : (encS s).isNon = false := rfl
theorem resD_cases (h : Hs) (m : Mv0) (r : Option Bool × Sd) : resD h m r = .tup [.bl true, .non] ∨ resD h m r = .tup [encO r.1, encS r.2] := by
  unfold resD
  split
  · split
    · exact .inl rfl
    · exact .inr rfl
  · exact .inr rfl
def prD (h : Hs) (s : Sd) (m : Mv0) : D := .tup [encM m, .lst ((behT h s m).map (resD h m))]
def MTe (h : Hs) (f : List D) (most : Int) (order : List Sd) (kvs rows : List (D × D)) (s5 s7 s8 s9 s10 s11 : MP.Slot) : En := [.sh (encH h), .sh (.lst f), .sh (.int most), .ow (.lst (order.map encS)), .ow (.dct true kvs), s5, .ow (.dct true rows), s7, s8, s9, s10, s11]
def MT (h : Hs) (f : List D) (most : Int) (i : Nat) (e : En) : Prop := ∃ (order : List Sd) (kvs rows : List (D × D)) (s5 s7 s8 s9 s10 : MP.Slot), notIo s5 = true ∧ notIo s7 = true ∧ notIo s8 = true ∧ notIo s9 = true ∧ notIo s10 = true ∧ (∀ s ∈ order, SOk h s) ∧ order.length ≤ 300 ∧ kvs.length ≤ order.length ∧ rows.length ≤ i ∧ e = MTe h f most order kvs rows s5 s7 s8 s9 s10 .no
def MR (h : Hs) (f : List D) (most : Int) (d : D) (e : En) : Prop := (d = .non ∨ ∃ kvs, d = .dct true kvs) ∧ ∃ s3 s4 s5 s6 s7 s8 s9 s10 s11, e = [.sh (encH h), .sh (.lst f), .sh (.int most), s3, s4, s5, s6, s7, s8, s9, s10, s11]
def MTa (h : Hs) (f : List D) (most : Int) (lo hi : Nat) (rows : List (D × D)) (s5 s7 s8 : MP.Slot) (e : En) : Prop := ∃ (order' : List Sd) (kvs' : List (D × D)) (s9 s10 : MP.Slot), notIo s9 = true ∧ notIo s10 = true ∧ (∀ s ∈ order', SOk h s) ∧ lo ≤ order'.length ∧ order'.length ≤ hi ∧ kvs'.length ≤ order'.length ∧ e = MTe h f most order' kvs' rows s5 s7 s8 s9 s10 .no
def MTb (h : Hs) (f : List D) (most : Int) (lo hi : Nat) (rows : List (D × D)) (s5 s7 s8 s9 : MP.Slot) (e : En) : Prop := ∃ (order' : List Sd) (kvs' : List (D × D)) (s10 : MP.Slot), notIo s10 = true ∧ (∀ s ∈ order', SOk h s) ∧ lo ≤ order'.length ∧ order'.length ≤ hi ∧ kvs'.length ≤ order'.length ∧ e = MTe h f most order' kvs' rows s5 s7 s8 s9 s10 .no
theorem met_ok {h : Hs} {s : Sd} (H : HOk h) (S : SOk h s) (most : Int) (hm : 1 ≤ most ∧ most ≤ 300) : fsat (F_l_met [encH h, .lst [encS s], .int most]) fun d o => (d = .non ∨ ∃ kvs, d = .dct true kvs) ∧ o = [] := by
  show fsat (endF [false, false, false] (B_l_met [.sh (encH h), .sh (.lst [encS s]), .sh (.int most), .no, .no, .no, .no, .no, .no, .no, .no, .no])) _
  unfold B_l_met
  refine fseq (fun e => e = [.sh (encH h), .sh (.lst [encS s]), .sh (.int most), .ow (.lst []), .no, .no, .no, .no, .no, .no, .no, .no]) ?_ ?_
  · simp
  rintro e rfl
  refine fseq (fun e => e = [.sh (encH h), .sh (.lst [encS s]), .sh (.int most), .ow (.lst []), .ow (.dct true []), .no, .no, .no, .no, .no, .no, .no]) ?_ ?_
  · simp
  rintro e rfl
  refine fseq (fun e => e = [.sh (encH h), .sh (.lst [encS s]), .sh (.int most), .ow (.lst [encS s]), .ow (.dct true [(encS s, .bl true)]), .sh (encS s), .no, .no, .no, .no, .no, .no]) ?_ ?_
  · simp [forL_cons, nin_dct, keyOk_S, dget, set_dct, dput, gApp_ok]
  rintro e rfl
  refine fseq (fun e => e = MTe h [encS s] most [s] [(encS s, .bl true)] [] (.sh (encS s)) .no .no .no .no .no) ?_ ?_
  · simp [MTe]
  rintro e rfl
  generalize [encS s] = f
  refine fbind (fun fl e => (fl = .nx ∧ MT h f most 300 e) ∨ ∃ d, fl = .rt d ∧ MR h f most d e) ?_ ?_
  · simp (disch := first | assumption | omega | (simp; omega)) [MTe, rg1K_ok]
    refine forL_G1 (C := fun r => sat r _) (fun i e => i ≤ 300 ∧ MT h f most i e) (fun _ => False) (MR h f most) ⟨by omega, [s], [(encS s, .bl true)], [], .sh (encS s), .no, .no, .no, .no, rfl, rfl, rfl, rfl, rfl, by simp [S], by simp, by simp, by simp, rfl⟩ ?_ ?_ ?_
    · rintro i x e hx ⟨hi9, order, kvs, rows, s5, s7, s8, s9, s10, n5, n7, n8, n9, n10, hO, hol, hkl, hrl, rfl⟩
      obtain ⟨hi, rfl⟩ := rgD_at hx
      simp only [Int.zero_add]
      refine ⟨MTe h f most order kvs rows s5 (.sh (.int (i : Int))) s8 s9 s10 .no, by rw [tgN_eq]; exact tgK_n n7, ?_⟩
      by_cases q0 : i < order.length
      · have q0' : ¬ order.length ≤ i := by omega
        refine sseq (fun e => e = MTe h f most order kvs rows s5 (.sh (.int (i : Int))) s8 s9 s10 .no) ?_ ?_
        · simp [MTe, q0']
        rintro e rfl
        have ho : atI (order.map encS) (i : Int) = some (encS order[i]) := by
          rw [atI_map, atI_nat _ _ q0]
          rfl
        have S1 : SOk h order[i] := hO _ (List.getElem_mem q0)
        generalize order[i] = c at *
        obtain ⟨d0, o0, hE, ms, rfl, rfl, hms, hml⟩ := fsat_out (moves_ok H S1)
        refine sseq (fun e => e = MTe h f most order kvs rows s5 (.sh (.int (i : Int))) (.ow (.lst (ms.map (prD h c)))) s9 s10 .no) ?_ ?_
        · simp [MTe, ho, hE]
          rw [compL_all encM (prD h c)]
          · simp (disch := first | assumption | omega | (simp; omega)) [lenK_ok, stK_n n8]
          · intro m hm k acc
            simp [ho, results_ok H S1 (hms m hm), prD]
        rintro e rfl
        refine sseq (fun e => MTa h f most order.length (300 + 2 * ms.length) rows s5 (.sh (.int (i : Int))) (.sh (.lst (ms.map (prD h c)))) e) ?_ ?_
        · simp [MTe]
          refine forL_1 (C := fun r => sat r _) (fun j e => MTa h f most order.length (300 + 2 * j) rows s5 (.sh (.int (i : Int))) (.sh (.lst (ms.map (prD h c)))) e) ⟨order, kvs, s9, s10, n9, n10, hO, Nat.le_refl _, by omega, hkl, rfl⟩ ?_ ?_
          · rintro j x e hx ⟨o1, k1, s9, s10, n9, n10, hO1, hol1, hol2, hkl1, rfl⟩
            rw [List.getElem?_map] at hx
            obtain ⟨m, hm, rfl⟩ := Option.map_eq_some_iff.mp hx
            have M := hms m (List.mem_of_getElem? hm)
            have bl : (behT h c m).length ≤ 2 := by
              cases m with
              | file n c cut => simp [behT]
              | tr n l =>
                simp [behT]
                split <;> split <;> simp
            refine ⟨MTe h f most o1 k1 rows s5 (.sh (.int (i : Int))) (.sh (.lst (ms.map (prD h c)))) (.sh (prD h c m)) s10 .no, by rw [tgN_eq]; exact tgK_n n9, ?_⟩
            simp [MTe, prD]
            refine forL_1 (C := fun r => sat r _) (fun t e => MTb h f most order.length (300 + 2 * j + t) rows s5 (.sh (.int (i : Int))) (.sh (.lst (ms.map (prD h c)))) (.sh (prD h c m)) e) ⟨o1, k1, s10, n10, hO1, hol1, by omega, hkl1, rfl⟩ ?_ ?_
            · rintro t x e hx ⟨o2, k2, s10, n10, hO2, hol3, hol4, hkl2, rfl⟩
              rw [List.getElem?_map] at hx
              obtain ⟨r, hr, rfl⟩ := Option.map_eq_some_iff.mp hx
              have ht : t < (behT h c m).length := (List.getElem?_eq_some_iff.mp hr).1
              have hj : j < ms.length := (List.getElem?_eq_some_iff.mp hm).1
              have S2 := beh_ok H S1 M r (List.mem_of_getElem? hr)
              refine ⟨MTe h f most o2 k2 rows s5 (.sh (.int (i : Int))) (.sh (.lst (ms.map (prD h c)))) (.sh (prD h c m)) (.sh (resD h m r)) .no, by rw [tgN_eq]; exact tgK_n n10, ?_⟩
              rcases resD_cases h m r with z | z
              · simp [MTe, z]
                exact ⟨o2, k2, .sh (.tup [.bl true, .non]), rfl, hO2, hol3, by omega, hkl2, rfl⟩
              · have kk := keyOk_S r.2
                cases q1 : (dget k2 (encS r.2)).isSome with
                | true =>
                  simp [MTe, z, nin_dct, kk, q1]
                  exact ⟨o2, k2, .sh (.tup [encO r.1, encS r.2]), rfl, hO2, hol3, by omega, hkl2, rfl⟩
                | false =>
                  simp (disch := first | assumption | omega | (simp; omega)) [MTe, z, nin_dct, kk, q1, set_dct, gApp_ok]
                  have dl := dput_len k2 (encS r.2) (.bl true)
                  refine ⟨o2 ++ [r.2], dput k2 (encS r.2) (.bl true), .sh (.tup [encO r.1, encS r.2]), rfl, ?_, by simp; omega, by simp; omega, by simp; omega, by simp [MTe]⟩
                  intro y hy
                  rcases List.mem_append.mp hy with hy | hy
                  · exact hO2 y hy
                  · simp at hy
                    exact hy ▸ S2
            · rintro e ⟨o2, k2, s10, n10, hO2, hol3, hol4, hkl2, rfl⟩
              simp at hol4
              rw [sat_ok]
              exact ⟨o2, k2, _, s10, rfl, n10, hO2, hol3, by omega, hkl2, rfl⟩
          · rintro e he
            simp at he
            rw [sat_ok]
            exact ⟨rfl, he⟩
        rintro e ⟨o3, k3, s9, s10, n9, n10, hO3, hol3, hol4, hkl3, rfl⟩
        have ho3 : i < o3.length := by omega
        have ho4 : atI (o3.map encS) (i : Int) = some (encS o3[i]) := by
          rw [atI_map, atI_nat _ _ ho3]
          rfl
        by_cases q3 : most < (o3.length : Int)
        · simp [MTe, q3]
          exact ⟨.inl rfl, _, _, _, _, _, _, _, _, _, rfl⟩
        · have kk := keyOk_S o3[i]
          have dl := dput_len rows (encS o3[i]) (.lst (ms.map (prD h c)))
          simp (disch := first | assumption | omega | (simp; omega)) [MTe, q3, ho4, set_dct, kk]
          exact ⟨by omega, o3, k3, _, s5, _, _, s9, s10, n5, rfl, rfl, n9, n10, hO3, by omega, hkl3, by omega, rfl⟩
      · have q0' : order.length ≤ i := by omega
        simp [MTe, q0']
        exact ⟨.inr ⟨_, rfl⟩, _, _, _, _, _, _, _, _, _, rfl⟩
    · rintro e he
      rcases he with ⟨h1, he⟩ | he
      · rw [sat_ok]
        refine .inl ⟨rfl, ?_⟩
        obtain ⟨order, kvs, rows, s5, s7, s8, s9, s10, n5, n7, n8, n9, n10, hO, hol, hkl, hrl, rfl⟩ := he
        exact ⟨order, kvs, rows, s5, s7, s8, s9, s10, n5, n7, n8, n9, n10, hO, hol, hkl, by omega, rfl⟩
      · exact he.elim
    · rintro d e he
      rw [sat_ok]
      exact .inr ⟨d, rfl, he⟩
  · rintro fl e (⟨rfl, order, kvs, rows, s5, s7, s8, s9, s10, n5, n7, n8, n9, n10, hO, hol, hkl, hrl, rfl⟩ | ⟨d, rfl, hd, s3, s4, s5, s6, s7, s8, s9, s10, s11, rfl⟩)
    · simp [MTe]
    · simp
      exact hd
end K57

set_option Elab.async false
set_option linter.all false
set_option autoImplicit false
set_option maxRecDepth 100000
namespace K57
open PySem L2 MP
/-! ### the fitting house -/
def FI (h : Hs) (most : Int) (e : En) : Prop := ∃ s2 s4 s5, notIo s2 = true ∧ notIo s4 = true ∧ notIo s5 = true ∧ e = [.sh (encH h), .sh (.int most), s2, .no, s4, s5]
def FR (h : Hs) (most : Int) (d : D) (e : En) : Prop := (∃ h' x, HOk2 h' ∧ d = .tup [encH h', x]) ∧ ∃ s2 s3 s4 s5, e = [.sh (encH h), .sh (.int most), s2, s3, s4, s5]
theorem enc_tries (h : Hs) (t : Int) : encH { h with tries := t } = .tup [.tup [.int h.c, .int h.d, .int h.s], tL h.hand, .tup (h.pins.map tP), tupI h.places, .int t] := rfl
def deepH (h : Hs) : Hs := { h with hand := List.replicate h.hand.length (List.replicate h.c ((h.d : Int) - 1)), tries := 0 }
theorem deep_ok {h : Hs} (H : HOk2 h) : HOk2 (deepH h) := by
  have d1 := H.d1
  have d4 := H.d4
  refine { H with h1 := by simpa [deepH] using H.h1, h2 := by simpa [deepH] using H.h2, hk := ?_, t0 := by simp [deepH], t4 := by simp [deepH] }
  intro k hk
  simp [deepH] at hk
  obtain ⟨_, rfl⟩ := hk
  refine ⟨by simp [deepH], ?_⟩
  intro x hx
  simp at hx
  omega
theorem fitting_ok {h : Hs} (H : HOk2 h) (most : Int) (hm : 1 ≤ most ∧ most ≤ 300) : fsat (F_l_fitting [encH h, .int most]) fun d o => (∃ h' x, HOk2 h' ∧ d = .tup [encH h', x]) ∧ o = [] := by
  show fsat (endF [false, false] (B_l_fitting [.sh (encH h), .sh (.int most), .no, .no, .no, .no])) _
  unfold B_l_fitting
  rw [sSeq_eq]
  refine fbind (fun fl e => (fl = .nx ∧ FI h most e) ∨ ∃ d, fl = .rt d ∧ FR h most d e) ?_ ?_
  · have t0 := H.t0
    have t4 := H.t4
    simp (disch := first | assumption | omega | (simp; omega)) [rg1K_ok]
    refine forL_G1 (C := fun r => sat r _) (fun i e => FI h most e) (fun _ => False) (FR h most) ⟨.no, .no, .no, rfl, rfl, rfl, rfl⟩ ?_ ?_ ?_
    · rintro i x e hx ⟨s2, s4, s5, n2, n4, n5, rfl⟩
      obtain ⟨hi, rfl⟩ := rgD_at hx
      simp only [Int.zero_add]
      refine ⟨[.sh (encH h), .sh (.int most), .sh (.int (i : Int)), .no, s4, s5], by rw [tgN_eq]; exact tgK_n n2, ?_⟩
      have H1 : HOk2 { h with tries := h.tries - i } := { H with t0 := by show 0 ≤ h.tries - (i : Int); omega, t4 := by show h.tries - (i : Int) ≤ 4; omega }
      have et := enc_tries h (h.tries - i)
      have ct : ∀ l : List D, cut l none (some 4) = l.take 4 := fun l => cut_take l 4
      refine sseq (fun e => e = [.sh (encH h), .sh (.int most), .sh (.int (i : Int)), .no, .sh (encH { h with tries := h.tries - i }), s5]) ?_ ?_
      · simp [encH, ct, stK_n n4]
        rw [add_tup _ _ (by simp)]
        simp [stK_n n4]
      rintro e rfl
      generalize ({ h with tries := h.tries - (i : Int) } : Hs) = h1 at *
      have o1 := origin_ok H1.toHOk
      obtain ⟨d, o, m1, hd, rfl⟩ := fsat_out (met_ok H1.toHOk (origin_s H1.toHOk) most hm)
      rcases hd with rfl | ⟨kvs, rfl⟩
      · simp [o1, m1, stK_n n5]
        exact ⟨_, _, _, rfl, rfl, rfl, rfl⟩
      · simp [o1, m1, stK_n n5]
        exact ⟨⟨h1, _, H1, rfl⟩, _, _, _, _, rfl⟩
    · rintro e (he | he)
      · rw [sat_ok]
        exact .inl ⟨rfl, he⟩
      · exact he.elim
    · rintro d e he
      rw [sat_ok]
      exact .inr ⟨d, rfl, he⟩
  · rintro fl e (⟨rfl, s2, s4, s5, n2, n4, n5, rfl⟩ | ⟨d, rfl, hd, s2, s3, s4, s5, rfl⟩)
    · have c2 := H.c2
      have h2 := H.h2
      refine fseq (fun e => ∃ s2 s4 s5, notIo s4 = true ∧ e = [.sh (encH h), .sh (.int most), s2, .sh (tL (deepH h).hand), s4, s5]) ?_ ?_
      · simp (disch := first | assumption | omega | (simp; omega)) [encH, tL, mul_tup1]
        simp [deepH, tupI]
        exact n4
      clear n2 n4 n5 s2 s4 s5
      rintro e ⟨s2, s4, s5, n4, rfl⟩
      refine fseq (fun e => ∃ s2 s3 s5, e = [.sh (encH h), .sh (.int most), s2, s3, .sh (encH (deepH h)), s5]) ?_ ?_
      · have ct : cut [.tup [.int h.c, .int h.d, .int h.s], tL h.hand, .tup (h.pins.map tP), tupI h.places, .int h.tries] (some 2) (some 4) = [.tup (h.pins.map tP), tupI h.places] := rfl
        simp [encH, ct]
        rw [add_tup _ _ (by simp)]
        simp
        rw [add_tup _ _ (by simp)]
        simp [stK_n n4]
        simp [deepH]
      clear n4 s2 s4 s5
      rintro e ⟨s2, s3, s5, rfl⟩
      have H1 := deep_ok H
      have o1 := origin_ok H1.toHOk
      obtain ⟨d, o, m1, hd, rfl⟩ := fsat_out (met_ok H1.toHOk (origin_s H1.toHOk) most hm)
      rcases hd with rfl | ⟨kvs, rfl⟩
      · simp [o1, m1]
        exact ⟨_, H1, rfl⟩
      · simp [o1, m1]
        exact ⟨_, H1, rfl⟩
    · obtain ⟨h', x, g1, g2⟩ := hd
      simp
      exact ⟨h', g1, x, g2⟩
end K57

set_option Elab.async false
set_option linter.all false
set_option autoImplicit false
set_option maxRecDepth 100000
namespace K57
open PySem L2 MP
/-! ### one known course -/
def bH (c d : Nat) : Hs := ⟨c, d, 0, [List.replicate c 0], [[List.replicate c [(d : Int) - 1]]], [2], 1⟩
def bS (key : List Int) (t : Int) : Sd := ⟨[key], [0], t⟩
theorem bH_ok {c d : Nat} (hc : 1 ≤ c ∧ c ≤ 3) (hd : 2 ≤ d ∧ d ≤ 4) : HOk (bH c d) := by
  refine { c1 := hc.1, c2 := hc.2, d2 := by show d ≤ 10; omega, l1 := Nat.le_refl _, l2 := by simp [bH], p1 := by simp [bH], p2 := by simp [bH], pin := ?_, h1 := by simp [bH], h2 := by simp [bH], hk := ?_ }
  · intro p hp
    simp [bH] at hp
    subst hp
    simp [bH]
  · intro k hk
    simp [bH] at hk
    subst hk
    refine ⟨by simp [bH], fun x hx => ?_⟩
    simp at hx
    omega
def kx (c : Nat) (d : Nat) (i : Nat) (t : Int) : List Int := List.replicate i ((d : Int) - 1) ++ t :: List.replicate (c - i - 1) 0
def ky (c : Nat) (d : Nat) (i : Nat) : List Int := List.replicate i ((d : Int) - 1) ++ List.replicate (c - i) 0
theorem ky_kx {c d i : Nat} (h : i < c) : ky c d i = kx c d i 0 := by
  unfold ky kx
  rw [show c - i = (c - i - 1) + 1 by omega, List.replicate_succ]
  simp
theorem kx_ky {c d i : Nat} (h : i < c) : kx c d i ((d : Int) - 1) = ky c d (i + 1) := by
  unfold ky kx
  rw [List.replicate_succ', show c - (i + 1) = c - i - 1 by omega]
  simp
theorem kx_set {c d i : Nat} (t u : Int) : (kx c d i t).set i u = kx c d i u := by
  unfold kx
  rw [List.set_append_right _ _ (by simp)]
  simp
theorem kx_len {c d i : Nat} (h : i < c) (t : Int) : (kx c d i t).length = c := by
  simp [kx]
  omega
theorem kx_filed {c d i : Nat} (t u : Int) : filed (kx c d i t) i u = kx c d i u := by
  unfold filed kx
  simp [List.take_append_of_le_length, List.drop_append]
theorem bS_ok {c d : Nat} {key : List Int} (t : Int) (hl : key.length = c) (hk : ∀ x ∈ key, 0 ≤ x ∧ x ≤ 10) : SOk (bH c d) (bS key t) := by
  refine { h1 := by simp [bS], h2 := by simp [bS], hk := ?_, p1 := by simp [bS], p2 := by simp [bS], pk := by simp [bS, bH] }
  intro k hk'
  simp [bS] at hk'
  subst hk'
  exact ⟨hl, hk⟩
theorem kx_rng {c d i : Nat} (hd : 2 ≤ d ∧ d ≤ 4) (t : Int) (ht : 0 ≤ t ∧ t ≤ 10) : ∀ x ∈ kx c d i t, 0 ≤ x ∧ x ≤ 10 := by
  intro x hx
  simp [kx] at hx
  omega
theorem sortK_1 (k : List Int) : sortK [k] = [k] := by simp [sortK]
theorem step_ok {c d i : Nat} (hc : 1 ≤ c ∧ c ≤ 3) (hd : 2 ≤ d ∧ d ≤ 4) (hi : i < c) (t u : Int) (ht : 0 ≤ t ∧ t ≤ 10) (hu : 0 ≤ u ∧ u ≤ 10) : F_after [encH (bH c d), encS (bS (kx c d i t) 1), encM (.file 0 i u), .non] = .ok (encS (bS (kx c d i u) 1)) [] := by
  have S := bS_ok (c := c) (d := d) 1 (kx_len hi t) (kx_rng hd t ht)
  have A := after_file (bH_ok hc hd) S (n := 0) (c := i) (cut := u) ⟨by simp [bS], hi, hu⟩ .non
  rw [A]
  have e : refiled (bS (kx c d i t) 1) 0 i u = [kx c d i u] := by
    simp [refiled, bS, keyAt, nth, kx_filed]
  simp [afterT, e, sortK_1]
  rfl
theorem last_ok {c d : Nat} (hc : 1 ≤ c ∧ c ≤ 3) (hd : 2 ≤ d ∧ d ≤ 4) : F_after [encH (bH c d), encS (bS (ky c d c) 1), encM (.tr 0 0), .bl true] = .ok (encS (bS (ky c d c) 0)) [] := by
  have e : ky c d c = List.replicate c ((d : Int) - 1) := by simp [ky]
  have S := bS_ok (c := c) (d := d) (key := ky c d c) 1 (by simp [e]) (by rw [e]; intro x hx; simp at hx; omega)
  have A := after_tr (bH_ok hc hd) S (n := 0) (l := 0) ⟨by simp [bS], by simp [bH]⟩ true
  rw [A]
  have t : toldB (bH c d) (bS (ky c d c) 1) 0 0 0 = true := by
    simp only [toldB, lockAt, keyAt, bS, bH, e]
    simp [opB, nth]
    intro x hx
    simp [hx]
  simp [afterT, bS, t]
  have t' : toldB (bH c d) ⟨[ky c d c], [0], 1⟩ 0 0 0 = true := t
  simp [t']
def bE (l : List Int) (c d : Nat) (key : List Int) (cs : Crs) (s8 s9 : MP.Slot) : En := [.io (dr l), .sh (.int c), .sh (.int d), .sh (tL (List.replicate c [(d : Int) - 1])), .sh (encH (bH c d)), .ow (.lst (key.map D.int)), .ow (.lst (cs.map encC)), .ow (.lst ((sts (bS (ky c d 0) 1) cs).map encS)), s8, s9]
def bI (l : List Int) (c d : Nat) (i : Nat) (e : En) : Prop := ∃ (cs : Crs) (s8 s9 : MP.Slot), notIo s8 = true ∧ notIo s9 = true ∧ Ch (bH c d) (bS (ky c d 0) 1) cs ∧ cs.length ≤ 3 * i ∧ cur (bS (ky c d 0) 1) cs cs.length = bS (ky c d i) 1 ∧ e = bE l c d (ky c d i) cs s8 s9
def bJ (l : List Int) (c d : Nat) (i t : Nat) (e : En) : Prop := ∃ (cs : Crs) (s9 : MP.Slot), notIo s9 = true ∧ Ch (bH c d) (bS (ky c d 0) 1) cs ∧ cs.length ≤ 3 * i + t ∧ cur (bS (ky c d 0) 1) cs cs.length = bS (kx c d i t) 1 ∧ e = bE l c d (kx c d i t) cs (.sh (.int i)) s9
theorem b_known_ok (l : List Int) : fsat (F_l_b_known_right [dr l]) fun x o => x = .bl true ∧ ∃ l', o = [dr l'] := by
  show fsat (endF [true] (B_l_b_known_right [.io (dr l), .no, .no, .no, .no, .no, .no, .no, .no, .no])) _
  unfold B_l_b_known_right
  have a1 := take_ok l 3 (by omega)
  have a2 := tkV_ge l 3 (by omega)
  have a3 := tkV_lt l 3 (by omega)
  obtain ⟨q1, h1⟩ := Int.eq_ofNat_of_zero_le a2
  generalize l.dropLast = l1 at *
  have b1 := take_ok l1 3 (by omega)
  have b2 := tkV_ge l1 3 (by omega)
  have b3 := tkV_lt l1 3 (by omega)
  obtain ⟨q2, h2⟩ := Int.eq_ofNat_of_zero_le b2
  generalize l1.dropLast = l2 at *
  obtain ⟨d, hdq⟩ : ∃ d : Nat, d = 2 + q2 := ⟨_, rfl⟩
  obtain ⟨c, hcq⟩ : ∃ c : Nat, c = 1 + q1 := ⟨_, rfl⟩
  have c1 : (1 : Int) + tkV l 3 = (c : Nat) := by omega
  have d1 : (2 : Int) + tkV l1 3 = (d : Nat) := by omega
  have hc : 1 ≤ c ∧ c ≤ 3 := by omega
  have hd : 2 ≤ d ∧ d ≤ 4 := by omega
  refine fseq (fun e => e = [.io (dr l1), .sh (.int c), .no, .no, .no, .no, .no, .no, .no, .no]) ?_ ?_
  · simp [a1, c1]
  rintro e rfl
  refine fseq (fun e => e = [.io (dr l2), .sh (.int c), .sh (.int d), .no, .no, .no, .no, .no, .no, .no]) ?_ ?_
  · simp [b1, d1]
  rintro e rfl
  refine fseq (fun e => e = [.io (dr l2), .sh (.int c), .sh (.int d), .sh (tL (List.replicate c [(d : Int) - 1])), .no, .no, .no, .no, .no, .no]) ?_ ?_
  · simp (disch := first | assumption | omega | (simp; omega)) [mul_tup1, tL, tupI]
  rintro e rfl
  refine fseq (fun e => e = [.io (dr l2), .sh (.int c), .sh (.int d), .sh (tL (List.replicate c [(d : Int) - 1])), .sh (encH (bH c d)), .no, .no, .no, .no, .no]) ?_ ?_
  · simp (disch := first | assumption | omega | (simp; omega)) [mul_tup1, encH, bH, tL, tupI, tP]
  rintro e rfl
  refine fseq (fun e => e = [.io (dr l2), .sh (.int c), .sh (.int d), .sh (tL (List.replicate c [(d : Int) - 1])), .sh (encH (bH c d)), .ow (.lst ((ky c d 0).map D.int)), .no, .no, .no, .no]) ?_ ?_
  · simp (disch := first | assumption | omega | (simp; omega)) [mul_lst1, ky]
  rintro e rfl
  refine fseq (fun e => e = [.io (dr l2), .sh (.int c), .sh (.int d), .sh (tL (List.replicate c [(d : Int) - 1])), .sh (encH (bH c d)), .ow (.lst ((ky c d 0).map D.int)), .ow (.lst []), .no, .no, .no]) ?_ ?_
  · simp
  rintro e rfl
  refine fseq (fun e => e = bE l2 c d (ky c d 0) [] .no .no) ?_ ?_
  · simp [bE, sts, bS, encS, tL, tupI, tN]
  rintro e rfl
  refine fseq (fun e => bI l2 c d c e) ?_ ?_
  · simp (disch := first | assumption | omega | (simp; omega)) [bE, rg1K_ok, rgD_map]
    refine forL_1 (C := fun r => sat r _) (fun i e => bI l2 c d i e) ⟨[], .no, .no, rfl, rfl, fun i hi => absurd hi (Nat.not_lt_zero _), by simp, rfl, rfl⟩ ?_ ?_
    · rintro i x e hx ⟨cs, s8, s9, n8, n9, C, hl, hcu, rfl⟩
      obtain ⟨hi, rfl⟩ := nat_at hx
      refine ⟨bE l2 c d (ky c d i) cs (.sh (.int i)) s9, by rw [tgN_eq]; exact tgK_n n8, ?_⟩
      simp (disch := first | assumption | omega | (simp; omega)) [bE, rg2K_ok]
      refine forL_1 (C := fun r => sat r _) (fun t e => t ≤ 3 ∧ bJ l2 c d i t e) ⟨by omega, cs, s9, n9, C, by omega, by rw [hcu, ky_kx hi]; rfl, by rw [ky_kx hi]; rfl⟩ ?_ ?_
      · rintro t x e hx ⟨ht3, cs, s9, n9, C, hl, hcu, rfl⟩
        obtain ⟨ht, rfl⟩ := rgD_at hx
        refine ⟨bE l2 c d (kx c d i t) cs (.sh (.int i)) (.sh (.int (1 + (t : Int)))), by rw [tgN_eq]; exact tgK_n n9, ?_⟩
        have e1 : (1 : Int) + (t : Int) = ((t + 1 : Nat) : Int) := by omega
        rw [e1]
        have kl := kx_len (c := c) (d := d) hi (t : Int)
        have A := step_ok hc hd hi (t : Int) ((t + 1 : Nat) : Int) (by omega) (by omega)
        have hs1 : (cs ++ [(Mv0.file 0 i ((t + 1 : Nat) : Int), (none : Option Bool), bS (kx c d i ((t + 1 : Nat) : Int)) 1)]).map encC = cs.map encC ++ [.tup [.tup [.str "file", .int (0 : Nat), .int i, .int ((t + 1 : Nat) : Int)], .non]] := by simp [encC, encM, encO]
        have hs2 : (sts (bS (ky c d 0) 1) (cs ++ [(Mv0.file 0 i ((t + 1 : Nat) : Int), (none : Option Bool), bS (kx c d i ((t + 1 : Nat) : Int)) 1)])).map encS = (sts (bS (ky c d 0) 1) cs).map encS ++ [.tup [.tup [.tup ((kx c d i ((t + 1 : Nat) : Int)).map D.int)], .tup [.int (0 : Nat)], .int 1]] := by simp [sts, bS, encS, tL, tupI, tN]
        have C2 : Ch (bH c d) (bS (ky c d 0) 1) (cs ++ [(Mv0.file 0 i ((t + 1 : Nat) : Int), (none : Option Bool), bS (kx c d i ((t + 1 : Nat) : Int)) 1)]) := ch_app C (by rw [hcu]; exact A) (bS_ok 1 (kx_len hi _) (kx_rng hd _ (by omega)))
        have L2 : (cs ++ [(Mv0.file 0 i ((t + 1 : Nat) : Int), (none : Option Bool), bS (kx c d i ((t + 1 : Nat) : Int)) 1)]).length ≤ 3 * i + (t + 1) := by simp; omega
        have U2 : cur (bS (ky c d 0) 1) (cs ++ [(Mv0.file 0 i ((t + 1 : Nat) : Int), (none : Option Bool), bS (kx c d i ((t + 1 : Nat) : Int)) 1)]) (cs ++ [(Mv0.file 0 i ((t + 1 : Nat) : Int), (none : Option Bool), bS (kx c d i ((t + 1 : Nat) : Int)) 1)]).length = bS (kx c d i ((t + 1 : Nat) : Int)) 1 := by
          rw [List.length_append]
          exact cur_end
        generalize cs ++ [(Mv0.file 0 i ((t + 1 : Nat) : Int), (none : Option Bool), bS (kx c d i ((t + 1 : Nat) : Int)) 1)] = cs2 at *
        have hcl : cs.length ≤ 1000 := by omega
        have hsl : ((sts (bS (ky c d 0) 1) cs).map encS).length ≤ 1000 := by simp [sts]; omega
        have fin : bJ l2 c d i (t + 1) (bE l2 c d (kx c d i ((t + 1 : Nat) : Int)) cs2 (.sh (.int i)) (.sh (.int ((t + 1 : Nat) : Int)))) := ⟨cs2, _, rfl, C2, L2, U2, rfl⟩
        have ht4 : t + 1 ≤ 3 := by omega
        have ks : (kx c d i (t : Int)).set i ((t + 1 : Nat) : Int) = kx c d i ((t + 1 : Nat) : Int) := kx_set _ _
        generalize kx c d i ((t + 1 : Nat) : Int) = k2 at *
        generalize hv : ((t + 1 : Nat) : Int) = v at *
        generalize kx c d i (t : Int) = k1 at *
        have ks2 : (k1.map D.int).set i (.int v) = k2.map D.int := by rw [← ks, List.map_set]
        have fin2 : t + 1 ≤ 3 ∧ bJ l2 c d i (t + 1) (bE l2 c d k2 cs2 (.sh (.int i)) (.sh (.int v))) := ⟨ht4, fin⟩
        simp only [bE, hs1, hs2] at fin2
        simp only [bE]
        refine sseq (fun e => e = [.io (dr l2), .sh (.int c), .sh (.int d), .sh (tL (List.replicate c [(d : Int) - 1])), .sh (encH (bH c d)), .ow (.lst (k2.map D.int)), .ow (.lst (cs.map encC)), .ow (.lst ((sts (bS (ky c d 0) 1) cs).map encS)), .sh (.int i), .sh (.int v)]) ?_ ?_
        · simp (disch := first | assumption | omega | (simp; omega)) [set_lst, ks2]
        rintro e rfl
        generalize (sts (bS (ky c d 0) 1) cs).map encS = due at *
        simp (disch := first | assumption | omega | (simp; omega)) [gApp_ok]
        refine ⟨by omega, ?_⟩
        have f := fin2.2
        simp at f
        exact f
      · rintro e ⟨h3, cs, s9, n9, C, hl, hcu, rfl⟩
        rw [sat_ok]
        have e1 : (rgD 1 ((d : Int) - 1).toNat).length = d - 1 := by simp [rgD]
        have e2 : ((d : Int) - 1).toNat = d - 1 := by omega
        simp only [e2, rgD, List.length_map, List.length_range] at hl hcu ⊢
        rw [show ((d - 1 : Nat) : Int) = (d : Int) - 1 by omega, kx_ky hi] at hcu
        rw [show ((d - 1 : Nat) : Int) = (d : Int) - 1 by omega, kx_ky hi]
        exact ⟨cs, _, s9, rfl, n9, C, by omega, hcu, rfl⟩
    · rintro e he
      rw [sat_ok]
      simp at he
      exact ⟨rfl, he⟩
  rintro e ⟨cs, s8, s9, n8, n9, C, hl, hcu, rfl⟩
  have A := last_ok hc hd
  have C2 : Ch (bH c d) (bS (ky c d 0) 1) (cs ++ [(Mv0.tr 0 0, some true, bS (ky c d c) 0)]) := ch_app C (by rw [hcu]; exact A) (bS_ok 0 (by simp [ky]) (by intro x hx; simp [ky] at hx; omega))
  have hs1 : (cs ++ [(Mv0.tr 0 0, some true, bS (ky c d c) 0)]).map encC = cs.map encC ++ [.tup [.tup [.str "try", .int (0 : Nat), .int (0 : Nat)], .bl true]] := by simp [encC, encM, encO]
  have hs2 : (sts (bS (ky c d 0) 1) (cs ++ [(Mv0.tr 0 0, some true, bS (ky c d c) 0)])).map encS = (sts (bS (ky c d 0) 1) cs).map encS ++ [.tup [.tup [.tup ((ky c d c).map D.int)], .tup [.int (0 : Nat)], .int 0]] := by simp [sts, bS, encS, tL, tupI, tN]
  have hs3 : (sts (bS (ky c d 0) 1) cs).map encS = encS (bS (ky c d 0) 1) :: (cs.map (·.2.2)).map encS := rfl
  have L2 : (cs ++ [(Mv0.tr 0 0, some true, bS (ky c d c) 0)]).length ≤ 1000 := by simp; omega
  have so := stands_of_ok (bH c d) (bS (ky c d 0) 1) _ C2 L2
  have hcl : cs.length ≤ 1000 := by omega
  have hsl : ((sts (bS (ky c d 0) 1) cs).map encS).length ≤ 1000 := by simp [sts]; omega
  have hsl2 : ((sts (bS (ky c d 0) 1) (cs ++ [(Mv0.tr 0 0, some true, bS (ky c d c) 0)])).map encS).length ≤ 1000 := by simp [sts]; omega
  have sm : F_l_same 8 [.tup ((sts (bS (ky c d 0) 1) (cs ++ [(Mv0.tr 0 0, some true, bS (ky c d c) 0)])).map encS), .tup ((sts (bS (ky c d 0) 1) (cs ++ [(Mv0.tr 0 0, some true, bS (ky c d c) 0)])).map encS)] = .ok (.bl true) [] := ch_smd C2 (bH_ok hc hd) (bS_ok 1 (by simp [ky]) (by intro x hx; simp [ky] at hx; omega)) (by simp; omega)
  rw [hs1, hs2] at so
  rw [hs2] at sm
  unfold bE
  generalize (sts (bS (ky c d 0) 1) cs).map encS = due at *
  have hd0 := hs3
  refine fseq (fun e => e = [.io (dr l2), .sh (.int c), .sh (.int d), .sh (tL (List.replicate c [(d : Int) - 1])), .sh (encH (bH c d)), .ow (.lst ((ky c d c).map D.int)), .ow (.lst (cs.map encC ++ [.tup [.tup [.str "try", .int 0, .int 0], .bl true]])), .ow (.lst due), s8, s9]) ?_ ?_
  · simp (disch := first | assumption | omega | (simp; omega)) [gApp_ok]
  rintro e rfl
  refine fseq (fun e => e = [.io (dr l2), .sh (.int c), .sh (.int d), .sh (tL (List.replicate c [(d : Int) - 1])), .sh (encH (bH c d)), .ow (.lst ((ky c d c).map D.int)), .ow (.lst (cs.map encC ++ [.tup [.tup [.str "try", .int 0, .int 0], .bl true]])), .ow (.lst (due ++ [.tup [.tup [.tup ((ky c d c).map D.int)], .tup [.int 0], .int 0]])), s8, s9]) ?_ ?_
  · simp (disch := first | assumption | omega | (simp; omega)) [gApp_ok]
  rintro e rfl
  generalize encS (bS (ky c d 0) 1) = e0 at *
  simp only [Int.natCast_zero, Int.ofNat_zero] at so sm
  have a0 : atI (due ++ [.tup [.tup [.tup ((ky c d c).map D.int)], .tup [.int 0], .int 0]]) 0 = some e0 := by rw [hd0]; simp
  simp [a0, so, sm]
  exact ⟨_, rfl⟩
end K57

set_option Elab.async false
set_option linter.all false
set_option autoImplicit false
set_option maxRecDepth 100000
namespace K57
open PySem L2 MP
/-! ### part two -/
def askE (a : Sd × Crs) : D := .tup [.tup (a.2.map encC), .tup ((sts a.1 a.2).map encS)]
structure AOk (h : Hs) (a : Sd × Crs) : Prop where
  c : Ch h a.1 a.2
  s : SOk h a.1
  l : a.2.length ≤ 900
theorem ask_nil {h : Hs} {s : Sd} (S : SOk h s) : AOk h (s, []) := ⟨fun i hi => absurd hi (Nat.not_lt_zero _), S, by simp⟩
theorem ask_eq (s : Sd) : (D.tup [D.tup [], D.tup [encS s]]) = askE (s, []) := by simp [askE, sts]
theorem drawn_ask {h : Hs} {s : Sd} (H : HOk h) (S : SOk h s) (l : List Int) (many : Int) (hm : 0 ≤ many ∧ many ≤ 900) : ∃ (a : Sd × Crs) (l' : List Int), F_l_drawn_course [dr l, encH h, encS s, .int many] = .ok (askE a) [dr l'] ∧ AOk h a := by
  obtain ⟨d, o, e, cs, l', rfl, rfl, C, hl⟩ := fsat_out (drawn_ok H S l many hm)
  exact ⟨(s, cs), l', e, C, S, hl⟩
theorem ask_stands {h : Hs} (H : HOk h) {a : Sd × Crs} (A : AOk h a) : F_stands_of [encH h, encS a.1, .tup (a.2.map encC)] = .ok (.tup ((sts a.1 a.2).map encS)) [] ∧ F_l_same 8 [.tup ((sts a.1 a.2).map encS), .tup ((sts a.1 a.2).map encS)] = .ok (.bl true) [] :=
  ⟨stands_of_ok h a.1 a.2 A.c (by have := A.l; omega), ch_smd A.c H A.s A.l⟩
theorem ask_take {h : Hs} {a : Sd × Crs} (A : AOk h a) (k : Nat) : AOk h (a.1, a.2.take k) := ⟨ch_take A.c k, A.s, by have := A.l; simp; omega⟩
theorem sts_take (s : Sd) (l : Crs) (k : Nat) : (sts s l).take (k + 1) = sts s (l.take k) := by simp [sts]
theorem ask_head (a : Sd × Crs) : atI ((sts a.1 a.2).map encS) 0 = some (encS a.1) := by simp [sts]
def AAll (h : Hs) (as : List (Sd × Crs)) : Prop := ∀ a ∈ as, AOk h a
def P2e (ns l dn : List Int) (most : Int) (h : Hs) (s : Sd) (as : List (Sd × Crs)) (s7 s8 s9 s10 s11 : MP.Slot) : En := [.sh (scr ns), .ow (dr l), .ow (dr dn), .sh (.int most), .sh (encH h), .sh (encS s), .ow (.lst (as.map askE)), s7, s8, s9, s10, s11]
theorem part_two_ok (ns : List Int) (hn : ns.length ≤ 63) : F_l_part_two [scr ns] = .ok (.bl true) [] := by
  suffices h : fsat (F_l_part_two [scr ns]) fun d o => d = .bl true ∧ o = [] by
    obtain ⟨d, o, e, rfl, rfl⟩ := fsat_out h
    exact e
  show fsat (endF [false] (B_l_part_two [.sh (scr ns), .no, .no, .no, .no, .no, .no, .no, .no, .no, .no, .no])) _
  unfold B_l_part_two
  obtain ⟨d0, o0, ed, rfl, l, rfl⟩ := fsat_out (draws_ok ns 760 (by omega) hn)
  refine fseq (fun e => e = [.sh (scr ns), .ow (dr l), .no, .no, .no, .no, .no, .no, .no, .no, .no, .no]) ?_ ?_
  · simp [ed, dr]
  rintro e rfl
  refine fseq (fun e => e = [.sh (scr ns), .ow (dr l), .ow (dr (l.take 320)), .no, .no, .no, .no, .no, .no, .no, .no, .no]) ?_ ?_
  · have cd : cut (l.map D.int) none (some 320) = (l.map D.int).take 320 := cut_take (l.map D.int) 320
    simp [dr, cd]
  rintro e rfl
  refine fseq (fun e => e = [.sh (scr ns), .ow (dr (l.drop 320)), .ow (dr (l.take 320)), .no, .no, .no, .no, .no, .no, .no, .no, .no]) ?_ ?_
  · have cd : cut (l.map D.int) (some 320) none = (l.map D.int).drop 320 := cut_drop (l.map D.int) 320
    simp [dr, cd]
  rintro e rfl
  generalize l.take 320 = dn
  generalize l.drop 320 = l1
  obtain ⟨d1, o1, kb, rfl, dn1, rfl⟩ := fsat_out (b_known_ok dn)
  refine fseq (fun e => e = [.sh (scr ns), .ow (dr l1), .ow (dr dn1), .no, .no, .no, .no, .no, .no, .no, .no, .no]) ?_ ?_
  · simp [kb]
  rintro e rfl
  have a1 := take_ok dn1 8 (by omega)
  generalize tkV dn1 8 = q1 at *
  generalize dn1.dropLast = dn2 at *
  refine fseq (fun e => ∃ most : Int, (1 ≤ most ∧ most ≤ 300) ∧ e = [.sh (scr ns), .ow (dr l1), .ow (dr dn2), .sh (.int most), .no, .no, .no, .no, .no, .no, .no, .no]) ?_ ?_
  · by_cases q : q1 = 5
    · simp [a1, q]
    · simp [a1, q]
  rintro e ⟨most, hm, rfl⟩
  obtain ⟨d2, o2, eh, h0, l2, rfl, rfl, H0⟩ := fsat_out (house_ok ns l1 most (by omega))
  obtain ⟨d3, o3, ef, ⟨h, x, H, rfl⟩, rfl⟩ := fsat_out (fitting_ok H0 most hm)
  refine fseq (fun e => e = [.sh (scr ns), .ow (dr l2), .ow (dr dn2), .sh (.int most), .sh (encH h), .no, .no, .no, .no, .no, .no, .no]) ?_ ?_
  · simp [eh, ef]
  rintro e rfl
  have b1 := take_ok dn2 2 (by omega)
  have b2 := tkV_ge dn2 2 (by omega)
  have b3 := tkV_lt dn2 2 (by omega)
  obtain ⟨room, hr, er⟩ : ∃ room : Int, 1 ≤ room ∧ atI [D.int 4, D.int 60] (tkV dn2 2) = some (.int room) := by
    rcases (by omega : tkV dn2 2 = 0 ∨ tkV dn2 2 = 1) with q | q
    · rw [q]; exact ⟨4, by omega, by simp⟩
    · rw [q]; exact ⟨60, by omega, by simp⟩
  generalize tkV dn2 2 = q2 at *
  generalize dn2.dropLast = dn3 at *
  obtain ⟨d4, o4, ea, s, dn4, rfl, rfl, S⟩ := fsat_out (any_stand_ok H dn3 room hr)
  refine fseq (fun e => e = [.sh (scr ns), .ow (dr l2), .ow (dr dn4), .sh (.int most), .sh (encH h), .sh (encS s), .no, .no, .no, .no, .no, .no]) ?_ ?_
  · simp [b1, er, ea]
    rfl
  rintro e rfl
  have So := origin_s H.toHOk
  have eo := origin_ok H.toHOk
  obtain ⟨A1, dn5, ec, hA1⟩ := drawn_ask H.toHOk So dn4 30 (by omega)
  refine fseq (fun e => ∃ dn as, as ≠ [] ∧ as.length ≤ 10 ∧ AAll h as ∧ e = P2e ns l2 dn most h s as .no .no .no .no .no) ?_ ?_
  · simp [eo, ec, ask_eq]
    exact ⟨dn5, [A1, (origin h, [])], by simp, by simp, by intro a ha; simp only [List.mem_cons, List.not_mem_nil, or_false] at ha; rcases ha with rfl | rfl; exact hA1; exact ask_nil So, rfl⟩
  rintro e ⟨dn5, as, as0, asl, hA, rfl⟩
  obtain ⟨d5, o5, em, hd5, rfl⟩ := fsat_out (met_ok H.toHOk S 200 (by omega))
  refine fseq (fun e => ∃ dn as, as ≠ [] ∧ as.length ≤ 20 ∧ AAll h as ∧ e = P2e ns l2 dn most h s as .no .no .no .no .no) ?_ ?_
  · rcases hd5 with rfl | ⟨kvs, rfl⟩
    · simp [P2e, em]
      exact ⟨dn5, as, as0, by omega, hA, rfl, rfl⟩
    · have c1 := take_ok dn5 12 (by omega)
      have c2 := tkV_ge dn5 12 (by omega)
      have c3 := tkV_lt dn5 12 (by omega)
      generalize tkV dn5 12 = q3 at *
      generalize dn5.dropLast = dn6 at *
      obtain ⟨A2, dn7, ec2, hA2⟩ := drawn_ask H.toHOk S dn6 (1 + q3) (by omega)
      simp (disch := first | assumption | omega | (simp; omega)) [P2e, em, gApp_ok, c1, ec2, ask_eq]
      refine ⟨dn7, as ++ [(s, []), A2], by simp, by simp; omega, ?_, by simp [P2e]⟩
      intro a ha
      simp only [List.mem_append, List.mem_cons, List.not_mem_nil, or_false] at ha
      rcases ha with ha | rfl | rfl
      · exact hA a ha
      · exact ask_nil S
      · exact hA2
  clear hd5 em asl as0 hA as dn5
  rintro e ⟨dn5, as, as0, asl, hA, rfl⟩
  have Q := quiet_h H
  have eq := quiet_ok H.toHOk
  refine fseq (fun e => e = P2e ns l2 dn5 most h s as (.sh (encH (quietH h))) .no .no .no .no) ?_ ?_
  · simp [P2e, eq]
    rfl
  rintro e rfl
  generalize quietH h = qh at *
  have Qo := origin_s Q.toHOk
  have qo := origin_ok Q.toHOk
  obtain ⟨d5, o5, em, hd5, rfl⟩ := fsat_out (met_ok Q.toHOk Qo 300 (by omega))
  obtain ⟨A3, dn6, ec3, hA3⟩ := drawn_ask Q.toHOk Qo dn5 30 (by omega)
  refine fseq (fun e => ∃ dn s10 s11, e = P2e ns l2 dn most h s as (.sh (encH qh)) .no .no s10 s11) ?_ ?_
  · rcases hd5 with rfl | ⟨kvs, rfl⟩
    · simp [P2e, em, qo]
      exact ⟨_, rfl⟩
    · obtain ⟨k1, k2⟩ := ask_stands Q.toHOk hA3
      have k3 := ask_head A3
      simp [P2e, em, qo, ec3, askE]
      simp [k3, k1, k2]
      exact ⟨_, rfl⟩
  rintro e ⟨dn7, s10, s11, rfl⟩
  refine fseq (fun e => ∃ s8 s9, e = P2e ns l2 dn7 most h s as (.sh (encH qh)) s8 s9 s10 s11) ?_ ?_
  · obtain ⟨a0, as1, rfl⟩ := List.exists_cons_of_ne_nil as0
    have cd : cut ((a0 :: as1).map askE) none (some 1) = [askE a0] := by
      have := cut_take ((a0 :: as1).map askE) 1
      simpa using this
    have ha : dAdd (.lst ((a0 :: as1).map askE)) (.lst [askE a0]) = some (.lst ((a0 :: as1 ++ [a0]).map askE)) := by
      rw [add_lst _ _ (by simp at asl ⊢; omega)]
      simp
    have hA' : AAll h (a0 :: as1 ++ [a0]) := by
      intro a ha
      simp only [List.mem_append, List.mem_cons, List.not_mem_nil, or_false] at ha
      rcases ha with (rfl | ha) | rfl
      · exact hA _ (by simp)
      · exact hA _ (by simp [ha])
      · exact hA _ (by simp)
    generalize a0 :: as1 ++ [a0] = bs at *
    generalize a0 :: as1 = as at *
    simp [P2e, cd, ha]
    refine forL_1 (C := fun r => sat r _) (fun i e => ∃ s8 s9, notIo s8 = true ∧ notIo s9 = true ∧ e = P2e ns l2 dn7 most h s as (.sh (encH qh)) s8 s9 s10 s11) ⟨.no, .no, rfl, rfl, rfl⟩ ?_ ?_
    · rintro i x e hx ⟨s8, s9, n8, n9, rfl⟩
      rw [List.getElem?_map] at hx
      obtain ⟨a, ha, rfl⟩ := Option.map_eq_some_iff.mp hx
      have A := hA' a (List.mem_of_getElem? ha)
      obtain ⟨k1, k2⟩ := ask_stands H.toHOk A
      have k3 := ask_head a
      have A2 := ask_take A (a.2.length / 2)
      obtain ⟨m1, m2⟩ := ask_stands H.toHOk A2
      simp only [List.map_take] at m1
      have ct1 : cut (a.2.map encC) none (some ((a.2.length : Int) / 2)) = (a.2.map encC).take (a.2.length / 2) := by
        exact cut_take _ (a.2.length / 2)
      have ct2 : cut ((sts a.1 a.2).map encS) none (some ((a.2.length : Int) / 2 + 1)) = (sts a.1 (a.2.take (a.2.length / 2))).map encS := by
        rw [← sts_take, List.map_take]
        exact cut_take _ (a.2.length / 2 + 1)
      refine ⟨P2e ns l2 dn7 most h s as (.sh (encH qh)) (.sh (askE a)) s9 s10 s11, by rw [tgN_eq]; exact tgK_n n8, ?_⟩
      simp (disch := first | assumption | omega | (simp; omega)) [P2e, askE, k3, k1, k2, fdv_int, stK_n n9, ct1, ct2, m1, m2]
    · rintro e ⟨s8, s9, n8, n9, rfl⟩
      rw [sat_ok]
      exact ⟨rfl, _, _, rfl⟩
  · rintro e ⟨s8, s9, rfl⟩
    simp [P2e]
theorem law_true (ns : List Int) (hn : ns.length ≤ 63) : F_law [.scr (ns.map D.int)] = .ok (.bl true) [] := by
  have p1 := part_one_ok ns hn
  have p2 := part_two_ok ns hn
  simp only [scr] at p1 p2
  simp [F_law, runF_eq, startE_eq, B_law, p1, p2]
end K57

set_option Elab.async false
set_option linter.all false
set_option maxRecDepth 100000
set_option autoImplicit false
set_option maxHeartbeats 0
namespace K57
open PySem L2 MP

theorem all_ok {l : PySem.W.OpenLaw} {w : World} {K : PySem.W.Frag} {h : Heap} {mg : Str → Option Value} {fa : Addr} (X : K.In h) (G : h.Ns mainGlobals mg) (hfa : mg "law" = some (.ref fa))
    (a_opens : DefAt K "opens" (topS 1))
    (a_opened : DefAt K "opened" (topS 3))
    (a_answers : DefAt K "answers" (topS 4))
    (a_after : DefAt K "after" (topS 5))
    (a_comes_in : DefAt K "comes_in" (topS 6))
    (a_stands_of : DefAt K "stands_of" (topS 8))
    (a_l_draws : DefAt K "_law_draws" (topS 10))
    (a_l_take : DefAt K "_law_take" (topS 11))
    (a_l_cell : DefAt K "_law_cell" (topS 12))
    (a_l_same : DefAt K "_law_same" (topS 13))
    (a_l_opens : DefAt K "_law_opens" (topS 14))
    (a_l_moves : DefAt K "_law_moves" (topS 15))
    (a_l_behind : DefAt K "_law_behind" (topS 16))
    (a_l_some : DefAt K "_law_some" (topS 17))
    (a_l_pinnings : DefAt K "_law_pinnings" (topS 18))
    (a_l_hand : DefAt K "_law_hand" (topS 19))
    (a_l_house : DefAt K "_law_house" (topS 20))
    (a_l_origin : DefAt K "_law_origin" (topS 21))
    (a_l_any_stand : DefAt K "_law_any_stand" (topS 22))
    (a_l_move_right : DefAt K "_law_move_right" (topS 23))
    (a_l_walk_right : DefAt K "_law_walk_right" (topS 24))
    (a_l_known_right : DefAt K "_law_known_right" (topS 25))
    (a_l_results : DefAt K "_law_results" (topS 26))
    (a_l_met : DefAt K "_law_met" (topS 27))
    (a_l_fitting : DefAt K "_law_fitting" (topS 28))
    (a_l_drawn_course : DefAt K "_law_drawn_course" (topS 29))
    (a_l_quiet : DefAt K "_law_quiet" (topS 30))
    (a_l_b_known_right : DefAt K "_law_b_known_right" (topS 31))
    (a_l_part_one : DefAt K "_law_part_one" (topS 32))
    (a_l_part_two : DefAt K "_law_part_two" (topS 33))
    (a_law : DefAt K "law" (topS 34))
    (z_len : PySem.W.nsIn K mainGlobals "len" = some none)
    (z_abs : PySem.W.nsIn K mainGlobals "abs" = some none)
    (z_min : PySem.W.nsIn K mainGlobals "min" = some none)
    (z_max : PySem.W.nsIn K mainGlobals "max" = some none)
    (z_sum : PySem.W.nsIn K mainGlobals "sum" = some none)
    (z_any : PySem.W.nsIn K mainGlobals "any" = some none)
    (z_all : PySem.W.nsIn K mainGlobals "all" = some none)
    (z_sorted : PySem.W.nsIn K mainGlobals "sorted" = some none)
    (z_range : PySem.W.nsIn K mainGlobals "range" = some none)
    (z_isinstance : PySem.W.nsIn K mainGlobals "isinstance" = some none)
    (z_int : PySem.W.nsIn K mainGlobals "int" = some none)
    (z_tuple : PySem.W.nsIn K mainGlobals "tuple" = some none)
    (z_list : PySem.W.nsIn K mainGlobals "list" = some none)
    (z_bool : PySem.W.nsIn K mainGlobals "bool" = some none)
    (z_str : PySem.W.nsIn K mainGlobals "str" = some none)
    (z_set : PySem.W.nsIn K mainGlobals "set" = some none)
    : ∃ fd : FuncData, (∀ (s : Shared) (v : Value), BindsTo s fd ⟨[v], []⟩ [("script", v)]) ∧ ∀ base : Heap, K.In base → base.Ns mainGlobals mg → FnOk l.prog w K mg base CX0 13 fa fd ["script"] (spF w K ce0 [false] F_law) := by
  have X0 : OnK K mg := ⟨h, X, G⟩
  have bt : Bt mg := ⟨PySem.W.mg_none_of X G z_len, PySem.W.mg_none_of X G z_abs, PySem.W.mg_none_of X G z_min, PySem.W.mg_none_of X G z_max, PySem.W.mg_none_of X G z_sum, PySem.W.mg_none_of X G z_any, PySem.W.mg_none_of X G z_all, PySem.W.mg_none_of X G z_sorted, PySem.W.mg_none_of X G z_range, PySem.W.mg_none_of X G z_isinstance, PySem.W.mg_none_of X G z_int, PySem.W.mg_none_of X G z_tuple, PySem.W.mg_none_of X G z_list, PySem.W.mg_none_of X G z_bool, PySem.W.mg_none_of X G z_str, PySem.W.mg_none_of X G z_set⟩
  have G_opens : ∀ base, DefOk l.prog w K mg base CX0 ce0 1 "opens" [false, false] F_opens := fun base => d_opens bt a_opens X0 
  have G_opened : ∀ base, DefOk l.prog w K mg base CX0 ce0 2 "opened" [false, false, false] F_opened := fun base => d_opened bt a_opened X0 (G_opens base)
  have G_answers : ∀ base, DefOk l.prog w K mg base CX0 ce0 3 "answers" [false, false, false] F_answers := fun base => d_answers bt a_answers X0 (G_opened base)
  have G_after : ∀ base, DefOk l.prog w K mg base CX0 ce0 3 "after" [false, false, false, false] F_after := fun base => d_after bt a_after X0 (G_opened base)
  have G_comes_in : ∀ base, DefOk l.prog w K mg base CX0 ce0 1 "comes_in" [false, false, false, false] F_comes_in := fun base => d_comes_in bt a_comes_in X0 
  have G_stands_of : ∀ base, DefOk l.prog w K mg base CX0 ce0 4 "stands_of" [false, false, false] F_stands_of := fun base => d_stands_of bt a_stands_of X0 (G_after base)
  have G_l_draws : ∀ base, DefOk l.prog w K mg base CX0 ce0 1 "_law_draws" [false, false] F_l_draws := fun base => d_l_draws bt a_l_draws X0 
  have G_l_take : ∀ base, DefOk l.prog w K mg base CX0 ce0 1 "_law_take" [true, false] F_l_take := fun base => d_l_take bt a_l_take X0 
  have G_l_cell : ∀ base, DefOk l.prog w K mg base CX0 ce0 1 "_law_cell" [false, false] F_l_cell := fun base => d_l_cell bt a_l_cell X0 
  have G_l_same : ∀ base, DefOk l.prog w K mg base CX0 ce0 9 "_law_same" [false, false] (F_l_same 8) := fun base => d_l_same bt a_l_same X0  8
  have G_l_opens : ∀ base, DefOk l.prog w K mg base CX0 ce0 1 "_law_opens" [false, false] F_l_opens := fun base => d_l_opens bt a_l_opens X0 
  have G_l_moves : ∀ base, DefOk l.prog w K mg base CX0 ce0 1 "_law_moves" [false, false] F_l_moves := fun base => d_l_moves bt a_l_moves X0 
  have G_l_behind : ∀ base, DefOk l.prog w K mg base CX0 ce0 2 "_law_behind" [false, false, false] F_l_behind := fun base => d_l_behind bt a_l_behind X0 (G_l_opens base)
  have G_l_some : ∀ base, DefOk l.prog w K mg base CX0 ce0 2 "_law_some" [true, false] F_l_some := fun base => d_l_some bt a_l_some X0 (G_l_take base)
  have G_l_pinnings : ∀ base, DefOk l.prog w K mg base CX0 ce0 3 "_law_pinnings" [true, false, false, false] F_l_pinnings := fun base => d_l_pinnings bt a_l_pinnings X0 (G_l_some base) (G_l_take base)
  have G_l_hand : ∀ base, DefOk l.prog w K mg base CX0 ce0 2 "_law_hand" [true, false, false, false] F_l_hand := fun base => d_l_hand bt a_l_hand X0 (G_l_take base)
  have G_l_house : ∀ base, DefOk l.prog w K mg base CX0 ce0 4 "_law_house" [false, true, false] F_l_house := fun base => d_l_house bt a_l_house X0 (G_l_cell base) (G_l_take base) (G_l_pinnings base) (G_l_hand base)
  have G_l_origin : ∀ base, DefOk l.prog w K mg base CX0 ce0 1 "_law_origin" [false] F_l_origin := fun base => d_l_origin bt a_l_origin X0 
  have G_l_any_stand : ∀ base, DefOk l.prog w K mg base CX0 ce0 3 "_law_any_stand" [true, false, false] F_l_any_stand := fun base => d_l_any_stand bt a_l_any_stand X0 (G_l_take base) (G_l_hand base)
  have G_l_move_right : ∀ base, DefOk l.prog w K mg base CX0 ce0 10 "_law_move_right" [false, false, false] F_l_move_right := fun base => d_l_move_right bt a_l_move_right X0 (G_l_behind base) (G_answers base) (G_l_same base) (G_after base) (G_comes_in base)
  have G_l_walk_right : ∀ base, DefOk l.prog w K mg base CX0 ce0 11 "_law_walk_right" [true, false, false, false] F_l_walk_right := fun base => d_l_walk_right bt a_l_walk_right X0 (G_l_moves base) (G_l_move_right base) (G_l_take base) (G_l_behind base)
  have G_l_known_right : ∀ base, DefOk l.prog w K mg base CX0 ce0 10 "_law_known_right" [false, false, false, false] F_l_known_right := fun base => d_l_known_right bt a_l_known_right X0 (G_answers base) (G_l_same base) (G_after base) (G_comes_in base)
  have G_l_results : ∀ base, DefOk l.prog w K mg base CX0 ce0 3 "_law_results" [false, false, false] F_l_results := fun base => d_l_results bt a_l_results X0 (G_l_behind base)
  have G_l_met : ∀ base, DefOk l.prog w K mg base CX0 ce0 4 "_law_met" [false, false, false] F_l_met := fun base => d_l_met bt a_l_met X0 (G_l_moves base) (G_l_results base)
  have G_l_fitting : ∀ base, DefOk l.prog w K mg base CX0 ce0 5 "_law_fitting" [false, false] F_l_fitting := fun base => d_l_fitting bt a_l_fitting X0 (G_l_origin base) (G_l_met base)
  have G_l_drawn_course : ∀ base, DefOk l.prog w K mg base CX0 ce0 3 "_law_drawn_course" [true, false, false, false] F_l_drawn_course := fun base => d_l_drawn_course bt a_l_drawn_course X0 (G_l_moves base) (G_l_take base) (G_l_behind base)
  have G_l_quiet : ∀ base, DefOk l.prog w K mg base CX0 ce0 1 "_law_quiet" [false] F_l_quiet := fun base => d_l_quiet bt a_l_quiet X0 
  have G_l_b_known_right : ∀ base, DefOk l.prog w K mg base CX0 ce0 10 "_law_b_known_right" [true] F_l_b_known_right := fun base => d_l_b_known_right bt a_l_b_known_right X0 (G_l_take base) (G_stands_of base) (G_l_same base)
  have G_l_part_one : ∀ base, DefOk l.prog w K mg base CX0 ce0 12 "_law_part_one" [false] F_l_part_one := fun base => d_l_part_one bt a_l_part_one X0 (G_l_draws base) (G_l_house base) (G_l_take base) (G_l_known_right base) (G_l_origin base) (G_l_walk_right base) (G_l_any_stand base)
  have G_l_part_two : ∀ base, DefOk l.prog w K mg base CX0 ce0 11 "_law_part_two" [false] F_l_part_two := fun base => d_l_part_two bt a_l_part_two X0 (G_l_draws base) (G_l_b_known_right base) (G_l_take base) (G_l_house base) (G_l_fitting base) (G_l_any_stand base) (G_l_origin base) (G_l_drawn_course base) (G_l_met base) (G_l_quiet base) (G_stands_of base) (G_l_same base)
  obtain ⟨fd, h1, h2⟩ := d_law (P := l.prog) (w := w) bt a_law X0 hfa G_l_part_one G_l_part_two
  exact ⟨fd, h1, fun base _ _ => h2 base⟩
end K57
open PySem PySem.W PyProof.Rows
theorem PySem.Challenge.cw_nothiefin_k57_what_comes_of_deeds_holds : PySem.Challenge.rw_nothiefin_k57_what_comes_of_deeds.Holds := by
  w_on; o_law; k_head; (case hw => w_witness2)
  k_fill
  refine L2.walk_of (l := PySem.Challenge.rw_nothiefin_k57_what_comes_of_deeds) (n := 63) (k := 13) (x := "script") (CX := fun _ => L2.CX0) (sp := fun w => MP.spF w _ MP.ce0 [false] K57.F_law) rfl (by decide) rfl ⟨rfl, by decide, by decide⟩ (fun w h Y => PySem.W.kIn_of Y) ?F (fun _ _ a ns hl _ hS => MP.law_in (K57.law_true ns hl) (Nat.le_trans hl (by decide)) hS) (fun _ _ _ _ _ h => h)
  case F =>
    intro w mg fa h KX G hmg
    refine' K57.all_ok KX G hmg (MP.DefAt.mk ?a0 ?l0 ?c0 ?k0) (MP.DefAt.mk ?a1 ?l1 ?c1 ?k1) (MP.DefAt.mk ?a2 ?l2 ?c2 ?k2) (MP.DefAt.mk ?a3 ?l3 ?c3 ?k3) (MP.DefAt.mk ?a4 ?l4 ?c4 ?k4) (MP.DefAt.mk ?a5 ?l5 ?c5 ?k5) (MP.DefAt.mk ?a6 ?l6 ?c6 ?k6) (MP.DefAt.mk ?a7 ?l7 ?c7 ?k7) (MP.DefAt.mk ?a8 ?l8 ?c8 ?k8) (MP.DefAt.mk ?a9 ?l9 ?c9 ?k9) (MP.DefAt.mk ?a10 ?l10 ?c10 ?k10) (MP.DefAt.mk ?a11 ?l11 ?c11 ?k11) (MP.DefAt.mk ?a12 ?l12 ?c12 ?k12) (MP.DefAt.mk ?a13 ?l13 ?c13 ?k13) (MP.DefAt.mk ?a14 ?l14 ?c14 ?k14) (MP.DefAt.mk ?a15 ?l15 ?c15 ?k15) (MP.DefAt.mk ?a16 ?l16 ?c16 ?k16) (MP.DefAt.mk ?a17 ?l17 ?c17 ?k17) (MP.DefAt.mk ?a18 ?l18 ?c18 ?k18) (MP.DefAt.mk ?a19 ?l19 ?c19 ?k19) (MP.DefAt.mk ?a20 ?l20 ?c20 ?k20) (MP.DefAt.mk ?a21 ?l21 ?c21 ?k21) (MP.DefAt.mk ?a22 ?l22 ?c22 ?k22) (MP.DefAt.mk ?a23 ?l23 ?c23 ?k23) (MP.DefAt.mk ?a24 ?l24 ?c24 ?k24) (MP.DefAt.mk ?a25 ?l25 ?c25 ?k25) (MP.DefAt.mk ?a26 ?l26 ?c26 ?k26) (MP.DefAt.mk ?a27 ?l27 ?c27 ?k27) (MP.DefAt.mk ?a28 ?l28 ?c28 ?k28) (MP.DefAt.mk ?a29 ?l29 ?c29 ?k29) (MP.DefAt.mk ?a30 ?l30 ?c30 ?k30) ?z0 ?z1 ?z2 ?z3 ?z4 ?z5 ?z6 ?z7 ?z8 ?z9 ?z10 ?z11 ?z12 ?z13 ?z14 ?z15
    (case a0 => k_is); (case l0 => k_is); (case c0 => k_is); (case k0 => k_is)
    (case a1 => k_is); (case l1 => k_is); (case c1 => k_is); (case k1 => k_is)
    (case a2 => k_is); (case l2 => k_is); (case c2 => k_is); (case k2 => k_is)
    (case a3 => k_is); (case l3 => k_is); (case c3 => k_is); (case k3 => k_is)
    (case a4 => k_is); (case l4 => k_is); (case c4 => k_is); (case k4 => k_is)
    (case a5 => k_is); (case l5 => k_is); (case c5 => k_is); (case k5 => k_is)
    (case a6 => k_is); (case l6 => k_is); (case c6 => k_is); (case k6 => k_is)
    (case a7 => k_is); (case l7 => k_is); (case c7 => k_is); (case k7 => k_is)
    (case a8 => k_is); (case l8 => k_is); (case c8 => k_is); (case k8 => k_is)
    (case a9 => k_is); (case l9 => k_is); (case c9 => k_is); (case k9 => k_is)
    (case a10 => k_is); (case l10 => k_is); (case c10 => k_is); (case k10 => k_is)
    (case a11 => k_is); (case l11 => k_is); (case c11 => k_is); (case k11 => k_is)
    (case a12 => k_is); (case l12 => k_is); (case c12 => k_is); (case k12 => k_is)
    (case a13 => k_is); (case l13 => k_is); (case c13 => k_is); (case k13 => k_is)
    (case a14 => k_is); (case l14 => k_is); (case c14 => k_is); (case k14 => k_is)
    (case a15 => k_is); (case l15 => k_is); (case c15 => k_is); (case k15 => k_is)
    (case a16 => k_is); (case l16 => k_is); (case c16 => k_is); (case k16 => k_is)
    (case a17 => k_is); (case l17 => k_is); (case c17 => k_is); (case k17 => k_is)
    (case a18 => k_is); (case l18 => k_is); (case c18 => k_is); (case k18 => k_is)
    (case a19 => k_is); (case l19 => k_is); (case c19 => k_is); (case k19 => k_is)
    (case a20 => k_is); (case l20 => k_is); (case c20 => k_is); (case k20 => k_is)
    (case a21 => k_is); (case l21 => k_is); (case c21 => k_is); (case k21 => k_is)
    (case a22 => k_is); (case l22 => k_is); (case c22 => k_is); (case k22 => k_is)
    (case a23 => k_is); (case l23 => k_is); (case c23 => k_is); (case k23 => k_is)
    (case a24 => k_is); (case l24 => k_is); (case c24 => k_is); (case k24 => k_is)
    (case a25 => k_is); (case l25 => k_is); (case c25 => k_is); (case k25 => k_is)
    (case a26 => k_is); (case l26 => k_is); (case c26 => k_is); (case k26 => k_is)
    (case a27 => k_is); (case l27 => k_is); (case c27 => k_is); (case k27 => k_is)
    (case a28 => k_is); (case l28 => k_is); (case c28 => k_is); (case k28 => k_is)
    (case a29 => k_is); (case l29 => k_is); (case c29 => k_is); (case k29 => k_is)
    (case a30 => k_is); (case l30 => k_is); (case c30 => k_is); (case k30 => k_is)
    (case z0 => k_is); (case z1 => k_is); (case z2 => k_is); (case z3 => k_is); (case z4 => k_is); (case z5 => k_is); (case z6 => k_is); (case z7 => k_is); (case z8 => k_is); (case z9 => k_is); (case z10 => k_is); (case z11 => k_is); (case z12 => k_is); (case z13 => k_is); (case z14 => k_is); (case z15 => k_is)
