import PyProof.Rows.All
import Wide.All
import OpenK.AllK
import Wide.FinOn
import HandS.ForMost
import HandS.Zip
import HandS.TupAny
import HandS.TupMul
import HandS.Style
import HandS.IsInst
import HandS.NoneIn
import HandS.Strs
import HandS.DictComp
import HandS.Deep
import HandS.DeepEq
import HandS.Conv
import HandS.ListItems
import HandS.Wide
import HandS.Defaults
import HandS.Flow
import HandS.WordsExc
import KE.KDictKeyed
import KE.KDictDisplayH
import KE.GoesDict
import KE.KDictItemsList
import KE.SortData
import KE.KeyNested
import HandS.TupLen
import HandS.HeadHook4
import KE.KStateDown
import Lean
import HandS.Base
import HandS.Call
import HandS.Ends
import HandS.More
import HandS.Words
import HandS.Head0
import HandS.Head1
import HandS.Head2
import HandS.HeadEnd
import HandS.HeadHook1
import HandS.HeadHook2
import PySem.Challenge.RW_formguard_k04_whole_repair
set_option Elab.async false
set_option linter.all false
set_option maxRecDepth 100000
set_option maxHeartbeats 4000000
namespace FG
open PySem PySem.Spec PyProof.Rows L2

/-! ### plain data -/
abbrev NK := NestedKey
inductive D where
  | non | bl (b : Bool) | int (i : Int) | str (s : Str)
  | tup (xs : List D) | lst (xs : List D) | dct (ks : List NK) (vs : List D)
  | scr (ns : List Int) | obj (n : Nat) | ndc (ks : List NK) (vs : List D)
deriving Inhabited

inductive Ob where
  | lst (ds : List D) | ins (c : Nat) (fs : List (Str × D))
abbrev Sto := List Ob

/-- a key of a dict as data -/
def kNK : Key → NK
  | .inl i => .num i
  | .inr x => .text x
theorem kNK_inj {a b : Key} (h : kNK a = kNK b) : a = b := by
  cases a <;> cases b <;> simp [kNK] at h <;> rw [h]

mutual
/-- no list, no dict within -/
def imm : D → Bool
  | .tup xs => imms xs
  | .lst _ => false
  | .dct _ _ => false
  | .ndc _ _ => false
  | .non => true
  | .bl _ => true
  | .int _ => true
  | .str _ => true
  | .scr _ => true
  | .obj _ => true
def imms : List D → Bool
  | [] => true
  | d :: ds => imm d && imms ds
end

/-! ### worlds -/
structure Wd where
  cs : List Addr
  own : Addr → Prop
  H : Hp

/-- what readings lean on: the fragment, the world -/
structure KW where
  fr : PySem.W.Frag
  w : World
instance : Coe KW PySem.W.Frag := ⟨KW.fr⟩
/-- the entries of a dict whose keys are tuples: the key, its object, the value -/
abbrev NEnt := NK × Addr × V
def entN (w : World) (x : NK × Addr × Value) : DictEntry := ⟨x.1.hash w, .ref x.2.1, x.2.2⟩
def DNp (w : World) (a : Addr) (xs : List NEnt) (ep : Nat) (h : Heap) : Prop := xs.length ≤ sizeLine ∧ (a == sysModules) = false ∧ ∃ us : List (NK × Addr × Value), Paired (fun (p : NEnt) (q : NK × Addr × Value) => p.1 = q.1 ∧ p.2.1 = q.2.1 ∧ RelV p.2.2 q.2.2) xs us ∧
  ∃ o es, h.get? a = some o ∧ o.ExactDict ∧ o.data = .dict es ep ∧ es.toList = us.map (entN w) ∧ (us.map (·.1)).Nodup
def DN (w : World) (a : Addr) (xs : List NEnt) (ep : Nat) : HO := .ext (DNp w a xs ep)
def At (W : Wd) (a : Addr) (o : HO) : Prop := W.H a = some o ∧ a ∉ W.cs ∧ ¬ W.own a
def isDk (kvs : List (Key × V)) (o : HO) : Prop := o = .dK kvs ∨ ∃ ob, o = .frz ob (.dK kvs)
def AtD (W : Wd) (a : Addr) (kvs : List (Key × V)) : Prop := ∃ o, At W a o ∧ isDk kvs o
/-- the script: a list that is never written -/
def AtS (K : KW) (W : Wd) (a : Addr) (xs : List V) : Prop :=
  (∃ o, At W a o ∧ ∃ ob, o = .frz ob (.lst xs)) ∨
    ∃ (o : Obj) (its : Array Value) (n : Nat), K.fr.lookup a = some o ∧ o.cls = .type "list" ∧ o.dict = none ∧ o.data = .seq its n ∧ its.size ≤ sizeLine ∧ Vals xs its.toList

def AtN (w : World) (W : Wd) (a : Addr) (xs : List NEnt) : Prop := ∃ ep, At W a (DN w a xs ep)
section
variable (W : Wd)
mutual
/-- v reads as the key k -/
def KRep : NK → V → Prop
  | .none, v => v = .non
  | .num i, v => v = .int i
  | .text s, v => v = .str s
  | .tup ks, v => ∃ a vs, v = .ref a ∧ At W a (.tup vs) ∧ KRepL ks vs
def KRepL : List NK → List V → Prop
  | [], vs => vs = []
  | k :: ks, vs => ∃ v vs', vs = v :: vs' ∧ KRep k v ∧ KRepL ks vs'
end
/-- the keys of a dict are there, as tuples -/
def KeysOk (xs : List NEnt) : Prop := ∀ x ∈ xs, KRep W x.1 (.ref x.2.1) ∧ x.1.depth ≤ 8
end
section
variable (K : KW) (W : Wd)
mutual
/-- v reads as d -/
def Rep : D → V → Prop
  | .non, v => v = .non
  | .bl b, v => v = .bl b
  | .int i, v => v = .int i
  | .str s, v => v = .str s
  | .tup ds, v => ∃ a vs, v = .ref a ∧ At W a (.tup vs) ∧ RepL ds vs
  | .lst ds, v => ∃ a vs, v = .ref a ∧ At W a (.lst vs) ∧ RepL ds vs
  | .dct ks ds, v => ∃ a kvs, v = .ref a ∧ AtD W a kvs ∧ ks = kvs.map (fun p => kNK p.1) ∧ RepL ds (kvs.map (·.2))
  | .scr ns, v => ∃ a, v = .ref a ∧ AtS K W a (ns.map V.int)
  | .obj n, v => ∃ a, v = .ref a ∧ W.cs[n]? = some a
  | .ndc ks ds, v => ∃ a xs, v = .ref a ∧ AtN K.w W a xs ∧ ks = xs.map (·.1) ∧ KeysOk W xs ∧ RepL ds (xs.map (·.2.2))
def RepL : List D → List V → Prop
  | [], vs => vs = []
  | d :: ds, vs => ∃ v vs', vs = v :: vs' ∧ Rep d v ∧ RepL ds vs'
end
end

/-! ### orders of worlds -/
/-- a dict -/
def Dish (o : HO) : Prop := ∃ kvs, isDk kvs o
def Kp (o o' : HO) : Prop := o' = o ∨ (∃ kvs, isDk kvs o ∧ isDk kvs o')
structure LeS (W W' : Wd) : Prop where
  cs : ∃ t, W'.cs = W.cs ++ t
  at_ : ∀ b o, At W b o → ∃ o', At W' b o' ∧ Kp o o'
structure Le (W W' : Wd) : Prop where
  cs : ∃ t, W'.cs = W.cs ++ t
  own : ∀ b, W'.own b ↔ W.own b
  keep : ∀ b o, b ∉ W.cs → W.H b = some o → b ∉ W'.cs ∧ W'.H b = some o
theorem Kp.refl (o : HO) : Kp o o := .inl rfl
theorem isDk.det {kvs kvs' : List (Key × V)} {o : HO} (h : isDk kvs o) (h' : isDk kvs' o) : kvs = kvs' := by
  rcases h with h | ⟨ob, h⟩ <;> rcases h' with h' | ⟨ob', h'⟩ <;> subst h <;> cases h' <;> rfl
theorem Kp.trans {x b c : HO} (h : Kp x b) (h' : Kp b c) : Kp x c := by
  rcases h with rfl | ⟨k, h1, h2⟩
  · exact h'
  · rcases h' with rfl | ⟨k', h3, h4⟩
    · exact .inr ⟨k, h1, h2⟩
    · have := h2.det h3
      subst this
      exact .inr ⟨k, h1, h4⟩
theorem kp_dk {kvs : List (Key × V)} {o o' : HO} (h : isDk kvs o) (h' : isDk kvs o') : Kp o o' := .inr ⟨kvs, h, h'⟩
theorem LeS.refl (W : Wd) : LeS W W := ⟨⟨[], by simp⟩, fun b o h => ⟨o, h, .refl o⟩⟩
theorem LeS.trans {W W1 W2 : Wd} (a : LeS W W1) (b : LeS W1 W2) : LeS W W2 := by
  refine ⟨?_, fun c o h => ?_⟩
  · obtain ⟨t, h⟩ := a.cs
    obtain ⟨u, h'⟩ := b.cs
    exact ⟨t ++ u, by rw [h', h, List.append_assoc]⟩
  · obtain ⟨o1, h1, k1⟩ := a.at_ c o h
    obtain ⟨o2, h2, k2⟩ := b.at_ c o1 h1
    exact ⟨o2, h2, k1.trans k2⟩
theorem Le.refl (W : Wd) : Le W W := ⟨⟨[], by simp⟩, fun _ => Iff.rfl, fun b o h e => ⟨h, e⟩⟩
theorem Le.trans {W W1 W2 : Wd} (a : Le W W1) (b : Le W1 W2) : Le W W2 := by
  refine ⟨?_, fun c => (b.own c).trans (a.own c), fun c o n h => ?_⟩
  · obtain ⟨t, h⟩ := a.cs
    obtain ⟨u, h'⟩ := b.cs
    exact ⟨t ++ u, by rw [h', h, List.append_assoc]⟩
  · obtain ⟨n1, h1⟩ := a.keep c o n h
    exact b.keep c o n1 h1
theorem Le.leS {W W' : Wd} (h : Le W W') : LeS W W' :=
  ⟨h.cs, fun b o ⟨e, n, w⟩ => ⟨o, ⟨(h.keep b o n e).2, (h.keep b o n e).1, fun z => w ((h.own b).mp z)⟩, .refl o⟩⟩
theorem LeS.csAt {W W' : Wd} (h : LeS W W') {n : Nat} {a : Addr} (e : W.cs[n]? = some a) : W'.cs[n]? = some a := by
  obtain ⟨t, q⟩ := h.cs
  rw [q]
  have := (List.getElem?_eq_some_iff.mp e).1
  rw [List.getElem?_append_left this]
  exact e

section
variable {K : KW} {W W' : Wd}
theorem At.le (h : LeS W W') {a : Addr} {o : HO} (x : At W a o) (hn : ¬ Dish o) : At W' a o := by
  obtain ⟨o', q, k⟩ := h.at_ a o x
  rcases k with rfl | ⟨kvs, k, _⟩
  · exact q
  · exact absurd ⟨kvs, k⟩ hn
theorem AtD.le (h : LeS W W') {a : Addr} {kvs : List (Key × V)} (x : AtD W a kvs) : AtD W' a kvs := by
  obtain ⟨o, q, d⟩ := x
  obtain ⟨o', q', k⟩ := h.at_ a o q
  rcases k with rfl | ⟨kvs', k1, k2⟩
  · exact ⟨_, q', d⟩
  · have := d.det k1
    subst this
    exact ⟨_, q', k2⟩
theorem noDk_tup {xs : List V} : ¬ Dish (HO.tup xs) := fun ⟨_, h⟩ => by rcases h with h | ⟨_, h⟩ <;> cases h
theorem noDk_lst {xs : List V} : ¬ Dish (HO.lst xs) := fun ⟨_, h⟩ => by rcases h with h | ⟨_, h⟩ <;> cases h
theorem noDk_fl {ob : Obj} {xs : List V} : ¬ Dish (HO.frz ob (HO.lst xs)) := fun ⟨_, h⟩ => by rcases h with h | ⟨_, h⟩ <;> cases h
theorem noDk_dn {w : World} {a : Addr} {xs : List NEnt} {ep : Nat} : ¬ Dish (DN w a xs ep) := fun ⟨_, h⟩ => by rcases h with h | ⟨_, h⟩ <;> cases h
theorem AtN.le (h : LeS W W') {w : World} {a : Addr} {xs : List NEnt} (x : AtN w W a xs) : AtN w W' a xs := by
  obtain ⟨ep, q⟩ := x
  exact ⟨ep, q.le h noDk_dn⟩
mutual
theorem KRep.tups (ht : ∀ a vs, At W a (.tup vs) → At W' a (.tup vs)) : ∀ (k : NK) (v : V), KRep W k v → KRep W' k v
  | .none, v, x => x
  | .num i, v, x => x
  | .text s, v, x => x
  | .tup ks, v, x => by
    obtain ⟨a, vs, e, q, r⟩ := x
    exact ⟨a, vs, e, ht a vs q, KRepL.tups ht ks vs r⟩
theorem KRepL.tups (ht : ∀ a vs, At W a (.tup vs) → At W' a (.tup vs)) : ∀ (ks : List NK) (vs : List V), KRepL W ks vs → KRepL W' ks vs
  | [], vs, x => x
  | k :: ks, vs, x => by
    obtain ⟨v, vs', e, r, rs⟩ := x
    exact ⟨v, vs', e, KRep.tups ht k v r, KRepL.tups ht ks vs' rs⟩
end
theorem KeysOk.le (h : LeS W W') {xs : List NEnt} (x : KeysOk W xs) : KeysOk W' xs := fun y m => ⟨KRep.tups (fun a vs q => q.le h noDk_tup) _ _ (x y m).1, (x y m).2⟩
theorem AtS.le (h : LeS W W') {a : Addr} {xs : List V} (x : AtS K W a xs) : AtS K W' a xs := by
  rcases x with ⟨o, q, ob, e⟩ | x
  · subst e
    exact .inl ⟨_, q.le h noDk_fl, ob, rfl⟩
  · exact .inr x
mutual
theorem Rep.le (h : LeS W W') : ∀ (d : D) (v : V), Rep K W d v → Rep K W' d v
  | .non, v, x => x
  | .bl b, v, x => x
  | .int i, v, x => x
  | .str s, v, x => x
  | .tup ds, v, x => by
    obtain ⟨a, vs, e, q, r⟩ := x
    exact ⟨a, vs, e, q.le h noDk_tup, RepL.le h ds vs r⟩
  | .lst ds, v, x => by
    obtain ⟨a, vs, e, q, r⟩ := x
    exact ⟨a, vs, e, q.le h noDk_lst, RepL.le h ds vs r⟩
  | .dct ks ds, v, x => by
    obtain ⟨a, kvs, e, q, k, r⟩ := x
    exact ⟨a, kvs, e, q.le h, k, RepL.le h ds _ r⟩
  | .scr ns, v, x => by
    obtain ⟨a, e, q⟩ := x
    exact ⟨a, e, q.le h⟩
  | .obj n, v, x => by
    obtain ⟨a, e, q⟩ := x
    exact ⟨a, e, h.csAt q⟩
  | .ndc ks ds, v, x => by
    obtain ⟨a, xs, e, q, k, ko, r⟩ := x
    exact ⟨a, xs, e, q.le h, k, ko.le h, RepL.le h ds _ r⟩
theorem RepL.le (h : LeS W W') : ∀ (ds : List D) (vs : List V), RepL K W ds vs → RepL K W' ds vs
  | [], vs, x => x
  | d :: ds, vs, x => by
    obtain ⟨v, vs', e, r, rs⟩ := x
    exact ⟨v, vs', e, Rep.le h d v r, RepL.le h ds vs' rs⟩
end
/-! the same visible tuples and cells: data without lists and dicts reads as before -/
mutual
theorem Rep.immLe (hc : ∃ t, W'.cs = W.cs ++ t) (ht : ∀ a vs, At W a (.tup vs) → At W' a (.tup vs)) (hs : ∀ a xs, AtS K W a xs → AtS K W' a xs) : ∀ (d : D) (v : V), imm d = true → Rep K W d v → Rep K W' d v
  | .non, v, _, x => x
  | .bl b, v, _, x => x
  | .int i, v, _, x => x
  | .str s, v, _, x => x
  | .tup ds, v, m, x => by
    obtain ⟨a, vs, e, q, r⟩ := x
    exact ⟨a, vs, e, ht a vs q, RepL.immLe hc ht hs ds vs (by simpa [imm] using m) r⟩
  | .lst ds, v, m, x => by simp [imm] at m
  | .dct ks ds, v, m, x => by simp [imm] at m
  | .ndc ks ds, v, m, x => by simp [imm] at m
  | .scr ns, v, m, x => by
    obtain ⟨a, e, q⟩ := x
    exact ⟨a, e, hs _ _ q⟩
  | .obj n, v, m, x => by
    obtain ⟨a, e, q⟩ := x
    obtain ⟨t, hc⟩ := hc
    refine ⟨a, e, ?_⟩
    rw [hc, List.getElem?_append_left (List.getElem?_eq_some_iff.mp q).1]
    exact q
theorem RepL.immLe (hc : ∃ t, W'.cs = W.cs ++ t) (ht : ∀ a vs, At W a (.tup vs) → At W' a (.tup vs)) (hs : ∀ a xs, AtS K W a xs → AtS K W' a xs) : ∀ (ds : List D) (vs : List V), imms ds = true → RepL K W ds vs → RepL K W' ds vs
  | [], vs, _, x => x
  | d :: ds, vs, m, x => by
    obtain ⟨v, vs', e, r, rs⟩ := x
    have m' : imm d = true ∧ imms ds = true := by simpa [imms] using m
    exact ⟨v, vs', e, Rep.immLe hc ht hs d v m'.1 r, RepL.immLe hc ht hs ds vs' m'.2 rs⟩
end
theorem RepL.length : ∀ {ds : List D} {vs : List V}, RepL K W ds vs → ds.length = vs.length
  | [], vs, x => by rw [show vs = [] from x]; rfl
  | d :: ds, vs, x => by
    obtain ⟨v, vs', e, r, rs⟩ := x
    rw [e, List.length_cons, List.length_cons, RepL.length rs]
theorem RepL.get : ∀ {ds : List D} {vs : List V} {i : Nat} {d : D}, RepL K W ds vs → ds[i]? = some d → ∃ v, vs[i]? = some v ∧ Rep K W d v
  | [], vs, i, d, x, e => by simp at e
  | d' :: ds, vs, 0, d, x, e => by
    obtain ⟨v, vs', rfl, r, rs⟩ := x
    simp at e
    subst e
    exact ⟨v, rfl, r⟩
  | d' :: ds, vs, i + 1, d, x, e => by
    obtain ⟨v, vs', rfl, r, rs⟩ := x
    simp at e
    obtain ⟨u, q, r'⟩ := RepL.get rs e
    exact ⟨u, by simpa using q, r'⟩
theorem RepL.append : ∀ {ds es : List D} {vs us : List V}, RepL K W ds vs → RepL K W es us → RepL K W (ds ++ es) (vs ++ us)
  | [], es, vs, us, x, y => by rw [show vs = [] from x]; exact y
  | d :: ds, es, vs, us, x, y => by
    obtain ⟨v, vs', rfl, r, rs⟩ := x
    exact ⟨v, vs' ++ us, rfl, r, RepL.append rs y⟩
theorem RepL.one {d : D} {v : V} (r : Rep K W d v) : RepL K W [d] [v] := ⟨v, [], rfl, r, rfl⟩
theorem RepL.take : ∀ {ds : List D} {vs : List V} (n : Nat), RepL K W ds vs → RepL K W (ds.take n) (vs.take n)
  | _, _, 0, _ => by simp [RepL]
  | [], vs, n + 1, x => by rw [show vs = [] from x]; rfl
  | d :: ds, vs, n + 1, x => by
    obtain ⟨v, vs', rfl, r, rs⟩ := x
    exact ⟨v, vs'.take n, rfl, r, RepL.take n rs⟩
theorem RepL.drop : ∀ {ds : List D} {vs : List V} (n : Nat), RepL K W ds vs → RepL K W (ds.drop n) (vs.drop n)
  | _, _, 0, x => by simpa using x
  | [], vs, n + 1, x => by rw [show vs = [] from x]; rfl
  | d :: ds, vs, n + 1, x => by
    obtain ⟨v, vs', rfl, r, rs⟩ := x
    simpa using RepL.drop n rs
theorem RepL.set : ∀ {ds : List D} {vs : List V} {d : D} {v : V} (n : Nat), RepL K W ds vs → Rep K W d v → RepL K W (ds.set n d) (vs.set n v)
  | [], vs, d, v, n, x, r => by rw [show vs = [] from x]; rfl
  | d' :: ds, vs, d, v, 0, x, r => by
    obtain ⟨v', vs', rfl, r', rs⟩ := x
    exact ⟨v, vs', rfl, r, rs⟩
  | d' :: ds, vs, d, v, n + 1, x, r => by
    obtain ⟨v', vs', rfl, r', rs⟩ := x
    exact ⟨v', vs'.set n v, rfl, r', RepL.set n rs r⟩
theorem RepL.reverse : ∀ {ds : List D} {vs : List V}, RepL K W ds vs → RepL K W ds.reverse vs.reverse
  | [], vs, x => by rw [show vs = [] from x]; rfl
  | d :: ds, vs, x => by
    obtain ⟨v, vs', rfl, r, rs⟩ := x
    rw [List.reverse_cons, List.reverse_cons]
    exact RepL.append (RepL.reverse rs) (.one r)
theorem RepL.imms_of : ∀ {ds : List D} {vs : List V}, RepL K W ds vs → True := fun _ => trivial
end

/-! ### what is well made -/
def mutO : HO → Bool
  | .lst _ => true
  | .dK _ => true
  | .ext _ => true
  | _ => false
structure WOk (W : Wd) : Prop where
  nd : W.cs.Nodup
  dom : ∀ a ∈ W.cs, W.H a ≠ none
  ow : ∀ a, W.own a → a ∉ W.cs ∧ ∃ o, W.H a = some o ∧ mutO o = true
def ObRep (K : KW) (W : Wd) (a : Addr) : Ob → Prop
  | .lst ds => imms ds = true ∧ ∃ vs, W.H a = some (.lst vs) ∧ RepL K W ds vs
  | .ins _ _ => False
structure SRep (K : KW) (W : Wd) (S : Sto) : Prop where
  len : S.length = W.cs.length
  at_ : ∀ (n : Nat) (ob : Ob) (a : Addr), S[n]? = some ob → W.cs[n]? = some a → ObRep K W a ob
/-- an object of one's own at a -/
def OwnRep (K : KW) (W : Wd) (a : Addr) : D → Prop
  | .lst ds => ∃ vs, W.H a = some (.lst vs) ∧ RepL K W ds vs
  | .dct ks ds => ∃ kvs, W.H a = some (.dK kvs) ∧ ks = kvs.map (fun p => kNK p.1) ∧ RepL K W ds (kvs.map (·.2))
  | .ndc ks ds => ∃ xs, (∃ ep, W.H a = some (DN K.w a xs ep)) ∧ ks = xs.map (·.1) ∧ KeysOk W xs ∧ RepL K W ds (xs.map (·.2.2))
  | _ => False
/-- to be read at the top: visible, or one's own -/
def TopRep (K : KW) (W : Wd) (d : D) (v : V) : Prop := Rep K W d v ∨ ∃ a, v = .ref a ∧ W.own a ∧ OwnRep K W a d
def Wd.hide (W : Wd) (a : Addr) : Wd := ⟨W.cs, fun b => W.own b ∨ b = a, W.H⟩
/-- a new list or dict -/
def Fresh (K : KW) (W W' : Wd) (d : D) (v : V) : Prop := imm d = false → (∃ xs, d = .tup xs) ∨ ∃ a, v = .ref a ∧ W.H a = none ∧ a ∉ W'.cs ∧ ¬ W'.own a ∧ OwnRep K (W'.hide a) a d
structure Post (K : KW) (W : Wd) (S' : Sto) (W' : Wd) (d : D) (v : V) : Prop where
  le : Le W W'
  ok : WOk W'
  st : SRep K W' S'
  rep : Rep K W' d v

section
variable {K : KW} {W W' : Wd}
theorem OwnRep.le (h : Le W W') {a : Addr} {d : D} (n : a ∉ W.cs) (x : OwnRep K W a d) : OwnRep K W' a d := by
  cases d with
  | lst ds =>
    obtain ⟨vs, e, r⟩ := x
    exact ⟨vs, (h.keep a _ n e).2, RepL.le h.leS ds vs r⟩
  | dct ks ds =>
    obtain ⟨kvs, e, k, r⟩ := x
    exact ⟨kvs, (h.keep a _ n e).2, k, RepL.le h.leS ds _ r⟩
  | ndc ks ds =>
    obtain ⟨xs, ⟨ep, e⟩, k, ko, r⟩ := x
    exact ⟨xs, ⟨ep, (h.keep a _ n e).2⟩, k, ko.le h.leS, RepL.le h.leS ds _ r⟩
  | _ => exact x.elim
theorem TopRep.le (ok : WOk W) (h : Le W W') {d : D} {v : V} (x : TopRep K W d v) : TopRep K W' d v := by
  rcases x with x | ⟨a, e, o, x⟩
  · exact .inl (Rep.le h.leS d v x)
  · exact .inr ⟨a, e, (h.own a).mpr o, x.le h (ok.ow a o).1⟩
theorem Post.trans {W1 : Wd} {S1 S2 : Sto} {d1 d : D} {v1 v : V} (a : Post K W S1 W1 d1 v1) (b : Post K W1 S2 W' d v) : Post K W S2 W' d v := ⟨a.le.trans b.le, b.ok, b.st, b.rep⟩
end
end FG

namespace FG
open PySem PySem.Spec PyProof.Rows L2

/-! ### the compact text -/
inductive BOp where
  | add | sub | mul | fdiv | mod | pow
inductive COp where
  | eq | ne | lt | le | gt | ge | isin | notin | is | isnot
deriving DecidableEq
inductive Bi where
  | len | isi (T : String) | all | any | tuple | list | dict | lenset | sum | sorted | max | min
inductive IK where
  | seq | keys | zip | enum | range | nkeys
deriving DecidableEq
inductive Tg where
  | nm (i : Nat) | tp (is : List Nat)
inductive E where
  | var (i : Nat) | con (d : D) | glob (x : Str) (d : D)
  | tup (es : List E) | lst (es : List E) | dct
  | idx (a b : E) | slf (a lo : E) | slt (a hi : E) | sl (a lo hi : E) | rev (a : E)
  | neg (a : E) | bin (op : BOp) (a b : E) | cmp (op : COp) (a b : E) | chain (a b c : E)
  | and (a b : E) | or (a b : E) | not (a : E) | ite (c a b : E)
  | call (f : Nat) (es : List E) | bi (f : Bi) (a : E) | get (o k : E) | getd (o k x : E)
  | lc (own : List Nat) (tg : Tg) (ik : IK) (its : List E) (ifs : List E) (elt : E)
  | dc (own : List Nat) (tg : Tg) (ik : IK) (its : List E) (ifs : List E) (k v : E)
  | lend (js : List Nat) (e : E)
  | ndc0 | ndc1 (k v : E)
inductive S where
  | asg (fz : List Nat) (i : Nat) (e : E) | asgO (fz : List Nat) (i : Nat) (e : E)
  | unp (fz : List Nat) (is : List Nat) (e : E)
  | par (is : List Nat) (es : List E) (os : List Bool)
  | setI (i : Nat) (k v : E) | augC (i : Nat) (k e : E)
  | app (i : Nat) (e : E) | ext (i : Nat) (e : E) | pop0 (j i : Nat)
  | exp (fz : List Nat) (e : E)
  | ite (c : E) (a b : List S)
  | for (fz : List Nat) (tg : Tg) (ik : IK) (its : List E) (body : List S)
  | whl (c : E) (body : List S)
  | ret (fz : List Nat) (e : E) | retO (i : Nat)
  | cont | stuck | newC (i : Nat) (es : List E)

/-! ### values of a running text -/
inductive Ent where
  | sh (d : D) | ow (d : D)
abbrev En := List (Option Ent)
def getE (env : En) (i : Nat) : Option D := match env[i]? with
  | some (some (.sh d)) => some d
  | _ => none
def getO (env : En) (i : Nat) : Option D := match env[i]? with
  | some (some (.ow d)) => some d
  | _ => none
def peek (env : En) : E → Option D
  | .var i => getO env i
  | _ => none
def unown1 (env : En) (j : Nat) : En := match env[j]? with
  | some (some (.ow d)) => env.set j (some (.sh d))
  | _ => env
def unown (env : En) (js : List Nat) : En := js.foldl unown1 env
def wipeE (env : En) (js : List Nat) : En := js.foldl (fun e j => e.set j none) env

/-! ### keys, dicts -/
mutual
def keyOf : D → Option NK
  | .non => some .none
  | .int i => some (.num i)
  | .str s => some (.text s)
  | .tup ds => (keysOf ds).map .tup
  | _ => none
def keysOf : List D → Option (List NK)
  | [] => some []
  | d :: ds => match keyOf d, keysOf ds with
    | some k, some ks => some (k :: ks)
    | _, _ => none
end
mutual
/-- a key as data -/
def keyD : NK → D
  | .none => .non
  | .num i => .int i
  | .text s => .str s
  | .tup ks => .tup (keyDs ks)
def keyDs : List NK → List D
  | [] => []
  | k :: ks => keyD k :: keyDs ks
end
/-- a tuple as a key -/
def keyT : D → Option NK
  | .tup ds => (keysOf ds).bind fun ks => if (NestedKey.tup ks).depth ≤ 8 then some (.tup ks) else none
  | _ => none
def dLook : List NK → List D → NK → Option D
  | k' :: ks, d :: ds, k => if k' = k then some d else dLook ks ds k
  | _, _, _ => none
def dSet : List NK → List D → NK → D → List D
  | k' :: ks, d :: ds, k, x => (if k' = k then x else d) :: dSet ks ds k x
  | _, _, _, _ => []
/-- in its place, or at the end -/
def dPut (ks : List NK) (ds : List D) (k : NK) (x : D) : List NK × List D :=
  if k ∈ ks then (ks, dSet ks ds k x) else (ks ++ [k], ds ++ [x])
/-- a text as a key -/
def txtKey : D → Option Str
  | .str s => some s
  | _ => none

/-! ### operations by data -/
mutual
def toPy : D → PyData
  | .non => .none
  | .bl b => .bool b
  | .int i => .int i
  | .str s => .str s
  | .tup ds => .tuple (toPys ds)
  | .lst ds => .list (toPys ds)
  | .scr ns => .list (ns.map .int)
  | .dct _ _ => .dict []
  | .ndc _ _ => .dict []
  | .obj _ => .dict []
def toPys : List D → List PyData
  | [] => []
  | d :: ds => toPy d :: toPys ds
end
mutual
/-- data that == takes: no dict, no cell; n levels at most -/
def pyOk : Nat → D → Bool
  | _, .non => true
  | _, .bl _ => true
  | _, .int _ => true
  | _, .str s => PyData.strOk s
  | 0, _ => false
  | n + 1, .tup ds => pyOks n ds
  | n + 1, .lst ds => pyOks n ds
  | _ + 1, .scr _ => true
  | _ + 1, _ => false
def pyOks : Nat → List D → Bool
  | _, [] => true
  | n, d :: ds => pyOk n d && pyOks n ds
end
def eqD (a b : D) : Bool := PyData.eqv (toPy a) (toPy b)
def atomD : D → Bool
  | .non => true
  | .bl _ => true
  | .int _ => true
  | .str _ => true
  | _ => false
def scalD : D → D → Bool
  | .non, .non => true
  | .non, .str _ => true
  | .str _, .non => true
  | .str _, .str _ => true
  | .int _, .int _ => true
  | .bl _, .bl _ => true
  | .non, .int _ => true
  | .int _, .non => true
  | _, _ => false
/-- two dicts hold the same -/
def dHits (ls : List NK) (es : List D) : List NK → List D → Bool
  | k :: ks, d :: ds => (match dLook ls es k with | some e => eqD d e | none => false) && dHits ls es ks ds
  | _, _ => true
def dSame (ks : List NK) (ds : List D) (ls : List NK) (es : List D) : Bool := decide (ks.length = ls.length) && dHits ls es ks ds
def eqF (a b : D) : Option Bool := match a, b with
  | .dct ks ds, .dct ls es => if ds.all atomD && es.all atomD then some (dSame ks ds ls es) else none
  | a, b => if scalD a b || (pyOk 60 a && pyOk 60 b) then some (eqD a b) else none
def big : Nat := 16777216
def smallI (i : Int) : Bool := decide (-(2 ^ 64) < i) && decide (i < 2 ^ 64)
def wideI (i : Int) : Bool := decide (i.natAbs < 2 ^ 1000)
def cutD (xs : List D) (lo hi : Option Int) : List D := (xs.drop (HT.sIx xs.length 0 lo)).take (HT.sIx xs.length xs.length hi - HT.sIx xs.length 0 lo)
def idxF : D → D → Option D
  | .tup ds, .int i => atI ds i
  | .lst ds, .int i => atI ds i
  | .scr ns, .int i => (atI ns i).map .int
  | .dct ks ds, k => (txtKey k).bind fun s => dLook ks ds (.text s)
  | .ndc ks ds, k => (keyT k).bind fun nk => dLook ks ds nk
  | _, _ => none
/-- .. a cell by its place -/
def idxS (S : Sto) : D → D → Option D
  | .obj n, .int i => match S[n]? with
    | some (.lst ds) => atI ds i
    | _ => none
  | a, b => idxF a b
def slcF (a : D) (lo hi : Option Int) : Option D := match a with
  | .tup ds => some (.tup (cutD ds lo hi))
  | .lst ds => some (.lst (cutD ds lo hi))
  | _ => none
def binF : BOp → D → D → Option D
  | .add, .int i, .int j => some (.int (i + j))
  | .add, .lst xs, .lst ys => if xs.length + ys.length ≤ big then some (.lst (xs ++ ys)) else none
  | .add, .tup xs, .tup ys => if xs.length + ys.length ≤ big then some (.tup (xs ++ ys)) else none
  | .sub, .int i, .int j => some (.int (i - j))
  | .mul, .int i, .int j => if smallI i || smallI j || (wideI i && wideI j) then some (.int (i * j)) else none
  | .mul, .tup xs, .int k => if !xs.isEmpty && decide (1 ≤ k) && decide (k ≤ 1000) && decide (xs.length ≤ 1000) then some (.tup (List.replicate k.toNat xs).flatten) else none
  | .mul, .lst xs, .int k => if decide (0 ≤ k) && decide (k ≤ 1000) && decide (xs.length * k.toNat ≤ big) then some (.lst (List.replicate k.toNat xs).flatten) else none
  | .fdiv, .int i, .int j => if decide (0 < j) && decide (j < 1073741824) then some (.int (i / j)) else none
  | .mod, .int i, .int j => if decide (0 < j) then some (.int (i % j)) else none
  | .pow, .int i, .int j => if decide (0 ≤ j) && decide (j ≤ 1000000) && decide (i.natAbs < 2 ^ 64) then some (.int (i ^ j.toNat)) else none
  | _, _, _ => none
def inF : D → D → Option Bool
  | .str x, .str y => if x.cps.size = 1 then some (decide (x.cps.getD 0 0 ∈ y.cps.toList)) else none
  | x, .tup ys => if atomD x && ys.all atomD then some (ys.any fun y => eqD y x) else none
  | x, .lst ys => if pyOk 60 x && pyOk 60 (.lst ys) then some (ys.any fun y => eqD y x) else none
  | k, .dct ks ds => (txtKey k).map fun s => (dLook ks ds (.text s)).isSome
  | k, .ndc ks ds => (keyT k).map fun nk => (dLook ks ds nk).isSome
  | _, _ => none
def isN : D → Bool
  | .non => true
  | _ => false
def isF : D → D → Option Bool
  | .bl a, .bl b => some (decide (a = b))
  | x, .non => some (isN x)
  | _, _ => none
def cmpF : COp → D → D → Option Bool
  | .eq, a, b => eqF a b
  | .ne, a, b => (eqF a b).map (!·)
  | .lt, .int i, .int j => some (decide (i < j))
  | .le, .int i, .int j => some (decide (i ≤ j))
  | .gt, .int i, .int j => some (decide (j < i))
  | .ge, .int i, .int j => some (decide (j ≤ i))
  | .isin, a, b => inF a b
  | .notin, a, b => (inF a b).map (!·)
  | .is, a, b => isF a b
  | .isnot, a, b => (isF a b).map (!·)
  | _, _, _ => none
def bools : List D → Option (List Bool)
  | [] => some []
  | .bl b :: ds => (bools ds).map (b :: ·)
  | _ :: _ => none
def txts : List D → Option (List Str)
  | [] => some []
  | .str s :: ds => (txts ds).map (s :: ·)
  | _ :: _ => none
def isiF (T : String) : D → Option Bool
  | .non => some false
  | .bl _ => some false
  | .int _ => some false
  | .str _ => some (decide (T = "str"))
  | .tup _ => some (decide (T = "tuple"))
  | .lst _ => some (decide (T = "list"))
  | .dct _ _ => some (decide (T = "dict"))
  | _ => none
/-- a list of pairs into a dict -/
def dPairs : List D → List NK → List D → Option (List NK × List D)
  | [], ks, ds => some (ks, ds)
  | .tup [.str k, v] :: r, ks, ds => let q := dPut ks ds (.text k) v; dPairs r q.1 q.2
  | _ :: _, _, _ => none
def intsD : List D → Option (List Int)
  | [] => some []
  | .int i :: ds => (intsD ds).map (i :: ·)
  | _ :: _ => none
def isTup : D → Bool
  | .tup (_ :: _) => true
  | _ => false
def isPlV : D → Bool
  | .bl _ => true
  | .int _ => true
  | .str _ => true
  | .lst _ => true
  | _ => false
/-- data that < takes -/
def srtOk (ds : List D) : Bool := pyOks 60 ds && (ds.all fun a => ds.all fun b => PySem.W.alike (toPy a) (toPy b)) && (ds.all isTup || ds.all isPlV)
def biF : Bi → D → Option D
  | .len, .str s => if s.length ≤ big then some (.int s.length) else none
  | .len, .tup ds => some (.int ds.length)
  | .len, .lst ds => some (.int ds.length)
  | .len, .scr ns => some (.int ns.length)
  | .len, .dct ks _ => some (.int ks.length)
  | .len, .ndc ks _ => some (.int ks.length)
  | .isi T, d => if T = "str" ∨ T = "tuple" ∨ T = "list" ∨ T = "dict" then (isiF T d).map .bl else none
  | .all, .lst ds => (bools ds).map fun bs => .bl (bs.all id)
  | .any, .lst ds => (bools ds).map fun bs => .bl (bs.any id)
  | .tuple, .lst ds => some (.tup ds)
  | .tuple, .tup ds => some (.tup ds)
  | .list, .lst ds => some (.lst ds)
  | .list, .tup ds => some (.lst ds)
  | .list, .dct ks _ => (ks.mapM fun k => match k with | NestedKey.text s => some (D.str s) | _ => none).map .lst
  | .dict, .dct ks ds => some (.dct ks ds)
  | .dict, .lst ds => if ds.length ≤ 1000 then (dPairs ds [] []).map fun q => .dct q.1 q.2 else none
  | .sum, .lst ds => (intsD ds).map fun ns => .int ns.sum
  | .sorted, .lst ds => if srtOk ds then some (.lst (ds.mergeSort (PySem.W.dataLe false toPy))) else none
  | .max, .lst ds => (intsD ds).bind fun ns => if 0 < ns.length then some (.int (ns.foldl max (ns.headD 0))) else none
  | .min, .lst ds => (intsD ds).bind fun ns => if 0 < ns.length then some (.int (ns.foldl min (ns.headD 0))) else none
  | .lenset, .tup ds => (txts ds).bind fun xs => if decide (xs.length ≤ 8) then some (.int xs.eraseDups.length) else none
  | _, _ => none
def getF : D → D → D → Option D
  | .dct ks ds, k, x => match k with
    | .str s => some ((dLook ks ds (.text s)).getD x)
    | .non => some x
    | _ => none
  | _, _, _ => none
def itemsF : IK → List D → Option (List D)
  | .seq, [.lst ds] => some ds
  | .seq, [.tup ds] => some ds
  | .seq, [.str s] => some (s.cps.toList.map fun c => .str ⟨#[c]⟩)
  | .keys, [.dct ks _] => ks.mapM fun k => match k with | NestedKey.text s => some (D.str s) | _ => none
  | .nkeys, [.ndc ks _] => some (ks.map keyD)
  | .zip, [.tup xs, .tup ys] => some (List.zipWith (fun x y => .tup [x, y]) xs ys)
  | .zip, [.lst xs, .lst ys] => some (List.zipWith (fun x y => .tup [x, y]) xs ys)
  | .enum, [.tup xs] => some (xs.zipIdx.map fun p => .tup [.int p.2, p.1])
  | .enum, [.lst xs] => some (xs.zipIdx.map fun p => .tup [.int p.2, p.1])
  | .range, [.int n] => if decide (n < 2 ^ 62) && decide (-(2 ^ 62) ≤ n) then some ((List.range n.toNat).map fun (i : Nat) => D.int i) else none
  | _, _ => none
def bindT : Tg → D → En → Option En
  | .nm i, d, env => some (env.set i (some (.sh d)))
  | .tp is, .tup ds, env => if is.length = ds.length then some ((is.zip ds).foldl (fun e p => e.set p.1 (some (.sh p.2))) env) else none
  | _, _, _ => none

/-! ### expressions -/
abbrev Calls := Nat → List D → Sto → Option (D × Sto)
/-- the comprehension's turns -/
def lcGo (bind : D → Option En) (test : En → Sto → Option (Bool × Sto)) (elt : En → Sto → Option (D × Sto)) : List D → Sto → List D → Option (List D × Sto)
  | [], S, acc => some (acc, S)
  | d :: ds, S, acc => (bind d).bind fun env => (test env S).bind fun t =>
    if t.1 then (elt env t.2).bind fun r => if acc.length < big then lcGo bind test elt ds r.2 (acc ++ [r.1]) else none else lcGo bind test elt ds t.2 acc
def dcGo (bind : D → Option En) (test : En → Sto → Option (Bool × Sto)) (kx vx : En → Sto → Option (D × Sto)) : List D → Sto → List NK → List D → Option (List NK × List D × Sto)
  | [], S, ks, es => some (ks, es, S)
  | d :: ds, S, ks, es => (bind d).bind fun env => (test env S).bind fun t =>
    if t.1 then (kx env t.2).bind fun k => (vx env k.2).bind fun v => (txtKey k.1).bind fun x => if ks.length < big then (let q := dPut ks es (.text x) v.1; dcGo bind test kx vx ds v.2 q.1 q.2) else none else dcGo bind test kx vx ds t.2 ks es
def boolD : D → Option Bool
  | .bl b => some b
  | _ => none
section
variable (c : Calls)
mutual
def ev : E → En → Sto → Option (D × Sto)
  | .var i, env, S => (getE env i).map fun d => (d, S)
  | .con d, _, S => some (d, S)
  | .glob _ d, _, S => some (d, S)
  | .tup es, env, S => (evs es env S).map fun r => (.tup r.1, r.2)
  | .lst es, env, S => (evs es env S).map fun r => (.lst r.1, r.2)
  | .dct, _, S => some (.dct [] [], S)
  | .idx a b, env, S => (match peek env a with | some d => some (d, S) | none => ev a env S).bind fun x => (ev b env x.2).bind fun y => (idxS y.2 x.1 y.1).map fun d => (d, y.2)
  | .slf a lo, env, S => (match peek env a with | some d => some (d, S) | none => ev a env S).bind fun x => (ev lo env x.2).bind fun y => (match y.1 with | .int i => slcF x.1 (some i) none | _ => none).map fun d => (d, y.2)
  | .slt a hi, env, S => (match peek env a with | some d => some (d, S) | none => ev a env S).bind fun x => (ev hi env x.2).bind fun y => (match y.1 with | .int i => slcF x.1 none (some i) | _ => none).map fun d => (d, y.2)
  | .sl a lo hi, env, S => (match peek env a with | some d => some (d, S) | none => ev a env S).bind fun x => (ev lo env x.2).bind fun y => (ev hi env y.2).bind fun z => (match y.1, z.1 with | .int i, .int j => slcF x.1 (some i) (some j) | _, _ => none).map fun d => (d, z.2)
  | .rev a, env, S => (match peek env a with | some d => some (d, S) | none => ev a env S).bind fun x => match x.1 with | .lst ds => some (.lst ds.reverse, x.2) | _ => none
  | .neg a, env, S => (ev a env S).bind fun x => match x.1 with | .int i => some (.int (-i), x.2) | _ => none
  | .bin op a b, env, S => (match peek env a with | some d => some (d, S) | none => ev a env S).bind fun x => (match peek env b with | some d => some (d, x.2) | none => ev b env x.2).bind fun y => (binF op x.1 y.1).map fun d => (d, y.2)
  | .cmp op a b, env, S => (match peek env a with | some d => some (d, S) | none => ev a env S).bind fun x => (match peek env b with | some d => some (d, x.2) | none => ev b env x.2).bind fun y => (cmpF op x.1 y.1).map fun r => (.bl r, y.2)
  | .chain a b z, env, S => (ev a env S).bind fun x => (ev b env x.2).bind fun y => match x.1, y.1 with
    | .int i, .int j => if i ≤ j then (ev z env y.2).bind fun w => match w.1 with | .int k => some (.bl (decide (j ≤ k)), w.2) | _ => none else some (.bl false, y.2)
    | _, _ => none
  | .and a b, env, S => (ev a env S).bind fun x => match x.1 with | .bl true => (ev b env x.2).bind fun y => (match y.1 with | .bl _ => some y | _ => none) | .bl false => some (.bl false, x.2) | _ => none
  | .or a b, env, S => (ev a env S).bind fun x => match x.1 with | .bl false => (ev b env x.2).bind fun y => (match y.1 with | .bl _ => some y | _ => none) | .bl true => some (.bl true, x.2) | _ => none
  | .not a, env, S => (ev a env S).bind fun x => match x.1 with | .bl q => some (.bl (!q), x.2) | _ => none
  | .ite z a b, env, S => (ev z env S).bind fun x => match x.1 with | .bl true => ev a env x.2 | .bl false => ev b env x.2 | _ => none
  | .call f es, env, S => (evs es env S).bind fun r => c f r.1 r.2
  | .bi f a, env, S => (match peek env a with | some d => some (d, S) | none => ev a env S).bind fun x => (biF f x.1).map fun d => (d, x.2)
  | .get o k, env, S => (match peek env o with | some d => some (d, S) | none => ev o env S).bind fun x => (ev k env x.2).bind fun y => (getF x.1 y.1 .non).map fun d => (d, y.2)
  | .getd o k z, env, S => (match peek env o with | some d => some (d, S) | none => ev o env S).bind fun x => (ev k env x.2).bind fun y => (ev z env y.2).bind fun w => (match y.1 with | .str s => getF x.1 (.str s) w.1 | _ => none).map fun d => (d, w.2)
  | .lc own tg ik its ifs elt, env, S => (match ik with | .keys => evs its env S | _ => evcs its env S).bind fun (r : List D × Sto) => (itemsF ik r.1).bind fun ds =>
      (lcGo (fun d => bindT tg d (wipeE env own)) (fun e S => evts ifs e S) (fun e S => ev elt e S) ds r.2 []).map fun (q : List D × Sto) => (D.lst q.1, q.2)
  | .dc own tg ik its ifs k v, env, S => (match ik with | .keys => evs its env S | _ => evcs its env S).bind fun (r : List D × Sto) => (itemsF ik r.1).bind fun ds =>
      (dcGo (fun d => bindT tg d (wipeE env own)) (fun e S => evts ifs e S) (fun e S => ev k e S) (fun e S => ev v e S) ds r.2 [] []).map fun (q : List NK × List D × Sto) => (D.dct q.1 q.2.1, q.2.2)
  | .ndc0, _, S => some (.ndc [] [], S)
  | .ndc1 k v, env, S => (ev k env S).bind fun x => (ev v env x.2).bind fun y => (keyT x.1).map fun nk => (.ndc [nk] [y.1], y.2)
  | .lend js e, env, S => (ev e (unown env js) S).bind fun r => if imm r.1 then some r else none
def evs : List E → En → Sto → Option (List D × Sto)
  | [], _, S => some ([], S)
  | e :: es, env, S => (ev e env S).bind fun x => (evs es env x.2).map fun r => (x.1 :: r.1, r.2)
def evcs : List E → En → Sto → Option (List D × Sto)
  | [], _, S => some ([], S)
  | e :: es, env, S => (match peek env e with | some d => some (d, S) | none => ev e env S).bind fun x => (evcs es env x.2).map fun (r : List D × Sto) => (x.1 :: r.1, r.2)
/-- the tests of a comprehension: none, or one -/
def evts : List E → En → Sto → Option (Bool × Sto)
  | [], _, S => some (true, S)
  | e :: es, env, S => (ev e env S).bind fun x => match x.1, es with | .bl b, [] => some (b, x.2) | _, _ => none
end

/-! ### statements -/
inductive Fl where
  | nx (env : En) (S : Sto) | rt (d : D) (S : Sto) | ct (env : En) (S : Sto)
def forGo (bind : D → En → Option En) (body : En → Sto → Option Fl) : List D → En → Sto → Option Fl
  | [], env, S => some (.nx env S)
  | d :: ds, env, S => (bind d env).bind fun env => (body env S).bind fun f => match f with
    | .nx env S => forGo bind body ds env S
    | .ct env S => forGo bind body ds env S
    | .rt d S => some (.rt d S)
def whlGo (test : En → Sto → Option (D × Sto)) (body : En → Sto → Option Fl) : Nat → En → Sto → Option Fl
  | 0, _, _ => none
  | n + 1, env, S => (test env S).bind fun x => match x.1 with
    | .bl false => some (.nx env x.2)
    | .bl true => (body env x.2).bind fun f => match f with
      | .nx env S => whlGo test body n env S
      | .ct env S => whlGo test body n env S
      | .rt d S => some (.rt d S)
    | _ => none
def setF : D → D → D → Option D
  | .dct ks ds, .str k, v => if ks.length < big then (let q := dPut ks ds (.text k) v; some (.dct q.1 q.2)) else none
  | .lst ds, .int i, v => (ixN ds.length i).map fun j => .lst (ds.set j v)
  | .ndc ks ds, k, v => (keyT k).bind fun nk => if ks.length < big then (let q := dPut ks ds nk v; some (.ndc q.1 q.2)) else none
  | _, _, _ => none
/-- a list, a dict -/
def isMut : D → Bool
  | .lst _ => true
  | .dct _ _ => true
  | .ndc _ _ => true
  | _ => false
/-- the values from the left, each into its name -/
def parGo : List Nat → List E → List Bool → En → En → Sto → Option (En × Sto)
  | [], [], [], _, acc, S => some (acc, S)
  | i :: is, e :: es, o :: os, env, acc, S => (ev c e env S).bind fun r => if o && !isMut r.1 then none else parGo is es os env (acc.set i (some (if o then .ow r.1 else .sh r.1))) r.2
  | _, _, _, _, _, _ => none
variable (F : Nat)
mutual
def exec : S → En → Sto → Option Fl
  | .asg fz i e, env, S => let env := unown env fz; (ev c e env S).map fun r => .nx (env.set i (some (.sh r.1))) r.2
  | .asgO fz i e, env, S => let env := unown env fz; (ev c e env S).bind fun r => if isMut r.1 then some (.nx (env.set i (some (.ow r.1))) r.2) else none
  | .unp fz is e, env, S => let env := unown env fz; (ev c e env S).bind fun r => (bindT (.tp is) r.1 env).map fun env => .nx env r.2
  | .par is es os, env, S => (parGo c is es os env env S).map fun r => .nx r.1 r.2
  | .setI i k v, env, S => (ev c v env S).bind fun y => match env[i]? with
    | some (some (.ow d)) => (ev c k env y.2).bind fun x => (setF d x.1 y.1).map fun d' => .nx (env.set i (some (.ow d'))) x.2
    | some (some (.sh (.obj n))) => (ev c k env y.2).bind fun x => match x.2[n]? with
      | some (.lst ds) => if imm y.1 then (setF (.lst ds) x.1 y.1).bind fun d' => match d' with | .lst ds' => some (.nx env (x.2.set n (.lst ds'))) | _ => none else none
      | _ => none
    | _ => none
  | .augC i k e, env, S => match env[i]? with
    | some (some (.sh (.obj n))) => (ev c k env S).bind fun x => match x.1, x.2[n]? with
      | .int ix, some (.lst ds) => if 0 ≤ ix then (match ds[ix.toNat]? with
        | some (.int p) => (ev c e env x.2).bind fun y => match y.1, y.2[n]? with
          | .int q, some (.lst ds2) => if ix < ds2.length then some (.nx env (y.2.set n (.lst (ds2.set ix.toNat (.int (p + q)))))) else none
          | _, _ => none
        | _ => none) else none
      | _, _ => none
    | _ => none
  | .app i e, env, S => match env[i]? with
    | some (some (.ow (.lst ds))) => (ev c e env S).bind fun x => if ds.length < big then some (.nx (env.set i (some (.ow (.lst (ds ++ [x.1]))))) x.2) else none
    | _ => none
  | .ext i e, env, S => match env[i]? with
    | some (some (.ow (.lst ds))) => (match peek env e with | some d => some (d, S) | none => ev c e env S).bind fun x => match x.1 with
      | .lst es => if ds.length + es.length ≤ big then some (.nx (env.set i (some (.ow (.lst (ds ++ es))))) x.2) else none
      | _ => none
    | _ => none
  | .pop0 j i, env, S => match env[i]? with
    | some (some (.ow (.lst (d :: ds)))) => if i = j then none else some (.nx ((env.set i (some (.ow (.lst ds)))).set j (some (.sh d))) S)
    | _ => none
  | .exp fz e, env, S => let env := unown env fz; (ev c e env S).map fun r => .nx env r.2
  | .ite z a b, env, S => (ev c z env S).bind fun x => match x.1 with
    | .bl true => execs a env x.2
    | .bl false => execs b env x.2
    | _ => none
  | .for fz tg ik its body, env, S => let env := unown env fz; (evs c its env S).bind fun r => (itemsF ik r.1).bind fun ds => forGo (bindT tg) (fun e S => execs body e S) ds env r.2
  | .whl z body, env, S => whlGo (fun e S => ev c z e S) (fun e S => execs body e S) F env S
  | .ret fz e, env, S => (ev c e (unown env fz) S).map fun r => .rt r.1 r.2
  | .retO i, env, S => (getO env i).map fun d => .rt d S
  | .cont, env, S => some (.ct env S)
  | .stuck, _, _ => none
  | .newC i es, env, S => (evs c es env S).bind fun r => if imms r.1 then some (.nx (env.set i (some (.sh (.obj r.2.length)))) (r.2 ++ [.lst r.1])) else none
def execs : List S → En → Sto → Option Fl
  | [], env, S => some (.nx env S)
  | s :: ss, env, S => (exec s env S).bind fun f => match f with
    | .nx env S => execs ss env S
    | f => some f
end
end

/-! ### defs -/
structure Df where
  name : Str
  N : List Str
  ar : Nat
  fr : Bool
  body : List S
def startE (n : Nat) (ds : List D) : En := ds.map (fun d => some (.sh d)) ++ List.replicate (n - ds.length) none
def callK (fs : List Df) (F : Nat) : Nat → Calls
  | 0, _, _, _ => none
  | k + 1, f, ds, S => match fs[f]? with
    | some df => if ds.length = df.ar then (match execs (callK fs F k) F df.body (startE df.N.length ds) S with
      | some (.rt d S) => some (d, S)
      | some (.nx _ S) => some (.non, S)
      | _ => none) else none
    | none => none
end FG

abbrev L2.Cx.kw (X : L2.Cx) : FG.KW := ⟨X.K, X.w⟩
namespace FG
open PySem PySem.Spec PyProof.Rows L2

/-! ### what is asked of the machine -/
section
variable (X : Cx)
def SatE (e : Expr) : TE := fun σ H Q => ∀ pins s, Inv X pins σ H s → wpAny (model X.prog X.w) X.A (eval e X.env) (EP X pins σ Q) X.xe s
def SatT (e : Expr) : TT := fun σ H Q => ∀ pins s, Inv X pins σ H s → wpAny (model X.prog X.w) X.A (isTrue e X.env (eval e X.env)) (TP X pins σ Q) X.xe s
def SatA (es : List Expr) : TA := fun σ H Q => ∀ pos pins s, Inv X pins σ H s → wpAny (model X.prog X.w) X.A (spliced (backTo pos (starEach es X.env))) (AP X pins σ Q) X.xe s
end
section
variable {X : Cx}
theorem pe_sat {e : Expr} : PE X e (SatE X e) := ⟨fun pins s σ H Q I h => h pins s I⟩
theorem pt_sat {e : Expr} : PT X e (SatT X e) := ⟨fun pins s σ H Q I h => h pins s I⟩
theorem pa_sat {es : List Expr} : PA X es (SatA X es) := ⟨fun pos pins s σ H Q I h => h pos pins s I⟩
theorem satE {e : Expr} {t : TE} (h : PE X e t) {σ : L2.St} {H : Hp} {Q : VK} (q : t σ H Q) : SatE X e σ H Q := fun pins s I => h.run pins s σ H Q I q
theorem satT {e : Expr} {t : TT} (h : PT X e t) {σ : L2.St} {H : Hp} {Q : Bool → Hp → Prop} (q : t σ H Q) : SatT X e σ H Q := fun pins s I => h.run pins s σ H Q I q
theorem satA {es : List Expr} {t : TA} (h : PA X es t) {σ : L2.St} {H : Hp} {Q : List V → Hp → Prop} (q : t σ H Q) : SatA X es σ H Q := fun pos pins s I => h.run pos pins s σ H Q I q
end

/-! ### the names' values -/
structure EnvR (K : KW) (W : Wd) (env : En) (σ : L2.St) : Prop where
  len : env.length = σ.length
  sh : ∀ (i : Nat) (d : D), env[i]? = some (some (.sh d)) → ∃ v, σ[i]? = some (some v) ∧ Rep K W d v
  ow : ∀ (i : Nat) (d : D), env[i]? = some (some (.ow d)) → ∃ a, σ[i]? = some (some (.ref a)) ∧ W.own a ∧ OwnRep K W a d
  un : ∀ (i j : Nat) (d e : D) (a : Addr), env[i]? = some (some (.ow d)) → env[j]? = some (some (.ow e)) → σ[i]? = some (some (.ref a)) → σ[j]? = some (some (.ref a)) → i = j
theorem EnvR.le {K : KW} {W W' : Wd} {env : En} {σ : L2.St} (ok : WOk W) (h : Le W W') (r : EnvR K W env σ) : EnvR K W' env σ where
  len := r.len
  sh := fun i d e => by
    obtain ⟨v, e1, q⟩ := r.sh i d e
    exact ⟨v, e1, Rep.le h.leS d v q⟩
  ow := fun i d e => by
    obtain ⟨a, e1, o, q⟩ := r.ow i d e
    exact ⟨a, e1, (h.own a).mpr o, q.le h (ok.ow a o).1⟩
  un := r.un

/-! ### a new object -/
def Wd.up (W : Wd) (p : Addr) (o : HO) : Wd := ⟨W.cs, W.own, upd W.H p o⟩
section
variable {K : KW} {W W' : Wd} {p : Addr} {o : HO} {S : Sto}
theorem up_le (h : W.H p = none) : Le W (W.up p o) := by
  refine ⟨⟨[], by simp [Wd.up]⟩, fun _ => Iff.rfl, fun b u n e => ⟨n, ?_⟩⟩
  show upd W.H p o b = some u
  rw [upd_ne (ne_of_none e h)]
  exact e
theorem up_ok (ok : WOk W) (h : W.H p = none) : WOk (W.up p o) := by
  refine ⟨ok.nd, fun a m => ?_, fun a w => ⟨(ok.ow a w).1, ?_⟩⟩
  · show upd W.H p o a ≠ none
    have hn := ok.dom a m
    rw [upd_ne (fun e => hn (by rw [e]; exact h))]
    exact hn
  · obtain ⟨u, e, k⟩ := (ok.ow a w).2
    exact ⟨u, by show upd W.H p o a = some u; rw [upd_ne (ne_of_none e h)]; exact e, k⟩
theorem st_le (st : SRep K W S) (cs : W'.cs = W.cs) (l : LeS W W') (k : ∀ a ∈ W.cs, W'.H a = W.H a) : SRep K W' S := by
  refine ⟨by rw [cs]; exact st.len, fun n ob a e1 e2 => ?_⟩
  rw [cs] at e2
  have q := st.at_ n ob a e1 e2
  cases ob with
  | lst ds =>
    obtain ⟨m, vs, e, r⟩ := q
    exact ⟨m, vs, by rw [k a (List.mem_of_getElem? e2)]; exact e, RepL.le l ds vs r⟩
  | ins c fs => exact q.elim
theorem up_st (ok : WOk W) (st : SRep K W S) (h : W.H p = none) : SRep K (W.up p o) S :=
  st_le st rfl (up_le h).leS fun a m => upd_ne fun e => ok.dom a m (by rw [e]; exact h)
theorem up_at (ok : WOk W) (h : W.H p = none) : At (W.up p o) p o :=
  ⟨upd_same, fun m => ok.dom p m h, fun w => by obtain ⟨u, e, _⟩ := (ok.ow p w).2; rw [h] at e; cases e⟩
theorem up_hide (h : W.H p = none) : LeS W ((W.up p o).hide p) := by
  refine ⟨⟨[], by simp [Wd.up, Wd.hide]⟩, fun b u ⟨e, n, w⟩ => ⟨u, ⟨?_, n, ?_⟩, .refl u⟩⟩
  · show upd W.H p o b = some u
    rw [upd_ne (ne_of_none e h)]
    exact e
  · rintro (z | z)
    · exact w z
    · exact ne_of_none e h z
theorem Le.free (ok' : WOk W') (l : Le W W') (h : W'.H p = none) : W.H p = none := by
  cases q : W.H p with
  | none => rfl
  | some u =>
    by_cases m : p ∈ W.cs
    · obtain ⟨t, e⟩ := l.cs
      exact absurd h (ok'.dom p (by rw [e]; exact List.mem_append_left _ m))
    · have := (l.keep p u m q).2
      rw [h] at this
      cases this
/-- a new tuple -/
theorem post_tup {ds : List D} {vs : List V} (l : Le W W') (ok : WOk W') (st : SRep K W' S) (r : RepL K W' ds vs) (h : W'.H p = none) : Post K W S (W'.up p (.tup vs)) (.tup ds) (.ref p) :=
  ⟨l.trans (up_le h), up_ok ok h, up_st ok st h, p, vs, rfl, up_at ok h, RepL.le (up_le h).leS ds vs r⟩
theorem post_lst {ds : List D} {vs : List V} (l : Le W W') (ok : WOk W') (st : SRep K W' S) (r : RepL K W' ds vs) (h : W'.H p = none) : Post K W S (W'.up p (.lst vs)) (.lst ds) (.ref p) :=
  ⟨l.trans (up_le h), up_ok ok h, up_st ok st h, p, vs, rfl, up_at ok h, RepL.le (up_le h).leS ds vs r⟩
theorem fresh_lst {ds : List D} {vs : List V} (l : Le W W') (ok : WOk W') (r : RepL K W' ds vs) (h : W'.H p = none) : Fresh K W (W'.up p (.lst vs)) (.lst ds) (.ref p) := by
  intro _
  have q := up_at (o := HO.lst vs) ok h
  exact .inr ⟨p, rfl, l.free ok h, q.2.1, q.2.2, vs, upd_same, RepL.le (up_hide h) ds vs r⟩
theorem post_dct {ks : List NK} {ds : List D} {kvs : List (Key × V)} (l : Le W W') (ok : WOk W') (st : SRep K W' S) (k : ks = kvs.map fun p => kNK p.1) (r : RepL K W' ds (kvs.map (·.2))) (h : W'.H p = none) : Post K W S (W'.up p (.dK kvs)) (.dct ks ds) (.ref p) :=
  ⟨l.trans (up_le h), up_ok ok h, up_st ok st h, p, kvs, rfl, ⟨_, up_at ok h, .inl rfl⟩, k, RepL.le (up_le h).leS ds _ r⟩
theorem fresh_dct {ks : List NK} {ds : List D} {kvs : List (Key × V)} (l : Le W W') (ok : WOk W') (k : ks = kvs.map fun p => kNK p.1) (r : RepL K W' ds (kvs.map (·.2))) (h : W'.H p = none) : Fresh K W (W'.up p (.dK kvs)) (.dct ks ds) (.ref p) := by
  intro _
  have q := up_at (o := HO.dK kvs) ok h
  exact .inr ⟨p, rfl, l.free ok h, q.2.1, q.2.2, kvs, upd_same, k, RepL.le (up_hide h) ds _ r⟩
theorem fresh_imm {d : D} {v : V} (h : imm d = true) : Fresh K W W' d v := fun e => by rw [h] at e; cases e
theorem fresh_tup {xs : List D} {v : V} : Fresh K W W' (.tup xs) v := fun _ => .inl ⟨xs, rfl⟩
end

/-! ### the judgements over data -/
section
variable (X : Cx)
def Ev (env : En) (ex : Expr) (S : Sto) (d : D) (S' : Sto) (fr : Bool) : Prop := ∀ (σ : L2.St) (W : Wd), EnvR X.kw W env σ → WOk W → SRep X.kw W S →
  ∀ Q : VK, (∀ v W', Post X.kw W S' W' d v → (fr = true → Fresh X.kw W W' d v) → Q v W'.H) → SatE X ex σ W.H Q
/-- where only the top of the value is read -/
def EvC (env : En) (ex : Expr) (S : Sto) (d : D) (S' : Sto) : Prop := ∀ (σ : L2.St) (W : Wd), EnvR X.kw W env σ → WOk W → SRep X.kw W S →
  ∀ Q : VK, (∀ v W', Le W W' → WOk W' → SRep X.kw W' S' → TopRep X.kw W' d v → Q v W'.H) → SatE X ex σ W.H Q
def EvL (env : En) (exs : List Expr) (S : Sto) (ds : List D) (S' : Sto) : Prop := ∀ (σ : L2.St) (W : Wd), EnvR X.kw W env σ → WOk W → SRep X.kw W S →
  ∀ Q : List V → Hp → Prop, (∀ vs W', Le W W' → WOk W' → SRep X.kw W' S' → RepL X.kw W' ds vs → Q vs W'.H) → SatA X exs σ W.H Q
def EvB (env : En) (ex : Expr) (S : Sto) (b : Bool) (S' : Sto) : Prop := ∀ (σ : L2.St) (W : Wd), EnvR X.kw W env σ → WOk W → SRep X.kw W S →
  ∀ Q : Bool → Hp → Prop, (∀ W', Le W W' → WOk W' → SRep X.kw W' S' → Q b W'.H) → SatT X ex σ W.H Q
/-- a list of values, their tops -/
def TopL (K : KW) (W : Wd) : List D → List V → Prop
  | [], vs => vs = []
  | d :: ds, vs => ∃ v vs', vs = v :: vs' ∧ TopRep K W d v ∧ TopL K W ds vs'
def EvCL (env : En) (exs : List Expr) (S : Sto) (ds : List D) (S' : Sto) : Prop := ∀ (σ : L2.St) (W : Wd), EnvR X.kw W env σ → WOk W → SRep X.kw W S →
  ∀ Q : List V → Hp → Prop, (∀ vs W', Le W W' → WOk W' → SRep X.kw W' S' → TopL X.kw W' ds vs → Q vs W'.H) → SatA X exs σ W.H Q
end
section
variable {X : Cx} {env : En} {S S' S1 S2 : Sto} {d d1 d2 : D} {a b : Expr} {fr : Bool} {pos : Pos}
theorem Ev.c (h : Ev X env a S d S' fr) : EvC X env a S d S' := fun σ W r ok st Q q => h σ W r ok st Q fun v W' p _ => q v W' p.le p.ok p.st (.inl p.rep)
theorem ev_var {i : Nat} {x : Str} (e : getE env i = some d) (hN : X.N[i]? = some x) (hv : Vis X.env.scope x) (hd : (x == ("__debug__" : Str)) = false) (hcd : (x == ("__classdict__" : Str)) = false) : Ev X env (.Name x pos) S d S false := by
  intro σ W r ok st Q q
  have e' : env[i]? = some (some (.sh d)) := by
    unfold getE at e
    split at e
    · rename_i q; cases e; exact q
    · cases e
  obtain ⟨v, e1, rp⟩ := r.sh i d e'
  exact satE (pe_var hN hv hd hcd) ⟨v, e1, q v W ⟨.refl W, ok, st, rp⟩ fun z => by cases z⟩
theorem evc_own {i : Nat} {x : Str} (e : getO env i = some d) (hN : X.N[i]? = some x) (hv : Vis X.env.scope x) (hd : (x == ("__debug__" : Str)) = false) (hcd : (x == ("__classdict__" : Str)) = false) : EvC X env (.Name x pos) S d S := by
  intro σ W r ok st Q q
  have e' : env[i]? = some (some (.ow d)) := by
    unfold getO at e
    split at e
    · rename_i q; cases e; exact q
    · cases e
  obtain ⟨a, e1, o, rp⟩ := r.ow i d e'
  exact satE (pe_var hN hv hd hcd) ⟨.ref a, e1, q _ W (.refl W) ok st (.inr ⟨a, rfl, o, rp⟩)⟩
theorem ev_non {k : Nat} : Ev X env (.Constant .none k pos) S .non S fr := fun σ W r ok st Q q => satE pe_non (q .non W ⟨.refl W, ok, st, rfl⟩ fun _ => fresh_imm rfl)
theorem ev_bl {k : Nat} {b : Bool} : Ev X env (.Constant (.bool b) k pos) S (.bl b) S fr := fun σ W r ok st Q q => satE pe_bl (q (.bl b) W ⟨.refl W, ok, st, rfl⟩ fun _ => fresh_imm rfl)
theorem ev_int {k : Nat} {i : Int} : Ev X env (.Constant (.int i) k pos) S (.int i) S fr := fun σ W r ok st Q q => satE pe_int (q (.int i) W ⟨.refl W, ok, st, rfl⟩ fun _ => fresh_imm rfl)
theorem ev_str {k : Nat} {x : Str} : Ev X env (.Constant (.str x) k pos) S (.str x) S fr := fun σ W r ok st Q q => satE pe_str (q (.str x) W ⟨.refl W, ok, st, rfl⟩ fun _ => fresh_imm rfl)
theorem ev_globI {x : Str} {i : Int} (hg : Gl X x) (hm : ∃ t, X.mg x = some (.int i t)) (hd : (x == ("__debug__" : Str)) = false) : Ev X env (.Name x pos) S (.int i) S fr := fun σ W r ok st Q q => by
  obtain ⟨t, hm⟩ := hm
  exact satE (pe_glob (v := .int i) hg hm ⟨t, rfl⟩ hd) (q (.int i) W ⟨.refl W, ok, st, rfl⟩ fun _ => fresh_imm rfl)
theorem ev_globS {x z : Str} (hg : Gl X x) (hm : ∃ t, X.mg x = some (.str z t)) (hd : (x == ("__debug__" : Str)) = false) : Ev X env (.Name x pos) S (.str z) S fr := fun σ W r ok st Q q => by
  obtain ⟨t, hm⟩ := hm
  exact satE (pe_glob (v := .str z) hg hm ⟨t, rfl⟩ hd) (q (.str z) W ⟨.refl W, ok, st, rfl⟩ fun _ => fresh_imm rfl)
theorem evl_nil : EvL X env [] S [] S := fun σ W r ok st Q q => satA pa_nil (q [] W (.refl W) ok st rfl)
def noStar : Expr → Bool
  | .Starred _ _ => false
  | _ => true
theorem star_of {e : Expr} {es : List Expr} {env : Env} (h : noStar e = true) : starEach (e :: es) env = (false, eval e env) :: starEach es env := by
  cases e <;> first | rfl | cases h
theorem evl_cons {es : List Expr} {ds : List D} (h1 : Ev X env a S d S1 fr) (h2 : EvL X env es S1 ds S2) (n : noStar a = true) : EvL X env (a :: es) S (d :: ds) S2 := by
  intro σ W r ok st Q q
  refine satA (pa_cons pe_sat pa_sat (star_of n)) (h1 σ W r ok st _ fun v W1 p _ => h2 σ W1 (r.le ok p.le) p.ok p.st _ fun vs W2 l ok2 st2 rs => ?_)
  exact q (v :: vs) W2 (p.le.trans l) ok2 st2 ⟨v, vs, rfl, Rep.le l.leS d v p.rep, rs⟩
theorem evcl_nil : EvCL X env [] S [] S := fun σ W r ok st Q q => satA pa_nil (q [] W (.refl W) ok st rfl)
theorem TopL.le {W W' : Wd} {K : KW} (ok : WOk W) (h : Le W W') : ∀ {ds : List D} {vs : List V}, TopL K W ds vs → TopL K W' ds vs
  | [], vs, x => x
  | d :: ds, vs, x => by
    obtain ⟨v, vs', e, r, rs⟩ := x
    exact ⟨v, vs', e, r.le ok h, rs.le ok h⟩
theorem evcl_cons {es : List Expr} {ds : List D} (h1 : EvC X env a S d S1) (h2 : EvCL X env es S1 ds S2) (n : noStar a = true) : EvCL X env (a :: es) S (d :: ds) S2 := by
  intro σ W r ok st Q q
  refine satA (pa_cons pe_sat pa_sat (star_of n)) (h1 σ W r ok st _ fun v W1 l1 ok1 st1 t1 => h2 σ W1 (r.le ok l1) ok1 st1 _ fun vs W2 l ok2 st2 rs => ?_)
  exact q (v :: vs) W2 (l1.trans l) ok2 st2 ⟨v, vs, rfl, t1.le ok1 l, rs⟩
theorem ev_tup {es : List Expr} {ds : List D} {k : Nat} (h : EvL X env es S ds S') (n : ds.length ≤ sizeLine) : Ev X env (.Tuple es k pos) S (.tup ds) S' fr := by
  intro σ W r ok st Q q
  refine satE (pe_tup pa_sat) (h σ W r ok st _ fun vs W' l ok' st' rs => ⟨by rw [← rs.length]; exact n, fun p hp => ?_⟩)
  exact q (.ref p) (W'.up p (.tup vs)) (post_tup l ok' st' rs hp) fun _ => fresh_tup
theorem ev_lst {es : List Expr} {ds : List D} (h : EvL X env es S ds S') (n : ds.length ≤ sizeLine) : Ev X env (.List es pos) S (.lst ds) S' fr := by
  intro σ W r ok st Q q
  refine satE (pe_lst pa_sat) (h σ W r ok st _ fun vs W' l ok' st' rs => ⟨by rw [← rs.length]; exact n, fun p hp => ?_⟩)
  exact q (.ref p) (W'.up p (.lst vs)) (post_lst l ok' st' rs hp) fun _ => fresh_lst l ok' rs hp
theorem ev_dct : Ev X env (.Dict [] [] pos) S (.dct [] []) S fr := by
  intro σ W r ok st Q q
  refine satE pe_dnewK fun p hp => ?_
  exact q (.ref p) (W.up p (.dK [])) (post_dct (.refl W) ok st rfl rfl hp) fun _ => fresh_dct (.refl W) ok rfl rfl hp
/-- two operands by their tops, an operation by values -/
theorem ev2 {op : Expr} {r : R2} (hp : PE X op (tOp r (SatE X a) (SatE X b))) (h1 : EvC X env a S d1 S1) (h2 : EvC X env b S1 d2 S2)
    (hr : ∀ (W W2 : Wd) (x y : V) (Q : VK), Le W W2 → WOk W2 → SRep X.kw W2 S2 → TopRep X.kw W2 d1 x → TopRep X.kw W2 d2 y → (∀ v W', Post X.kw W S2 W' d v → (fr = true → Fresh X.kw W W' d v) → Q v W'.H) → r x y W2.H Q) : Ev X env op S d S2 fr := by
  intro σ W rr ok st Q q
  refine satE hp (h1 σ W rr ok st _ fun x W1 l1 ok1 st1 t1 => h2 σ W1 (rr.le ok l1) ok1 st1 _ fun y W2 l2 ok2 st2 t2 => ?_)
  exact hr W W2 x y Q (l1.trans l2) ok2 st2 (t1.le ok1 l2) t2 q
end
end FG

namespace FG
open PySem PySem.Spec PyProof.Rows L2
/-! ### dicts whose keys are tuples -/
section
variable {P : Program} {w : World} {W : Wd} {h : Heap}
mutual
theorem krep_is (ok : HOk P w W.H h) : ∀ (k : NK) (v : V) (u : Value), KRep W k v → RelV v u → NestedIs h k u
  | .none, v, u, x, r => by
    obtain rfl : v = .non := x
    rw [show u = Value.none from r]
    exact .none
  | .num i, v, u, x, r => by
    obtain rfl : v = .int i := x
    obtain ⟨t, rfl⟩ := r
    exact .int i t
  | .text s, v, u, x, r => by
    obtain rfl : v = .str s := x
    obtain ⟨t, rfl⟩ := r
    exact .text s t
  | .tup ks, v, u, x, r => by
    obtain ⟨a, vs, rfl, at_, rs⟩ := x
    obtain rfl : u = Value.ref a := r
    obtain ⟨_, its, rv, o, ho, hc, n, hd⟩ := ok a _ at_.1
    exact .tup ho hc hd (by simpa using krepL_is ok ks vs its rs rv)
theorem krepL_is (ok : HOk P w W.H h) : ∀ (ks : List NK) (vs : List V) (us : List Value), KRepL W ks vs → Vals vs us → NestedAll h ks us
  | [], vs, us, x, r => by
    obtain rfl : vs = [] := x
    cases r
    exact .nil
  | k :: ks, vs, us, x, r => by
    obtain ⟨v, vs', rfl, r1, r2⟩ := x
    cases r with
    | cons q qs => exact .cons (krep_is ok k v _ r1 q) (krepL_is ok ks vs' _ r2 qs)
end
abbrev PN : List NEnt → List (NK × Addr × Value) → Prop := Paired fun (p : NEnt) (q : NK × Addr × Value) => p.1 = q.1 ∧ p.2.1 = q.2.1 ∧ RelV p.2.2 q.2.2
theorem PN.mem : ∀ {xs : List NEnt} {us : List (NK × Addr × Value)}, PN xs us → ∀ u ∈ us, ∃ x ∈ xs, x.1 = u.1 ∧ x.2.1 = u.2.1
  | _, _, .nil, u, m => by cases m
  | _, _, .cons r t, u, m => by
    rcases List.mem_cons.mp m with e | m
    · subst e
      exact ⟨_, List.mem_cons_self, r.1, r.2.1⟩
    · obtain ⟨x, hx, e⟩ := PN.mem t u m
      exact ⟨x, List.mem_cons_of_mem _ hx, e⟩
theorem dn_rd {a : Addr} {xs : List NEnt} {ep : Nat} (ok : HOk P w W.H h) (e : W.H a = some (DN w a xs ep)) (ko : KeysOk W xs) : xs.length ≤ sizeLine ∧ (a == sysModules) = false ∧ ∃ us, PN xs us ∧ h.DictOfH (nestedKind P w) a us := by
  obtain ⟨⟨z, y, us, r, o, es, h1, h2, h3, h4, h5⟩, _⟩ := ok a _ e
  refine ⟨z, y, us, r, o, es, ep, h1, h2, h3, h4, fun u m => ?_, h5⟩
  obtain ⟨x, hx, e1, e2⟩ := PN.mem r u m
  obtain ⟨k1, k2⟩ := ko x hx
  rw [e1] at k1 k2
  rw [e2] at k1
  exact ⟨krep_is ok _ _ _ k1 rfl, k2⟩
/-- the value at a key -/
def nval : List NEnt → NK → Option V
  | [], _ => none
  | x :: xs, k => if x.1 = k then some x.2.2 else nval xs k
def nput (xs : List NEnt) (k : NK) (b : Addr) (v : V) : List NEnt := if (nval xs k).isSome then xs.map fun x => if x.1 = k then (x.1, x.2.1, v) else x else xs ++ [(k, b, v)]
theorem PN.val : ∀ {xs : List NEnt} {us : List (NK × Addr × Value)} (k : NK), PN xs us → RelO (nval xs k) ((atKey us k).map (·.2))
  | _, _, k, .nil => trivial
  | _, _, k, .cons (a := x) (b := u) r t => by
    have ih := PN.val k t
    by_cases e : x.1 = k
    · have e' : u.1 = k := by rw [← r.1]; exact e
      simp only [nval, e, if_true, atKey, List.find?_cons, e', decide_true, Option.map_some]
      exact r.2.2
    · have e' : ¬ u.1 = k := by rw [← r.1]; exact e
      simp only [nval, e, if_false]
      simp only [atKey, List.find?_cons, e', decide_false]
      exact ih
theorem RelO.some_iff {o : Option V} {u : Option Value} (r : RelO o u) : o.isSome = u.isSome := by
  cases o <;> cases u <;> first | rfl | exact r.elim
theorem PN.map {xs : List NEnt} {us : List (NK × Addr × Value)} (k : NK) {v : V} {u : Value} (rv : RelV v u) (r : PN xs us) : PN (xs.map fun x => if x.1 = k then (x.1, x.2.1, v) else x) (us.map (putAt k u)) := by
  induction r with
  | nil => exact .nil
  | @cons x y _ _ r _ ih =>
    refine .cons ?_ ih
    unfold putAt
    simp only
    by_cases e : x.1 = k
    · have e' : y.1 = k := by rw [← r.1]; exact e
      rw [if_pos e, if_pos e']
      exact ⟨r.1, r.2.1, rv⟩
    · have e' : ¬ y.1 = k := by rw [← r.1]; exact e
      rw [if_neg e, if_neg e']
      exact r
theorem PN.app {xs : List NEnt} {us : List (NK × Addr × Value)} {x : NEnt} {u : NK × Addr × Value} (q : x.1 = u.1 ∧ x.2.1 = u.2.1 ∧ RelV x.2.2 u.2.2) (r : PN xs us) : PN (xs ++ [x]) (us ++ [u]) := by
  induction r with
  | nil => exact .cons q .nil
  | cons r _ ih => exact .cons r ih
theorem PN.put {xs : List NEnt} {us : List (NK × Addr × Value)} (k : NK) (b : Addr) {v : V} {u : Value} (rv : RelV v u) (r : PN xs us) : PN (nput xs k b v) (storedH us k b u) := by
  have e := RelO.some_iff (PN.val k r)
  rw [Option.isSome_map] at e
  unfold nput storedH
  rw [e]
  split
  · exact PN.map k rv r
  · exact PN.app ⟨rfl, rfl, rv⟩ r
theorem nput_len (xs : List NEnt) (k : NK) (b : Addr) (v : V) : (nput xs k b v).length ≤ xs.length + 1 := by
  unfold nput
  split <;> simp
end
section
variable {K : KW} {W : Wd} {ks : List NK} {ds : List D} {xs : List NEnt} {d : D} {v : V}
mutual
theorem krep_of : ∀ (d : D) (k : NK) (v : V), keyOf d = some k → Rep K W d v → KRep W k v
  | .non, k, v, e, r => by cases e; exact r
  | .int i, k, v, e, r => by cases e; exact r
  | .str s, k, v, e, r => by cases e; exact r
  | .tup ds, k, v, e, r => by
    simp only [keyOf, Option.map_eq_some_iff] at e
    obtain ⟨ks, e, rfl⟩ := e
    obtain ⟨a, vs, e1, q, rs⟩ := r
    exact ⟨a, vs, e1, q, krepL_of ds ks vs e rs⟩
  | .bl b, k, v, e, r => by cases e
  | .lst ds, k, v, e, r => by cases e
  | .dct a b, k, v, e, r => by cases e
  | .scr ns, k, v, e, r => by cases e
  | .obj n, k, v, e, r => by cases e
  | .ndc a b, k, v, e, r => by cases e
theorem krepL_of : ∀ (ds : List D) (ks : List NK) (vs : List V), keysOf ds = some ks → RepL K W ds vs → KRepL W ks vs
  | [], ks, vs, e, r => by cases e; exact r
  | d :: ds, ks, vs, e, r => by
    unfold keysOf at e
    split at e
    · rename_i k ks' e1 e2
      cases e
      obtain ⟨v, vs', rfl, r1, r2⟩ := r
      exact ⟨v, vs', rfl, krep_of d k v e1 r1, krepL_of ds ks' vs' e2 r2⟩
    · cases e
end
mutual
theorem rep_key : ∀ (k : NK) (v : V), KRep W k v → Rep K W (keyD k) v
  | .none, v, r => r
  | .num i, v, r => r
  | .text s, v, r => r
  | .tup ks, v, r => by
    obtain ⟨a, vs, e1, q, rs⟩ := r
    exact ⟨a, vs, e1, q, repL_key ks vs rs⟩
theorem repL_key : ∀ (ks : List NK) (vs : List V), KRepL W ks vs → RepL K W (keyDs ks) vs
  | [], vs, r => r
  | k :: ks, vs, r => by
    obtain ⟨v, vs', e, r1, r2⟩ := r
    exact ⟨v, vs', e, rep_key k v r1, repL_key ks vs' r2⟩
end
theorem keyT_rep {k : NK} (e : keyT d = some k) (r : Rep K W d v) : KRep W k v ∧ k.depth ≤ 8 ∧ ∃ b, v = .ref b := by
  cases d with
  | tup ds =>
    simp only [keyT, Option.bind_eq_some_iff] at e
    obtain ⟨ks, e1, e2⟩ := e
    split at e2
    · rename_i hd
      cases e2
      obtain ⟨a, vs, rfl, q, rs⟩ := r
      exact ⟨⟨a, vs, rfl, q, krepL_of ds ks vs e1 rs⟩, hd, a, rfl⟩
    · cases e2
  | _ => cases e
theorem nlook : ∀ {xs : List NEnt} {ds : List D} {k : NK}, RepL K W ds (xs.map (·.2.2)) → (∀ d, dLook (xs.map (·.1)) ds k = some d → ∃ v, nval xs k = some v ∧ Rep K W d v) ∧ (dLook (xs.map (·.1)) ds k = none → nval xs k = none)
  | [], ds, k, r => ⟨fun d e => by simp [dLook] at e, fun _ => rfl⟩
  | x :: xs, ds, k, r => by
    cases ds with
    | nil => simp [RepL] at r
    | cons d ds =>
      obtain ⟨v, vs, e, r1, r2⟩ := r
      simp only [List.map_cons, List.cons.injEq] at e
      obtain ⟨rfl, rfl⟩ := e
      have ih := nlook (k := k) r2
      by_cases hk : x.1 = k
      · refine ⟨fun d' e => ?_, fun e => ?_⟩
        · simp only [List.map_cons, dLook, hk, if_true, Option.some.injEq] at e
          subst e
          exact ⟨x.2.2, by simp only [nval, hk, if_true], r1⟩
        · simp only [List.map_cons, dLook, hk, if_true] at e
          cases e
      · refine ⟨fun d' e => ?_, fun e => ?_⟩
        · simp only [List.map_cons, dLook, hk, if_false] at e
          obtain ⟨v, e1, e2⟩ := ih.1 d' e
          exact ⟨v, by simp only [nval, hk, if_false]; exact e1, e2⟩
        · simp only [List.map_cons, dLook, hk, if_false] at e
          simp only [nval, hk, if_false]
          exact ih.2 e
theorem nlook_isSome {k : NK} (r : RepL K W ds (xs.map (·.2.2))) : (nval xs k).isSome = (dLook (xs.map (·.1)) ds k).isSome := by
  cases h : dLook (xs.map (·.1)) ds k with
  | none => rw [(nlook r).2 h]; rfl
  | some d => obtain ⟨v, e, _⟩ := (nlook r).1 d h; rw [e]; rfl
theorem nmem {k : NK} : (nval xs k).isSome = true ↔ k ∈ xs.map (·.1) := by
  induction xs with
  | nil => simp [nval]
  | cons x xs ih =>
    by_cases hk : x.1 = k
    · simp [nval, hk]
    · have hk' : ¬ k = x.1 := fun z => hk z.symm
      simp only [nval, hk, if_false, List.map_cons, List.mem_cons, hk', false_or]
      exact ih
theorem nset_rep {k : NK} (rv : Rep K W d v) : ∀ {xs : List NEnt} {ds : List D}, RepL K W ds (xs.map (·.2.2)) → RepL K W (dSet (xs.map (·.1)) ds k d) ((xs.map fun x => if x.1 = k then (x.1, x.2.1, v) else x).map (·.2.2))
  | [], ds, r => by
    cases ds with
    | nil => simp [dSet, RepL]
    | cons _ _ => obtain ⟨_, _, e, _⟩ := r; cases e
  | x :: xs, ds, r => by
    cases ds with
    | nil => simp [RepL] at r
    | cons d' ds =>
      obtain ⟨u, vs, e, r1, r2⟩ := r
      simp only [List.map_cons, List.cons.injEq] at e
      obtain ⟨rfl, rfl⟩ := e
      simp only [List.map_cons, dSet]
      refine ⟨_, _, rfl, ?_, nset_rep rv r2⟩
      by_cases hk : x.1 = k
      · simp only [hk, if_true]; exact rv
      · simp only [hk, if_false]; exact r1
theorem nput_rep {k : NK} {b : Addr} (rv : Rep K W d v) (r : RepL K W ds (xs.map (·.2.2))) : (dPut (xs.map (·.1)) ds k d).1 = (nput xs k b v).map (·.1) ∧ RepL K W (dPut (xs.map (·.1)) ds k d).2 ((nput xs k b v).map (·.2.2)) := by
  unfold dPut nput
  by_cases hm : k ∈ xs.map (·.1)
  · rw [if_pos hm, if_pos (nmem.mpr hm)]
    refine ⟨?_, nset_rep rv r⟩
    rw [List.map_map]
    refine List.map_congr_left fun x _ => ?_
    simp only [Function.comp]
    split <;> rfl
  · rw [if_neg hm, if_neg (fun z => hm (nmem.mp z))]
    simp only [List.map_append, List.map_cons, List.map_nil]
    exact ⟨trivial, r.append (.one rv)⟩
theorem nput_keys {k : NK} {b : Addr} (ko : KeysOk W xs) (kr : KRep W k (.ref b)) (hd : k.depth ≤ 8) : KeysOk W (nput xs k b v) := by
  intro x m
  unfold nput at m
  split at m
  · obtain ⟨y, hy, rfl⟩ := List.mem_map.mp m
    have := ko y hy
    split
    · exact this
    · exact this
  · rcases List.mem_append.mp m with m | m
    · exact ko x m
    · rw [List.mem_singleton.mp m]; exact ⟨kr, hd⟩
theorem top_ndc (h : TopRep K W (.ndc ks ds) v) : ∃ a xs ep, v = .ref a ∧ W.H a = some (DN K.w a xs ep) ∧ ks = xs.map (·.1) ∧ KeysOk W xs ∧ RepL K W ds (xs.map (·.2.2)) := by
  rcases h with ⟨a, xs, e, ⟨ep, q⟩, k, ko, r⟩ | ⟨a, e, o, xs, ⟨ep, q⟩, k, ko, r⟩
  · exact ⟨a, xs, ep, e, q.1, k, ko, r⟩
  · exact ⟨a, xs, ep, e, q, k, ko, r⟩
theorem top_keyT {k : NK} (e : keyT d = some k) (h : TopRep K W d v) : KRep W k v ∧ k.depth ≤ 8 ∧ ∃ b, v = .ref b := by
  rcases h with h | ⟨a, _, _, z⟩
  · exact keyT_rep e h
  · cases d with
    | tup ds => exact z.elim
    | _ => cases e
end
/-! ### the operations, by data -/
section
variable {X : Cx} {pins : List (Addr × Obj)} {σ : L2.St} {W : Wd} {s : Shared} {a b : Addr} {xs : List NEnt} {ep : Nat} {k : NK} {A : Around} {E : Value → Shared → Prop}
theorem room8 (hu : A.units + 10 < cLine) : (nestedKind X.prog X.w).room A.in1 := by
  show A.in1.units + 8 < cLine
  rw [Around.in1_units]
  omega
theorem n_key (I : Inv X pins σ W.H s) (kr : KRep W k (.ref b)) (hd : k.depth ≤ 8) : (nestedKind X.prog X.w).is s.heap k b := ⟨krep_is I.hok k _ _ kr rfl, hd⟩
theorem n_get {v : V} {Q : Value → Shared → Prop} (hu : A.units + 10 < cLine) (I : Inv X pins σ W.H s) (e : W.H a = some (DN X.w a xs ep)) (ko : KeysOk W xs) (kr : KRep W k (.ref b)) (hd : k.depth ≤ 8) (hv : nval xs k = some v) (q : ∀ u s', Inv X pins σ W.H s' → RelV v u → Q u s') :
    wpAny (model X.prog X.w) A (getItem (.ref a) (.ref b)) Q E s := by
  obtain ⟨z, _, us, r, dd⟩ := dn_rd I.hok e ko
  have rv := PN.val k r
  rw [hv] at rv
  cases hk : atKey us k with
  | none => rw [hk] at rv; exact rv.elim
  | some p =>
    rw [hk] at rv
    exact wpAny_getItem_heap (room8 hu) (n_key I kr hd) dd hk (q _ _ (I.tok _) rv)
theorem n_in {Q : Value → Shared → Prop} (hu : A.units + 10 < cLine) (I : Inv X pins σ W.H s) (e : W.H a = some (DN X.w a xs ep)) (ko : KeysOk W xs) (kr : KRep W k (.ref b)) (hd : k.depth ≤ 8) (q : ∀ s', Inv X pins σ W.H s' → Q (.bool (nval xs k).isSome) s') :
    wpAny (model X.prog X.w) A (compareOp .In (.ref b) (.ref a)) Q E s := by
  obtain ⟨z, hs, us, r, dd⟩ := dn_rd I.hok e ko
  have rv := RelO.some_iff (PN.val k r)
  rw [Option.isSome_map] at rv
  refine wpAny_in_heap (room8 hu) (n_key I kr hd) hs dd ?_
  rw [← rv]
  exact q _ (I.tok _)
theorem n_notIn {Q : Value → Shared → Prop} (hu : A.units + 10 < cLine) (I : Inv X pins σ W.H s) (e : W.H a = some (DN X.w a xs ep)) (ko : KeysOk W xs) (kr : KRep W k (.ref b)) (hd : k.depth ≤ 8) (q : ∀ s', Inv X pins σ W.H s' → Q (.bool (!(nval xs k).isSome)) s') :
    wpAny (model X.prog X.w) A (compareOp .NotIn (.ref b) (.ref a)) Q E s := by
  obtain ⟨z, hs, us, r, dd⟩ := dn_rd I.hok e ko
  have rv := RelO.some_iff (PN.val k r)
  rw [Option.isSome_map] at rv
  refine wpAny_notIn_heap (room8 hu) (n_key I kr hd) hs dd ?_
  rw [← rv]
  exact q _ (I.tok _)
theorem dn_new {H' : Hp} {h' : Heap} {us : List (NK × Addr × Value)} (z : xs.length ≤ sizeLine) (hs : (a == sysModules) = false) (r : PN xs us) (dd : h'.DictOfH (nestedKind X.prog X.w) a us) : ∃ ep, ObjOk X.prog X.w H' h' a (DN X.w a xs ep) := by
  obtain ⟨o, es, ep, h1, h2, h3, h4, _, h5⟩ := dd
  refine ⟨ep, ⟨z, hs, us, r, o, es, h1, h2, h3, h4, h5⟩, ⟨o, h1⟩, fun g1 g2 y k => ?_⟩
  obtain ⟨z, hs, us, r, o, es, h1, h2⟩ := y
  exact ⟨z, hs, us, r, o, es, k o h1, h2⟩
theorem n_set {v : V} {u : Value} {Q : Unit → Shared → Prop} (hu : A.units + 10 < cLine) (I : Inv X pins σ W.H s) (e : W.H a = some (DN X.w a xs ep)) (ko : KeysOk W xs) (kr : KRep W k (.ref b)) (hd : k.depth ≤ 8) (hl : xs.length < sizeLine) (rv : RelV v u) (q : ∀ ep' s', Inv X pins σ (upd W.H a (DN X.w a (nput xs k b v) ep')) s' → Q () s') :
    wpAny (model X.prog X.w) A (setItem (.ref a) (.ref b) u) Q E s := by
  obtain ⟨z, hs, us, r, dd⟩ := dn_rd I.hok e ko
  have hz : us.length ≤ sizeLine := by rw [← Paired.length r]; exact z
  refine wpAny_setItem_heap (hsz := hz) (room8 hu) (n_key I kr hd) dd fun h' dd' same => ?_
  obtain ⟨ep', new⟩ := dn_new (X := X) (H' := upd W.H a (DN X.w a (nput xs k b v) 0)) (by have := nput_len xs k b v; omega) hs (PN.put k b rv r) dd'
  refine q ep' _ ?_
  have he : ∃ o, h'.get? a = some o := let ⟨o, _, _, ho, _⟩ := dd'; ⟨o, ho⟩
  exact d_write I (by rw [e]; exact True.intro) same he new
theorem dn_type (I : Inv X pins σ W.H s) (e : W.H a = some (DN X.w a xs ep)) (ko : KeysOk W xs) : s.TypeIs (.ref a) "dict" := by
  obtain ⟨_, _, us, _, dd⟩ := dn_rd I.hok e ko
  exact dd.typeIs
end
/-! d[k] -/
def rIxN (K : KW) : R2 := fun x y H Q => ∃ W ks ds d2 d, H = W.H ∧ TopRep K W (.ndc ks ds) x ∧ TopRep K W d2 y ∧ idxF (.ndc ks ds) d2 = some d ∧ ∀ v, Rep K W d v → Q v H
section
variable {X : Cx} {o i : Expr} {td ty : TE} {pos : Pos}
theorem pe_nget (hu : X.A.units + 10 < cLine) (ho : PE X o td) (hi : PE X i ty) (hs : NoSl i) : PE X (.Subscript o i pos) (tOp (rIxN X.kw) td ty) := by
  refine ⟨fun pins s σ H Q I h => subD_of PySem.F.slot_dict_getitem.lookup hs (thn (ho.run pins s σ H _ I h) fun u s1 ⟨x, H1, I1, rx, q1⟩ => thn (hi.run pins s1 σ H1 _ I1 q1) fun iv s2 ⟨y, H2, I2, ry, q2⟩ => ?_)⟩
  obtain ⟨W, ks, ds, d2, d, rfl, t1, t2, e, q⟩ := q2
  obtain ⟨a, xs, ep, rfl, hp, rfl, ko, rs⟩ := top_ndc t1
  simp only [idxF, Option.bind_eq_some_iff] at e
  obtain ⟨k, ek, e⟩ := e
  obtain ⟨kr, hd, b, rfl⟩ := top_keyT ek t2
  obtain rfl : u = Value.ref a := rx
  obtain rfl : iv = Value.ref b := ry
  obtain ⟨v, ev, rv⟩ := (nlook rs).1 d e
  exact ⟨dn_type I2 hp ko, n_get hu I2 hp ko kr hd ev fun u s3 I3 ru => ⟨v, W.H, I3, ru, q v rv⟩⟩
end
end FG

namespace FG
open PySem PySem.Spec PyProof.Rows L2

/-! ### tops -/
section
variable {K : KW} {W : Wd} {v : V} {ds : List D} {ks : List NK} {d : D}
theorem top_lst (h : TopRep K W (.lst ds) v) : ∃ a vs, v = .ref a ∧ W.H a = some (.lst vs) ∧ RepL K W ds vs := by
  rcases h with ⟨a, vs, e, q, r⟩ | ⟨a, e, o, vs, q, r⟩
  · exact ⟨a, vs, e, q.1, r⟩
  · exact ⟨a, vs, e, q, r⟩
theorem top_tup (h : TopRep K W (.tup ds) v) : ∃ a vs, v = .ref a ∧ W.H a = some (.tup vs) ∧ RepL K W ds vs := by
  rcases h with ⟨a, vs, e, q, r⟩ | ⟨a, e, o, z⟩
  · exact ⟨a, vs, e, q.1, r⟩
  · exact z.elim
theorem top_dct (h : TopRep K W (.dct ks ds) v) : ∃ a kvs, v = .ref a ∧ Rd W.H a (.dK kvs) ∧ ks = kvs.map (fun p => kNK p.1) ∧ RepL K W ds (kvs.map (·.2)) := by
  rcases h with ⟨a, kvs, e, ⟨o, q, z⟩, k, r⟩ | ⟨a, e, o, kvs, q, k, r⟩
  · refine ⟨a, kvs, e, ?_, k, r⟩
    rcases z with rfl | ⟨ob, rfl⟩
    · exact .inl q.1
    · exact .inr ⟨ob, q.1⟩
  · exact ⟨a, kvs, e, .inl q, k, r⟩
theorem top_scr {ns : List Int} (h : TopRep K W (.scr ns) v) : ∃ a, v = .ref a ∧ SqL K W.H a (ns.map V.int) := by
  rcases h with ⟨a, e, q⟩ | ⟨a, e, o, z⟩
  · refine ⟨a, e, ?_⟩
    rcases q with ⟨o, q, ob, rfl⟩ | q
    · exact .inl (.inr ⟨ob, q.1⟩)
    · exact .inr q
  · exact z.elim
theorem top_int {i : Int} (h : TopRep K W (.int i) v) : v = .int i := by
  rcases h with h | ⟨a, e, o, z⟩
  · exact h
  · exact z.elim
theorem top_str {s : Str} (h : TopRep K W (.str s) v) : v = .str s := by
  rcases h with h | ⟨a, e, o, z⟩
  · exact h
  · exact z.elim
theorem top_bl {b : Bool} (h : TopRep K W (.bl b) v) : v = .bl b := by
  rcases h with h | ⟨a, e, o, z⟩
  · exact h
  · exact z.elim
theorem top_non (h : TopRep K W .non v) : v = .non := by
  rcases h with h | ⟨a, e, o, z⟩
  · exact h
  · exact z.elim
theorem atI_rep {vs : List V} {i : Int} (r : RepL K W ds vs) (h : atI ds i = some d) : ∃ v, atI vs i = some v ∧ Rep K W d v := by
  unfold atI at h ⊢
  rw [← r.length]
  cases e : ixN ds.length i with
  | none => rw [e] at h; cases h
  | some j =>
    rw [e] at h
    exact r.get h
theorem cut_rep {vs : List V} (r : RepL K W ds vs) (lo hi : Option Int) : RepL K W (cutD ds lo hi) (cutV vs lo hi) := by
  unfold cutD cutV
  rw [← r.length]
  exact (r.drop _).take _
theorem look_some {k : Key} : ∀ {kvs : List (Key × V)} {ks : List NK} {ds : List D}, ks = kvs.map (fun p => kNK p.1) → RepL K W ds (kvs.map (·.2)) → dLook ks ds (kNK k) = some d → ∃ v, valV kvs k = some v ∧ Rep K W d v
  | [], ks, ds, e, r, h => by
    subst e
    simp [dLook] at h
  | p :: kvs, ks, ds, e, r, h => by
    subst e
    cases ds with
    | nil => simp [RepL] at r
    | cons d' ds =>
      obtain ⟨v, vs', e', r', rs⟩ := r
      simp only [List.map_cons, List.cons.injEq] at e'
      obtain ⟨rfl, rfl⟩ := e'
      simp only [List.map_cons, dLook] at h
      by_cases hk : kNK p.1 = kNK k
      · rw [if_pos hk] at h
        cases h
        exact ⟨p.2, valV_pos (kNK_inj hk), r'⟩
      · rw [if_neg hk] at h
        obtain ⟨v, e, q⟩ := look_some rfl rs h
        exact ⟨v, by rw [valV_neg (fun z => hk (by rw [z]))]; exact e, q⟩
theorem look_none {k : Key} : ∀ {kvs : List (Key × V)} {ks : List NK} {ds : List D}, ks = kvs.map (fun p => kNK p.1) → RepL K W ds (kvs.map (·.2)) → dLook ks ds (kNK k) = none → valV kvs k = none
  | [], ks, ds, e, r, h => rfl
  | p :: kvs, ks, ds, e, r, h => by
    subst e
    cases ds with
    | nil => simp [RepL] at r
    | cons d' ds =>
      obtain ⟨v, vs', e', r', rs⟩ := r
      simp only [List.map_cons, List.cons.injEq] at e'
      obtain ⟨rfl, rfl⟩ := e'
      simp only [List.map_cons, dLook] at h
      by_cases hk : kNK p.1 = kNK k
      · rw [if_pos hk] at h
        cases h
      · rw [if_neg hk] at h
        rw [valV_neg (fun z => hk (by rw [z]))]
        exact look_none rfl rs h
theorem set_rep {k : Key} {x : D} {v : V} (rx : Rep K W x v) : ∀ {kvs : List (Key × V)} {ds : List D}, RepL K W ds (kvs.map (·.2)) → RepL K W (dSet (kvs.map fun p => kNK p.1) ds (kNK k) x) ((kvs.map fun kv => if kv.1 = k then (kv.1, v) else kv).map (·.2))
  | [], ds, r => by simp [dSet, RepL]
  | p :: kvs, ds, r => by
    cases ds with
    | nil => simp [RepL] at r
    | cons d' ds =>
      obtain ⟨v', vs', e', r', rs⟩ := r
      simp only [List.map_cons, List.cons.injEq] at e'
      obtain ⟨rfl, rfl⟩ := e'
      simp only [List.map_cons, dSet]
      refine ⟨_, _, rfl, ?_, set_rep rx rs⟩
      by_cases hk : p.1 = k
      · rw [if_pos hk, if_pos (by rw [hk])]
        exact rx
      · rw [if_neg hk, if_neg (fun z => hk (kNK_inj z))]
        exact r'
theorem put_rep {k : Key} {x : D} {v : V} {kvs : List (Key × V)} {ds : List D} (rx : Rep K W x v) (r : RepL K W ds (kvs.map (·.2))) :
    (dPut (kvs.map fun p => kNK p.1) ds (kNK k) x).1 = (putK kvs k v).map (fun p => kNK p.1) ∧ RepL K W (dPut (kvs.map fun p => kNK p.1) ds (kNK k) x).2 ((putK kvs k v).map (·.2)) := by
  unfold dPut putK
  by_cases hm : kNK k ∈ kvs.map fun p => kNK p.1
  · have ha : (kvs.any fun kv => decide (kv.1 = k)) = true := by
      obtain ⟨p, hp, e⟩ := List.mem_map.mp hm
      exact List.any_eq_true.mpr ⟨p, hp, decide_eq_true (kNK_inj e)⟩
    rw [if_pos hm, if_pos ha]
    refine ⟨?_, set_rep rx r⟩
    rw [List.map_map]
    refine List.map_congr_left fun p _ => ?_
    by_cases e : p.1 = k <;> simp [e]
  · have ha : ¬ (kvs.any fun kv => decide (kv.1 = k)) = true := fun z => by
      obtain ⟨p, hp, e⟩ := List.any_eq_true.mp z
      exact hm (List.mem_map.mpr ⟨p, hp, by rw [of_decide_eq_true e]⟩)
    rw [if_neg hm, if_neg ha]
    simp only [List.map_append, List.map_cons, List.map_nil]
    exact ⟨trivial, r.append (.one rx)⟩
theorem put_len {k : Key} {v : V} {kvs : List (Key × V)} : (putK kvs k v).length ≤ kvs.length + 1 := by
  unfold putK
  split
  · simp
  · simp
theorem RepL.len_dK {kvs : List (Key × V)} (e : ks = kvs.map (fun p => kNK p.1)) : ks.length = kvs.length := by rw [e, List.length_map]
end

section
variable {X : Cx} {env : En} {S S' S1 S2 S3 : Sto} {d d1 d2 d3 : D} {a b z : Expr} {fr : Bool} {pos : Pos}
def noSlice : Expr → Bool
  | .Slice _ _ _ _ => false
  | _ => true
theorem plainIx {b : Expr} (h : noSlice b = true) : PlainIx b := fun o i => by
  cases b <;> first | rfl | cases h
theorem ev_idx (hu : X.A.units + 10 < cLine) (hs : noSlice b = true) (h1 : EvC X env a S d1 S1) (h2 : EvC X env b S1 d2 S2) (e : idxF d1 d2 = some d) : Ev X env (.Subscript a b pos) S d S2 false := by
  cases d1 with
  | tup ds =>
    cases d2 with
    | int i =>
      refine ev2 (pe_ix ix_tup pe_sat pe_sat (plainIx hs)) h1 h2 fun W W2 x y Q l ok st t1 t2 q => ?_
      obtain ⟨p, vs, rfl, hp, rs⟩ := top_tup t1
      cases top_int t2
      obtain ⟨v, ev, rv⟩ := atI_rep rs e
      exact ⟨p, vs, i, v, rfl, rfl, SqT.of hp, ev, q v W2 ⟨l, ok, st, rv⟩ fun z => by cases z⟩
    | _ => cases e
  | lst ds =>
    cases d2 with
    | int i =>
      refine ev2 (pe_ix ix_list pe_sat pe_sat (plainIx hs)) h1 h2 fun W W2 x y Q l ok st t1 t2 q => ?_
      obtain ⟨p, vs, rfl, hp, rs⟩ := top_lst t1
      cases top_int t2
      obtain ⟨v, ev, rv⟩ := atI_rep rs e
      exact ⟨p, vs, i, v, rfl, rfl, SqL.of hp, ev, q v W2 ⟨l, ok, st, rv⟩ fun z => by cases z⟩
    | _ => cases e
  | scr ns =>
    cases d2 with
    | int i =>
      refine ev2 (pe_ix ix_list pe_sat pe_sat (plainIx hs)) h1 h2 fun W W2 x y Q l ok st t1 t2 q => ?_
      obtain ⟨p, rfl, hp⟩ := top_scr t1
      cases top_int t2
      simp only [idxF, Option.map_eq_some_iff] at e
      obtain ⟨n, en, rfl⟩ := e
      refine ⟨p, _, i, .int n, rfl, rfl, hp, ?_, q _ W2 ⟨l, ok, st, rfl⟩ fun z => by cases z⟩
      unfold atI at en ⊢
      rw [List.length_map]
      cases ej : ixN ns.length i with
      | none => rw [ej] at en; cases en
      | some j =>
        rw [ej] at en
        show (ns.map V.int)[j]? = some (.int n)
        rw [List.getElem?_map, show ns[j]? = some n from en]
        rfl
    | _ => cases e
  | dct ks ds =>
    simp only [idxF] at e
    cases d2 with
    | str s =>
      refine ev2 (r := fun x y H Q => ∃ a v, x = .ref a ∧ DGet H a y (some v) ∧ Q v H) (pe_dget (by omega) pe_sat pe_sat (plainIx hs)) h1 h2 fun W W2 x y Q l ok st t1 t2 q => ?_
      obtain ⟨p, kvs, rfl, hp, k, rs⟩ := top_dct t1
      cases top_str t2
      obtain ⟨v, ev, rv⟩ := look_some (k := .inr s) k rs e
      exact ⟨p, v, rfl, .inl ⟨kvs, .inr s, hp, rfl, ev.symm⟩, q v W2 ⟨l, ok, st, rv⟩ fun z => by cases z⟩
    | _ => cases e
  | ndc ks ds =>
    refine ev2 (pe_nget hu pe_sat pe_sat (plainIx hs)) h1 h2 fun W W2 x y Q l ok st t1 t2 q => ?_
    exact ⟨W2, ks, ds, d2, d, rfl, t1, t2, e, fun v rv => q v W2 ⟨l, ok, st, rv⟩ fun z => by cases z⟩
  | _ => cases e
theorem ev_idxS (hu : X.A.units + 10 < cLine) (hs : noSlice b = true) (h1 : EvC X env a S d1 S1) (h2 : EvC X env b S1 d2 S2) (e : idxS S2 d1 d2 = some d) : Ev X env (.Subscript a b pos) S d S2 false := by
  cases d1 with
  | obj n =>
    cases d2 with
    | int i =>
      simp only [idxS] at e
      split at e
      · rename_i ds eS
        refine ev2 (pe_ix ix_list pe_sat pe_sat (plainIx hs)) h1 h2 fun W W2 x y Q l ok st t1 t2 q => ?_
        cases top_int t2
        rcases t1 with ⟨p, rfl, ec⟩ | ⟨p, rfl, _, z⟩
        · obtain ⟨_, vs, hp, rs⟩ := st.at_ n _ p eS ec
          obtain ⟨v, ev, rv⟩ := atI_rep rs e
          exact ⟨p, vs, i, v, rfl, rfl, SqL.of hp, ev, q v W2 ⟨l, ok, st, rv⟩ fun z => by cases z⟩
        · exact z.elim
      · cases e
    | _ => cases e
  | _ => exact ev_idx hu hs h1 h2 e
/-! slices -/
theorem ev_slc {lo hi : Option Expr} {tl th : TO} {p2 : Pos} {l h : Option Int} (hl : PO X lo tl) (hh : PO X hi th) (h1 : EvC X env a S d1 S1)
    (h2 : ∀ (σ : L2.St) (W : Wd), EnvR X.kw W env σ → WOk W → SRep X.kw W S1 → ∀ Q : Hp → Prop, (∀ W', Le W W' → WOk W' → SRep X.kw W' S2 → Q W'.H) → tl σ W.H fun u H1 => th σ H1 fun w H2 => u = l ∧ w = h ∧ Q H2)
    (tm : ∀ (σ : L2.St) (H : Hp) (Q Q' : Option Int → Hp → Prop), (∀ o H, Q o H → Q' o H) → tl σ H Q → tl σ H Q') (hm : ∀ (σ : L2.St) (H : Hp) (Q Q' : Option Int → Hp → Prop), (∀ o H, Q o H → Q' o H) → th σ H Q → th σ H Q')
    (e : slcF d1 l h = some d) : Ev X env (.Subscript a (.Slice lo hi none p2) pos) S d S2 fr := by
  have go : ∀ {r : V → Option Int → Option Int → Hp → VK → Prop}, SlR X r → (∀ (W W2 : Wd) (x : V) (Q : VK), Le W W2 → WOk W2 → SRep X.kw W2 S2 → TopRep X.kw W2 d1 x → (∀ v W', Post X.kw W S2 W' d v → (fr = true → Fresh X.kw W W' d v) → Q v W'.H) → r x l h W2.H Q) → Ev X env (.Subscript a (.Slice lo hi none p2) pos) S d S2 fr := by
    intro r hr k σ W rr ok st Q q
    refine satE (pe_slice hr pe_sat hl hh) (h1 σ W rr ok st _ fun x W1 l1 ok1 st1 t1 => ?_)
    refine tm _ _ _ _ (fun u H1 z => hm _ _ _ _ (fun w H2 z2 => ?_) z) (h2 σ W1 (rr.le ok l1) ok1 st1 (fun H2 => r x l h H2 Q) fun W2 l2 ok2 st2 => ?_)
    · obtain ⟨rfl, rfl, z2⟩ := z2
      exact z2
    · exact k W W2 x Q (l1.trans l2) ok2 st2 (t1.le ok1 l2) q
  cases d1 with
  | tup ds =>
    cases e
    refine go sl_tupA fun W W2 x Q l0 ok st t1 q => ?_
    obtain ⟨p, vs, rfl, hp, rs⟩ := id (top_tup t1)
    have rp : Rep X.kw W2 (.tup ds) (.ref p) := by
      rcases t1 with t1 | ⟨_, _, _, z⟩
      · exact t1
      · exact z.elim
    refine ⟨p, vs, rfl, SqT.of hp, fun hw => ?_, fun hw p' hp' => ?_⟩
    · have ec : cutD ds l h = ds := by
        unfold cutD
        rw [rs.length, hw.1, hw.2]
        simp [← rs.length]
      rw [ec] at q
      exact q _ W2 ⟨l0, ok, st, rp⟩ fun _ => fresh_tup
    · exact q _ _ (post_tup l0 ok st (cut_rep rs l h) hp') fun _ => fresh_tup
  | lst ds =>
    cases e
    refine go sl_list fun W W2 x Q l0 ok st t1 q => ?_
    obtain ⟨p, vs, rfl, hp, rs⟩ := top_lst t1
    refine ⟨p, vs, rfl, SqL.of hp, fun p' hp' => ?_⟩
    exact q _ _ (post_lst l0 ok st (cut_rep rs l h) hp') fun _ => fresh_lst l0 ok (cut_rep rs l h) hp'
  | _ => cases e
theorem SatE.mono {σ : L2.St} {H : Hp} {Q Q' : VK} (h : ∀ v H, Q v H → Q' v H) (x : SatE X a σ H Q) : SatE X a σ H Q' := fun pins s I => thn (x pins s I) fun v s1 ⟨x, H1, I1, r1, q1⟩ => ⟨x, H1, I1, r1, h _ _ q1⟩
theorem part_mono (σ : L2.St) (H : Hp) (Q Q' : Option Int → Hp → Prop) (h : ∀ o H, Q o H → Q' o H) (x : tPart (SatE X a) σ H Q) : tPart (SatE X a) σ H Q' :=
  SatE.mono (fun v H1 ⟨i, e, q⟩ => ⟨i, e, h _ _ q⟩) x
theorem no_mono (σ : L2.St) (H : Hp) (Q Q' : Option Int → Hp → Prop) (h : ∀ o H, Q o H → Q' o H) (x : tNoPart σ H Q) : tNoPart σ H Q' := h _ _ x
theorem ev_slf {i : Int} {p2 : Pos} (h1 : EvC X env a S d1 S1) (h2 : Ev X env b S1 (.int i) S2 false) (e : slcF d1 (some i) none = some d) : Ev X env (.Subscript a (.Slice (some b) none none p2) pos) S d S2 fr :=
  ev_slc (po_some pe_sat) po_none h1 (fun σ W r ok st Q q => h2 σ W r ok st _ fun v W' p _ => ⟨i, p.rep, rfl, rfl, q W' p.le p.ok p.st⟩) part_mono no_mono e
theorem ev_slt {i : Int} {p2 : Pos} (h1 : EvC X env a S d1 S1) (h2 : Ev X env b S1 (.int i) S2 false) (e : slcF d1 none (some i) = some d) : Ev X env (.Subscript a (.Slice none (some b) none p2) pos) S d S2 fr :=
  ev_slc po_none (po_some pe_sat) h1 (fun σ W r ok st Q q => h2 σ W r ok st _ fun v W' p _ => ⟨i, p.rep, rfl, rfl, q W' p.le p.ok p.st⟩) no_mono part_mono e
theorem ev_sl {i j : Int} {p2 : Pos} (h1 : EvC X env a S d1 S1) (h2 : Ev X env b S1 (.int i) S2 false) (h3 : Ev X env z S2 (.int j) S3 false) (e : slcF d1 (some i) (some j) = some d) : Ev X env (.Subscript a (.Slice (some b) (some z) none p2) pos) S d S3 fr :=
  ev_slc (po_some pe_sat) (po_some pe_sat) h1 (fun σ W r ok st Q q => h2 σ W r ok st _ fun v W' p _ => ⟨i, p.rep, h3 σ W' (r.le ok p.le) p.ok p.st _ fun u W2 p2 _ => ⟨j, p2.rep, rfl, rfl, q W2 (p.le.trans p2.le) p2.ok p2.st⟩⟩) part_mono part_mono e
theorem ev_rev {ds : List D} {k : Nat} {p1 p2 p3 : Pos} (h1 : EvC X env a S (.lst ds) S1) : Ev X env (.Subscript a (.Slice none none (some (.UnaryOp .USub (.Constant (.int 1) k p1) p2)) p3) pos) S (.lst ds.reverse) S1 fr := by
  intro σ W r ok st Q q
  refine satE (pe_revL pe_sat) (h1 σ W r ok st _ fun x W1 l1 ok1 st1 t1 => ?_)
  obtain ⟨p, vs, rfl, hp, rs⟩ := top_lst t1
  exact ⟨p, vs, rfl, SqL.of hp, fun p' hp' => q _ _ (post_lst l1 ok1 st1 rs.reverse hp') fun _ => fresh_lst l1 ok1 rs.reverse hp'⟩
theorem ev_neg {i : Int} (h1 : Ev X env a S (.int i) S1 false) : Ev X env (.UnaryOp .USub a pos) S (.int (-i)) S1 fr := by
  intro σ W r ok st Q q
  refine satE (pe_un un_neg pe_sat) (h1 σ W r ok st _ fun x W1 p _ => ?_)
  exact ⟨i, p.rep, q _ W1 ⟨p.le, p.ok, p.st, rfl⟩ fun _ => fresh_imm rfl⟩
end
end FG

namespace FG
open PySem PySem.Spec PyProof.Rows L2
section
variable {X : Cx} {env : En} {S S' S1 S2 S3 : Sto} {d d1 d2 d3 : D} {a b z : Expr} {fr : Bool} {pos : Pos}
theorem big_eq : big = sizeLine := by rw [sizeLine_eq]; rfl
def bOp : BOp → Operator
  | .add => .Add
  | .sub => .Sub
  | .mul => .Mult
  | .fdiv => .FloorDiv
  | .mod => .Mod
  | .pow => .Pow
/-- two ints -/
theorem ev_bin_int {op : Operator} {C : Int → Int → Prop} {g : Int → Int → Int} {i j : Int} (ho : OpR X (binaryOp op) (rI C fun i j => .int (g i j))) (h1 : EvC X env a S (.int i) S1) (h2 : EvC X env b S1 (.int j) S2) (c : C i j) : Ev X env (.BinOp a op b pos) S (.int (g i j)) S2 fr := by
  refine ev2 (pe_op ho pe_sat pe_sat) h1 h2 fun W W2 x y Q l ok st t1 t2 q => ?_
  cases top_int t1
  cases top_int t2
  exact ⟨i, j, rfl, rfl, c, q _ W2 ⟨l, ok, st, rfl⟩ fun _ => fresh_imm rfl⟩
theorem ev_bin_int0 {op : Operator} {g : Int → Int → Int} {i j : Int} (ho : OpR X (binaryOp op) (rI0 fun i j => .int (g i j))) (h1 : EvC X env a S (.int i) S1) (h2 : EvC X env b S1 (.int j) S2) : Ev X env (.BinOp a op b pos) S (.int (g i j)) S2 fr := by
  refine ev2 (pe_op ho pe_sat pe_sat) h1 h2 fun W W2 x y Q l ok st t1 t2 q => ?_
  cases top_int t1
  cases top_int t2
  exact ⟨i, j, rfl, rfl, q _ W2 ⟨l, ok, st, rfl⟩ fun _ => fresh_imm rfl⟩
theorem rep_flat {K : KW} {W : Wd} {xs : List D} {vs : List V} (r : RepL K W xs vs) : ∀ n : Nat, RepL K W (List.replicate n xs).flatten (List.replicate n vs).flatten
  | 0 => rfl
  | n + 1 => by
    rw [List.replicate_succ, List.replicate_succ, List.flatten_cons, List.flatten_cons]
    exact r.append (rep_flat r n)
theorem tuple_mul1 (l : Addr) (items : Array Value) (n : Nat) (dd : Option Addr) (sl : Array (Option Value)) (u : Tok) :
    Meets (Builtin.«tuple.__mul__» ⟨[.ref l, .int 1 u], []⟩) (fun _ R s => s.heap.get? l = some { cls := .type "tuple", dict := dd, data := .seq items n, slots := sl } ∧ R (.ok (.ret (Value.ref l))) s) :=
  .of_wp fun prog w A R s h => by
    obtain ⟨hp, g, d, tk, os⟩ := s
    obtain ⟨hl, h⟩ := h
    have f1 := AutoSeq1.idx_int
    have c1 : (items.isEmpty || (1 : Int) == 1) = true := by simp
    wp_walk using wpAny_loadPart' hl
    repeat (first
      | (refine wpAny_ite_false (decide_eq_false (by decide)) ?_; wp_walk using wpAny_loadPart' hl)
      | (refine wpAny_ite_true (decide_eq_true (by rw [c1])) ?_; wp_walk using wpAny_loadPart' hl))
    exact ⟨_, rfl, h⟩
theorem ev_bin {op : BOp} (hr : X.A.units + 64 < cLine) (h1 : EvC X env a S d1 S1) (h2 : EvC X env b S1 d2 S2) (e : binF op d1 d2 = some d) : Ev X env (.BinOp a (bOp op) b pos) S d S2 fr := by
  cases op with
  | add =>
    cases d1 with
    | int i =>
      cases d2 with
      | int j => cases e; exact ev_bin_int0 op_add h1 h2
      | _ => cases e
    | lst xs =>
      cases d2 with
      | lst ys =>
        simp only [binF] at e
        split at e
        · rename_i hz
          cases e
          refine ev2 (pe_op op_cat pe_sat pe_sat) h1 h2 fun W W2 x y Q l ok st t1 t2 q => ?_
          obtain ⟨p, vs, rfl, hp, rs⟩ := top_lst t1
          obtain ⟨p', us, rfl, hp', rs'⟩ := top_lst t2
          refine ⟨p, p', vs, us, rfl, rfl, hp, hp', by rw [← rs.length, ← rs'.length, ← big_eq]; exact hz, fun n hn => ?_⟩
          exact q _ _ (post_lst l ok st (rs.append rs') hn) fun _ => fresh_lst l ok (rs.append rs') hn
        · cases e
      | _ => cases e
    | tup xs =>
      cases d2 with
      | tup ys =>
        simp only [binF] at e
        split at e
        · rename_i hz
          cases e
          refine ev2 (pe_op op_catA pe_sat pe_sat) h1 h2 fun W W2 x y Q l ok st t1 t2 q => ?_
          have r1 : Rep X.kw W2 (.tup xs) x := by
            rcases t1 with t1 | ⟨_, _, _, z⟩
            · exact t1
            · exact z.elim
          have r2 : Rep X.kw W2 (.tup ys) y := by
            rcases t2 with t1 | ⟨_, _, _, z⟩
            · exact t1
            · exact z.elim
          obtain ⟨p, vs, rfl, hp, rs⟩ := id r1
          obtain ⟨p', us, rfl, hp', rs'⟩ := id r2
          refine ⟨p, p', vs, us, rfl, rfl, SqT.of hp.1, SqT.of hp'.1, by rw [← rs.length, ← rs'.length, ← big_eq]; exact hz, fun e0 => ?_, fun e0 e1 => ?_, fun _ _ n hn => ?_⟩
          · have x0 : xs = [] := List.length_eq_zero_iff.mp (by rw [rs.length, e0]; rfl)
            subst x0
            exact q _ W2 ⟨l, ok, st, r2⟩ fun _ => fresh_tup
          · have y0 : ys = [] := List.length_eq_zero_iff.mp (by rw [rs'.length, e1]; rfl)
            subst y0
            rw [List.append_nil] at q
            exact q _ W2 ⟨l, ok, st, r1⟩ fun _ => fresh_tup
          · exact q _ _ (post_tup l ok st (rs.append rs') hn) fun _ => fresh_tup
        · cases e
      | _ => cases e
    | _ => cases e
  | sub =>
    cases d1 with
    | int i =>
      cases d2 with
      | int j => cases e; exact ev_bin_int0 op_sub h1 h2
      | _ => cases e
    | _ => cases e
  | mul =>
    cases d1 with
    | int i =>
      cases d2 with
      | int j =>
        simp only [binF] at e
        split at e
        · rename_i hz
          cases e
          simp only [Bool.or_eq_true, Bool.and_eq_true] at hz
          rcases hz with (hz | hz) | hz
          · simp only [smallI, Bool.and_eq_true, decide_eq_true_eq] at hz
            exact ev_bin_int op_mul h1 h2 (.inl hz)
          · simp only [smallI, Bool.and_eq_true, decide_eq_true_eq] at hz
            exact ev_bin_int op_mul h1 h2 (.inr hz)
          · simp only [wideI, decide_eq_true_eq] at hz
            exact ev_bin_int op_mulW h1 h2 (wide_mul hz.1 hz.2 (by decide) (by decide) (by decide))
        · cases e
      | _ => cases e
    | tup xs =>
      cases d2 with
      | int k =>
        simp only [binF] at e
        split at e
        · rename_i hz
          cases e
          simp only [Bool.and_eq_true, decide_eq_true_eq, Bool.not_eq_true', List.isEmpty_eq_false_iff] at hz
          obtain ⟨⟨⟨n0, k1⟩, k2⟩, lx⟩ := hz
          by_cases k1' : k = 1
          · subst k1'
            -- t * 1 is t itself
            have ho : OpR X (binaryOp .Mult) (fun x y H Q => ∃ p vs, x = .ref p ∧ y = .int 1 ∧ SqT X.kw H p vs ∧ vs ≠ [] ∧ Q (.ref p) H) := by
              intro pins s σ H x y v u Q I rx ry h
              obtain ⟨p, vs, rfl, rfl, hp, hne, q⟩ := h
              cases rx
              obtain ⟨t, rfl⟩ := ry
              obtain ⟨its, r, ⟨⟨cls, dd, data, sl⟩, ho, hc, n, hd⟩, hs⟩ := I.tuple hp
              simp only at hc hd
              subst hc hd
              exact wpAny_binaryOp_repeat_ref (T := "tuple") (U := "int") (by decide) ⟨_, ho, rfl⟩ (fun s' => typeIs_int s' 1 t) noFill_tuple_mul F.fills_int_mul F.slot_int_rmul repeat_tuple F.slot_int_index.lookup
                (call_meets F.slot_int_rmul (typeIs_int s 1 t) F.entry_int_rmul (F.args_int_rmul_2 _ _) (int_rmul_tuple 1 t p its.toArray n dd sl)
                  ⟨ho, rfl, ⟨_, ho, rfl⟩, call_meets F.slot_tuple_mul ⟨_, ho, rfl⟩ F.entry_tuple_mul (F.args_tuple_mul_2 _ _) (tuple_mul1 p its.toArray n dd sl t) ⟨ho, ⟨.ref p, H, I, rfl, q⟩⟩⟩)
            refine ev2 (pe_op ho pe_sat pe_sat) h1 h2 fun W W2 x y Q l ok st t1 t2 q => ?_
            have r1 : Rep X.kw W2 (.tup xs) x := by
              rcases t1 with t1 | ⟨_, _, _, z⟩
              · exact t1
              · exact z.elim
            obtain ⟨p, vs, rfl, hp, rs⟩ := id r1
            cases top_int t2
            have ex : (List.replicate (1 : Int).toNat xs).flatten = xs := by simp
            rw [ex] at q
            refine ⟨p, vs, rfl, rfl, SqT.of hp.1, fun z => n0 (List.length_eq_zero_iff.mp (by rw [rs.length, z]; rfl)), q _ W2 ⟨l, ok, st, r1⟩ fun _ => fresh_tup⟩
          · refine ev2 (pe_op op_repT pe_sat pe_sat) h1 h2 fun W W2 x y Q l ok st t1 t2 q => ?_
            obtain ⟨p, vs, rfl, hp, rs⟩ := top_tup t1
            cases top_int t2
            refine ⟨p, k, vs, rfl, rfl, SqT.of hp, fun z => n0 (List.length_eq_zero_iff.mp (by rw [rs.length, z]; rfl)), by omega, k2, by rw [← rs.length]; exact lx, fun n hn => ?_⟩
            exact q _ _ (post_tup l ok st (rep_flat rs _) hn) fun _ => fresh_tup
        · cases e
      | _ => cases e
    | lst xs =>
      cases d2 with
      | int k =>
        simp only [binF] at e
        split at e
        · rename_i hz
          cases e
          simp only [Bool.and_eq_true, decide_eq_true_eq] at hz
          obtain ⟨⟨k1, k2⟩, lx⟩ := hz
          refine ev2 (pe_op op_rep pe_sat pe_sat) h1 h2 fun W W2 x y Q l ok st t1 t2 q => ?_
          obtain ⟨p, vs, rfl, hp, rs⟩ := top_lst t1
          cases top_int t2
          refine ⟨p, k, vs, rfl, rfl, hp, by omega, by omega, by rw [← rs.length, ← big_eq]; exact lx, fun n hn => ?_⟩
          exact q _ _ (post_lst l ok st (rep_flat rs _) hn) fun _ => fresh_lst l ok (rep_flat rs _) hn
        · cases e
      | _ => cases e
    | _ => cases e
  | fdiv =>
    cases d1 with
    | int i =>
      cases d2 with
      | int j =>
        simp only [binF] at e
        split at e
        · rename_i hz
          cases e
          simp only [Bool.and_eq_true, decide_eq_true_eq] at hz
          exact ev_bin_int op_fdiv h1 h2 hz
        · cases e
      | _ => cases e
    | _ => cases e
  | mod =>
    cases d1 with
    | int i =>
      cases d2 with
      | int j =>
        simp only [binF] at e
        split at e
        · rename_i hz
          cases e
          simp only [decide_eq_true_eq] at hz
          exact ev_bin_int op_mod h1 h2 hz
        · cases e
      | _ => cases e
    | _ => cases e
  | pow =>
    cases d1 with
    | int i =>
      cases d2 with
      | int j =>
        simp only [binF] at e
        split at e
        · rename_i hz
          cases e
          simp only [Bool.and_eq_true, decide_eq_true_eq] at hz
          exact ev_bin_int op_pow h1 h2 ⟨hz.1.1, hz.1.2, hz.2⟩
        · cases e
      | _ => cases e
    | _ => cases e
end
end FG

namespace FG
open PySem PySem.Spec PyProof.Rows L2

/-! ### data as the library's data -/
section
variable {K : KW} {W : Wd}
mutual
theorem rep_dp : ∀ (n : Nat) (d : D) (v : V), pyOk n d = true → Rep K W d v → Dp K W.H v (toPy d)
  | _, .non, v, _, r => by cases (show v = .non from r); simp only [toPy]; exact .non
  | _, .bl b, v, _, r => by cases (show v = .bl b from r); simp only [toPy]; exact .bl b
  | _, .int i, v, _, r => by cases (show v = .int i from r); simp only [toPy]; exact .int i
  | _, .str s, v, _, r => by cases (show v = .str s from r); simp only [toPy]; exact .str s
  | n + 1, .tup ds, v, h, r => by
    obtain ⟨a, vs, rfl, q, rs⟩ := r
    simp only [toPy]
    exact .tup (SqT.of q.1) (rep_dps n ds vs (by simpa [pyOk] using h) rs)
  | n + 1, .lst ds, v, h, r => by
    obtain ⟨a, vs, rfl, q, rs⟩ := r
    simp only [toPy]
    exact .lst (SqL.of q.1) (rep_dps n ds vs (by simpa [pyOk] using h) rs)
  | n + 1, .scr ns, v, h, r => by
    obtain ⟨a, rfl, q⟩ := top_scr (.inl r)
    simp only [toPy]
    refine .lst q ?_
    clear q r h
    induction ns with
    | nil => exact .nil
    | cons i ns ih => exact .cons (.int i) ih
  | n + 1, .dct ks ds, v, h, r => by simp [pyOk] at h
  | n + 1, .ndc ks ds, v, h, r => by simp [pyOk] at h
  | 0, .ndc ks ds, v, h, r => by simp [pyOk] at h
  | n + 1, .obj m, v, h, r => by simp [pyOk] at h
  | 0, .tup ds, v, h, r => by simp [pyOk] at h
  | 0, .lst ds, v, h, r => by simp [pyOk] at h
  | 0, .scr ds, v, h, r => by simp [pyOk] at h
  | 0, .dct ks ds, v, h, r => by simp [pyOk] at h
  | 0, .obj m, v, h, r => by simp [pyOk] at h
theorem rep_dps : ∀ (n : Nat) (ds : List D) (vs : List V), pyOks n ds = true → RepL K W ds vs → DpAll K W.H vs (toPys ds)
  | _, [], vs, _, r => by rw [show vs = [] from r]; simp only [toPys]; exact .nil
  | n, d :: ds, vs, h, r => by
    obtain ⟨v, vs', rfl, r, rs⟩ := r
    have h' : pyOk n d = true ∧ pyOks n ds = true := by simpa [pyOks] using h
    simp only [toPys]
    exact .cons (rep_dp n d v h'.1 r) (rep_dps n ds vs' h'.2 rs)
end
theorem top_dp {n : Nat} {d : D} {v : V} (h : pyOk n d = true) (t : TopRep K W d v) : Dp K W.H v (toPy d) := by
  rcases t with r | ⟨a, rfl, o, q⟩
  · exact rep_dp n d v h r
  · cases d with
    | lst ds =>
      obtain ⟨vs, e, rs⟩ := q
      cases n with
      | zero => simp [pyOk] at h
      | succ n =>
        simp only [toPy]
        exact .lst (SqL.of e) (rep_dps n ds vs (by simpa [pyOk] using h) rs)
    | dct ks ds => cases n <;> simp [pyOk] at h
    | ndc ks ds => cases n <;> simp [pyOk] at h
    | _ => exact q.elim
mutual
theorem py_lay : ∀ (n : Nat) (d : D), pyOk n d = true → PyData.canLay0 (toPy d) = true ∧ PyData.depth (toPy d) ≤ n
  | _, .non, _ => by simp [toPy, PyData.canLay0, PyData.depth]
  | _, .bl b, _ => by simp [toPy, PyData.canLay0, PyData.depth]
  | _, .int i, _ => by simp [toPy, PyData.canLay0, PyData.depth]
  | _, .str s, h => by
    have h' : PyData.strOk s = true := by simpa [pyOk] using h
    simp [toPy, PyData.canLay0, PyData.depth, h']
  | n + 1, .tup ds, h => by
    obtain ⟨h1, h2⟩ := py_lays n ds (by simpa [pyOk] using h)
    simp [toPy, PyData.canLay0, PyData.depth, h1, h2]
  | n + 1, .lst ds, h => by
    obtain ⟨h1, h2⟩ := py_lays n ds (by simpa [pyOk] using h)
    simp [toPy, PyData.canLay0, PyData.depth, h1, h2]
  | n + 1, .scr ns, h => by
    have : PyData.canLayAll0 (ns.map .int) = true ∧ PyData.depthAll (ns.map .int) = 0 := by
      clear h
      induction ns with
      | nil => simp [PyData.canLayAll0, PyData.depthAll]
      | cons i ns ih => simp [PyData.canLayAll0, PyData.depthAll, PyData.canLay0, PyData.depth, ih]
    simp [toPy, PyData.canLay0, PyData.depth, this]
  | n + 1, .dct ks ds, h => by simp [pyOk] at h
  | n + 1, .ndc ks ds, h => by simp [pyOk] at h
  | 0, .ndc ks ds, h => by simp [pyOk] at h
  | n + 1, .obj m, h => by simp [pyOk] at h
  | 0, .tup ds, h => by simp [pyOk] at h
  | 0, .lst ds, h => by simp [pyOk] at h
  | 0, .scr ds, h => by simp [pyOk] at h
  | 0, .dct ks ds, h => by simp [pyOk] at h
  | 0, .obj m, h => by simp [pyOk] at h
theorem py_lays : ∀ (n : Nat) (ds : List D), pyOks n ds = true → PyData.canLayAll0 (toPys ds) = true ∧ PyData.depthAll (toPys ds) ≤ n
  | _, [], _ => by simp [toPys, PyData.canLayAll0, PyData.depthAll]
  | n, d :: ds, h => by
    have h' : pyOk n d = true ∧ pyOks n ds = true := by simpa [pyOks] using h
    obtain ⟨a1, a2⟩ := py_lay n d h'.1
    obtain ⟨b1, b2⟩ := py_lays n ds h'.2
    simp only [toPys, PyData.canLayAll0, PyData.depthAll, a1, b1]
    exact ⟨rfl, Nat.max_le.mpr ⟨a2, b2⟩⟩
end
theorem py_shaped {d : D} (h : pyOk 60 d = true) : SeqAt.shaped (toPy d) = true := by
  obtain ⟨h1, h2⟩ := py_lay 60 d h
  unfold SeqAt.shaped
  rw [h1, decide_eq_true (Nat.le_trans h2 (by decide))]
  rfl
theorem toPys_map : ∀ ds : List D, toPys ds = ds.map toPy
  | [] => rfl
  | d :: ds => by simp [toPys, toPys_map ds]
/-- atoms -/
theorem top_atom {d : D} {v : V} (h : atomD d = true) (t : TopRep K W d v) : flatV v = true ∧ Rep K W d v := by
  have r : Rep K W d v := by
    rcases t with r | ⟨a, e, o, q⟩
    · exact r
    · cases d with
      | lst ds => cases h
      | dct ks ds => cases h
      | ndc ks ds => cases h
      | _ => exact q.elim
  refine ⟨?_, r⟩
  cases d with
  | non => rw [show v = .non from r]; rfl
  | bl b => rw [show v = .bl b from r]; rfl
  | int i => rw [show v = .int i from r]; rfl
  | str s => rw [show v = .str s from r]; rfl
  | _ => cases h
theorem eqV_eqD {d e : D} {v u : V} (hd : atomD d = true) (he : atomD e = true) (r : Rep K W d v) (q : Rep K W e u) : eqV v u = eqD d e := by
  unfold eqD
  cases d with
  | non => rw [show v = .non from r]; cases e with
    | non => rw [show u = .non from q]; rfl
    | bl b => rw [show u = .bl b from q]; rfl
    | int i => rw [show u = .int i from q]; rfl
    | str s => rw [show u = .str s from q]; rfl
    | _ => cases he
  | bl b => rw [show v = .bl b from r]; cases e with
    | non => rw [show u = .non from q]; rfl
    | bl b => rw [show u = .bl b from q]; simp [toPy, PyData.eqv, eqV]
    | int i => rw [show u = .int i from q]; simp [toPy, PyData.eqv, eqV]
    | str s => rw [show u = .str s from q]; rfl
    | _ => cases he
  | int i => rw [show v = .int i from r]; cases e with
    | non => rw [show u = .non from q]; rfl
    | bl b => rw [show u = .bl b from q]; simp [toPy, PyData.eqv, eqV]
    | int i => rw [show u = .int i from q]; simp [toPy, PyData.eqv, eqV]
    | str s => rw [show u = .str s from q]; rfl
    | _ => cases he
  | str s => rw [show v = .str s from r]; cases e with
    | non => rw [show u = .non from q]; rfl
    | bl b => rw [show u = .bl b from q]; rfl
    | int i => rw [show u = .int i from q]; rfl
    | str s => rw [show u = .str s from q]; simp [toPy, PyData.eqv, eqV]
    | _ => cases he
  | _ => cases hd
theorem scal_eq {d e : D} {v u : V} (h : scalD d e = true) (r : TopRep K W d v) (q : TopRep K W e u) : scal v u = true ∧ decide (v = u) = eqD d e := by
  unfold eqD
  cases d with
  | non => cases top_non r; cases e with
    | non => cases top_non q; exact ⟨rfl, by simp [toPy, PyData.eqv]⟩
    | int i => cases top_int q; exact ⟨rfl, by simp [toPy, PyData.eqv]⟩
    | str s => cases top_str q; exact ⟨rfl, by simp [toPy, PyData.eqv]⟩
    | _ => cases h
  | bl b => cases top_bl r; cases e with
    | bl b => cases top_bl q; exact ⟨rfl, by simp only [toPy, PyData.eqv]; exact dec_bl⟩
    | _ => cases h
  | int i => cases top_int r; cases e with
    | non => cases top_non q; exact ⟨rfl, by simp [toPy, PyData.eqv]⟩
    | int i => cases top_int q; exact ⟨rfl, by simp only [toPy, PyData.eqv]; exact dec_int⟩
    | _ => cases h
  | str s => cases top_str r; cases e with
    | non => cases top_non q; exact ⟨rfl, by simp [toPy, PyData.eqv]⟩
    | str s => cases top_str q; exact ⟨rfl, by simp only [toPy, PyData.eqv]; exact dec_str⟩
    | _ => cases h
  | _ => cases h
end

/-! ### dicts compared -/
section
variable {X : Cx} {K : KW} {W : Wd}
theorem hits_of {A : Around} {s : Shared} {kb : List (Key × V)} {vb : List (Key × Value)} {ls : List NK} {es : List D} (rb : KV kb vb) (el : ls = kb.map fun p => kNK p.1) (re : RepL K W es (kb.map (·.2))) (fe : es.all atomD = true) :
    ∀ {ka : List (Key × V)} {va : List (Key × Value)} {ds : List D}, KV ka va → RepL K W ds (ka.map (·.2)) → ds.all atomD = true → PySem.W.KeqHits A s vb va (dHits ls es (ka.map fun p => kNK p.1) ds) := by
  intro ka va ds ra
  unfold KV at ra
  induction ra generalizing ds with
  | nil =>
    intro r f
    cases ds with
    | nil => exact .nil
    | cons d ds => obtain ⟨_, _, e, _⟩ := r; cases e
  | @cons p q ps qs h t ih =>
    intro r f
    cases ds with
    | nil => cases (show List.map (·.2) (p :: ps) = [] from r)
    | cons d ds =>
      obtain ⟨v, vs', e, rd, rs⟩ := r
      simp only [List.map_cons, List.cons.injEq] at e
      obtain ⟨rfl, rfl⟩ := e
      have f' : atomD d = true ∧ ds.all atomD = true := by simpa using f
      obtain ⟨h1, h2⟩ := h
      obtain ⟨k, u⟩ := q
      have h1' : p.1 = k := h1
      subst h1'
      have ihh := ih rs f'.2
      simp only [List.map_cons, dHits]
      cases hl : dLook ls es (kNK p.1) with
      | none =>
        have hv := look_none el re hl
        have := rb.val p.1
        rw [hv] at this
        simp only [Bool.false_and]
        exact .miss this.none_of
      | some e =>
        obtain ⟨w, hw, rw'⟩ := look_some el re hl
        have hm := rb.val p.1
        rw [hw] at hm
        obtain ⟨y, hy, ry⟩ := hm.some_of
        have ae : atomD e = true := by
          have hmem : ∀ {ks : List NK} {ds : List D}, dLook ks ds (kNK p.1) = some e → e ∈ ds := by
            intro ks ds
            induction ks generalizing ds with
            | nil => intro h; simp [dLook] at h
            | cons k ks ih =>
              intro h
              cases ds with
              | nil => simp [dLook] at h
              | cons d ds =>
                simp only [dLook] at h
                split at h
                · cases h; exact List.mem_cons_self
                · exact List.mem_cons_of_mem _ (ih h)
          exact List.all_eq_true.mp fe e (hmem hl)
        show PySem.W.KeqHits A s vb ((p.1, u) :: qs) (eqD d e && dHits ls es (ps.map fun p => kNK p.1) ds)
        refine .hit hy ?_ ihh
        rw [← eqV_eqD f'.1 ae rd rw']
        exact eqAt_V h2 ry (top_atom f'.1 (.inl rd)).1 (top_atom ae (.inl rw')).1
end

/-! ### the comparison by tops -/
def cOp : COp → CmpOp
  | .eq => .Eq
  | .ne => .NotEq
  | .lt => .Lt
  | .le => .LtE
  | .gt => .Gt
  | .ge => .GtE
  | .isin => .In
  | .notin => .NotIn
  | .is => .Is
  | .isnot => .IsNot
def rCmp (K : KW) (op : COp) : R2 := fun x y H Q => ∃ (W : Wd) (d1 d2 : D) (b : Bool), W.H = H ∧ TopRep K W d1 x ∧ TopRep K W d2 y ∧ cmpF op d1 d2 = some b ∧ Q (.bl b) H
section
variable {X : Cx}
theorem eq_pair {d1 d2 : D} {r : Bool} (e : eqF d1 d2 = some r) : (∃ ks ds ls es, d1 = .dct ks ds ∧ d2 = .dct ls es ∧ ds.all atomD = true ∧ es.all atomD = true ∧ r = dSame ks ds ls es) ∨ (scalD d1 d2 = true ∧ r = eqD d1 d2) ∨ (pyOk 60 d1 = true ∧ pyOk 60 d2 = true ∧ r = eqD d1 d2) := by
  unfold eqF at e
  split at e
  · split at e
    · rename_i h
      cases e
      have h' := Bool.and_eq_true_iff.mp h
      exact .inl ⟨_, _, _, _, rfl, rfl, h'.1, h'.2, rfl⟩
    · cases e
  · split at e
    · rename_i h
      cases e
      rcases Bool.or_eq_true_iff.mp h with h | h
      · exact .inr (.inl ⟨h, rfl⟩)
      · have h' := Bool.and_eq_true_iff.mp h
        exact .inr (.inr ⟨h'.1, h'.2, rfl⟩)
    · cases e
theorem cmp_eq (hu : X.A.units + 64 < cLine) : OpR X (compareOp .Eq) (rCmp X.kw .eq) := by
  intro pins s σ H x y v u Q I rx ry h
  obtain ⟨W, d1, d2, b, rfl, t1, t2, e, q⟩ := h
  rcases eq_pair e with ⟨ks, ds, ls, es, rfl, rfl, f1, f2, rfl⟩ | ⟨hs, rfl⟩ | ⟨p1, p2, rfl⟩
  · obtain ⟨a, ka, rfl, ha, ek, ra⟩ := top_dct t1
    obtain ⟨a', kb, rfl, hb, el, rb⟩ := top_dct t2
    obtain rfl : v = Value.ref a := rx
    obtain rfl : u = Value.ref a' := ry
    obtain ⟨_, ya, va, qa, da⟩ := (show ObjOk X.prog X.w W.H s.heap a (.dK ka) from ha.ok I.hok)
    obtain ⟨_, yb, vb, qb, db⟩ := (show ObjOk X.prog X.w W.H s.heap a' (.dK kb) from hb.ok I.hok)
    refine PySem.W.keq_eq (knd := mixKind X.prog X.w) (r := dHits ls es ks ds) ya yb da db (by omega) (fun _ => ?_) (fin_bl I q ?_)
    · rw [ek]; exact hits_of qb el rb f2 qa ra f1
    · unfold dSame
      rw [ek, el, List.length_map, List.length_map, qa.length, qb.length]
      rw [Bool.beq_eq_decide_eq]
  · obtain ⟨s1, s2⟩ := scal_eq hs t1 t2
    exact op_eq pins s σ W.H x y v u Q I rx ry ⟨s1, by rw [s2]; exact q⟩
  · exact op_eqD hu pins s σ W.H x y v u Q I rx ry ⟨_, _, top_dp p1 t1, top_dp p2 t2, py_shaped p1, py_shaped p2, q⟩
theorem cmp_ne (hu : X.A.units + 64 < cLine) : OpR X (compareOp .NotEq) (rCmp X.kw .ne) := by
  intro pins s σ H x y v u Q I rx ry h
  obtain ⟨W, d1, d2, b, rfl, t1, t2, e, q⟩ := h
  simp only [cmpF, Option.map_eq_some_iff] at e
  obtain ⟨b', e, rfl⟩ := e
  rcases eq_pair e with ⟨ks, ds, ls, es, rfl, rfl, f1, f2, rfl⟩ | ⟨hs, rfl⟩ | ⟨p1, p2, rfl⟩
  · obtain ⟨a, ka, rfl, ha, ek, ra⟩ := top_dct t1
    obtain ⟨a', kb, rfl, hb, el, rb⟩ := top_dct t2
    obtain rfl : v = Value.ref a := rx
    obtain rfl : u = Value.ref a' := ry
    obtain ⟨_, ya, va, qa, da⟩ := (show ObjOk X.prog X.w W.H s.heap a (.dK ka) from ha.ok I.hok)
    obtain ⟨_, yb, vb, qb, db⟩ := (show ObjOk X.prog X.w W.H s.heap a' (.dK kb) from hb.ok I.hok)
    refine PySem.W.keq_ne (knd := mixKind X.prog X.w) (r := dHits ls es ks ds) ya yb da db (by omega) (fun _ => ?_) (fin_bl I q ?_)
    · rw [ek]; exact hits_of qb el rb f2 qa ra f1
    · unfold dSame
      rw [ek, el, List.length_map, List.length_map, qa.length, qb.length]
      rw [Bool.beq_eq_decide_eq]
  · obtain ⟨s1, s2⟩ := scal_eq hs t1 t2
    exact op_ne pins s σ W.H x y v u Q I rx ry ⟨s1, by rw [s2]; exact q⟩
  · exact op_neD hu pins s σ W.H x y v u Q I rx ry ⟨_, _, top_dp p1 t1, top_dp p2 t2, py_shaped p1, py_shaped p2, q⟩
theorem cmp_int {op : CmpOp} {co : COp} {g : Int → Int → Bool} (ho : OpR X (compareOp op) (rI0 fun i j => .bl (g i j))) (hc : ∀ d1 d2 b, cmpF co d1 d2 = some b → ∃ i j, d1 = .int i ∧ d2 = .int j ∧ b = g i j) : OpR X (compareOp op) (rCmp X.kw co) := by
  intro pins s σ H x y v u Q I rx ry h
  obtain ⟨W, d1, d2, b, rfl, t1, t2, e, q⟩ := h
  obtain ⟨i, j, rfl, rfl, rfl⟩ := hc d1 d2 b e
  cases top_int t1
  cases top_int t2
  exact ho pins s σ W.H _ _ v u Q I rx ry ⟨i, j, rfl, rfl, q⟩
theorem cmp_lt : OpR X (compareOp .Lt) (rCmp X.kw .lt) := cmp_int op_lt fun d1 d2 b e => by
  cases d1 <;> cases d2 <;> first | (cases e; exact ⟨_, _, rfl, rfl, rfl⟩) | cases e
theorem cmp_le : OpR X (compareOp .LtE) (rCmp X.kw .le) := cmp_int op_le fun d1 d2 b e => by
  cases d1 <;> cases d2 <;> first | (cases e; exact ⟨_, _, rfl, rfl, rfl⟩) | cases e
theorem cmp_gt : OpR X (compareOp .Gt) (rCmp X.kw .gt) := cmp_int op_gt fun d1 d2 b e => by
  cases d1 <;> cases d2 <;> first | (cases e; exact ⟨_, _, rfl, rfl, rfl⟩) | cases e
theorem cmp_ge : OpR X (compareOp .GtE) (rCmp X.kw .ge) := cmp_int op_ge fun d1 d2 b e => by
  cases d1 <;> cases d2 <;> first | (cases e; exact ⟨_, _, rfl, rfl, rfl⟩) | cases e
theorem isF_cases {d1 d2 : D} {r : Bool} (e : isF d1 d2 = some r) : (∃ a b, d1 = .bl a ∧ d2 = .bl b ∧ r = decide (a = b)) ∨ (d2 = .non ∧ r = isN d1) := by
  unfold isF at e
  split at e
  · cases e; exact .inl ⟨_, _, rfl, rfl, rfl⟩
  · cases e; exact .inr ⟨rfl, rfl⟩
  · cases e
theorem top_isN {K : KW} {W : Wd} {d : D} {v : V} (t : TopRep K W d v) : decide (v = .non) = isN d := by
  cases d with
  | non => cases top_non t; rfl
  | bl b => cases top_bl t; rfl
  | int i => cases top_int t; rfl
  | str s => cases top_str t; rfl
  | tup ds => obtain ⟨a, vs, rfl, _⟩ := top_tup t; rfl
  | lst ds => obtain ⟨a, vs, rfl, _⟩ := top_lst t; rfl
  | dct ks ds => obtain ⟨a, vs, rfl, _⟩ := top_dct t; rfl
  | ndc ks ds => obtain ⟨a, vs, _, rfl, _⟩ := top_ndc t; rfl
  | scr ns => obtain ⟨a, rfl, _⟩ := top_scr t; rfl
  | obj n =>
    rcases t with ⟨a, rfl, _⟩ | ⟨a, rfl, o, z⟩
    · rfl
    · exact z.elim
theorem cmp_is : OpR X (compareOp .Is) (rCmp X.kw .is) := by
  intro pins s σ H x y v u Q I rx ry h
  obtain ⟨W, d1, d2, b, rfl, t1, t2, e, q⟩ := h
  rcases isF_cases e with ⟨a, b, rfl, rfl, rfl⟩ | ⟨rfl, rfl⟩
  · cases top_bl t1
    cases top_bl t2
    exact op_isBl pins s σ W.H _ _ v u Q I rx ry ⟨a, b, rfl, rfl, q⟩
  · cases top_non t2
    exact op_isN pins s σ W.H _ _ v u Q I rx ry ⟨rfl, by rw [top_isN t1]; exact q⟩
theorem cmp_isnot : OpR X (compareOp .IsNot) (rCmp X.kw .isnot) := by
  intro pins s σ H x y v u Q I rx ry h
  obtain ⟨W, d1, d2, b, rfl, t1, t2, e, q⟩ := h
  simp only [cmpF, Option.map_eq_some_iff] at e
  obtain ⟨b', e, rfl⟩ := e
  rcases isF_cases e with ⟨a, b, rfl, rfl, rfl⟩ | ⟨rfl, rfl⟩
  · cases top_bl t1
    cases top_bl t2
    exact op_notBl pins s σ W.H _ _ v u Q I rx ry ⟨a, b, rfl, rfl, q⟩
  · cases top_non t2
    exact op_notN pins s σ W.H _ _ v u Q I rx ry ⟨rfl, by rw [top_isN t1]; exact q⟩
end
end FG

namespace FG
open PySem PySem.Spec PyProof.Rows L2
section
variable {X : Cx} {K : KW} {W : Wd}
theorem atoms_flat : ∀ {ds : List D} {vs : List V}, ds.all atomD = true → RepL K W ds vs → vs.all flatV = true
  | [], vs, _, r => by rw [show vs = [] from r]; rfl
  | d :: ds, vs, h, r => by
    obtain ⟨v, vs', rfl, q, rs⟩ := r
    have h' : atomD d = true ∧ ds.all atomD = true := by simpa using h
    simp only [List.all_cons, (top_atom h'.1 (.inl q)).1, atoms_flat h'.2 rs]
    rfl
theorem inV_any {x : D} {v : V} (hx : atomD x = true) (rx : Rep K W x v) : ∀ {ds : List D} {vs : List V}, ds.all atomD = true → RepL K W ds vs → inV v vs = ds.any fun y => eqD y x
  | [], vs, _, r => by rw [show vs = [] from r]; rfl
  | d :: ds, vs, h, r => by
    obtain ⟨u, vs', rfl, q, rs⟩ := r
    have h' : atomD d = true ∧ ds.all atomD = true := by simpa using h
    have ih := inV_any hx rx h'.2 rs
    unfold inV at ih ⊢
    rw [List.any_cons, List.any_cons, ih, eqV_eqD h'.1 hx q rx]
theorem sign_of {x : Str} (h : x.cps.size = 1) : x = ⟨#[x.cps.getD 0 0]⟩ := by
  obtain ⟨⟨l⟩⟩ := x
  match l, h with
  | [c], _ => rfl
theorem in_cases {d1 d2 : D} {r : Bool} (e : inF d1 d2 = some r) :
    (∃ x y, d1 = .str x ∧ d2 = .str y ∧ x.cps.size = 1 ∧ r = decide (x.cps.getD 0 0 ∈ y.cps.toList)) ∨
    (∃ ys, d2 = .tup ys ∧ atomD d1 = true ∧ ys.all atomD = true ∧ r = ys.any fun y => eqD y d1) ∨
    (∃ ys, d2 = .lst ys ∧ pyOk 60 d1 = true ∧ pyOk 60 (.lst ys) = true ∧ r = ys.any fun y => eqD y d1) ∨
    (∃ s ks ds, d1 = .str s ∧ d2 = .dct ks ds ∧ r = (dLook ks ds (.text s)).isSome) ∨
    (∃ k ks ds, keyT d1 = some k ∧ d2 = .ndc ks ds ∧ r = (dLook ks ds k).isSome) := by
  unfold inF at e
  split at e
  · split at e
    · cases e; exact .inl ⟨_, _, rfl, rfl, by assumption, rfl⟩
    · cases e
  · split at e
    · rename_i h
      cases e
      have h' := Bool.and_eq_true_iff.mp h
      exact .inr (.inl ⟨_, rfl, h'.1, h'.2, rfl⟩)
    · cases e
  · split at e
    · rename_i h
      cases e
      have h' := Bool.and_eq_true_iff.mp h
      exact .inr (.inr (.inl ⟨_, rfl, h'.1, h'.2, rfl⟩))
    · cases e
  · simp only [Option.map_eq_some_iff] at e
    obtain ⟨s, e1, rfl⟩ := e
    have e2 : d1 = .str s := by cases d1 <;> first | (cases e1; rfl) | cases e1
    exact .inr (.inr (.inr (.inl ⟨s, _, _, e2, rfl, rfl⟩)))
  · simp only [Option.map_eq_some_iff] at e
    obtain ⟨k, e1, rfl⟩ := e
    exact .inr (.inr (.inr (.inr ⟨k, _, _, e1, rfl, rfl⟩)))
  · cases e
theorem any_py {ys : List D} {x : D} : (toPys ys).any (fun z => PyData.eqv z (toPy x)) = ys.any fun y => eqD y x := by
  rw [toPys_map, List.any_map]
  rfl
theorem look_isSome {k : Key} {kvs : List (Key × V)} {ks : List NK} {ds : List D} (e : ks = kvs.map fun p => kNK p.1) (r : RepL K W ds (kvs.map (·.2))) : (valV kvs k).isSome = (dLook ks ds (kNK k)).isSome := by
  cases h : dLook ks ds (kNK k) with
  | none => rw [look_none e r h]; rfl
  | some d => obtain ⟨v, q, _⟩ := look_some e r h; rw [q]; rfl
theorem cmp_in (hu : X.A.units + 65 < cLine) : OpR X (compareOp .In) (rCmp X.kw .isin) := by
  intro pins s σ H x y v u Q I rx ry h
  obtain ⟨W, d1, d2, b, rfl, t1, t2, e, q⟩ := h
  rcases in_cases e with ⟨x, y, rfl, rfl, h1, rfl⟩ | ⟨ys, rfl, h1, h2, rfl⟩ | ⟨ys, rfl, h1, h2, rfl⟩ | ⟨z, ks, ds, rfl, rfl, rfl⟩ | ⟨k, ks, ds, ek, rfl, rfl⟩
  · cases top_str t1
    cases top_str t2
    exact op_in_sign pins s σ W.H _ _ v u Q I rx ry ⟨_, y, by rw [← sign_of h1], rfl, q⟩
  · obtain ⟨p, vs, rfl, hp, rs⟩ := top_tup t2
    obtain ⟨f1, r1⟩ := top_atom h1 t1
    exact op_in_seq pins s σ W.H _ _ v u Q I rx ry ⟨p, vs, rfl, .inr (SqT.of hp), f1, atoms_flat h2 rs, by rw [if_neg Bool.false_ne_true, inV_any h1 r1 h2 rs]; exact q⟩
  · refine op_inD hu pins s σ W.H _ _ v u Q I rx ry ⟨toPy d1, toPys ys, top_dp h1 t1, ?_, py_shaped h1, ?_, by rw [any_py]; exact q⟩
    · have := top_dp h2 t2; simpa only [toPy] using this
    · have := py_shaped h2; simpa only [toPy] using this
  · obtain ⟨p, kvs, rfl, hp, ek, rs⟩ := top_dct t2
    cases top_str t1
    cases ry
    refine d_in (o := valV kvs (.inr z)) (by omega) I (.inl ⟨kvs, .inr z, hp, rfl, rfl⟩) rx fun s' I' => ?_
    exact ⟨.bl _, W.H, I', rfl, by rw [look_isSome ek rs]; exact q⟩
  · obtain ⟨p, xs, ep, rfl, hp, rfl, ko, rs⟩ := top_ndc t2
    obtain ⟨kr, hd, b, rfl⟩ := top_keyT ek t1
    cases ry
    cases rx
    refine n_in (by omega) I hp ko kr hd fun s' I' => ?_
    exact ⟨.bl _, W.H, I', rfl, by rw [nlook_isSome rs]; exact q⟩
theorem cmp_notin (hu : X.A.units + 65 < cLine) : OpR X (compareOp .NotIn) (rCmp X.kw .notin) := by
  intro pins s σ H x y v u Q I rx ry h
  obtain ⟨W, d1, d2, b, rfl, t1, t2, e, q⟩ := h
  simp only [cmpF, Option.map_eq_some_iff] at e
  obtain ⟨b', e, rfl⟩ := e
  rcases in_cases e with ⟨x, y, rfl, rfl, h1, rfl⟩ | ⟨ys, rfl, h1, h2, rfl⟩ | ⟨ys, rfl, h1, h2, rfl⟩ | ⟨z, ks, ds, rfl, rfl, rfl⟩ | ⟨k, ks, ds, ek, rfl, rfl⟩
  · cases top_str t1
    cases top_str t2
    exact op_notIn_sign pins s σ W.H _ _ v u Q I rx ry ⟨_, y, by rw [← sign_of h1], rfl, q⟩
  · obtain ⟨p, vs, rfl, hp, rs⟩ := top_tup t2
    obtain ⟨f1, r1⟩ := top_atom h1 t1
    exact op_notIn_seq pins s σ W.H _ _ v u Q I rx ry ⟨p, vs, rfl, .inr (SqT.of hp), f1, atoms_flat h2 rs, by rw [if_pos rfl, inV_any h1 r1 h2 rs]; exact q⟩
  · refine op_notInD hu pins s σ W.H _ _ v u Q I rx ry ⟨toPy d1, toPys ys, top_dp h1 t1, ?_, py_shaped h1, ?_, by rw [any_py]; exact q⟩
    · have := top_dp h2 t2; simpa only [toPy] using this
    · have := py_shaped h2; simpa only [toPy] using this
  · obtain ⟨p, kvs, rfl, hp, ek, rs⟩ := top_dct t2
    cases top_str t1
    cases ry
    refine d_notIn (o := valV kvs (.inr z)) (by omega) I (.inl ⟨kvs, .inr z, hp, rfl, rfl⟩) rx fun s' I' => ?_
    exact ⟨.bl _, W.H, I', rfl, by rw [look_isSome ek rs]; exact q⟩
  · obtain ⟨p, xs, ep, rfl, hp, rfl, ko, rs⟩ := top_ndc t2
    obtain ⟨kr, hd, b, rfl⟩ := top_keyT ek t1
    cases ry
    cases rx
    refine n_notIn (by omega) I hp ko kr hd fun s' I' => ?_
    exact ⟨.bl _, W.H, I', rfl, by rw [nlook_isSome rs]; exact q⟩
theorem cmp_ok (op : COp) (hu : X.A.units + 65 < cLine) : OpR X (compareOp (cOp op)) (rCmp X.kw op) := by
  cases op with
  | eq => exact cmp_eq (by omega)
  | ne => exact cmp_ne (by omega)
  | lt => exact cmp_lt
  | le => exact cmp_le
  | gt => exact cmp_gt
  | ge => exact cmp_ge
  | isin => exact cmp_in hu
  | notin => exact cmp_notin hu
  | is => exact cmp_is
  | isnot => exact cmp_isnot
end
section
variable {X : Cx} {env : En} {S S' S1 S2 S3 : Sto} {d d1 d2 d3 : D} {a b z : Expr} {fr : Bool} {pos : Pos} {r : Bool}
def noSet : Expr → Bool
  | .Set _ _ _ => false
  | _ => true
theorem nomarks {op : CmpOp} {b : Expr} (h : noSet b = true) : behindInMarks op b = false := by
  cases b <;> first | rfl | cases h
theorem ev_cmp {op : COp} (hu : X.A.units + 65 < cLine) (hb : noSet b = true) (h1 : EvC X env a S d1 S1) (h2 : EvC X env b S1 d2 S2) (e : cmpF op d1 d2 = some r) : Ev X env (.Compare a [cOp op] [b] pos) S (.bl r) S2 fr :=
  ev2 (pe_cmpR (cmp_ok op hu) pe_sat pe_sat (nomarks hb)) h1 h2 fun W W2 x y Q l ok st t1 t2 q => ⟨W2, d1, d2, r, rfl, t1, t2, e, q _ W2 ⟨l, ok, st, rfl⟩ fun _ => fresh_imm rfl⟩
theorem evb_cmp {op : COp} (hu : X.A.units + 65 < cLine) (hb : noSet b = true) (h1 : EvC X env a S d1 S1) (h2 : EvC X env b S1 d2 S2) (e : cmpF op d1 d2 = some r) : EvB X env (.Compare a [cOp op] [b] pos) S r S2 := by
  intro σ W rr ok st Q q
  refine satT (pt_cmpR (cmp_ok op hu) pe_sat pe_sat (nomarks hb)) (h1 σ W rr ok st _ fun x W1 l1 ok1 st1 t1 => h2 σ W1 (rr.le ok l1) ok1 st1 _ fun y W2 l2 ok2 st2 t2 => ?_)
  exact ⟨W2, d1, d2, r, rfl, t1.le ok1 l2, t2, e, r, rfl, q W2 (l1.trans l2) ok2 st2⟩
/-! a <= b <= c -/
theorem ev_chainF {i j : Int} (hb : noSet z = true) (h1 : Ev X env a S (.int i) S1 false) (h2 : Ev X env b S1 (.int j) S2 false) (h : ¬ i ≤ j) : Ev X env (.Compare a [.LtE, .LtE] [b, z] pos) S (.bl false) S2 fr := by
  intro σ W rr ok st Q q
  refine satE (pe_chain op_le op_le pe_sat pe_sat pe_sat (nomarks hb)) (h1 σ W rr ok st _ fun x W1 p1 _ => h2 σ W1 (rr.le ok p1.le) p1.ok p1.st _ fun y W2 p2 _ => ?_)
  refine ⟨i, j, p1.rep, p2.rep, _, rfl, ?_⟩
  rw [decide_eq_false h, if_neg Bool.false_ne_true]
  exact q _ W2 ⟨p1.le.trans p2.le, p2.ok, p2.st, rfl⟩ fun _ => fresh_imm rfl
theorem ev_chainT {i j k : Int} (hb : noSet z = true) (h1 : Ev X env a S (.int i) S1 false) (h2 : Ev X env b S1 (.int j) S2 false) (h3 : Ev X env z S2 (.int k) S3 false) (h : i ≤ j) : Ev X env (.Compare a [.LtE, .LtE] [b, z] pos) S (.bl (decide (j ≤ k))) S3 fr := by
  intro σ W rr ok st Q q
  refine satE (pe_chain op_le op_le pe_sat pe_sat pe_sat (nomarks hb)) (h1 σ W rr ok st _ fun x W1 p1 _ => h2 σ W1 (rr.le ok p1.le) p1.ok p1.st _ fun y W2 p2 _ => ?_)
  refine ⟨i, j, p1.rep, p2.rep, _, rfl, ?_⟩
  rw [decide_eq_true h, if_pos rfl]
  refine h3 σ W2 ((rr.le ok p1.le).le p1.ok p2.le) p2.ok p2.st _ fun w W3 p3 _ => ?_
  have e2 : y = .int j := p2.rep
  exact ⟨j, k, e2, p3.rep, q _ W3 ⟨(p1.le.trans p2.le).trans p3.le, p3.ok, p3.st, rfl⟩ fun _ => fresh_imm rfl⟩
theorem evb_chainF {i j : Int} (hb : noSet z = true) (h1 : Ev X env a S (.int i) S1 false) (h2 : Ev X env b S1 (.int j) S2 false) (h : ¬ i ≤ j) : EvB X env (.Compare a [.LtE, .LtE] [b, z] pos) S false S2 := by
  intro σ W rr ok st Q q
  refine satT (pt_chain op_le op_le pe_sat pe_sat pe_sat (nomarks hb)) (h1 σ W rr ok st _ fun x W1 p1 _ => h2 σ W1 (rr.le ok p1.le) p1.ok p1.st _ fun y W2 p2 _ => ?_)
  refine ⟨i, j, p1.rep, p2.rep, _, rfl, ?_⟩
  rw [decide_eq_false h, if_neg Bool.false_ne_true]
  exact ⟨false, rfl, q W2 (p1.le.trans p2.le) p2.ok p2.st⟩
theorem evb_chainT {i j k : Int} (hb : noSet z = true) (h1 : Ev X env a S (.int i) S1 false) (h2 : Ev X env b S1 (.int j) S2 false) (h3 : Ev X env z S2 (.int k) S3 false) (h : i ≤ j) : EvB X env (.Compare a [.LtE, .LtE] [b, z] pos) S (decide (j ≤ k)) S3 := by
  intro σ W rr ok st Q q
  refine satT (pt_chain op_le op_le pe_sat pe_sat pe_sat (nomarks hb)) (h1 σ W rr ok st _ fun x W1 p1 _ => h2 σ W1 (rr.le ok p1.le) p1.ok p1.st _ fun y W2 p2 _ => ?_)
  refine ⟨i, j, p1.rep, p2.rep, _, rfl, ?_⟩
  rw [decide_eq_true h, if_pos rfl]
  refine h3 σ W2 ((rr.le ok p1.le).le p1.ok p2.le) p2.ok p2.st _ fun w W3 p3 _ => ?_
  have e2 : y = .int j := p2.rep
  exact ⟨j, k, e2, p3.rep, _, rfl, q W3 ((p1.le.trans p2.le).trans p3.le) p3.ok p3.st⟩
/-! not, a if t else b -/
theorem ev_not (h : Ev X env a S (.bl r) S1 false) : Ev X env (.UnaryOp .Not a pos) S (.bl !r) S1 fr := by
  intro σ W rr ok st Q q
  refine satE (pe_not pe_sat) (h σ W rr ok st _ fun x W1 p _ => ⟨r, p.rep, ?_⟩)
  exact q _ W1 ⟨p.le, p.ok, p.st, rfl⟩ fun _ => fresh_imm rfl
theorem evb_not (h : EvB X env a S r S1) : EvB X env (.UnaryOp .Not a pos) S (!r) S1 := by
  intro σ W rr ok st Q q
  exact satT (pt_not pt_sat) (h σ W rr ok st _ fun W1 l ok1 st1 => q W1 l ok1 st1)
theorem Ev.from {W W1 : Wd} {σ : L2.St} {Q : VK} (h : Ev X env a S1 d S2 fr) (rr : EnvR X.kw W env σ) (ok : WOk W) (l : Le W W1) (ok1 : WOk W1) (st1 : SRep X.kw W1 S1)
    (q : ∀ v W', Post X.kw W S2 W' d v → (fr = true → Fresh X.kw W W' d v) → Q v W'.H) : SatE X a σ W1.H Q := by
  refine h σ W1 (rr.le ok l) ok1 st1 _ fun v W2 p f => q v W2 ⟨l.trans p.le, p.ok, p.st, p.rep⟩ fun e m => ?_
  rcases f e m with z | ⟨a, e1, e2, e3⟩
  · exact .inl z
  · refine .inr ⟨a, e1, ?_, e3⟩
    exact l.free ok1 e2
theorem ev_iteT {c : Expr} (h1 : EvB X env c S true S1) (h2 : Ev X env a S1 d S2 fr) : Ev X env (.IfExp c a b pos) S d S2 fr := by
  intro σ W rr ok st Q q
  refine satE (pe_ifExp pt_sat pe_sat (pe_sat (e := b))) (h1 σ W rr ok st _ fun W1 l ok1 st1 => ?_)
  rw [if_pos rfl]
  exact h2.from rr ok l ok1 st1 q
theorem ev_iteF {c : Expr} (h1 : EvB X env c S false S1) (h2 : Ev X env b S1 d S2 fr) : Ev X env (.IfExp c a b pos) S d S2 fr := by
  intro σ W rr ok st Q q
  refine satE (pe_ifExp pt_sat (pe_sat (e := a)) pe_sat) (h1 σ W rr ok st _ fun W1 l ok1 st1 => ?_)
  rw [if_neg Bool.false_ne_true]
  exact h2.from rr ok l ok1 st1 q
/-! and, or: of two, of the first and the rest -/
def bOne (op : BoolOp) (es : List Expr) (pos : Pos) : Expr := match es with
  | [e] => e
  | es => .BoolOp op es pos
theorem pe_rest {op : BoolOp} {e : Expr} {es : List Expr} : PE X (.BoolOp op (e :: es) pos) (SatE X (bOne op (e :: es) pos)) := by
  cases es with
  | nil => exact pe_one pe_sat
  | cons e' es => exact pe_sat
theorem ev_andT {es : List Expr} {e : Expr} (h1 : Ev X env a S (.bl true) S1 false) (h2 : Ev X env (bOne .And (e :: es) pos) S1 (.bl r) S2 false) : Ev X env (.BoolOp .And (a :: e :: es) pos) S (.bl r) S2 fr := by
  intro σ W rr ok st Q q
  refine satE (pe_and pe_sat pe_rest) (h1 σ W rr ok st _ fun x W1 p _ => ⟨true, p.rep, ?_⟩)
  rw [if_pos rfl]
  exact h2.from rr ok p.le p.ok p.st fun v W' p _ => q v W' p fun _ => fresh_imm rfl
theorem ev_andF {es : List Expr} {e : Expr} (h1 : Ev X env a S (.bl false) S1 false) : Ev X env (.BoolOp .And (a :: e :: es) pos) S (.bl false) S1 fr := by
  intro σ W rr ok st Q q
  refine satE (pe_and pe_sat (pe_rest (e := e) (es := es))) (h1 σ W rr ok st _ fun x W1 p _ => ⟨false, p.rep, ?_⟩)
  rw [if_neg Bool.false_ne_true]
  exact q _ W1 ⟨p.le, p.ok, p.st, rfl⟩ fun _ => fresh_imm rfl
theorem ev_orF {es : List Expr} {e : Expr} (h1 : Ev X env a S (.bl false) S1 false) (h2 : Ev X env (bOne .Or (e :: es) pos) S1 (.bl r) S2 false) : Ev X env (.BoolOp .Or (a :: e :: es) pos) S (.bl r) S2 fr := by
  intro σ W rr ok st Q q
  refine satE (pe_or pe_sat pe_rest) (h1 σ W rr ok st _ fun x W1 p _ => ⟨false, p.rep, ?_⟩)
  rw [if_neg Bool.false_ne_true]
  exact h2.from rr ok p.le p.ok p.st fun v W' p _ => q v W' p fun _ => fresh_imm rfl
theorem ev_orT {es : List Expr} {e : Expr} (h1 : Ev X env a S (.bl true) S1 false) : Ev X env (.BoolOp .Or (a :: e :: es) pos) S (.bl true) S1 fr := by
  intro σ W rr ok st Q q
  refine satE (pe_or pe_sat (pe_rest (e := e) (es := es))) (h1 σ W rr ok st _ fun x W1 p _ => ⟨true, p.rep, ?_⟩)
  rw [if_pos rfl]
  exact q _ W1 ⟨p.le, p.ok, p.st, rfl⟩ fun _ => fresh_imm rfl
/-! .. as tests -/
def SatW (X : Cx) (e : Expr) : TT := fun σ H Q => ∀ whole pins s, Inv X pins σ H s → wpAny (model X.prog X.w) X.A (isTrue e X.env whole) (TP X pins σ Q) X.xe s
theorem pw_sat {e : Expr} : PW X e (SatW X e) := ⟨fun wh pins s σ H Q I h => h wh pins s I⟩
theorem satW {e : Expr} {t : TT} (h : PW X e t) {σ : L2.St} {H : Hp} {Q : Bool → Hp → Prop} (q : t σ H Q) : SatW X e σ H Q := fun wh pins s I => h.run wh pins s σ H Q I q
theorem pw_rest {op : BoolOp} {e : Expr} {es : List Expr} : PW X (.BoolOp op (e :: es) pos) (match es with | [] => SatT X e | _ :: _ => SatT X (.BoolOp op (e :: es) pos)) := by
  cases es with
  | nil =>
    cases op with
    | And => exact pw_and1 pt_sat
    | Or => exact pw_or1 pt_sat
  | cons e' es =>
    refine ⟨fun wh pins s σ H Q I h => ?_⟩
    exact h pins s I
theorem pw_restT {op : BoolOp} {e : Expr} {es : List Expr} : PW X (.BoolOp op (e :: es) pos) (SatT X (bOne op (e :: es) pos)) := by
  cases es with
  | nil =>
    cases op with
    | And => exact pw_and1 pt_sat
    | Or => exact pw_or1 pt_sat
  | cons e' es => exact ⟨fun wh pins s σ H Q I h => h pins s I⟩
theorem EvB.from {W W1 : Wd} {σ : L2.St} {Q : Bool → Hp → Prop} (h : EvB X env a S1 r S2) (rr : EnvR X.kw W env σ) (ok : WOk W) (l : Le W W1) (ok1 : WOk W1) (st1 : SRep X.kw W1 S1)
    (q : ∀ W', Le W W' → WOk W' → SRep X.kw W' S2 → Q r W'.H) : SatT X a σ W1.H Q := h σ W1 (rr.le ok l) ok1 st1 _ fun W2 l2 ok2 st2 => q W2 (l.trans l2) ok2 st2
theorem evb_andT {es : List Expr} {e : Expr} (h1 : EvB X env a S true S1) (h2 : EvB X env (bOne .And (e :: es) pos) S1 r S2) : EvB X env (.BoolOp .And (a :: e :: es) pos) S r S2 := by
  intro σ W rr ok st Q q
  refine satT (PW.pt (pw_and pt_sat pw_restT)) (h1 σ W rr ok st _ fun W1 l ok1 st1 => ?_)
  rw [if_pos rfl]
  exact h2.from rr ok l ok1 st1 q
theorem evb_andF {es : List Expr} {e : Expr} (h1 : EvB X env a S false S1) : EvB X env (.BoolOp .And (a :: e :: es) pos) S false S1 := by
  intro σ W rr ok st Q q
  refine satT (PW.pt (pw_and pt_sat (pw_restT (e := e) (es := es)))) (h1 σ W rr ok st _ fun W1 l ok1 st1 => ?_)
  rw [if_neg Bool.false_ne_true]
  exact q W1 l ok1 st1
theorem evb_orF {es : List Expr} {e : Expr} (h1 : EvB X env a S false S1) (h2 : EvB X env (bOne .Or (e :: es) pos) S1 r S2) : EvB X env (.BoolOp .Or (a :: e :: es) pos) S r S2 := by
  intro σ W rr ok st Q q
  refine satT (PW.pt (pw_or pt_sat pw_restT)) (h1 σ W rr ok st _ fun W1 l ok1 st1 => ?_)
  rw [if_neg Bool.false_ne_true]
  exact h2.from rr ok l ok1 st1 q
theorem evb_orT {es : List Expr} {e : Expr} (h1 : EvB X env a S true S1) : EvB X env (.BoolOp .Or (a :: e :: es) pos) S true S1 := by
  intro σ W rr ok st Q q
  refine satT (PW.pt (pw_or pt_sat (pw_restT (e := e) (es := es)))) (h1 σ W rr ok st _ fun W1 l ok1 st1 => ?_)
  rw [if_pos rfl]
  exact q W1 l ok1 st1
/-- a bool's expression as a test -/
def plainT : Expr → Bool
  | .UnaryOp .Not _ _ => false
  | .BoolOp _ _ _ => false
  | .IfExp _ _ _ _ => false
  | .Compare _ _ _ _ => false
  | _ => true
theorem evb_val (hp : plainT a = true) (h : Ev X env a S (.bl r) S1 fr) : EvB X env a S r S1 := by
  intro σ W rr ok st Q q
  refine satT (pt_val pe_sat ?_) (h σ W rr ok st _ fun x W1 p _ => ⟨r, p.rep, q W1 p.le p.ok p.st⟩)
  intro whole
  cases a with
  | UnaryOp op e pos => cases op <;> first | rfl | cases hp
  | BoolOp op e pos => cases hp
  | IfExp a b c pos => cases hp
  | Compare a b c pos => cases hp
  | _ => rfl
end
end FG

namespace FG
open PySem PySem.Spec PyProof.Rows L2
section
variable {X : Cx} {env : En} {S S' S1 S2 S3 : Sto} {d d1 d2 d3 : D} {a b z : Expr} {fr : Bool} {pos p : Pos} {r : Bool}
/-- f(a), f a built-in function, by the value's top -/
theorem ev1B {id : String} {x : Str} {r : List V → Hp → VK → Prop} (hc : CallR X (.builtin id) r) (hg : Gl X x) (hm : X.mg x = none) (hv : bootBuiltins x = some (.builtin id)) (hn : x ≠ "__name__") (hdb : (x == ("__debug__" : Str)) = false) (ns : noStar a = true) (h1 : EvC X env a S d1 S1)
    (hr : ∀ (W W1 : Wd) (v : V) (Q : VK), Le W W1 → WOk W1 → SRep X.kw W1 S1 → TopRep X.kw W1 d1 v → (∀ u W', Post X.kw W S1 W' d u → (fr = true → Fresh X.kw W W' d u) → Q u W'.H) → r [v] W1.H Q) : Ev X env (.Call (.Name x p) [a] [] pos) S d S1 fr := by
  intro σ W rr ok st Q q
  refine satE (pe_callB hc hg hm hv (pa_cons pe_sat pa_nil (star_of ns)) hn hdb (star_of ns) rfl) (h1 σ W rr ok st _ fun v W1 l ok1 st1 t1 => ?_)
  exact hr W W1 v Q l ok1 st1 t1 q
theorem ev1Ty {T : String} {x : Str} {r : List V → Hp → VK → Prop} (hc : CallR X (.type T) r) (hg : Gl X x) (hm : X.mg x = none) (hv : bootBuiltins x = some (.type T)) (hn : x ≠ "__name__") (hdb : (x == ("__debug__" : Str)) = false) (ns : noStar a = true) (h1 : EvC X env a S d1 S1)
    (hr : ∀ (W W1 : Wd) (v : V) (Q : VK), Le W W1 → WOk W1 → SRep X.kw W1 S1 → TopRep X.kw W1 d1 v → (∀ u W', Post X.kw W S1 W' d u → (fr = true → Fresh X.kw W W' d u) → Q u W'.H) → r [v] W1.H Q) : Ev X env (.Call (.Name x p) [a] [] pos) S d S1 fr := by
  intro σ W rr ok st Q q
  refine satE (pe_callTy hc hg hm hv (pa_cons pe_sat pa_nil (star_of ns)) hn hdb (star_of ns) rfl) (h1 σ W rr ok st _ fun v W1 l ok1 st1 t1 => ?_)
  exact hr W W1 v Q l ok1 st1 t1 q
theorem call_lenD : CallR X (.builtin "len") (fun xs H Q => ∃ a kvs, xs = [.ref a] ∧ Rd H a (.dK kvs) ∧ Q (.int kvs.length) H) := by
  intro pins s σ H xs us Q I r h
  obtain ⟨a, kvs, rfl, e, q⟩ := h
  obtain ⟨u, rfl, rx⟩ := vals1 r
  cases rx
  exact d_len I e fun t s' I' => ⟨.int kvs.length, H, I', ⟨t, rfl⟩, q⟩
theorem call_lenN : CallR X (.builtin "len") (fun xs H Q => ∃ W ks ds v, H = W.H ∧ xs = [v] ∧ TopRep X.kw W (.ndc ks ds) v ∧ Q (.int ks.length) H) := by
  intro pins s σ H xs us Q I r h
  obtain ⟨W, ks, ds, v, rfl, rfl, t, q⟩ := h
  obtain ⟨u, rfl, rx⟩ := vals1 r
  obtain ⟨a, xs, ep, rfl, hp, rfl, ko, rs⟩ := top_ndc t
  cases rx
  obtain ⟨z, hd, us, rel, dd⟩ := dn_rd I.hok hp ko
  have hl : xs.length = us.length := Paired.length rel
  refine call_len_dictH hd dd (by rw [← hl]; rw [sizeLine_eq] at z; omega) ⟨.int us.length, W.H, I.tok _, ⟨_, rfl⟩, ?_⟩
  rw [← hl]
  rw [List.length_map] at q
  exact q
theorem ev_len (hg : Gl X "len") (hm : X.mg "len" = none) (ns : noStar a = true) (h1 : EvC X env a S d1 S1) (e : biF .len d1 = some d) : Ev X env (.Call (.Name "len" p) [a] [] pos) S d S1 fr := by
  cases d1 with
  | str s =>
    simp only [biF] at e
    split at e
    · rename_i hz
      cases e
      refine ev1B call_len_str hg hm PySem.boot_len (by decide) (by decide) ns h1 fun W W1 v Q l ok st t q => ?_
      cases top_str t
      exact ⟨s, rfl, by rw [← big_eq]; exact hz, q _ W1 ⟨l, ok, st, rfl⟩ fun _ => fresh_imm rfl⟩
    · cases e
  | tup ds =>
    cases e
    refine ev1B call_len_seq hg hm PySem.boot_len (by decide) (by decide) ns h1 fun W W1 v Q l ok st t q => ?_
    obtain ⟨pp, vs, rfl, hp, rs⟩ := top_tup t
    exact ⟨pp, vs, rfl, .inr (SqT.of hp), by rw [← rs.length]; exact q _ W1 ⟨l, ok, st, rfl⟩ fun _ => fresh_imm rfl⟩
  | lst ds =>
    cases e
    refine ev1B call_len_seq hg hm PySem.boot_len (by decide) (by decide) ns h1 fun W W1 v Q l ok st t q => ?_
    obtain ⟨pp, vs, rfl, hp, rs⟩ := top_lst t
    exact ⟨pp, vs, rfl, .inl (SqL.of hp), by rw [← rs.length]; exact q _ W1 ⟨l, ok, st, rfl⟩ fun _ => fresh_imm rfl⟩
  | scr zs =>
    cases e
    refine ev1B call_len_seq hg hm PySem.boot_len (by decide) (by decide) ns h1 fun W W1 v Q l ok st t q => ?_
    obtain ⟨pp, rfl, hp⟩ := top_scr t
    exact ⟨pp, _, rfl, .inl hp, by rw [List.length_map]; exact q _ W1 ⟨l, ok, st, rfl⟩ fun _ => fresh_imm rfl⟩
  | dct ks ds =>
    cases e
    refine ev1B call_lenD hg hm PySem.boot_len (by decide) (by decide) ns h1 fun W W1 v Q l ok st t q => ?_
    obtain ⟨pp, kvs, rfl, hp, k, rs⟩ := top_dct t
    exact ⟨pp, kvs, rfl, hp, by rw [← RepL.len_dK k]; exact q _ W1 ⟨l, ok, st, rfl⟩ fun _ => fresh_imm rfl⟩
  | ndc ks ds =>
    cases e
    refine ev1B call_lenN hg hm PySem.boot_len (by decide) (by decide) ns h1 fun W W1 v Q l ok st t q => ?_
    exact ⟨W1, ks, ds, v, rfl, rfl, t, q _ W1 ⟨l, ok, st, rfl⟩ fun _ => fresh_imm rfl⟩
  | _ => cases e
/-! isinstance -/
def tyOk (T : String) : Prop := T = "str" ∨ T = "tuple" ∨ T = "list" ∨ T = "dict"
theorem boot_ty {T : String} (h : tyOk T) : bootBuiltins (Str.ofString T) = some (.type T) := by
  rcases h with rfl | rfl | rfl | rfl <;> decide +kernel
def tyName : D → String
  | .non => "NoneType"
  | .bl _ => "bool"
  | .int _ => "int"
  | .str _ => "str"
  | .tup _ => "tuple"
  | .lst _ => "list"
  | .dct _ _ => "dict"
  | _ => ""
theorem isi_kit {T : String} {q : Bool} (h : tyOk T) (e : isiF T d = some q) : kitB (tyName d) T = some q := by
  cases d with
  | non => cases e; rcases h with rfl | rfl | rfl | rfl <;> decide +kernel
  | bl b => cases e; show kitB "bool" T = some false; rcases h with rfl | rfl | rfl | rfl <;> decide +kernel
  | int i => cases e; show kitB "int" T = some false; rcases h with rfl | rfl | rfl | rfl <;> decide +kernel
  | str s => cases e; show kitB "str" T = some (decide (T = "str")); rcases h with rfl | rfl | rfl | rfl <;> decide +kernel
  | tup s => cases e; show kitB "tuple" T = some (decide (T = "tuple")); rcases h with rfl | rfl | rfl | rfl <;> decide +kernel
  | lst s => cases e; show kitB "list" T = some (decide (T = "list")); rcases h with rfl | rfl | rfl | rfl <;> decide +kernel
  | dct s t => cases e; show kitB "dict" T = some (decide (T = "dict")); rcases h with rfl | rfl | rfl | rfl <;> decide +kernel
  | _ => cases e
theorem isi_ty {T : String} {q : Bool} {K : KW} {W : Wd} {v : V} (e : isiF T d = some q) (t : TopRep K W d v) : TyX K W.H v (.type (tyName d)) := by
  cases d with
  | non => cases top_non t; exact .base .non
  | bl b => cases top_bl t; exact .base (.bl b)
  | int i => cases top_int t; exact .base (.int i)
  | str s => cases top_str t; exact .base (.str s)
  | tup s => obtain ⟨a, vs, rfl, hp, _⟩ := top_tup t; exact .base (.tup hp)
  | lst s => obtain ⟨a, vs, rfl, hp, _⟩ := top_lst t; exact .base (.lst hp)
  | dct ks ds =>
    obtain ⟨a, vs, rfl, hp, _⟩ := top_dct t
    rcases hp with hp | ⟨o, hp⟩
    · exact .base (.dK hp)
    · exact .fDict hp
  | _ => cases e
theorem ev_isi {T : String} {q : Bool} {p2 : Pos} (hT : tyOk T) (hg : Gl X "isinstance") (hm : X.mg "isinstance" = none) (hg2 : Gl X (Str.ofString T)) (hm2 : X.mg (Str.ofString T) = none) (ns : noStar a = true) (h1 : EvC X env a S d1 S1) (e : isiF T d1 = some q) :
    Ev X env (.Call (.Name "isinstance" p) [a, .Name (Str.ofString T) p2] [] pos) S (.bl q) S1 fr := by
  intro σ W rr ok st Q qq
  have hne : Str.ofString T ≠ "__name__" := by rcases hT with rfl | rfl | rfl | rfl <;> decide
  have hnd : (Str.ofString T == ("__debug__" : Str)) = false := by rcases hT with rfl | rfl | rfl | rfl <;> decide
  have pT : PE X (.Name (Str.ofString T) p2) (tC (.ty T)) := pe_bltn (v := .ty T) hg2 hm2 (boot_ty hT) rfl hne hnd
  refine satE (pe_callB call_isi hg hm (by decide +kernel) (pa_cons pe_sat (pa_cons pT pa_nil) (star_of ns)) (by decide) (by decide) (star_of ns) rfl) (h1 σ W rr ok st _ fun v W1 l ok1 st1 t1 => ?_)
  exact ⟨v, .ty T, .type (tyName d1), .type T, q, rfl, .ty T, isi_ty e t1, kit_ty (isi_kit hT e), qq _ W1 ⟨l, ok1, st1, rfl⟩ fun _ => fresh_imm rfl⟩
/-! all, any -/
theorem bools_vs {K : KW} {W : Wd} : ∀ {ds : List D} {bs : List Bool} {vs : List V}, bools ds = some bs → RepL K W ds vs → vs = bs.map V.bl
  | [], bs, vs, e, r => by cases e; exact r
  | d :: ds, bs, vs, e, r => by
    obtain ⟨v, vs', rfl, q, rs⟩ := r
    cases d with
    | bl b =>
      simp only [bools, Option.map_eq_some_iff] at e
      obtain ⟨bs', e, rfl⟩ := e
      rw [bools_vs e rs, show v = .bl b from q]
      rfl
    | _ => cases e
theorem ev_all (hc : X.calm = true) (hg : Gl X "all") (hm : X.mg "all" = none) (ns : noStar a = true) (h1 : EvC X env a S d1 S1) (e : biF .all d1 = some d) : Ev X env (.Call (.Name "all" p) [a] [] pos) S d S1 fr := by
  cases d1 with
  | lst ds =>
    simp only [biF, Option.map_eq_some_iff] at e
    obtain ⟨bs, e, rfl⟩ := e
    refine ev1B (cr_all hc) hg hm (by decide +kernel) (by decide) (by decide) ns h1 fun W W1 v Q l ok st t q => ?_
    obtain ⟨pp, vs, rfl, hp, rs⟩ := top_lst t
    exact ⟨pp, bs, rfl, by rw [← bools_vs e rs]; exact SqL.of hp, q _ W1 ⟨l, ok, st, rfl⟩ fun _ => fresh_imm rfl⟩
  | _ => cases e
theorem ev_any (hc : X.calm = true) (hg : Gl X "any") (hm : X.mg "any" = none) (ns : noStar a = true) (h1 : EvC X env a S d1 S1) (e : biF .any d1 = some d) : Ev X env (.Call (.Name "any" p) [a] [] pos) S d S1 fr := by
  cases d1 with
  | lst ds =>
    simp only [biF, Option.map_eq_some_iff] at e
    obtain ⟨bs, e, rfl⟩ := e
    refine ev1B (cr_any hc) hg hm (by decide +kernel) (by decide) (by decide) ns h1 fun W W1 v Q l ok st t q => ?_
    obtain ⟨pp, vs, rfl, hp, rs⟩ := top_lst t
    exact ⟨pp, bs, rfl, by rw [← bools_vs e rs]; exact SqL.of hp, q _ W1 ⟨l, ok, st, rfl⟩ fun _ => fresh_imm rfl⟩
  | _ => cases e
/-! tuple(x), list(x), dict(x) -/
theorem ev_tuple (hg : Gl X "tuple") (hm : X.mg "tuple" = none) (ns : noStar a = true) (h1 : EvC X env a S d1 S1) (e : biF .tuple d1 = some d) : Ev X env (.Call (.Name "tuple" p) [a] [] pos) S d S1 fr := by
  cases d1 with
  | lst ds =>
    cases e
    refine ev1Ty call_tuple_of hg hm (by decide +kernel) (by decide) (by decide) ns h1 fun W W1 v Q l ok st t q => ?_
    obtain ⟨pp, vs, rfl, hp, rs⟩ := top_lst t
    exact ⟨pp, vs, rfl, .inl ⟨SqL.of hp, fun n hn => q _ _ (post_tup l ok st rs hn) fun _ => fresh_tup⟩⟩
  | tup ds =>
    cases e
    refine ev1Ty call_tuple_of hg hm (by decide +kernel) (by decide) (by decide) ns h1 fun W W1 v Q l ok st t q => ?_
    have r1 : Rep X.kw W1 (.tup ds) v := by
      rcases t with t1 | ⟨_, _, _, z⟩
      · exact t1
      · exact z.elim
    obtain ⟨pp, vs, rfl, hp, rs⟩ := id r1
    exact ⟨pp, vs, rfl, .inr ⟨SqT.of hp.1, q _ W1 ⟨l, ok, st, r1⟩ fun _ => fresh_tup⟩⟩
  | _ => cases e
theorem keys_txt {K : KW} {W : Wd} : ∀ {ks : List NK} {ds : List D} {kvs : List (Key × V)}, ks = kvs.map (fun p => kNK p.1) → ks.mapM (fun k => match k with | NestedKey.text s => some (D.str s) | _ => none) = some ds → RepL K W ds (kvs.map fun kv => kV kv.1)
  | ks, ds, [], e, h => by
    subst e
    simp only [List.map_nil, List.mapM_nil] at h
    cases h
    exact rfl
  | ks, ds, (k, v) :: kvs, e, h => by
    subst e
    cases k with
    | inl i => simp [kNK] at h
    | inr s =>
      simp only [List.map_cons, kNK, List.mapM_cons, Option.pure_def, Option.bind_eq_bind, Option.bind_some, Option.bind_eq_some_iff, Option.some.injEq] at h
      obtain ⟨ds', h, rfl⟩ := h
      exact ⟨_, _, rfl, rfl, keys_txt rfl h⟩
theorem call_list_dR (hc : X.calm = true) : CallR X (.type "list") (fun xs H Q => ∃ p kvs, xs = [.ref p] ∧ Rd H p (.dK kvs) ∧ ∀ q, H q = none → Q (.ref q) (upd H q (.lst (kvs.map fun kv => kV kv.1)))) := by
  intro pins s σ H xs us Q I r h
  obtain ⟨p, kvs, rfl, hk, q⟩ := h
  obtain ⟨u, rfl, rx⟩ := vals1 r
  cases rx
  obtain ⟨z, lo, vs, rk, hd⟩ := (show ObjOk X.prog X.w H s.heap p (.dK kvs) from hk.ok I.hok)
  obtain ⟨ep, hat⟩ := hd.dictAt
  have hl : kvs.length = vs.length := Paired.length rk
  have kkk : kvs.map (·.1) = vs.map (·.1) := KV.keys rk
  refine PySem.W.kdl_call (PySem.W.kdl_dict (knd := mixKind X.prog X.w) (kvs := vs) (ep := ep) lo) (I.ok.hd hc) hat (hl ▸ z) fun h' tk acc cc keep _ hacc => ?_
  have vals : Vals (kvs.map fun kv => kV kv.1) acc.toList := by
    refine vals_of_at (by simp only [List.length_map, Array.length_toList]; rw [hacc.1, hl]) fun j x w h1 h2 => ?_
    rw [Array.getElem?_toList] at h2
    obtain ⟨k, y, hky, hi⟩ := hacc.2 j w h2
    have e1 : (kvs.map (·.1))[j]? = some k := by rw [kkk, List.getElem?_map, hky]; rfl
    rw [List.getElem?_map] at e1 h1
    obtain ⟨kv, e2, e3⟩ := Option.map_eq_some_iff.mp e1
    rw [e2] at h1
    cases h1
    show L2.RelV (kV kv.1) w
    rw [e3]
    have hi' : keyIs k w = true := hi
    rcases keyIs_shape hi' with ⟨i, t, rfl, rfl⟩ | ⟨x, t, rfl, rfl⟩
    · exact ⟨t, rfl⟩
    · exact ⟨t, rfl⟩
  exact ⟨.ref s.heap.objs.size, _, I.laid keep (Nat.le_refl _) (show ObjOk X.prog X.w _ _ _ (.lst (kvs.map fun kv => kV kv.1)) from ⟨by rw [List.length_map]; exact z, acc.toList, cc, vals, by simpa using ‹_›⟩), rfl, q _ (I.hok.fresh (Nat.le_refl _))⟩
theorem ev_list (hc : X.calm = true) (hg : Gl X "list") (hm : X.mg "list" = none) (ns : noStar a = true) (h1 : EvC X env a S d1 S1) (e : biF .list d1 = some d) : Ev X env (.Call (.Name "list" p) [a] [] pos) S d S1 fr := by
  cases d1 with
  | lst ds =>
    cases e
    refine ev1Ty call_list_of hg hm (by decide +kernel) (by decide) (by decide) ns h1 fun W W1 v Q l ok st t q => ?_
    obtain ⟨pp, vs, rfl, hp, rs⟩ := top_lst t
    exact ⟨pp, vs, rfl, .inl (SqL.of hp), fun n hn => q _ _ (post_lst l ok st rs hn) fun _ => fresh_lst l ok rs hn⟩
  | tup ds =>
    cases e
    refine ev1Ty call_list_of hg hm (by decide +kernel) (by decide) (by decide) ns h1 fun W W1 v Q l ok st t q => ?_
    obtain ⟨pp, vs, rfl, hp, rs⟩ := top_tup t
    exact ⟨pp, vs, rfl, .inr (SqT.of hp), fun n hn => q _ _ (post_lst l ok st rs hn) fun _ => fresh_lst l ok rs hn⟩
  | dct ks ds =>
    simp only [biF, Option.map_eq_some_iff] at e
    obtain ⟨es, e, rfl⟩ := e
    refine ev1Ty (call_list_dR hc) hg hm (by decide +kernel) (by decide) (by decide) ns h1 fun W W1 v Q l ok st t q => ?_
    obtain ⟨pp, kvs, rfl, hp, k, rs⟩ := top_dct t
    have rk := keys_txt (K := X.kw) (W := W1) k e
    exact ⟨pp, kvs, rfl, hp, fun n hn => q _ _ (post_lst l ok st rk hn) fun _ => fresh_lst l ok rk hn⟩
  | _ => cases e
theorem call_dictC : CallR X (.type "dict") (fun xs H Q => ∃ a kvs, xs = [.ref a] ∧ Rd H a (.dK kvs) ∧ ∀ p, H p = none → Q (.ref p) (upd H p (.dK kvs))) := by
  intro pins s σ H xs us Q I r h
  obtain ⟨a, kvs, rfl, e, q⟩ := h
  obtain ⟨u, rfl, rx⟩ := vals1 r
  cases rx
  exact d_copyOf I e fun p s' hp I' => ⟨.ref p, _, I', rfl, q p hp⟩
theorem pairs_rep {K : KW} {W : Wd} : ∀ {ds : List D} {vs : List V} {acc : List (Key × V)} {es : List D} {q : List NK × List D}, RepL K W ds vs → RepL K W es (acc.map (·.2)) → dPairs ds (acc.map fun p => kNK p.1) es = some q →
    ∃ ps kvs, vs = ps.map V.ref ∧ Paired (fun p kv => SqT K W.H p [kV kv.1, kv.2]) ps kvs ∧ q.1 = (mergeK acc kvs).map (fun p => kNK p.1) ∧ RepL K W q.2 ((mergeK acc kvs).map (·.2))
  | [], vs, acc, es, q, r, re, h => by
    cases h
    exact ⟨[], [], r, .nil, rfl, re⟩
  | d :: ds, vs, acc, es, q, r, re, h => by
    obtain ⟨v, vs', rfl, rd, rs⟩ := r
    unfold dPairs at h
    split at h
    · rename_i hh; cases hh
    · rename_i ks' ds' k x r' hh
      simp only [List.cons.injEq] at hh
      obtain ⟨rfl, rfl⟩ := hh
      obtain ⟨a, us, rfl, hat, rk, us', rfl, e1, rx, us'', rfl, e2, e3⟩ := rd
      obtain rfl : us'' = [] := e3
      obtain rfl : rk = .str k := e1
      obtain ⟨p1, p2⟩ := put_rep (k := .inr k) e2 re
      obtain ⟨ps, kvs, rfl, pp, q1, q2⟩ := pairs_rep (acc := putK acc (.inr k) rx) rs p2 (by rw [← p1]; exact h)
      exact ⟨a :: ps, (.inr k, rx) :: kvs, rfl, .cons (SqT.of hat.1) pp, q1, q2⟩
    · cases h
theorem ev_dict (hc : X.calm = true) (hg : Gl X "dict") (hm : X.mg "dict" = none) (ns : noStar a = true) (h1 : EvC X env a S d1 S1) (e : biF .dict d1 = some d) : Ev X env (.Call (.Name "dict" p) [a] [] pos) S d S1 fr := by
  cases d1 with
  | dct ks ds =>
    cases e
    refine ev1Ty call_dictC hg hm (by decide +kernel) (by decide) (by decide) ns h1 fun W W1 v Q l ok st t q => ?_
    obtain ⟨pp, kvs, rfl, hp, k, rs⟩ := top_dct t
    exact ⟨pp, kvs, rfl, hp, fun n hn => q _ _ (post_dct l ok st k rs hn) fun _ => fresh_dct l ok k rs hn⟩
  | lst ds =>
    simp only [biF] at e
    split at e
    · simp only [Option.map_eq_some_iff] at e
      obtain ⟨qq, e, rfl⟩ := e
      refine ev1Ty (call_dictP hc) hg hm (by decide +kernel) (by decide) (by decide) ns h1 fun W W1 v Q l ok st t q => ?_
      obtain ⟨pp, vs, rfl, hp, rs⟩ := top_lst t
      obtain ⟨ps, kvs, rfl, pr, q1, q2⟩ := pairs_rep (acc := []) (es := []) rs (show RepL X.kw W1 [] [] from rfl) e
      exact ⟨pp, ps, kvs, rfl, SqL.of hp, pr, fun n hn => q _ _ (post_dct l ok st q1 q2 hn) fun _ => fresh_dct l ok q1 q2 hn⟩
    · cases e
  | _ => cases e
end
end FG

namespace FG
open PySem PySem.Spec PyProof.Rows L2
variable {X : Cx} {env : En} {a : Expr} {S S1 : Sto} {d d1 : D} {p pos : Pos} {fr : Bool}
theorem ints_vs {K : KW} {W : Wd} : ∀ {ds : List D} {ns : List Int} {vs : List V}, intsD ds = some ns → RepL K W ds vs → vs = ns.map V.int
  | [], ns, vs, e, r => by cases e; exact r
  | d :: ds, ns, vs, e, r => by
    obtain ⟨v, vs', rfl, q, rs⟩ := r
    cases d with
    | int b =>
      simp only [intsD, Option.map_eq_some_iff] at e
      obtain ⟨bs', e, rfl⟩ := e
      rw [ints_vs e rs, show v = .int b from q]
      rfl
    | _ => cases e
theorem ev_sum (hc : X.calm = true) (hg : Gl X "sum") (hm : X.mg "sum" = none) (ns : noStar a = true) (h1 : EvC X env a S d1 S1) (e : biF .sum d1 = some d) : Ev X env (.Call (.Name "sum" p) [a] [] pos) S d S1 fr := by
  cases d1 with
  | lst ds =>
    simp only [biF, Option.map_eq_some_iff] at e
    obtain ⟨bs, e, rfl⟩ := e
    refine ev1B (cr_sum hc) hg hm (by decide +kernel) (by decide) (by decide) ns h1 fun W W1 v Q l ok st t q => ?_
    obtain ⟨pp, vs, rfl, hp, rs⟩ := top_lst t
    exact ⟨pp, bs, rfl, by rw [← ints_vs e rs]; exact SqL.of hp, q _ W1 ⟨l, ok, st, rfl⟩ fun _ => fresh_imm rfl⟩
  | _ => cases e
theorem foldmax : ∀ (ns : List Int) (z : Int), (ns.foldl max z = z ∨ ns.foldl max z ∈ ns) ∧ z ≤ ns.foldl max z ∧ ∀ y ∈ ns, y ≤ ns.foldl max z
  | [], z => ⟨.inl rfl, Int.le_refl _, fun _ h => by cases h⟩
  | n :: ns, z => by
    obtain ⟨h1, h2, h3⟩ := foldmax ns (max z n)
    simp only [List.foldl_cons]
    refine ⟨?_, by omega, fun y hy => ?_⟩
    · rcases h1 with h1 | h1
      · rw [h1]
        by_cases hz : n ≤ z
        · left; omega
        · right; rw [show max z n = n by omega]; exact List.mem_cons_self
      · right; exact List.mem_cons_of_mem _ h1
    · rcases List.mem_cons.mp hy with rfl | hy
      · omega
      · exact h3 y hy
theorem foldmin : ∀ (ns : List Int) (z : Int), (ns.foldl min z = z ∨ ns.foldl min z ∈ ns) ∧ ns.foldl min z ≤ z ∧ ∀ y ∈ ns, ns.foldl min z ≤ y
  | [], z => ⟨.inl rfl, Int.le_refl _, fun _ h => by cases h⟩
  | n :: ns, z => by
    obtain ⟨h1, h2, h3⟩ := foldmin ns (min z n)
    simp only [List.foldl_cons]
    refine ⟨?_, by omega, fun y hy => ?_⟩
    · rcases h1 with h1 | h1
      · rw [h1]
        by_cases hz : z ≤ n
        · left; omega
        · right; rw [show min z n = n by omega]; exact List.mem_cons_self
      · right; exact List.mem_cons_of_mem _ h1
    · rcases List.mem_cons.mp hy with rfl | hy
      · omega
      · exact h3 y hy
theorem ev_max (hc : X.calm = true) (hg : Gl X "max") (hm : X.mg "max" = none) (ns : noStar a = true) (h1 : EvC X env a S d1 S1) (e : biF .max d1 = some d) : Ev X env (.Call (.Name "max" p) [a] [] pos) S d S1 fr := by
  cases d1 with
  | lst ds =>
    simp only [biF, Option.bind_eq_some_iff] at e
    obtain ⟨bs, e, e'⟩ := e
    split at e'
    · rename_i hlt
      cases e'
      refine ev1B (cr_max hc) hg hm (by decide +kernel) (by decide) (by decide) ns h1 fun W W1 v Q l ok st t q => ?_
      obtain ⟨pp, vs, rfl, hp, rs⟩ := top_lst t
      refine ⟨pp, bs, rfl, by rw [← ints_vs e rs]; exact SqL.of hp, hlt, fun m hm1 hm2 => ?_⟩
      obtain ⟨f1, f2, f3⟩ := foldmax bs (bs.headD 0)
      have hin : bs.foldl max (bs.headD 0) ∈ bs := by
        rcases f1 with f1 | f1
        · rw [f1]
          cases bs with
          | nil => cases hlt
          | cons b bs => exact List.mem_cons_self
        · exact f1
      have : m = bs.foldl max (bs.headD 0) := Int.le_antisymm (f3 m hm1) (hm2 _ hin)
      subst this
      exact q _ W1 ⟨l, ok, st, rfl⟩ fun _ => fresh_imm rfl
    · cases e'
  | _ => cases e
theorem ev_min (hc : X.calm = true) (hg : Gl X "min") (hm : X.mg "min" = none) (ns : noStar a = true) (h1 : EvC X env a S d1 S1) (e : biF .min d1 = some d) : Ev X env (.Call (.Name "min" p) [a] [] pos) S d S1 fr := by
  cases d1 with
  | lst ds =>
    simp only [biF, Option.bind_eq_some_iff] at e
    obtain ⟨bs, e, e'⟩ := e
    split at e'
    · rename_i hlt
      cases e'
      refine ev1B (cr_min hc) hg hm (by decide +kernel) (by decide) (by decide) ns h1 fun W W1 v Q l ok st t q => ?_
      obtain ⟨pp, vs, rfl, hp, rs⟩ := top_lst t
      refine ⟨pp, bs, rfl, by rw [← ints_vs e rs]; exact SqL.of hp, hlt, fun m hm1 hm2 => ?_⟩
      obtain ⟨f1, f2, f3⟩ := foldmin bs (bs.headD 0)
      have hin : bs.foldl min (bs.headD 0) ∈ bs := by
        rcases f1 with f1 | f1
        · rw [f1]
          cases bs with
          | nil => cases hlt
          | cons b bs => exact List.mem_cons_self
        · exact f1
      have : m = bs.foldl min (bs.headD 0) := Int.le_antisymm (hm2 _ hin) (f3 m hm1)
      subst this
      exact q _ W1 ⟨l, ok, st, rfl⟩ fun _ => fresh_imm rfl
    · cases e'
  | _ => cases e
/-! sorted(xs) of data -/
abbrev dv (q : D × V) : PyData := toPy q.1
def rSrt (K : KW) : List V → Hp → VK → Prop := fun xs H Q => ∃ (a : Addr) (ps : List (D × V)), xs = [V.ref a] ∧ SqL K H a (ps.map (·.2)) ∧ (∀ q ∈ ps, Dp K H q.2 (dv q)) ∧
  PySem.W.AllAlike (ps.map dv) ∧ PySem.W.Sortable (ps.map dv) ∧ (∀ q ∈ ps, (dv q).depth ≤ 60) ∧
  ∀ (n : Addr), H n = none → Q (.ref n) (upd H n (.lst ((ps.mergeSort (PySem.W.dataLe false dv)).map (·.2))))
theorem each_of : ∀ {ps : List (D × V)} {us : List Value}, Vals (ps.map (·.2)) us → PySem.W.EachIs (fun u (q : D × V) => L2.RelV q.2 u) us ps
  | [], us, h => by cases h; exact .nil
  | q :: ps, us, h => by cases h with | cons r t => exact .cons r (each_of t)
theorem of_each : ∀ {ps : List (D × V)} {us : List Value}, PySem.W.EachIs (fun u (q : D × V) => L2.RelV q.2 u) us ps → Vals (ps.map (·.2)) us
  | _, _, .nil => .nil
  | _, _, .cons r t => .cons r (of_each t)
theorem each_and {α β : Type} {R : α → β → Prop} {P : α → β → Prop} : ∀ {us : List α} {ps : List β}, PySem.W.EachIs R us ps → (∀ u q, q ∈ ps → R u q → P u q) → PySem.W.EachIs P us ps
  | _, _, .nil, _ => .nil
  | _, _, .cons r t, h => .cons (h _ _ List.mem_cons_self r) (each_and t fun u q m => h u q (List.mem_cons_of_mem _ m))
theorem cr_srt (hu : X.A.units + 65 < cLine) : CallR X (.builtin "sorted") (rSrt X.kw) := by
  intro pins s σ H vs us Q I r h
  obtain ⟨a, ps, rfl, hs, hd, hal, hk, hdp, q⟩ := h
  obtain ⟨its, rv, hl, hz⟩ := I.list hs
  rw [Vals.ref1 r]
  have e := each_of rv
  have hz' : ps.length ≤ sizeLine := by simpa using hz
  refine PySem.W.sorted_data (enc := dv) hl.isList e (each_and e fun u x m rx => Dp.reads I (dv x) x.2 u (hd x m) rx) hal hk hz' (fun b hb => by have := hdp b hb; omega) fun out hlen ho => ?_
  obtain ⟨ep, he'⟩ := PyProof.Rows.sortedAll_at s.heap its out.toArray
  have hlen2 : ((ps.mergeSort (PySem.W.dataLe false dv)).map (·.2)).length ≤ sizeLine := by
    rw [List.length_map, List.length_mergeSort]; exact hz'
  refine ⟨.ref _, _, I.laid (t' := s.toks) (fun _ _ => PyProof.Rows.sortedAll_old) (Nat.le_succ _) (show ObjOk X.prog X.w _ _ _ (.lst _) from ⟨hlen2, out, ep, of_each ho, he'⟩), rfl, q _ (I.hok.fresh (Nat.le_succ _))⟩
theorem rep_zip {K : KW} {W : Wd} : ∀ {ds : List D} {vs : List V}, RepL K W ds vs → (ds.zip vs).map (·.1) = ds ∧ (ds.zip vs).map (·.2) = vs ∧ ∀ q ∈ ds.zip vs, Rep K W q.1 q.2
  | [], vs, r => by rw [show vs = [] from r]; exact ⟨rfl, rfl, fun _ h => by cases h⟩
  | d :: ds, vs, r => by
    obtain ⟨v, vs', rfl, r1, rs⟩ := r
    obtain ⟨h1, h2, h3⟩ := rep_zip rs
    refine ⟨by simp [h1], by simp [h2], fun q hq => ?_⟩
    rcases List.mem_cons.mp hq with rfl | hq
    · exact r1
    · exact h3 q hq
theorem repL_of {K : KW} {W : Wd} : ∀ {ps : List (D × V)}, (∀ q ∈ ps, Rep K W q.1 q.2) → RepL K W (ps.map (·.1)) (ps.map (·.2))
  | [], _ => rfl
  | q :: ps, h => ⟨q.2, ps.map (·.2), rfl, h q List.mem_cons_self, repL_of fun x m => h x (List.mem_cons_of_mem _ m)⟩
theorem pyOks_mem : ∀ {ds : List D} {n : Nat} {d : D}, pyOks n ds = true → d ∈ ds → pyOk n d = true
  | d' :: ds, n, d, h, m => by
    simp only [pyOks, Bool.and_eq_true] at h
    rcases List.mem_cons.mp m with rfl | m
    · exact h.1
    · exact pyOks_mem h.2 m
theorem ev_sorted (hu : X.A.units + 65 < cLine) (hg : Gl X "sorted") (hm : X.mg "sorted" = none) (ns : noStar a = true) (h1 : EvC X env a S d1 S1) (e : biF .sorted d1 = some d) : Ev X env (.Call (.Name "sorted" p) [a] [] pos) S d S1 fr := by
  cases d1 with
  | lst ds =>
    simp only [biF] at e
    split at e
    · rename_i hs
      cases e
      simp only [srtOk, Bool.and_eq_true, Bool.or_eq_true] at hs
      obtain ⟨⟨hpy, hal⟩, hk⟩ := hs
      refine ev1B (cr_srt hu) hg hm (by decide +kernel) (by decide) (by decide) ns h1 fun W W1 v Q l ok st t q => ?_
      obtain ⟨pp, vs, rfl, hp, rs⟩ := top_lst t
      obtain ⟨z1, z2, z3⟩ := rep_zip rs
      have zmem : ∀ x ∈ ds.zip vs, x.1 ∈ ds := fun x hx => by rw [← z1]; exact List.mem_map.mpr ⟨x, hx, rfl⟩
      have zm : (ds.zip vs).map dv = ds.map toPy := by
        have h := congrArg (List.map toPy) z1
        rw [List.map_map] at h
        exact h
      refine ⟨pp, ds.zip vs, rfl, by rw [z2]; exact SqL.of hp, fun x hx => rep_dp 60 x.1 x.2 (pyOks_mem hpy (zmem x hx)) (z3 x hx), ?_, ?_, fun x hx => (py_lay 60 x.1 (pyOks_mem hpy (zmem x hx))).2, fun n hn => ?_⟩
      · rw [zm]
        intro x hx y hy
        obtain ⟨x', hx', rfl⟩ := List.mem_map.mp hx
        obtain ⟨y', hy', rfl⟩ := List.mem_map.mp hy
        exact List.all_eq_true.mp (List.all_eq_true.mp hal x' hx') y' hy'
      · rw [zm]
        rcases hk with hk | hk
        · refine .inl fun x hx => ?_
          obtain ⟨x', hx', rfl⟩ := List.mem_map.mp hx
          have := List.all_eq_true.mp hk x' hx'
          unfold isTup at this
          split at this
          · exact ⟨_, _, rfl⟩
          · cases this
        · refine .inr fun x hx => ?_
          obtain ⟨x', hx', rfl⟩ := List.mem_map.mp hx
          have := List.all_eq_true.mp hk x' hx'
          cases x' with
          | bl b => exact ⟨by simp [toPy], fun xs => by simp [toPy]⟩
          | int b => exact ⟨by simp [toPy], fun xs => by simp [toPy]⟩
          | str b => exact ⟨by simp [toPy], fun xs => by simp [toPy]⟩
          | lst b => exact ⟨by simp [toPy], fun xs => by simp [toPy]⟩
          | _ => cases this
      · have e1 : ((ds.zip vs).mergeSort (PySem.W.dataLe false dv)).map (·.1) = ds.mergeSort (PySem.W.dataLe false toPy) := by
          have h := List.map_mergeSort (r := PySem.W.dataLe false dv) (s := PySem.W.dataLe false toPy) (f := fun (x : D × V) => x.1) (l := ds.zip vs) (fun _ _ _ _ => rfl)
          rw [z1] at h
          exact h
        have rl := repL_of (K := X.kw) (W := W1) (ps := (ds.zip vs).mergeSort (PySem.W.dataLe false dv)) fun x hx => z3 x (List.mem_mergeSort.mp hx)
        rw [e1] at rl
        exact q _ _ (post_lst l ok st rl hn) fun _ => fresh_lst l ok rl hn
    · cases e
  | _ => cases e
end FG

namespace FG
open PySem PySem.Spec PyProof.Rows L2
def okBase : Expr → Bool
  | .Call (.Name _ _) [] [] _ => false
  | _ => true
theorem base_of {o : Expr} {m : Str} {env : Env} {w : Sem Value} (h : okBase o = true) : attributeBase o m env w = w := by
  cases o with
  | Call f args kw pos =>
    cases f with
    | Name x p =>
      cases args with
      | nil =>
        cases kw with
        | nil => cases h
        | cons k ks => rfl
      | cons a as => rfl
    | _ => rfl
  | _ => rfl
section
variable {X : Cx} {env : En} {S S' S1 S2 S3 : Sto} {d d1 d2 d3 : D} {a b z : Expr} {fr : Bool} {pos p apos cpos : Pos} {r : Bool}
theorem m1_of {o e : Expr} {m : Str} (hb : okBase o = true) (ne : noStar e = true) (hl : (apos.endLine == cpos.line) = true) : M1 X o m apos e cpos := by
  have hs := star_of (es := []) (env := X.env) ne
  exact ⟨base_of hb, by rw [hs]; rfl, hl, by rw [hs]; rfl⟩
theorem m2_of {o e f : Expr} {m : Str} (hb : okBase o = true) (ne : noStar e = true) (nf : noStar f = true) (hl : (apos.endLine == cpos.line) = true) : M2 X o m apos e f cpos := by
  have hs := star_of (es := []) (env := X.env) nf
  have hs2 := star_of (es := [f]) (env := X.env) ne
  exact ⟨base_of hb, by rw [hs2, hs]; rfl, hl, by rw [hs2, hs]; rfl⟩
/-- d.get(y), d.get(y, x) with y = None: not there -/
theorem d_getN {pins : List (Addr × Obj)} {σ : L2.St} {H : Hp} {s : Shared} {q : Addr} {kvs : List (Key × V)} {A : Around} {E : Value → Shared → Prop} {Q : Value → Shared → Prop} (I : Inv X pins σ H s) (e : Rd H q (.dK kvs)) (h : ∀ s', Inv X pins σ H s' → Q .none s') :
    wpAny (model X.prog X.w) A (call (.builtin "dict.get") [.ref q, .none]) Q E s := by
  obtain ⟨_, hd, vs, _, dd⟩ := (show ObjOk X.prog X.w H s.heap q (.dK kvs) from e.ok I.hok)
  obtain ⟨f, hm, hf⟩ := none_map dd
  refine call_meetsIn PySem.F.slot_dict_get dd.typeIs PySem.F.entry_dict_get (PySem.F.args_dict_get_2 _ _) (meets_dict_get (noneKind X.prog X.w) q (show (noneKind X.prog X.w).is none .none = true from rfl) hd) ⟨_, hm, ?_⟩
  rw [hf]
  exact h _ (I.tok _)
def tGet1 (td ty : TE) : TE := fun σ H Q => td σ H fun x H1 => ∃ a, x = .ref a ∧ IsD H1 a ∧ ty σ H1 fun y H2 => (∃ o, DGet H2 a y o ∧ Q (o.getD .non) H2) ∨ (∃ kvs, y = .non ∧ Rd H2 a (.dK kvs) ∧ Q .non H2)
theorem pe_get1 {o e : Expr} {td ty : TE} (hu : X.A.units + 1 < cLine) (ho : PE X o td) (he : PE X e ty) (m : M1 X o "get" apos e cpos) : PE X (.Call (.Attribute o "get" apos) [e] [] cpos) (tGet1 td ty) := by
  refine ⟨fun pins s σ H Q I h => ?_⟩
  refine wpAny_Call_method m.base m.few m.line PySem.F.plainAttrs_dict PySem.F.slot_dict_get PySem.F.type_dict_get (thn (ho.run pins s σ H _ I h) ?_)
  rintro u s1 ⟨x, H1, I1, rx, a, rfl, d, q1⟩
  cases rx
  refine ⟨(isD_at I1 d).1, (isD_at I1 d).2.1, ?_⟩
  rw [m.trees]
  refine Calls.callWith_builtin rfl (Calls.evalArgs_plain (Calls.spliced_cons (thn (he.run pins s1 σ H1 _ I1 q1) ?_)))
  rintro iv s2 ⟨y, H2, I2, ry, ⟨ov, g, q2⟩ | ⟨kvs, rfl, e, q2⟩⟩
  · exact Calls.spliced_nil (d_get1 hu I2 g ry fun w' s3 I3 rw' => ⟨_, H2, I3, rw', q2⟩)
  · cases ry
    exact Calls.spliced_nil (d_getN I2 e fun s3 I3 => ⟨.non, H2, I3, rfl, q2⟩)
theorem rd_isD {H : Hp} {q : Addr} {kvs : List (Key × V)} (h : Rd H q (.dK kvs)) : IsD H q := .inl ⟨kvs, h⟩
theorem look_getD {K : KW} {W : Wd} {k : Key} {kvs : List (Key × V)} {ks : List NK} {ds : List D} {x : D} {u : V} (e : ks = kvs.map fun p => kNK p.1) (r : RepL K W ds (kvs.map (·.2))) (rx : Rep K W x u) : Rep K W ((dLook ks ds (kNK k)).getD x) ((valV kvs k).getD u) := by
  cases h : dLook ks ds (kNK k) with
  | none => rw [look_none e r h]; exact rx
  | some d => obtain ⟨v, q, rv⟩ := look_some e r h; rw [q]; exact rv
theorem ev_get (hu : X.A.units + 1 < cLine) (hb : okBase a = true) (nb : noStar b = true) (hl : (apos.endLine == cpos.line) = true) (h1 : EvC X env a S d1 S1) (h2 : Ev X env b S1 d2 S2 false) (e : getF d1 d2 .non = some d) : Ev X env (.Call (.Attribute a "get" apos) [b] [] cpos) S d S2 false := by
  intro σ W rr ok st Q q
  cases d1 with
  | dct ks ds =>
    refine satE (pe_get1 hu pe_sat pe_sat (m1_of hb nb hl)) (h1 σ W rr ok st _ fun x W1 l1 ok1 st1 t1 => ?_)
    obtain ⟨pp, kvs0, rfl, hp0, _, _⟩ := top_dct t1
    refine ⟨pp, rfl, rd_isD hp0, h2 σ W1 (rr.le ok l1) ok1 st1 _ fun y W2 p2 _ => ?_⟩
    obtain ⟨pp', kvs, e1, hp, k, rs⟩ := top_dct (t1.le ok1 p2.le)
    cases e1
    cases d2 with
    | str s =>
      simp only [getF, Option.some.injEq] at e
      subst e
      obtain rfl : y = .str s := p2.rep
      refine .inl ⟨valV kvs (.inr s), .inl ⟨kvs, .inr s, hp, rfl, rfl⟩, ?_⟩
      exact q _ W2 ⟨l1.trans p2.le, p2.ok, p2.st, look_getD (k := .inr s) k rs rfl⟩ fun z => by cases z
    | non =>
      cases e
      exact .inr ⟨kvs, p2.rep, hp, q _ W2 ⟨l1.trans p2.le, p2.ok, p2.st, rfl⟩ fun z => by cases z⟩
    | _ => cases e
  | _ => cases e
theorem ev_getd (hu : X.A.units + 1 < cLine) (hb : okBase a = true) (nb : noStar b = true) (nz : noStar z = true) (hl : (apos.endLine == cpos.line) = true) (h1 : EvC X env a S d1 S1) (h2 : Ev X env b S1 d2 S2 false) (h3 : Ev X env z S2 d3 S3 false)
    (e : getF d1 d2 d3 = some d) (hs : ∃ s, d2 = .str s) : Ev X env (.Call (.Attribute a "get" apos) [b, z] [] cpos) S d S3 false := by
  intro σ W rr ok st Q q
  obtain ⟨s, rfl⟩ := hs
  cases d1 with
  | dct ks ds =>
    refine satE (pe_dget2 hu pe_sat pe_sat pe_sat (m2_of hb nb nz hl)) (h1 σ W rr ok st _ fun x W1 l1 ok1 st1 t1 => ?_)
    obtain ⟨pp, kvs0, rfl, hp0, _, _⟩ := top_dct t1
    refine ⟨pp, rfl, rd_isD hp0, h2 σ W1 (rr.le ok l1) ok1 st1 _ fun y W2 p2 _ => h3 σ W2 ((rr.le ok l1).le ok1 p2.le) p2.ok p2.st _ fun w W3 p3 _ => ?_⟩
    obtain ⟨pp', kvs, e1, hp, k, rs⟩ := top_dct ((t1.le ok1 p2.le).le p2.ok p3.le)
    cases e1
    simp only [getF, Option.some.injEq] at e
    subst e
    obtain rfl : y = .str s := p2.rep
    refine ⟨valV kvs (.inr s), .inl ⟨kvs, .inr s, hp, rfl, rfl⟩, ?_⟩
    exact q _ W3 ⟨(l1.trans p2.le).trans p3.le, p3.ok, p3.st, look_getD (k := .inr s) k rs p3.rep⟩ fun z => by cases z
  | _ => cases e
/-! ### calls of defs -/
def SpOf (K : KW) (c : Calls) (f ar : Nat) (fr : Bool) : Sp := fun vs H Q _ => vs.length = ar ∧ ∃ (W : Wd) (ds : List D) (S : Sto) (r : D) (S' : Sto), W.H = H ∧ WOk W ∧ SRep K W S ∧ RepL K W ds vs ∧ c f ds S = some (r, S') ∧
  ∀ v W', Post K W S' W' r v → (fr = true → Fresh K W W' r v) → Q v W'.H
theorem stars_any {env : Env} {pos : Pos} : ∀ {es : List Expr}, es.all noStar = true → (backTo pos (starEach es env)).any (·.1) = false
  | [], _ => rfl
  | e :: es, h => by
    have h' : noStar e = true ∧ es.all noStar = true := by simpa using h
    rw [star_of h'.1]
    have ih := stars_any (env := env) (pos := pos) h'.2
    unfold backTo at ih ⊢
    simp only [List.map_cons, List.any_cons, Bool.false_or]
    exact ih
theorem ev_call {c : Calls} {f ar k : Nat} {x : Str} {fa : Addr} {fd : FuncData} {ps : List Str} {e : Expr} {es : List Expr} {ds : List D} (F : FnOk X.prog X.w X.kw X.mg X.base CX0 k fa fd ps (SpOf X.kw c f ar fr)) (hr : Room k X.A) (hg : Gl X x) (hm : X.mg x = some (.ref fa))
    (hk : PySem.W.keepIn X.kw (.ref fa) = true) (hb : Binds X.kw fd ps []) (hdb : (x == ("__debug__" : Str)) = false) (ns : (e :: es).all noStar = true) (h : EvL X env (e :: es) S ds S1) (hl : ds.length = ar) (hc : c f ds S1 = some (d, S2)) : Ev X env (.Call (.Name x p) (e :: es) [] pos) S d S2 fr := by
  intro σ W rr ok st Q q
  have ns' : noStar e = true ∧ es.all noStar = true := by simpa using ns
  refine satE (pe_call F hr hg hm hk hb .nil (E := E0) pass0 pa_sat hdb (star_of ns'.1) (stars_any ns'.2)) (h σ W rr ok st _ fun vs W1 l ok1 st1 rs => ?_)
  show SpOf X.kw c f ar fr (vs ++ []) W1.H Q E0
  rw [List.append_nil]
  refine ⟨by rw [← rs.length]; exact hl, W1, ds, S1, d, S2, rfl, ok1, st1, rs, hc, fun v W' p' f' => q v W' ⟨l.trans p'.le, p'.ok, p'.st, p'.rep⟩ fun e m => ?_⟩
  rcases f' e m with z | ⟨a, e1, e2, e3⟩
  · exact .inl z
  · exact .inr ⟨a, e1, l.free ok1 e2, e3⟩
/-! ### a lent name: the value has no list and no dict within -/
def lendW (W : Wd) (L : Addr → Prop) : Wd := ⟨W.cs, fun b => W.own b ∧ ¬ L b, W.H⟩
theorem lend_le {W : Wd} {L : Addr → Prop} : LeS W (lendW W L) := ⟨⟨[], by simp [lendW]⟩, fun b o ⟨e, n, w⟩ => ⟨o, ⟨e, n, fun z => w z.1⟩, .refl o⟩⟩
theorem lend_ok {W : Wd} {L : Addr → Prop} (ok : WOk W) : WOk (lendW W L) := ⟨ok.nd, ok.dom, fun a w => ok.ow a w.1⟩
theorem own_at {K : KW} {W W' : Wd} {a : Addr} {d : D} (l : LeS W W') (hH : W'.H = W.H) (n : a ∉ W.cs) (n' : a ∉ W'.cs) (nw : ¬ W'.own a) (x : OwnRep K W a d) : Rep K W' d (.ref a) := by
  cases d with
  | lst ds => obtain ⟨vs, e, r⟩ := x; exact ⟨a, vs, rfl, ⟨by rw [hH]; exact e, n', nw⟩, RepL.le l ds vs r⟩
  | dct ks ds => obtain ⟨kvs, e, k, r⟩ := x; exact ⟨a, kvs, rfl, ⟨_, ⟨by rw [hH]; exact e, n', nw⟩, .inl rfl⟩, k, RepL.le l ds _ r⟩
  | ndc ks ds => obtain ⟨xs, ⟨ep, e⟩, k, ko, r⟩ := x; exact ⟨a, xs, rfl, ⟨ep, by rw [hH]; exact e, n', nw⟩, k, ko.le l, RepL.le l ds _ r⟩
  | _ => exact x.elim
/-- one's own names given free -/
theorem EnvR.lend {K : KW} {W : Wd} {env : En} {σ : L2.St} (ok : WOk W) (r : EnvR K W env σ) (j : Nat) : ∃ L : Addr → Prop, EnvR K (lendW W L) (unown1 env j) σ ∧ (∀ (i : Nat) (d : D) (a : Addr), (unown1 env j)[i]? = some (some (.ow d)) → σ[i]? = some (some (.ref a)) → ¬ L a) ∧ (∀ (i : Nat) (d : D), (unown1 env j)[i]? = some (some (.ow d)) → env[i]? = some (some (.ow d))) ∧ ∀ b, L b → ∃ (i : Nat) (d : D), env[i]? = some (some (.ow d)) ∧ σ[i]? = some (some (.ref b)) := by
  unfold unown1
  split
  · rename_i d e
    obtain ⟨a, e1, o, q⟩ := r.ow j d e
    have hj : j < env.length := (List.getElem?_eq_some_iff.mp e).1
    have back : ∀ (i : Nat) (d' : D), (env.set j (some (.sh d)))[i]? = some (some (.ow d')) → i ≠ j ∧ env[i]? = some (some (.ow d')) := fun i d' h => by
      by_cases hi : j = i
      · subst hi
        rw [List.getElem?_set_self hj] at h
        cases h
      · rw [List.getElem?_set_ne hi] at h
        exact ⟨fun z => hi z.symm, h⟩
    refine ⟨fun b => b = a, ⟨by rw [List.length_set]; exact r.len, fun i d' h => ?_, fun i d' h => ?_, fun i i' d' d'' b h h' => ?_⟩, fun i d' b h e2 z => ?_, fun i d' h => (back i d' h).2, fun b z => ⟨j, d, e, by rw [z]; exact e1⟩⟩
    · by_cases hi : j = i
      · subst hi
        rw [List.getElem?_set_self hj] at h
        cases h
        exact ⟨.ref a, e1, own_at lend_le rfl (ok.ow a o).1 (ok.ow a o).1 (fun z => z.2 rfl) q⟩
      · rw [List.getElem?_set_ne hi] at h
        obtain ⟨v, e2, q2⟩ := r.sh i d' h
        exact ⟨v, e2, Rep.le lend_le d' v q2⟩
    · obtain ⟨hi, h⟩ := back i d' h
      obtain ⟨b, e2, o2, q2⟩ := r.ow i d' h
      refine ⟨b, e2, ⟨o2, fun z => hi (r.un i j d' d b h e e2 (by rw [z]; exact e1))⟩, ?_⟩
      cases d' with
      | lst ds => obtain ⟨vs, e3, r3⟩ := q2; exact ⟨vs, e3, RepL.le lend_le ds vs r3⟩
      | dct ks ds => obtain ⟨kvs, e3, k, r3⟩ := q2; exact ⟨kvs, e3, k, RepL.le lend_le ds _ r3⟩
      | ndc ks ds => obtain ⟨kvs, ⟨ep, e3⟩, k, ko, r3⟩ := q2; exact ⟨kvs, ⟨ep, e3⟩, k, ko.le lend_le, RepL.le lend_le ds _ r3⟩
      | _ => exact q2.elim
    · exact r.un i i' d' d'' b (back i d' h).2 (back i' d'' h').2
    · obtain ⟨hi, h⟩ := back i d' h
      subst z
      exact hi (r.un i j d' d b h e e2 e1)
  · refine ⟨fun _ => False, ⟨r.len, fun i d' h => ?_, fun i d' h => ?_, r.un⟩, fun _ _ _ _ _ z => z, fun _ _ h => h, fun _ z => z.elim⟩
    · obtain ⟨v, e2, q2⟩ := r.sh i d' h
      exact ⟨v, e2, Rep.le lend_le d' v q2⟩
    · obtain ⟨b, e2, o2, q2⟩ := r.ow i d' h
      refine ⟨b, e2, ⟨o2, fun z => z⟩, ?_⟩
      cases d' with
      | lst ds => obtain ⟨vs, e3, r3⟩ := q2; exact ⟨vs, e3, RepL.le lend_le ds vs r3⟩
      | dct ks ds => obtain ⟨kvs, e3, k, r3⟩ := q2; exact ⟨kvs, e3, k, RepL.le lend_le ds _ r3⟩
      | ndc ks ds => obtain ⟨kvs, ⟨ep, e3⟩, k, ko, r3⟩ := q2; exact ⟨kvs, ⟨ep, e3⟩, k, ko.le lend_le, RepL.le lend_le ds _ r3⟩
      | _ => exact q2.elim
theorem EnvR.lends {K : KW} {σ : L2.St} : ∀ (js : List Nat) {W : Wd} {env : En}, WOk W → EnvR K W env σ → ∃ L : Addr → Prop, EnvR K (lendW W L) (unown env js) σ ∧ (∀ (i : Nat) (d : D) (a : Addr), (unown env js)[i]? = some (some (.ow d)) → σ[i]? = some (some (.ref a)) → ¬ L a) ∧ (∀ (i : Nat) (d : D), (unown env js)[i]? = some (some (.ow d)) → env[i]? = some (some (.ow d))) ∧ ∀ b, L b → ∃ (i : Nat) (d : D), env[i]? = some (some (.ow d)) ∧ σ[i]? = some (some (.ref b))
  | [], W, env, ok, r => by
    refine ⟨fun _ => False, ?_, fun _ _ _ _ _ z => z, fun _ _ h => h, fun _ z => z.elim⟩
    have e : lendW W (fun _ => False) = W := by
      obtain ⟨cs, own, H⟩ := W
      simp [lendW]
    rw [e]
    exact r
  | j :: js, W, env, ok, r => by
    obtain ⟨L, r1, n1, b1, l1⟩ := r.lend ok j
    obtain ⟨L', r2, n2, b2, l2⟩ := EnvR.lends js (lend_ok ok) r1
    refine ⟨fun b => L b ∨ L' b, ?_, fun i d a h e z => ?_, fun i d h => b1 i d (b2 i d h), fun b z => ?_⟩
    · have e : lendW (lendW W L) L' = lendW W fun b => L b ∨ L' b := by
        unfold lendW
        simp only [Wd.mk.injEq, true_and, and_true]
        funext b
        exact propext ⟨fun z => ⟨z.1.1, fun y => y.elim z.1.2 z.2⟩, fun z => ⟨⟨z.1, fun y => z.2 (.inl y)⟩, fun y => z.2 (.inr y)⟩⟩
      rw [← e]
      exact r2
    · rcases z with z | z
      · exact n1 i d a (b2 i d h) e z
      · exact n2 i d a h e z
    · rcases z with z | z
      · exact l1 b z
      · obtain ⟨i, d, h1, h2⟩ := l2 b z
        exact ⟨i, d, b1 i d h1, h2⟩
theorem lend_back {W W' : Wd} {L : Addr → Prop} (ok : WOk W) (l : Le (lendW W L) W') (ok' : WOk W') (st' : SRep X.kw W' S1) :
    Le W ⟨W'.cs, W.own, W'.H⟩ ∧ WOk ⟨W'.cs, W.own, W'.H⟩ ∧ SRep X.kw ⟨W'.cs, W.own, W'.H⟩ S1 ∧ ∀ d v, imm d = true → Rep X.kw W' d v → Rep X.kw ⟨W'.cs, W.own, W'.H⟩ d v := by
  have hx : ∀ b, W.own b → b ∉ W'.cs ∧ ∃ o, W'.H b = some o ∧ mutO o = true := fun b w => by
    obtain ⟨n, o, e, k⟩ := ok.ow b w
    obtain ⟨n', e'⟩ := l.keep b o n e
    exact ⟨n', o, e', k⟩
  have tup2 : ∀ a vs, At W' a (.tup vs) → At ⟨W'.cs, W.own, W'.H⟩ a (.tup vs) := fun a vs ⟨e, n, w⟩ => ⟨e, n, fun z => by
    obtain ⟨_, o, e', k⟩ := hx a z
    rw [e] at e'
    cases e'
    cases k⟩
  have scr2 : ∀ a xs, AtS X.kw W' a xs → AtS X.kw ⟨W'.cs, W.own, W'.H⟩ a xs := fun a xs x => by
    rcases x with ⟨o, ⟨e, n, w⟩, ob, rfl⟩ | x
    · refine .inl ⟨_, ⟨e, n, fun z => ?_⟩, ob, rfl⟩
      obtain ⟨_, o, e', k⟩ := hx a z
      rw [show W'.H a = _ from e] at e'
      cases e'
      cases k
    · exact .inr x
  refine ⟨⟨l.cs, fun _ => Iff.rfl, fun b o n e => l.keep b o n e⟩, ⟨ok'.nd, ok'.dom, hx⟩, ⟨st'.len, fun n ob a e1 e2 => ?_⟩, fun d v m r => Rep.immLe ⟨[], by simp⟩ tup2 scr2 d v m r⟩
  have z := st'.at_ n ob a e1 e2
  cases ob with
  | lst ds =>
    obtain ⟨m, vs, e, r⟩ := z
    exact ⟨m, vs, e, RepL.immLe ⟨[], by simp⟩ tup2 scr2 ds vs m r⟩
  | ins c fs => exact z.elim
theorem ev_lend {js : List Nat} (h : Ev X (unown env js) a S d S1 fr) (m : imm d = true) : Ev X env a S d S1 true := by
  intro σ W rr ok st Q q
  obtain ⟨L, r1, _, _⟩ := EnvR.lends js ok rr
  refine h σ (lendW W L) r1 (lend_ok ok) (st_le st rfl lend_le fun _ _ => rfl) Q fun v W' p _ => ?_
  obtain ⟨l2, ok2, st2, rp⟩ := lend_back ok p.le p.ok p.st
  exact q v ⟨W'.cs, W.own, W'.H⟩ ⟨l2, ok2, st2, rp d v m p.rep⟩ fun _ => fresh_imm m
theorem evb_lend {js : List Nat} (h : EvB X (unown env js) a S r S1) : EvB X env a S r S1 := by
  intro σ W rr ok st Q q
  obtain ⟨L, r1, _, _⟩ := EnvR.lends js ok rr
  refine h σ (lendW W L) r1 (lend_ok ok) (st_le st rfl lend_le fun _ _ => rfl) Q fun W' l ok' st' => ?_
  obtain ⟨l2, ok2, st2, rp⟩ := lend_back ok l ok' st'
  exact q ⟨W'.cs, W.own, W'.H⟩ l2 ok2 st2
end
end FG

namespace FG
open PySem PySem.Spec PyProof.Rows L2
/-! ### enumerate of a tuple -/
abbrev enumO (it : Addr) : Obj := { cls := .type "enumerate", data := .fields #[.none, .bool false, .ref it, rawInt 0, .none, .none] }
theorem enum1_meets {v : Value} {o : Obj} {H : Heap → Prop} (B : Begins v o H) : Meets (Builtin.«enumerate.__new__» ⟨[.type "enumerate", v], []⟩) (fun _ R s => H s.heap ∧ R (.ok (.ret (.ref (s.heap.push o).objs.size))) { s with heap := (s.heap.push o).push (enumO s.heap.objs.size) }) := by
  refine .of_wp fun prog w A R s h => ?_
  obtain ⟨hp, g, d, tk, os⟩ := s
  obtain ⟨h1, h⟩ := h
  have hsub := sub_enumerate
  have go : ∀ {A' : Around} {E : Value → Shared → Prop} {Q : Value → Shared → Prop}, Q (.ref hp.objs.size) ⟨hp.push o, g, d, tk, os⟩ → wpAny (model prog w) A' (pyIter v) Q E ⟨hp, g, d, tk, os⟩ := fun q => B.iter prog w _ _ ⟨hp, g, d, tk, os⟩ _ h1 q
  wp_walk using go
  refine wpAny_stack_any fun st => wpAny_pure ?_
  split
  · rename_i cc _ _ _ _ _
    rcases Bool.eq_false_or_eq_true (cc == Value.type "enumerate") with hcc | hcc <;> rw [hcc] <;> wp_walk using go <;> exact ⟨_, rfl, h⟩
  · wp_walk using go
    exact ⟨_, rfl, h⟩
theorem call_enumT {prog : Program} {w : World} {A : Around} {E : Value → Shared → Prop} {s : Shared} {t : Addr} {items : Array Value} {Q : Value → Shared → Prop} (ht : s.heap.IsTuple t items)
    (h : ∀ h', IsEnum h' (s.heap.objs.size + 1) s.heap.objs.size 0 .none → h'.IsTupleIter s.heap.objs.size t 0 → (∀ b o, s.heap.get? b = some o → h'.get? b = some o) → Q (.ref (s.heap.objs.size + 1)) { s with heap := h' }) :
    wpAny (model prog w) A (call (.type "enumerate") [.ref t]) Q E s := by
  have B := begins_tuple t items
  refine callType_new F.called_enumerate (by decide) (F.typeCall_enumerate_1 _) (F.newCall_enumerate_1 _) (fun obj => F.args_object_init_2 obj _) F.entry_enumerate_new (enum1_meets B) ⟨ht, ?_⟩
  generalize ho : ({ cls := .type "tuple_iterator", data := .fields #[.ref t, .int 0 0] } : Obj) = o
  have hfree : o.slots = #[] := by rw [← ho]
  have hz : (s.heap.push o).objs.size = s.heap.objs.size + 1 := Heap.size_push ..
  have he : IsEnum ((s.heap.push o).push (enumO s.heap.objs.size)) (s.heap.objs.size + 1) s.heap.objs.size 0 .none := by
    rw [← hz]
    exact Heap.get?_push_size _ rfl
  show _ ∧ _
  rw [hz]
  refine ⟨⟨_, he, rfl⟩, h _ he ⟨o, Heap.get?_push_of_some _ ?_, ?_, ?_⟩ fun b u x => Heap.get?_push_of_some _ (Heap.get?_push_of_some _ x)⟩
  · exact Heap.get?_push_size _ (by rw [← ho]; rfl)
  · rw [← ho]
  · rw [← ho]; rfl
def IteT (K : PySem.W.Frag) (a : Addr) : It where
  go := fun i H => ∃ (xs : List V) (x : V), SqT K H a xs ∧ xs[i]? = some x
  yld := fun i H v H' => ∃ T x, v = .ref T ∧ H T = none ∧ H' = upd H T (.tup [.int (i : Nat), x]) ∧ ∀ xs, SqT K H a xs → xs[i]? = some x
  stop := fun i H => ∃ xs : List V, SqT K H a xs ∧ xs.length = i
theorem turn_enumT {P : Program} {w : World} {K : PySem.W.Frag} {elts : List Expr} {kk : Nat} {tpos : Pos} (a e it : Addr) (hai : a ≠ it) (hae : e ≠ a) :
    Turn P w K (.Tuple elts kk tpos) (IteT K a) [e, it] e (fun i h => (∃ old, IsEnum h e it ((i : Nat) : Int) old) ∧ h.IsTupleIter it a i ∧ e ≠ it) where
  mem := by simp
  obj := fun i h st b hb => by
    obtain ⟨⟨old, he⟩, ⟨o, ho, hc, hd⟩, _⟩ := st
    simp only [List.mem_cons, List.not_mem_nil, or_false] at hb
    rcases hb with rfl | rfl
    · exact ⟨_, he, fun v q => nomatch q⟩
    · exact ⟨o, ho, fun v q => by rw [hd] at q; cases q⟩
  keep := fun i h h' st k => ⟨⟨st.1.choose, k e (by simp) _ st.1.choose_spec⟩, st.2.1.at fun o q => k it (by simp) o q, st.2.2⟩
  item := by
    intro X hP hw hK hc i pins s σ H E I hf st hg
    subst hP hw hK
    obtain ⟨⟨old, he⟩, hit, hne⟩ := st
    obtain ⟨xs, x, hq, hx⟩ := hg
    obtain ⟨its, rv, pt, _⟩ := I.tuple hq
    obtain ⟨u, hu, ru⟩ := rv.get hx
    have hel : e < s.heap.objs.size := Heap.lt_size he
    have hil : it < s.heap.objs.size := by obtain ⟨_, q, _⟩ := hit; exact Heap.lt_size q
    have hlen : i < its.toArray.size := by simpa using (List.getElem?_eq_some_iff.mp hu).1
    have D := Draws.tuple (prog := X.prog) (w := X.w) (A := X.A.in1) (by simpa using I.ok.hd hc) it a hai its.toArray
    refine wpAny_pyNext_enum_itemD D he ⟨hit, pt⟩ hlen hne (by simp [hne, hae]) fun y h' tk hy ho hst hT hsz hk => ?_
    have hyu : y = u := by
      have : its.toArray[i]? = some u := by simpa using hu
      rw [this] at hy
      exact (Option.some.inj hy).symm
    subst hyu
    refine ⟨_, rfl, wpAny_letOwnedTupleGo_enum (s := { s with heap := h', toks := tk + 1 }) ho fun h'' he' sb => ?_⟩
    have hT2 : h''.get? s.heap.objs.size = some { cls := .type "tuple", data := .seq #[.int i tk, y] } := (sb.2 _ (Nat.ne_of_gt hel)).trans hT
    have new : ObjOk X.prog X.w (upd H s.heap.objs.size (.tup [.int (i : Nat), x])) h'' s.heap.objs.size (.tup [.int (i : Nat), x]) := ⟨by show 2 ≤ sizeLine; decide, [.int i tk, y], .cons ⟨_, rfl⟩ (.cons ru .nil), ⟨_, hT2, rfl, _, rfl⟩⟩
    have I1 : Inv X pins σ (upd H s.heap.objs.size (.tup [.int (i : Nat), x])) { s with heap := h'', toks := tk + 1 } := by
      refine I.turnedNew (ch := [e, it]) (fun b ob hb q => ?_) hf (Nat.le_refl _) new
      simp only [List.mem_cons, List.not_mem_nil, or_false, not_or] at hb
      exact (sb.2 b hb.1).trans (hk b ob hb.1 hb.2 q)
    refine ⟨.ref s.heap.objs.size, _, I1, rfl, ⟨_, x, rfl, I.hok.fresh (Nat.le_refl _), rfl, fun ys hy => by rw [I.tuple_inj hy hq]; exact hx⟩, ⟨⟨y, ?_⟩, hst.1.at fun o q => (sb.2 it (Ne.symm hne)).trans q, hne⟩, fun b hb => ?_⟩
    · rw [show ((i + 1 : Nat) : Int) = (i : Int) + 1 by omega]
      exact he'
    · have hf0 := (hf b hb).1
      simp only [List.mem_cons, List.not_mem_nil, or_false] at hb
      rw [upd_ne]
      · exact hf0
      · rcases hb with rfl | rfl
        · exact Nat.ne_of_lt hel
        · exact Nat.ne_of_lt hil
  done := by
    intro X hP hw hK hc i pins s σ H E I hf st hg
    subst hP hw hK
    obtain ⟨⟨old, he⟩, hit, hne⟩ := st
    obtain ⟨xs, hq, hx⟩ := hg
    obtain ⟨its, rv, pt, _⟩ := I.tuple hq
    obtain ⟨f0, f1, f2, f3, f4, f5⟩ := hf it (by simp)
    have hl := rv.length
    have hT : s.TypeIs (.ref e) "enumerate" := ⟨_, he, rfl⟩
    have hi : i = its.length := by rw [← hx, hl]
    subst hi
    have D := Draws.tuple (prog := X.prog) (w := X.w) (A := X.A.in1) (by simpa using I.ok.hd hc) it a hai its.toArray
    exact wpAny_pyNext_enum_endD D he (by simpa using ⟨hit, pt⟩) fun h' eb => ⟨rfl, I.turned (t' := s.toks) (fun b o hb q => eb b o hb q) f0 f1 f3 f4 f5⟩
  self := fun A i s Q E st h => wpAny_pyIter_enum st.1.choose_spec h
def iEnumT (K : PySem.W.Frag) (ta : TA) : TI := fun σ H R => ta σ H fun vs H1 => ∃ a xs, vs = [.ref a] ∧ SqT K H1 a xs ∧ R (IteT K a) H1
theorem pi_enumT {X : Cx} {e : Expr} {ta : TA} {p pos tpos : Pos} {elts : List Expr} {kk : Nat} (hg : Gl X "enumerate") (hm : X.mg "enumerate" = none) (ha : PA X [e] ta) (hs : starEach [e] X.env = [(false, eval e X.env)]) : PI X (.Tuple elts kk tpos) (.Call (.Name "enumerate" p) [e] [] pos) (iEnumT X.K ta) := by
  refine ⟨fun pins s σ H R I h => ?_⟩
  refine Call_ (ld_blt I hg hm boot_enumerate (PyProof.Rows.callWith_type1 (thn (ha.run pos pins s σ H _ I h) ?_) hs rfl))
  rintro us s1 ⟨vs, H1, I1, r1, a, xs, rfl, hq, q⟩
  obtain ⟨u, rfl, r⟩ := vals1 r1
  cases r
  obtain ⟨its, rv, pt, _⟩ := I1.tuple hq
  have hlt : a < s1.heap.objs.size := by obtain ⟨o, ho, _⟩ := pt; exact Heap.lt_size ho
  refine call_enumT (show s1.heap.IsTuple a its.toArray from pt) fun h' he hit hk => wpAny_pyIter_enum he ?_
  have I2 : Inv X pins σ H1 { s1 with heap := h' } := I1.kept (t' := s1.toks) hk
  refine ⟨s1.heap.objs.size + 1, [s1.heap.objs.size + 1, s1.heap.objs.size], _, _, H1, rfl, I2, turn_enumT a (s1.heap.objs.size + 1) s1.heap.objs.size (Nat.ne_of_lt hlt) (Nat.ne_of_gt (Nat.lt_succ_of_lt hlt)), ⟨⟨.none, he⟩, hit, Nat.succ_ne_self _⟩, fun b hb => ?_, q⟩
  have hle : s1.heap.objs.size ≤ b := by
    simp only [List.mem_cons, List.not_mem_nil, or_false] at hb
    rcases hb with rfl | rfl
    · exact Nat.le_succ _
    · exact Nat.le_refl _
  exact I1.fpOk hle (I1.hok.fresh hle)
end FG

namespace FG
open PySem PySem.Spec PyProof.Rows L2
def SatI (X : Cx) (tg iter : Expr) : TI := fun σ H R => ∀ pins s, Inv X pins σ H s → wpAny (model X.prog X.w) X.A (eval iter X.env) (fun v s1 => wpAny (model X.prog X.w) X.A (pyIter v) (PIE X pins σ tg R) X.xe s1) X.xe s
theorem pi_sat {X : Cx} {tg iter : Expr} : PI X tg iter (SatI X tg iter) := ⟨fun pins s σ H R I h => h pins s I⟩
theorem satI {X : Cx} {tg iter : Expr} {wi : TI} (h : PI X tg iter wi) {σ : L2.St} {H : Hp} {R : It → Hp → Prop} (q : wi σ H R) : SatI X tg iter σ H R := fun pins s I => h.run pins s σ H R I q

/-- the same world, or one more object -/
def Grow (W W' : Wd) : Prop := W' = W ∨ ∃ T o, W.H T = none ∧ W' = W.up T o
section
variable {K : KW} {W W' : Wd} {S : Sto}
theorem Grow.le (g : Grow W W') : Le W W' := by
  rcases g with rfl | ⟨T, o, h, rfl⟩
  · exact .refl _
  · exact up_le h
theorem Grow.ok (g : Grow W W') (ok : WOk W) : WOk W' := by
  rcases g with rfl | ⟨T, o, h, rfl⟩
  · exact ok
  · exact up_ok ok h
theorem Grow.st (g : Grow W W') (ok : WOk W) (st : SRep K W S) : SRep K W' S := by
  rcases g with rfl | ⟨T, o, h, rfl⟩
  · exact st
  · exact up_st ok st h
end
/-- what an iterator yields, in the worlds T -/
structure IterOk (K : KW) (T : Wd → Prop) (J : It) (ds : List D) : Prop where
  go : ∀ (W : Wd) (i : Nat) (d : D), T W → ds[i]? = some d → J.go i W.H
  yld : ∀ (W : Wd) (i : Nat) (d : D) (x : V) (H' : Hp), T W → ds[i]? = some d → J.yld i W.H x H' → ∃ W', Grow W W' ∧ W'.H = H' ∧ Rep K W' d x
  stop : ∀ W : Wd, T W → J.stop ds.length W.H
section
variable {K : KW} {T : Wd → Prop} {ds es : List D} {a b : Addr}
theorem sqL_at {H : Hp} {vs : List V} {i : Nat} {x : V} (h : H a = some (.lst vs)) (q : ∀ xs, SqL K H a xs → xs[i]? = some x) : vs[i]? = some x := q vs (SqL.of h)
theorem sqT_at {H : Hp} {vs : List V} {i : Nat} {x : V} (h : H a = some (.tup vs)) (q : ∀ xs, SqT K H a xs → xs[i]? = some x) : vs[i]? = some x := q vs (SqT.of h)
theorem RepL.at_ {W : Wd} {vs : List V} {i : Nat} {d : D} {x : V} (r : RepL K W ds vs) (e : ds[i]? = some d) (q : vs[i]? = some x) : Rep K W d x := by
  obtain ⟨v, e1, rv⟩ := r.get e
  rw [e1] at q
  cases q
  exact rv
theorem iter_lst (h : ∀ W, T W → TopRep K W (.lst ds) (.ref a)) : IterOk K T (Itl K a) ds where
  go := fun W i d t e => by
    obtain ⟨a', vs, e1, hp, rs⟩ := top_lst (h W t)
    cases e1
    obtain ⟨v, e2, _⟩ := rs.get e
    exact ⟨vs, v, SqL.of hp, e2⟩
  yld := fun W i d x H' t e y => by
    obtain ⟨a', vs, e1, hp, rs⟩ := top_lst (h W t)
    cases e1
    obtain ⟨rfl, y⟩ := y
    exact ⟨W, .inl rfl, rfl, rs.at_ e (sqL_at hp y)⟩
  stop := fun W t => by
    obtain ⟨a', vs, e1, hp, rs⟩ := top_lst (h W t)
    cases e1
    exact ⟨vs, SqL.of hp, by rw [rs.length]; exact Nat.le_refl _⟩
theorem iter_tup (h : ∀ W, T W → TopRep K W (.tup ds) (.ref a)) : IterOk K T (Itt K a) ds where
  go := fun W i d t e => by
    obtain ⟨a', vs, e1, hp, rs⟩ := top_tup (h W t)
    cases e1
    obtain ⟨v, e2, _⟩ := rs.get e
    exact ⟨vs, v, SqT.of hp, e2⟩
  yld := fun W i d x H' t e y => by
    obtain ⟨a', vs, e1, hp, rs⟩ := top_tup (h W t)
    cases e1
    obtain ⟨rfl, y⟩ := y
    exact ⟨W, .inl rfl, rfl, rs.at_ e (sqT_at hp y)⟩
  stop := fun W t => by
    obtain ⟨a', vs, e1, hp, rs⟩ := top_tup (h W t)
    cases e1
    exact ⟨vs, SqT.of hp, by rw [rs.length]; exact Nat.le_refl _⟩
theorem iter_str {s : Str} : IterOk K T (Its s) (s.cps.toList.map fun c => .str ⟨#[c]⟩) where
  go := fun W i d t e => by
    have := (List.getElem?_eq_some_iff.mp e).1
    show i < s.cps.size
    simpa using this
  yld := fun W i d x H' t e y => by
    obtain ⟨rfl, c, e1, rfl⟩ := y
    refine ⟨W, .inl rfl, rfl, ?_⟩
    rw [List.getElem?_map, Array.getElem?_toList, e1] at e
    cases e
    exact rfl
  stop := fun W t => by
    show s.cps.size ≤ _
    simp
theorem iter_range {n : Int} : IterOk K T (Itr 0 n.toNat) ((List.range n.toNat).map fun (i : Nat) => D.int i) where
  go := fun W i d t e => by
    have := (List.getElem?_eq_some_iff.mp e).1
    rw [List.length_map, List.length_range] at this
    exact this
  yld := fun W i d x H' t e y => by
    obtain ⟨rfl, rfl⟩ := y
    refine ⟨W, .inl rfl, rfl, ?_⟩
    obtain ⟨hi, e⟩ := List.getElem?_eq_some_iff.mp e
    rw [← e, List.getElem_map, List.getElem_range]
    show V.int (0 + (i : Int)) = V.int (i : Int)
    rw [Int.zero_add]
  stop := fun W t => by
    show n.toNat ≤ _
    simp
theorem pair_rep {W : Wd} {p : Addr} {d e : D} {x y : V} (ok : WOk W) (h : W.H p = none) (rd : Rep K W d x) (re : Rep K W e y) : Rep K (W.up p (.tup [x, y])) (.tup [d, e]) (.ref p) :=
  ⟨p, [x, y], rfl, up_at ok h, x, [y], rfl, Rep.le (up_le h).leS d x rd, y, [], rfl, Rep.le (up_le h).leS e y re, rfl⟩
theorem zip_at {i : Nat} {d : D} (e : (List.zipWith (fun x y => D.tup [x, y]) ds es)[i]? = some d) : ∃ x y, ds[i]? = some x ∧ es[i]? = some y ∧ d = .tup [x, y] := by
  rw [List.getElem?_zipWith] at e
  cases hx : ds[i]? with
  | none => rw [hx] at e; cases e
  | some x =>
    cases hy : es[i]? with
    | none => rw [hx, hy] at e; cases e
    | some y => rw [hx, hy] at e; cases e; exact ⟨x, y, rfl, rfl, rfl⟩
theorem iter_zipT (ok : ∀ W, T W → WOk W) (h : ∀ W, T W → TopRep K W (.tup ds) (.ref a)) (h' : ∀ W, T W → TopRep K W (.tup es) (.ref b)) : IterOk K T (RZ.ItzT K a b) (List.zipWith (fun x y => .tup [x, y]) ds es) where
  go := fun W i d t e => by
    obtain ⟨a', vs, e1, hp, rs⟩ := top_tup (h W t)
    cases e1
    obtain ⟨b', us, e1, hp', rs'⟩ := top_tup (h' W t)
    cases e1
    obtain ⟨x, y, ex, ey, rfl⟩ := zip_at e
    obtain ⟨v, e2, _⟩ := rs.get ex
    obtain ⟨u, e3, _⟩ := rs'.get ey
    exact ⟨vs, us, v, u, SqT.of hp, SqT.of hp', e2, e3⟩
  yld := fun W i d x H' t e y => by
    obtain ⟨a', vs, e1, hp, rs⟩ := top_tup (h W t)
    cases e1
    obtain ⟨b', us, e1, hp', rs'⟩ := top_tup (h' W t)
    cases e1
    obtain ⟨dx, dy, ex, ey, rfl⟩ := zip_at e
    obtain ⟨p, v, u, rfl, hn, rfl, y1, y2⟩ := y
    exact ⟨W.up p (.tup [v, u]), .inr ⟨p, _, hn, rfl⟩, rfl, pair_rep (ok W t) hn (rs.at_ ex (sqT_at hp y1)) (rs'.at_ ey (sqT_at hp' y2))⟩
  stop := fun W t => by
    obtain ⟨a', vs, e1, hp, rs⟩ := top_tup (h W t)
    cases e1
    obtain ⟨b', us, e1, hp', rs'⟩ := top_tup (h' W t)
    cases e1
    refine ⟨vs, us, SqT.of hp, SqT.of hp', ?_⟩
    rw [List.length_zipWith, rs.length, rs'.length]
    omega
theorem iter_zipL (ok : ∀ W, T W → WOk W) (h : ∀ W, T W → TopRep K W (.lst ds) (.ref a)) (h' : ∀ W, T W → TopRep K W (.lst es) (.ref b)) : IterOk K T (Itz K a b) (List.zipWith (fun x y => .tup [x, y]) ds es) where
  go := fun W i d t e => by
    obtain ⟨a', vs, e1, hp, rs⟩ := top_lst (h W t)
    cases e1
    obtain ⟨b', us, e1, hp', rs'⟩ := top_lst (h' W t)
    cases e1
    obtain ⟨x, y, ex, ey, rfl⟩ := zip_at e
    obtain ⟨v, e2, _⟩ := rs.get ex
    obtain ⟨u, e3, _⟩ := rs'.get ey
    exact ⟨vs, us, v, u, SqL.of hp, SqL.of hp', e2, e3⟩
  yld := fun W i d x H' t e y => by
    obtain ⟨a', vs, e1, hp, rs⟩ := top_lst (h W t)
    cases e1
    obtain ⟨b', us, e1, hp', rs'⟩ := top_lst (h' W t)
    cases e1
    obtain ⟨dx, dy, ex, ey, rfl⟩ := zip_at e
    obtain ⟨p, v, u, rfl, hn, rfl, y1, y2⟩ := y
    exact ⟨W.up p (.tup [v, u]), .inr ⟨p, _, hn, rfl⟩, rfl, pair_rep (ok W t) hn (rs.at_ ex (sqL_at hp y1)) (rs'.at_ ey (sqL_at hp' y2))⟩
  stop := fun W t => by
    obtain ⟨a', vs, e1, hp, rs⟩ := top_lst (h W t)
    cases e1
    obtain ⟨b', us, e1, hp', rs'⟩ := top_lst (h' W t)
    cases e1
    refine ⟨vs, us, SqL.of hp, SqL.of hp', ?_⟩
    rw [List.length_zipWith, rs.length, rs'.length]
    omega
theorem enum_at {i : Nat} {d : D} (e : (ds.zipIdx.map fun p => D.tup [.int p.2, p.1])[i]? = some d) : ∃ x, ds[i]? = some x ∧ d = .tup [.int i, x] := by
  rw [List.getElem?_map, List.getElem?_zipIdx] at e
  cases hx : ds[i]? with
  | none => rw [hx] at e; cases e
  | some x =>
    rw [hx] at e
    simp only [Option.map_some, Nat.zero_add, Option.some.injEq] at e
    exact ⟨x, rfl, e.symm⟩
theorem iter_enumT (ok : ∀ W, T W → WOk W) (h : ∀ W, T W → TopRep K W (.tup ds) (.ref a)) : IterOk K T (IteT K a) (ds.zipIdx.map fun p => .tup [.int p.2, p.1]) where
  go := fun W i d t e => by
    obtain ⟨a', vs, e1, hp, rs⟩ := top_tup (h W t)
    cases e1
    obtain ⟨x, ex, rfl⟩ := enum_at e
    obtain ⟨v, e2, _⟩ := rs.get ex
    exact ⟨vs, v, SqT.of hp, e2⟩
  yld := fun W i d x H' t e y => by
    obtain ⟨a', vs, e1, hp, rs⟩ := top_tup (h W t)
    cases e1
    obtain ⟨dx, ex, rfl⟩ := enum_at e
    obtain ⟨p, v, rfl, hn, rfl, y1⟩ := y
    exact ⟨W.up p (.tup [.int i, v]), .inr ⟨p, _, hn, rfl⟩, rfl, pair_rep (ok W t) hn rfl (rs.at_ ex (sqT_at hp y1))⟩
  stop := fun W t => by
    obtain ⟨a', vs, e1, hp, rs⟩ := top_tup (h W t)
    cases e1
    exact ⟨vs, SqT.of hp, by rw [List.length_map, List.length_zipIdx, rs.length]⟩
theorem iter_enumL (ok : ∀ W, T W → WOk W) (h : ∀ W, T W → TopRep K W (.lst ds) (.ref a)) : IterOk K T (Ite K a) (ds.zipIdx.map fun p => .tup [.int p.2, p.1]) where
  go := fun W i d t e => by
    obtain ⟨a', vs, e1, hp, rs⟩ := top_lst (h W t)
    cases e1
    obtain ⟨x, ex, rfl⟩ := enum_at e
    obtain ⟨v, e2, _⟩ := rs.get ex
    exact ⟨vs, v, SqL.of hp, e2⟩
  yld := fun W i d x H' t e y => by
    obtain ⟨a', vs, e1, hp, rs⟩ := top_lst (h W t)
    cases e1
    obtain ⟨dx, ex, rfl⟩ := enum_at e
    obtain ⟨p, v, rfl, hn, rfl, y1⟩ := y
    exact ⟨W.up p (.tup [.int i, v]), .inr ⟨p, _, hn, rfl⟩, rfl, pair_rep (ok W t) hn rfl (rs.at_ ex (sqL_at hp y1))⟩
  stop := fun W t => by
    obtain ⟨a', vs, e1, hp, rs⟩ := top_lst (h W t)
    cases e1
    exact ⟨vs, SqL.of hp, by rw [List.length_map, List.length_zipIdx, rs.length]; exact Nat.le_refl _⟩
end

/-- all stays but cells; there may be new objects of one's own -/
structure LeK (W W' : Wd) : Prop where
  cs : ∃ t, W'.cs = W.cs ++ t
  own1 : ∀ b, W.own b → W'.own b
  own2 : ∀ b, W'.own b → W.own b ∨ W.H b = none
  keep : ∀ b o, b ∉ W.cs → W.H b = some o → b ∉ W'.cs ∧ W'.H b = some o
section
variable {K : KW} {W W' : Wd}
theorem Le.k (h : Le W W') : LeK W W' := ⟨h.cs, fun b => (h.own b).mpr, fun b z => .inl ((h.own b).mp z), h.keep⟩
theorem LeK.leS (h : LeK W W') : LeS W W' := ⟨h.cs, fun b o ⟨e, n, w⟩ => ⟨o, ⟨(h.keep b o n e).2, (h.keep b o n e).1, fun z => by
  rcases h.own2 b z with z | z
  · exact w z
  · rw [e] at z; cases z⟩, .refl o⟩⟩
theorem OwnRep.leK (h : LeK W W') {a : Addr} {d : D} (n : a ∉ W.cs) (x : OwnRep K W a d) : OwnRep K W' a d := by
  cases d with
  | lst ds =>
    obtain ⟨vs, e, r⟩ := x
    exact ⟨vs, (h.keep a _ n e).2, RepL.le h.leS ds vs r⟩
  | dct ks ds =>
    obtain ⟨kvs, e, k, r⟩ := x
    exact ⟨kvs, (h.keep a _ n e).2, k, RepL.le h.leS ds _ r⟩
  | ndc ks ds =>
    obtain ⟨xs, ⟨ep, e⟩, k, ko, r⟩ := x
    exact ⟨xs, ⟨ep, (h.keep a _ n e).2⟩, k, ko.le h.leS, RepL.le h.leS ds _ r⟩
  | _ => exact x.elim
theorem TopRep.leK (ok : WOk W) (h : LeK W W') {d : D} {v : V} (x : TopRep K W d v) : TopRep K W' d v := by
  rcases x with x | ⟨a, e, o, x⟩
  · exact .inl (Rep.le h.leS d v x)
  · exact .inr ⟨a, e, h.own1 a o, x.leK h (ok.ow a o).1⟩
theorem TopL.leK (ok : WOk W) (h : LeK W W') : ∀ {ds : List D} {vs : List V}, TopL K W ds vs → TopL K W' ds vs
  | [], vs, x => x
  | d :: ds, vs, x => by
    obtain ⟨v, vs', e, r, rs⟩ := x
    exact ⟨v, vs', e, r.leK ok h, rs.leK ok h⟩
theorem EnvR.leK {env : En} {σ : L2.St} (ok : WOk W) (h : LeK W W') (r : EnvR K W env σ) : EnvR K W' env σ where
  len := r.len
  sh := fun i d e => by
    obtain ⟨v, e1, q⟩ := r.sh i d e
    exact ⟨v, e1, Rep.le h.leS d v q⟩
  ow := fun i d e => by
    obtain ⟨a, e1, o, q⟩ := r.ow i d e
    exact ⟨a, e1, h.own1 a o, q.leK h (ok.ow a o).1⟩
  un := r.un
end
/-! ### what is walked, over data; P: what stays through the turns -/
def EvI (X : Cx) (P : Wd → Wd → Prop) (env : En) (tg iter : Expr) (S : Sto) (ds : List D) (S' : Sto) : Prop := ∀ (σ : L2.St) (W : Wd), EnvR X.kw W env σ → WOk W → SRep X.kw W S →
  ∀ R : It → Hp → Prop, (∀ J W', Le W W' → WOk W' → SRep X.kw W' S' → IterOk X.kw (fun W2 => WOk W2 ∧ P W' W2) J ds → R J W'.H) → SatI X tg iter σ W.H R
/-- the values' tops stay under P -/
def StayL (K : KW) (P : Wd → Wd → Prop) (ds : List D) (vs : List V) (W : Wd) : Prop := ∀ W2, P W W2 → TopL K W2 ds vs
def EvP (X : Cx) (P : Wd → Wd → Prop) (env : En) (exs : List Expr) (S : Sto) (ds : List D) (S' : Sto) : Prop := ∀ (σ : L2.St) (W : Wd), EnvR X.kw W env σ → WOk W → SRep X.kw W S →
  ∀ Q : List V → Hp → Prop, (∀ vs W', Le W W' → WOk W' → SRep X.kw W' S' → TopL X.kw W' ds vs → StayL X.kw P ds vs W' → Q vs W'.H) → SatA X exs σ W.H Q
section
variable {X : Cx} {env : En} {S S1 : Sto} {P : Wd → Wd → Prop} {ds : List D} {exs : List Expr}
theorem EvCL.p (h : EvCL X env exs S ds S1) : EvP X LeK env exs S ds S1 := fun σ W rr ok st Q q => h σ W rr ok st _ fun vs W' l ok' st' t => q vs W' l ok' st' t fun W2 p => t.leK ok' p
theorem RepL.topL {K : KW} {W : Wd} : ∀ {ds : List D} {vs : List V}, RepL K W ds vs → TopL K W ds vs
  | [], vs, r => r
  | d :: ds, vs, r => by
    obtain ⟨v, vs', e, r1, rs⟩ := r
    exact ⟨v, vs', e, .inl r1, rs.topL⟩
theorem EvL.p (h : EvL X env exs S ds S1) : EvP X LeS env exs S ds S1 := fun σ W rr ok st Q q => h σ W rr ok st _ fun vs W' l ok' st' t => q vs W' l ok' st' t.topL fun W2 p => (RepL.le p ds vs t).topL
theorem top1 {K : KW} {W : Wd} {d : D} {vs : List V} (h : TopL K W [d] vs) : ∃ v, vs = [v] ∧ TopRep K W d v := by
  obtain ⟨v, vs', rfl, t, rfl⟩ := h
  exact ⟨v, rfl, t⟩
theorem top2 {K : KW} {W : Wd} {d e : D} {vs : List V} (h : TopL K W [d, e] vs) : ∃ v u, vs = [v, u] ∧ TopRep K W d v ∧ TopRep K W e u := by
  obtain ⟨v, vs', rfl, t, u, vs'', rfl, t', rfl⟩ := h
  exact ⟨v, u, rfl, t, t'⟩
def tupTg : Expr → Bool
  | .Tuple _ _ _ => true
  | _ => false
/-- one expression, its top staying -/
def EvP1 (X : Cx) (P : Wd → Wd → Prop) (env : En) (ex : Expr) (S : Sto) (d : D) (S' : Sto) : Prop := ∀ (σ : L2.St) (W : Wd), EnvR X.kw W env σ → WOk W → SRep X.kw W S →
  ∀ Q : VK, (∀ v W', Le W W' → WOk W' → SRep X.kw W' S' → TopRep X.kw W' d v → (∀ W2, P W' W2 → TopRep X.kw W2 d v) → Q v W'.H) → SatE X ex σ W.H Q
variable {a b : Expr} {d : D} {fr : Bool} {tg : Expr}
theorem EvC.p (h : EvC X env a S d S1) : EvP1 X LeK env a S d S1 := fun σ W rr ok st Q q => h σ W rr ok st _ fun v W' l ok' st' t => q v W' l ok' st' t fun W2 p => t.leK ok' p
theorem Ev.p (h : Ev X env a S d S1 fr) : EvP1 X LeS env a S d S1 := fun σ W rr ok st Q q => h σ W rr ok st _ fun v W' p _ => q v W' p.le p.ok p.st (.inl p.rep) fun W2 l => .inl (Rep.le l d v p.rep)
theorem evi_seq (h : EvP1 X P env a S d S1) (e : itemsF .seq [d] = some ds) : EvI X P env tg a S ds S1 := by
  intro σ W rr ok st R q
  cases d with
  | lst xs =>
    cases e
    refine satI (pi_list pe_sat) (h σ W rr ok st _ fun v W' l ok' st' t stay => ?_)
    obtain ⟨p, vs, rfl, hp, rs⟩ := top_lst t
    exact ⟨p, rfl, ⟨vs, SqL.of hp⟩, q _ W' l ok' st' (iter_lst fun W2 t2 => stay W2 t2.2)⟩
  | tup xs =>
    cases e
    refine satI (pi_tup pe_sat) (h σ W rr ok st _ fun v W' l ok' st' t stay => ?_)
    obtain ⟨p, vs, rfl, hp, rs⟩ := top_tup t
    exact ⟨p, rfl, ⟨vs, SqT.of hp⟩, q _ W' l ok' st' (iter_tup fun W2 t2 => stay W2 t2.2)⟩
  | str s =>
    cases e
    refine satI (pi_str pe_sat) (h σ W rr ok st _ fun v W' l ok' st' t stay => ?_)
    cases top_str t
    exact ⟨s, rfl, q _ W' l ok' st' iter_str⟩
  | _ => cases e
theorem evi_range {p pos : Pos} {d : D} (hg : Gl X "range") (hm : X.mg "range" = none) (ns : noStar a = true) (h : EvP X P env [a] S [d] S1) (e : itemsF .range [d] = some ds) : EvI X P env tg (.Call (.Name "range" p) [a] [] pos) S ds S1 := by
  intro σ W rr ok st R q
  cases d with
  | int n =>
    simp only [itemsF] at e
    split at e
    · rename_i hn
      cases e
      have hn' : n < 2 ^ 62 ∧ -(2 ^ 62) ≤ n := by simpa using hn
      refine satI (pi_range1 hg hm pa_sat (star_of ns)) (h σ W rr ok st _ fun vs W' l ok' st' t stay => ?_)
      obtain ⟨v, rfl, t1⟩ := top1 t
      cases top_int t1
      exact ⟨n, rfl, hn'.2, hn'.1, q _ W' l ok' st' iter_range⟩
    · cases e
  | _ => cases e
theorem evi_zip {p pos : Pos} {d1 d2 : D} (ht : tupTg tg = true) (hg : Gl X "zip") (hm : X.mg "zip" = none) (na : noStar a = true) (nb : noStar b = true) (h : EvP X P env [a, b] S [d1, d2] S1) (e : itemsF .zip [d1, d2] = some ds) : EvI X P env tg (.Call (.Name "zip" p) [a, b] [] pos) S ds S1 := by
  cases tg with
  | Tuple elts kk tpos =>
    intro σ W rr ok st R q
    have hpl : (backTo pos (starEach [b] X.env)).any (·.1) = false := stars_any (es := [b]) (by simpa using nb)
    cases d1 with
    | tup xs =>
      cases d2 with
      | tup ys =>
        cases e
        refine satI (RZ.pi_zipA hg hm pa_sat (star_of na) hpl) (h σ W rr ok st _ fun vs W' l ok' st' t stay => ?_)
        obtain ⟨v, u, rfl, t1, t2⟩ := top2 t
        obtain ⟨p1, vs, rfl, hp, rs⟩ := top_tup t1
        obtain ⟨p2, us, rfl, hp', rs'⟩ := top_tup t2
        refine ⟨p1, p2, vs, us, rfl, .inr ⟨SqT.of hp, SqT.of hp', q _ W' l ok' st' (iter_zipT (fun W2 t2 => t2.1) (fun W2 t2 => ?_) fun W2 t2 => ?_)⟩⟩
        · obtain ⟨_, _, e1, z, _⟩ := top2 (stay W2 t2.2); cases e1; exact z
        · obtain ⟨_, _, e1, _, z⟩ := top2 (stay W2 t2.2); cases e1; exact z
      | _ => cases e
    | lst xs =>
      cases d2 with
      | lst ys =>
        cases e
        refine satI (RZ.pi_zipA hg hm pa_sat (star_of na) hpl) (h σ W rr ok st _ fun vs W' l ok' st' t stay => ?_)
        obtain ⟨v, u, rfl, t1, t2⟩ := top2 t
        obtain ⟨p1, vs, rfl, hp, rs⟩ := top_lst t1
        obtain ⟨p2, us, rfl, hp', rs'⟩ := top_lst t2
        refine ⟨p1, p2, vs, us, rfl, .inl ⟨SqL.of hp, SqL.of hp', q _ W' l ok' st' (iter_zipL (fun W2 t2 => t2.1) (fun W2 t2 => ?_) fun W2 t2 => ?_)⟩⟩
        · obtain ⟨_, _, e1, z, _⟩ := top2 (stay W2 t2.2); cases e1; exact z
        · obtain ⟨_, _, e1, _, z⟩ := top2 (stay W2 t2.2); cases e1; exact z
      | _ => cases e
    | _ => cases e
  | _ => cases ht
theorem evi_enum {p pos : Pos} {d : D} (ht : tupTg tg = true) (hg : Gl X "enumerate") (hm : X.mg "enumerate" = none) (na : noStar a = true) (h : EvP X P env [a] S [d] S1) (e : itemsF .enum [d] = some ds) : EvI X P env tg (.Call (.Name "enumerate" p) [a] [] pos) S ds S1 := by
  cases tg with
  | Tuple elts kk tpos =>
    intro σ W rr ok st R q
    cases d with
    | tup xs =>
      cases e
      refine satI (pi_enumT hg hm pa_sat (star_of na)) (h σ W rr ok st _ fun vs W' l ok' st' t stay => ?_)
      obtain ⟨v, rfl, t1⟩ := top1 t
      obtain ⟨p1, vs, rfl, hp, rs⟩ := top_tup t1
      refine ⟨p1, vs, rfl, SqT.of hp, q _ W' l ok' st' (iter_enumT (fun W2 t2 => t2.1) fun W2 t2 => ?_)⟩
      obtain ⟨_, e1, z⟩ := top1 (stay W2 t2.2); cases e1; exact z
    | lst xs =>
      cases e
      refine satI (pi_enum hg hm pa_sat (star_of na)) (h σ W rr ok st _ fun vs W' l ok' st' t stay => ?_)
      obtain ⟨v, rfl, t1⟩ := top1 t
      obtain ⟨p1, vs, rfl, hp, rs⟩ := top_lst t1
      refine ⟨p1, vs, rfl, SqL.of hp, q _ W' l ok' st' (iter_enumL (fun W2 t2 => t2.1) fun W2 t2 => ?_)⟩
      obtain ⟨_, e1, z⟩ := top1 (stay W2 t2.2); cases e1; exact z
    | _ => cases e
  | _ => cases ht
end
end FG

namespace FG
open PySem PySem.Spec PyProof.Rows L2
/-! ### targets -/
def gNames : List Nat → TGs
  | [] => gNil
  | i :: is => gCons (gName i) (gNames is)
def gOf (K : KW) : Tg → TG
  | .nm i => gName i
  | .tp is => gTup K is.length (gNames is)
def tgSlots : Tg → List Nat
  | .nm i => [i]
  | .tp is => is
section
variable {K : KW} {W : Wd} {env : En} {σ : L2.St}
theorem EnvR.setSh {i : Nat} {d : D} {v : V} (r : EnvR K W env σ) (rv : Rep K W d v) : EnvR K W (env.set i (some (.sh d))) (σ.set i (some v)) := by
  have back : ∀ (j : Nat) (d' : D), (env.set i (some (Ent.sh d)))[j]? = some (some (.ow d')) → i ≠ j ∧ env[j]? = some (some (.ow d')) := fun j d' h => by
    by_cases hj : i = j
    · subst hj
      by_cases hi : i < env.length
      · rw [List.getElem?_set_self hi] at h; cases h
      · rw [List.getElem?_eq_none (by simpa using hi)] at h; cases h
    · rw [List.getElem?_set_ne hj] at h
      exact ⟨hj, h⟩
  refine ⟨by rw [List.length_set, List.length_set]; exact r.len, fun j d' h => ?_, fun j d' h => ?_, fun j j' d' d'' a h h' e e' => ?_⟩
  · by_cases hj : i = j
    · subst hj
      by_cases hi : i < env.length
      · rw [List.getElem?_set_self hi] at h
        cases h
        exact ⟨v, by rw [List.getElem?_set_self (by rw [← r.len]; exact hi)], rv⟩
      · rw [List.getElem?_eq_none (by simpa using hi)] at h; cases h
    · rw [List.getElem?_set_ne hj] at h
      obtain ⟨u, e, q⟩ := r.sh j d' h
      exact ⟨u, by rw [List.getElem?_set_ne hj]; exact e, q⟩
  · obtain ⟨hj, h⟩ := back j d' h
    obtain ⟨a, e, o, q⟩ := r.ow j d' h
    exact ⟨a, by rw [List.getElem?_set_ne hj]; exact e, o, q⟩
  · obtain ⟨hj, h⟩ := back j d' h
    obtain ⟨hj', h'⟩ := back j' d'' h'
    rw [List.getElem?_set_ne hj] at e
    rw [List.getElem?_set_ne hj'] at e'
    exact r.un j j' d' d'' a h h' e e'
theorem wipe_set {v : Option V} : ∀ {vs : List Nat} {i : Nat} {σ : L2.St}, i ∈ vs → wipe (σ.set i v) vs = wipe σ vs
  | [], i, σ, h => by cases h
  | j :: vs, i, σ, h => by
    unfold wipe
    by_cases hm : i ∈ vs
    · rw [wipe_set hm]
    · have hij : i = j := by
        rcases List.mem_cons.mp h with e | e
        · exact e
        · exact absurd e hm
      subst hij
      have : ∀ {vs : List Nat} {σ : L2.St}, i ∉ vs → wipe (σ.set i v) vs = (wipe σ vs).set i v := by
        intro vs
        induction vs with
        | nil => intro σ _; rfl
        | cons k vs ih =>
          intro σ hk
          have hk' : i ≠ k ∧ i ∉ vs := by simpa using hk
          unfold wipe
          rw [ih hk'.2, List.set_comm _ _ hk'.1]
      rw [this hm, List.set_set]
theorem bind_names {Q : L2.St → Hp → Prop} : ∀ {is : List Nat} {ds : List D} {vs : List V} {env : En} {σ : L2.St}, is.length = ds.length → RepL K W ds vs → EnvR K W env σ →
    (∀ σ2, EnvR K W ((is.zip ds).foldl (fun e p => e.set p.1 (some (.sh p.2))) env) σ2 → (∀ ws : List Nat, (∀ i ∈ is, i ∈ ws) → wipe σ2 ws = wipe σ ws) → Q σ2 W.H) → gNames is vs σ W.H Q
  | [], [], vs, env, σ, hl, r, rr, q => ⟨r, q σ rr fun _ _ => rfl⟩
  | i :: is, d :: ds, vs, env, σ, hl, r, rr, q => by
    obtain ⟨v, vs', rfl, rv, rs⟩ := r
    refine ⟨v, vs', rfl, bind_names (by simpa using hl) rs (rr.setSh (i := i) rv) fun σ2 r2 w2 => q σ2 r2 fun ws hw => ?_⟩
    rw [w2 ws fun j hj => hw j (List.mem_cons_of_mem _ hj)]
    exact wipe_set (hw i List.mem_cons_self)
  | [], _ :: _, _, _, _, hl, _, _, _ => by simp at hl
  | _ :: _, [], _, _, _, hl, _, _, _ => by simp at hl
theorem bind_ok {tg : Tg} {d : D} {env1 : En} {x : V} {Q : L2.St → Hp → Prop} (rx : Rep K W d x) (rr : EnvR K W env σ) (e : bindT tg d env = some env1)
    (q : ∀ σ2, EnvR K W env1 σ2 → (∀ ws : List Nat, (∀ i ∈ tgSlots tg, i ∈ ws) → wipe σ2 ws = wipe σ ws) → Q σ2 W.H) : gOf K tg x σ W.H Q := by
  cases tg with
  | nm i =>
    cases e
    exact q _ (rr.setSh rx) fun ws hw => wipe_set (hw i (by simp [tgSlots]))
  | tp is =>
    cases d with
    | tup ds =>
      simp only [bindT] at e
      split at e
      · rename_i hl
        cases e
        obtain ⟨a, vs, rfl, hat, rs⟩ := rx
        exact ⟨a, vs, rfl, SqT.of hat.1, by rw [← rs.length]; exact hl.symm, bind_names hl rs rr q⟩
      · cases e
    | _ => cases e
theorem wipeE_get : ∀ {vs : List Nat} {env : En} {i : Nat} {e : Ent}, (wipeE env vs)[i]? = some (some e) → i ∉ vs ∧ env[i]? = some (some e)
  | [], env, i, e, h => ⟨by simp, h⟩
  | j :: vs, env, i, e, h => by
    have h' : (wipeE (env.set j none) vs)[i]? = some (some e) := h
    obtain ⟨h1, h2⟩ := wipeE_get h'
    by_cases hj : j = i
    · subst hj
      by_cases hi : j < env.length
      · rw [List.getElem?_set_self hi] at h2; cases h2
      · rw [List.getElem?_eq_none (by simpa using hi)] at h2; cases h2
    · rw [List.getElem?_set_ne hj] at h2
      exact ⟨by simp only [List.mem_cons, not_or]; exact ⟨fun z => hj z.symm, h1⟩, h2⟩
theorem wipeE_len : ∀ {vs : List Nat} {env : En}, (wipeE env vs).length = env.length
  | [], env => rfl
  | j :: vs, env => by
    show (wipeE (env.set j none) vs).length = env.length
    rw [wipeE_len, List.length_set]
theorem EnvR.wipe (r : EnvR K W env σ) (vs : List Nat) : EnvR K W (wipeE env vs) (L2.wipe σ vs) where
  len := by rw [wipeE_len, wipe_length]; exact r.len
  sh := fun i d h => by
    obtain ⟨n, h⟩ := wipeE_get h
    obtain ⟨v, e, q⟩ := r.sh i d h
    exact ⟨v, by rw [wipe_out n]; exact e, q⟩
  ow := fun i d h => by
    obtain ⟨n, h⟩ := wipeE_get h
    obtain ⟨v, e, q⟩ := r.ow i d h
    exact ⟨v, by rw [wipe_out n]; exact e, q⟩
  un := fun i j d e a h h' e1 e2 => by
    obtain ⟨n, h⟩ := wipeE_get h
    obtain ⟨n', h'⟩ := wipeE_get h'
    rw [wipe_out n] at e1
    rw [wipe_out n'] at e2
    exact r.un i j d e a h h' e1 e2
end
/-! ### tests -/
def SatTs (X : Cx) (ifs : List Expr) : TT := fun σ H Q => ∀ pins s, Inv X pins σ H s →
    wpAny (model X.prog X.w) X.A (forIn ifs true fun c r => if r = true then do let ok ← isTrue c X.env (eval c X.env); pure (ForInStep.yield ok) else pure (ForInStep.yield r)) (TP X pins σ Q) X.xe s
theorem satTs {X : Cx} {ifs : List Expr} {t : TT} (h : PTs X ifs t) {σ : L2.St} {H : Hp} {Q : Bool → Hp → Prop} (q : t σ H Q) : SatTs X ifs σ H Q := fun pins s I => h.run pins s σ H Q I q
def EvTs (X : Cx) (env : En) (ifs : List Expr) (S : Sto) (b : Bool) (S' : Sto) : Prop := ∀ (σ : L2.St) (W : Wd), EnvR X.kw W env σ → WOk W → SRep X.kw W S →
  ∀ Q : Bool → Hp → Prop, (∀ W', Le W W' → WOk W' → SRep X.kw W' S' → Q b W'.H) → SatTs X ifs σ W.H Q
theorem ets_nil {X : Cx} {env : En} {S : Sto} : EvTs X env [] S true S := fun σ W rr ok st Q q => satTs pts_nil (q W (.refl W) ok st)
theorem ets_one {X : Cx} {env : En} {S S' : Sto} {c : Expr} {b : Bool} (h : EvB X env c S b S') : EvTs X env [c] S b S' := fun σ W rr ok st Q q => satTs (pts_one pt_sat) (h σ W rr ok st Q q)

/-! ### a new object that grows through the turns -/
structure Acc (A : Addr) (W1 W2 : Wd) : Prop where
  cs : ∃ t, W2.cs = W1.cs ++ t
  own : ∀ b, W2.own b ↔ W1.own b ∨ b = A
  keep : ∀ b o, b ∉ W1.cs → W1.H b = some o → b ∉ W2.cs ∧ W2.H b = some o
  new : W1.H A = none
  out : A ∉ W2.cs
  ok : WOk W2
section
variable {K : KW} {A : Addr} {W1 W2 W3 : Wd} {S : Sto}
theorem Acc.leK (a : Acc A W1 W2) : LeK W1 W2 := ⟨a.cs, fun b z => (a.own b).mpr (.inl z), fun b z => by
  rcases (a.own b).mp z with z | z
  · exact .inl z
  · rw [z]; exact .inr a.new, a.keep⟩
theorem Acc.start (ok : WOk W1) (h : W1.H A = none) {o : HO} (m : mutO o = true) : Acc A W1 ((W1.up A o).hide A) := by
  have hA : A ∉ W1.cs := fun z => ok.dom A z h
  refine ⟨⟨[], by simp [Wd.up, Wd.hide]⟩, fun b => Iff.rfl, fun b u n e => ⟨n, ?_⟩, h, hA, ⟨ok.nd, fun b z => ?_, fun b z => ?_⟩⟩
  · show upd W1.H A o b = some u
    rw [upd_ne (ne_of_none e h)]
    exact e
  · show upd W1.H A o b ≠ none
    rw [upd_ne (fun e : b = A => hA (e ▸ z))]
    exact ok.dom b z
  · rcases z with z | rfl
    · obtain ⟨n, u, e, k⟩ := ok.ow b z
      exact ⟨n, u, by show upd W1.H A o b = some u; rw [upd_ne (ne_of_none e h)]; exact e, k⟩
    · exact ⟨hA, o, upd_same, m⟩
theorem Acc.le (a : Acc A W1 W2) (l : Le W2 W3) (ok : WOk W3) (hA : W2.H A ≠ none) : Acc A W1 W3 := by
  refine ⟨?_, fun b => (l.own b).trans (a.own b), fun b o n e => ?_, a.new, ?_, ok⟩
  · obtain ⟨t, h⟩ := a.cs
    obtain ⟨u, h'⟩ := l.cs
    exact ⟨t ++ u, by rw [h', h, List.append_assoc]⟩
  · obtain ⟨n1, e1⟩ := a.keep b o n e
    exact l.keep b o n1 e1
  · cases e : W2.H A with
    | none => exact absurd e hA
    | some o => exact (l.keep A o a.out e).1
/-- the object's content changed -/
def Wd.put (W : Wd) (A : Addr) (o : HO) : Wd := ⟨W.cs, W.own, upd W.H A o⟩
theorem put_leS {W : Wd} (hw : W.own A) {o : HO} : LeS W (W.put A o) := by
  refine ⟨⟨[], by simp [Wd.put]⟩, fun b u ⟨e, n, w⟩ => ⟨u, ⟨?_, n, w⟩, .refl u⟩⟩
  show upd W.H A o b = some u
  rw [upd_ne (fun z : b = A => w (z ▸ hw))]
  exact e
theorem put_ok {W : Wd} (ok : WOk W) (hw : W.own A) {o : HO} (m : mutO o = true) : WOk (W.put A o) := by
  have hA := (ok.ow A hw).1
  refine ⟨ok.nd, fun b z => ?_, fun b z => ⟨(ok.ow b z).1, ?_⟩⟩
  · show upd W.H A o b ≠ none
    rw [upd_ne (fun e : b = A => hA (e ▸ z))]
    exact ok.dom b z
  · by_cases e : b = A
    · subst e; exact ⟨o, upd_same, m⟩
    · obtain ⟨u, e1, k⟩ := (ok.ow b z).2
      exact ⟨u, by show upd W.H A o b = some u; rw [upd_ne e]; exact e1, k⟩
theorem put_st {W : Wd} (ok : WOk W) (hw : W.own A) {o : HO} (st : SRep K W S) : SRep K (W.put A o) S :=
  st_le st rfl (put_leS hw) fun a m => upd_ne fun e : a = A => (ok.ow A hw).1 (e ▸ m)
theorem Acc.put (a : Acc A W1 W2) {o : HO} (m : mutO o = true) : Acc A W1 (W2.put A o) := by
  have hw : W2.own A := (a.own A).mpr (.inr rfl)
  refine ⟨a.cs, a.own, fun b u n e => ?_, a.new, a.out, put_ok a.ok hw m⟩
  obtain ⟨n1, e1⟩ := a.keep b u n e
  refine ⟨n1, ?_⟩
  show upd W2.H A o b = some u
  rw [upd_ne (ne_of_none e a.new)]
  exact e1
/-- the end: the object is handed on -/
def Acc.fin (W1 W2 : Wd) : Wd := ⟨W2.cs, W1.own, W2.H⟩
theorem Acc.fin_le (a : Acc A W1 W2) : Le W1 (Acc.fin W1 W2) := ⟨a.cs, fun _ => Iff.rfl, a.keep⟩
theorem Acc.fin_ok (a : Acc A W1 W2) : WOk (Acc.fin W1 W2) := ⟨a.ok.nd, a.ok.dom, fun b z => a.ok.ow b ((a.own b).mpr (.inl z))⟩
theorem Acc.fin_leS (a : Acc A W1 W2) : LeS W2 (Acc.fin W1 W2) := ⟨⟨[], by simp [Acc.fin]⟩, fun b u ⟨e, n, w⟩ => ⟨u, ⟨e, n, fun z => w ((a.own b).mpr (.inl z))⟩, .refl u⟩⟩
theorem Acc.fin_hide (a : Acc A W1 W2) : LeS W2 ((Acc.fin W1 W2).hide A) := ⟨⟨[], by simp [Acc.fin, Wd.hide]⟩, fun b u ⟨e, n, w⟩ => ⟨u, ⟨e, n, fun z => w ((a.own b).mpr z)⟩, .refl u⟩⟩
theorem Acc.fin_own (a : Acc A W1 W2) (ok1 : WOk W1) : ¬ (Acc.fin W1 W2).own A := fun z => by
  obtain ⟨_, o, e, _⟩ := ok1.ow A z
  rw [a.new] at e
  cases e
end

/-- what is walked, from one state -/
def EvIat (X : Cx) (P : Wd → Wd → Prop) (tg iter : Expr) (ds : List D) (S' : Sto) (σ : L2.St) (W : Wd) : Prop :=
  ∀ R : It → Hp → Prop, (∀ J W', Le W W' → WOk W' → SRep X.kw W' S' → IterOk X.kw (fun W2 => WOk W2 ∧ P W' W2) J ds → R J W'.H) → SatI X tg iter σ W.H R
/-! ### [elt for target in iter if ..] -/
abbrev XB (X : Cx) (scope : Scope) (s : Shared) (H : Hp) (C : Addr) (cl : List (Str × Addr)) (fp : List Addr) : Cx := X.blk s H scope (compEnvC scope cl C X.env) fp
section
variable {X : Cx} {env : En} {S S1 S2 : Sto} {pos : Pos} {elt tg iter kx vx : Expr} {ifs : List Expr} {scope : Scope} {own : List (Str × Nat)} {tgc : Tg} {items rs : List D}
  {test : En → Sto → Option (Bool × Sto)} {eltf kf vf : En → Sto → Option (D × Sto)}
theorem lc_read {σ : L2.St} {W : Wd} (hslots : ∀ i ∈ tgSlots tgc, i ∈ own.map (·.2))
    (hi : EvIat X LeK tg iter items S1 σ W)
    (ht : ∀ env1 S t S', test env1 S = some (t, S') → ∀ s H C cl fp, EvTs (XB X scope s H C cl fp) env1 ifs S t S')
    (he : ∀ env1 S d S', eltf env1 S = some (d, S') → ∀ s H C cl fp, Ev (XB X scope s H C cl fp) env1 elt S d S' false)
    (hgo : lcGo (fun d => bindT tgc d (wipeE env (own.map (·.2)))) test eltf items S1 [] = some (rs, S2))
    (rr : EnvR X.kw W env σ) (okW : WOk W) (Q : VK) (q : ∀ v W', Post X.kw W S2 W' (.lst rs) v → Fresh X.kw W W' (.lst rs) v → Q v W'.H) :
    tLc (SatI X tg iter) (gOf X.kw tgc) (fun σ H Q => ∀ s H0 C cl fp, SatTs (XB X scope s H0 C cl fp) ifs σ H Q) (fun σ H Q => ∀ s H0 C cl fp, SatE (XB X scope s H0 C cl fp) elt σ H Q) (own.map (·.2)) σ W.H Q := by
  refine hi _ fun J W1 l1 ok1 st1 it A hA => ?_
  have rr1 : EnvR X.kw W1 env σ := rr.le okW l1
  let Iv : Nat → Hp → Prop := fun i H => i ≤ items.length ∧ ∃ (W2 : Wd) (Si : Sto) (acc : List D) (us : List V), W2.H = H ∧ Acc A W1 W2 ∧ SRep X.kw W2 Si ∧ W2.H A = some (.lst us) ∧ RepL X.kw W2 acc us ∧
    lcGo (fun d => bindT tgc d (wipeE env (own.map (·.2)))) test eltf (items.drop i) Si acc = some (rs, S2)
  refine ⟨fun i m H => m = items.length - i ∧ Iv i H, ⟨_, rfl, Nat.zero_le _, (W1.up A (.lst [])).hide A, S1, [], [], rfl, Acc.start ok1 hA rfl, ?_, upd_same, rfl, by rw [List.drop_zero]; exact hgo⟩, ?_⟩
  · exact st_le st1 rfl (up_hide hA) fun a m => upd_ne fun e => ok1.dom a m (by rw [e]; exact hA)
  rintro i m H ⟨rfl, hile, W2, Si, acc, us, rfl, ac, sti, eA, ra, hg⟩
  have hT : WOk W2 ∧ LeK W1 W2 := ⟨ac.ok, ac.leK⟩
  by_cases hlt : i < items.length
  · have ed : items[i]? = some items[i] := List.getElem?_eq_getElem hlt
    refine .inr ⟨it.go W2 i _ hT ed, Iv (i + 1), fun H' p' => ⟨items.length - (i + 1), by omega, rfl, p'⟩, fun x H' y => ?_⟩
    obtain ⟨W3, gr, rfl, rx⟩ := it.yld W2 i _ x H' hT ed y
    have ac3 : Acc A W1 W3 := ac.le gr.le (gr.ok ac.ok) (by rw [eA]; exact Option.some_ne_none _)
    have eA3 : W3.H A = some (.lst us) := (gr.le.keep A _ ac.out eA).2
    have st3 := gr.st ac.ok sti
    rw [List.drop_eq_getElem_cons hlt] at hg
    simp only [lcGo, Option.bind_eq_some_iff] at hg
    obtain ⟨env1, hb, ⟨t, S3⟩, htest, hg⟩ := hg
    have rr3 : EnvR X.kw W3 (wipeE env (own.map (·.2))) (L2.wipe σ (own.map (·.2))) := ((rr1.leK ok1 ac3.leK)).wipe _
    refine bind_ok rx rr3 hb fun σ2 r2 w2 => ⟨?_, fun s H0 C cl fp => ?_⟩
    · rw [w2 _ hslots]
      -- wiping twice
      have : ∀ (vs ws : List Nat) (τ : L2.St), (∀ i ∈ vs, i ∈ ws) → L2.wipe (L2.wipe τ vs) ws = L2.wipe τ ws := by
        intro vs
        induction vs with
        | nil => intro ws τ _; rfl
        | cons k vs ih =>
          intro ws τ hs
          show L2.wipe ((L2.wipe τ vs).set k none) ws = _
          rw [wipe_set (hs k List.mem_cons_self), ih ws τ fun i hi => hs i (List.mem_cons_of_mem _ hi)]
      exact this _ _ _ fun _ h => h
    · refine ht env1 Si t S3 htest s H0 C cl fp σ2 W3 r2 ac3.ok st3 _ fun W4 l4 ok4 st4 => ?_
      have ac4 : Acc A W1 W4 := ac3.le l4 ok4 (by rw [eA3]; exact Option.some_ne_none _)
      have eA4 : W4.H A = some (.lst us) := (l4.keep A _ ac3.out eA3).2
      have ra4 : RepL X.kw W4 acc us := RepL.le (gr.le.trans l4).leS acc us ra
      cases t with
      | true =>
        rw [if_pos rfl]
        simp only [if_true, Option.bind_eq_some_iff] at hg
        obtain ⟨⟨d, S5⟩, helt, hg⟩ := hg
        intro s' H0' C' cl' fp'
        refine he env1 S3 d S5 helt s' H0' C' cl' fp' σ2 W4 (r2.le ac3.ok l4) ok4 st4 _ fun y W5 p5 _ => ?_
        have ac5 : Acc A W1 W5 := ac4.le p5.le p5.ok (by rw [eA4]; exact Option.some_ne_none _)
        have eA5 : W5.H A = some (.lst us) := (p5.le.keep A _ ac4.out eA4).2
        have hw5 : W5.own A := (ac5.own A).mpr (.inr rfl)
        split at hg
        · rename_i hz
          have ln : us.length = acc.length := (RepL.length ra).symm
          refine ⟨us, eA5, by rw [ln, ← big_eq]; exact hz, hlt, W5.put A (.lst (us ++ [y])), S5, acc ++ [d], us ++ [y], rfl, ac5.put rfl, put_st ac5.ok hw5 p5.st, upd_same, ?_, hg⟩
          exact (RepL.le (p5.le.leS.trans (put_leS hw5)) acc us ra4).append (.one (Rep.le (put_leS hw5) d y p5.rep))
        · cases hg
      | false =>
        rw [if_neg Bool.false_ne_true]
        simp only [Bool.false_eq_true, if_false] at hg
        exact ⟨hlt, W4, S3, acc, us, rfl, ac4, st4, eA4, ra4, hg⟩
  · have ei : i = items.length := by omega
    subst ei
    rw [List.drop_length] at hg
    cases hg
    refine .inl ⟨it.stop W2 hT, q (.ref A) (Acc.fin W1 W2) ⟨l1.trans ac.fin_le, ac.fin_ok, st_le sti rfl ac.fin_leS fun _ _ => rfl, A, us, rfl, ⟨eA, ac.out, ac.fin_own ok1⟩, RepL.le ac.fin_leS _ us ra⟩ fun _ => .inr ⟨A, rfl, l1.free ok1 hA, ac.out, ac.fin_own ok1, us, eA, RepL.le ac.fin_hide _ us ra⟩⟩
/-- two wipes -/
theorem wipe_wipe : ∀ (vs ws : List Nat) (τ : L2.St), (∀ i ∈ vs, i ∈ ws) → L2.wipe (L2.wipe τ vs) ws = L2.wipe τ ws
  | [], ws, τ, _ => rfl
  | k :: vs, ws, τ, hs => by
    show L2.wipe ((L2.wipe τ vs).set k none) ws = _
    rw [wipe_set (hs k List.mem_cons_self), wipe_wipe vs ws τ fun i hi => hs i (List.mem_cons_of_mem _ hi)]
theorem dc_read {σ : L2.St} {W : Wd} {rk : List NK} (hslots : ∀ i ∈ tgSlots tgc, i ∈ own.map (·.2))
    (hi : EvIat X LeK tg iter items S1 σ W)
    (ht : ∀ env1 S t S', test env1 S = some (t, S') → ∀ s H C cl fp, EvTs (XB X scope s H C cl fp) env1 ifs S t S')
    (hk : ∀ env1 S d S', kf env1 S = some (d, S') → ∀ s H C cl fp, Ev (XB X scope s H C cl fp) env1 kx S d S' false)
    (he : ∀ env1 S d S', vf env1 S = some (d, S') → ∀ s H C cl fp, Ev (XB X scope s H C cl fp) env1 vx S d S' false)
    (hgo : dcGo (fun d => bindT tgc d (wipeE env (own.map (·.2)))) test kf vf items S1 [] [] = some (rk, rs, S2))
    (rr : EnvR X.kw W env σ) (okW : WOk W) (Q : VK) (q : ∀ v W', Post X.kw W S2 W' (.dct rk rs) v → Fresh X.kw W W' (.dct rk rs) v → Q v W'.H) :
    tDc (SatI X tg iter) (gOf X.kw tgc) (fun σ H Q => ∀ s H0 C cl fp, SatTs (XB X scope s H0 C cl fp) ifs σ H Q) (fun σ H Q => ∀ s H0 C cl fp, SatE (XB X scope s H0 C cl fp) kx σ H Q) (fun σ H Q => ∀ s H0 C cl fp, SatE (XB X scope s H0 C cl fp) vx σ H Q) (own.map (·.2)) σ W.H Q := by
  refine hi _ fun J W1 l1 ok1 st1 it A hA => ?_
  have rr1 : EnvR X.kw W1 env σ := rr.le okW l1
  let Iv : Nat → Hp → Prop := fun i H => i ≤ items.length ∧ ∃ (W2 : Wd) (Si : Sto) (ks : List NK) (es : List D) (kvs : List (Key × V)), W2.H = H ∧ Acc A W1 W2 ∧ SRep X.kw W2 Si ∧ W2.H A = some (.dK kvs) ∧ ks = kvs.map (fun p => kNK p.1) ∧ RepL X.kw W2 es (kvs.map (·.2)) ∧
    dcGo (fun d => bindT tgc d (wipeE env (own.map (·.2)))) test kf vf (items.drop i) Si ks es = some (rk, rs, S2)
  refine ⟨fun i m H => m = items.length - i ∧ Iv i H, ⟨_, rfl, Nat.zero_le _, (W1.up A (.dK [])).hide A, S1, [], [], [], rfl, Acc.start ok1 hA rfl, ?_, upd_same, rfl, rfl, by rw [List.drop_zero]; exact hgo⟩, ?_⟩
  · exact st_le st1 rfl (up_hide hA) fun a m => upd_ne fun e => ok1.dom a m (by rw [e]; exact hA)
  rintro i m H ⟨rfl, hile, W2, Si, ks, es, kvs, rfl, ac, sti, eA, ek, ra, hg⟩
  have hT : WOk W2 ∧ LeK W1 W2 := ⟨ac.ok, ac.leK⟩
  by_cases hlt : i < items.length
  · have ed : items[i]? = some items[i] := List.getElem?_eq_getElem hlt
    refine .inr ⟨it.go W2 i _ hT ed, Iv (i + 1), fun H' p' => ⟨items.length - (i + 1), by omega, rfl, p'⟩, fun x H' y => ?_⟩
    obtain ⟨W3, gr, rfl, rx⟩ := it.yld W2 i _ x H' hT ed y
    have ac3 : Acc A W1 W3 := ac.le gr.le (gr.ok ac.ok) (by rw [eA]; exact Option.some_ne_none _)
    have eA3 : W3.H A = some (.dK kvs) := (gr.le.keep A _ ac.out eA).2
    have st3 := gr.st ac.ok sti
    rw [List.drop_eq_getElem_cons hlt] at hg
    simp only [dcGo, Option.bind_eq_some_iff] at hg
    obtain ⟨env1, hb, ⟨t, S3⟩, htest, hg⟩ := hg
    have rr3 : EnvR X.kw W3 (wipeE env (own.map (·.2))) (L2.wipe σ (own.map (·.2))) := ((rr1.leK ok1 ac3.leK)).wipe _
    refine bind_ok rx rr3 hb fun σ2 r2 w2 => ⟨?_, fun s H0 C cl fp => ?_⟩
    · rw [w2 _ hslots]
      exact wipe_wipe _ _ _ fun _ h => h
    · refine ht env1 Si t S3 htest s H0 C cl fp σ2 W3 r2 ac3.ok st3 _ fun W4 l4 ok4 st4 => ?_
      have ac4 : Acc A W1 W4 := ac3.le l4 ok4 (by rw [eA3]; exact Option.some_ne_none _)
      have eA4 : W4.H A = some (.dK kvs) := (l4.keep A _ ac3.out eA3).2
      have ra4 : RepL X.kw W4 es (kvs.map (·.2)) := RepL.le (gr.le.trans l4).leS es _ ra
      cases t with
      | true =>
        rw [if_pos rfl]
        simp only [if_true, Option.bind_eq_some_iff] at hg
        obtain ⟨⟨kd, S5⟩, hkf, ⟨d, S6⟩, hvf, kx', hkx, hg⟩ := hg
        have ekd : kd = .str kx' := by cases kd <;> first | (cases hkx; rfl) | cases hkx
        subst ekd
        intro s1' H1' C1' cl1' fp1'
        refine hk env1 S3 _ S5 hkf s1' H1' C1' cl1' fp1' σ2 W4 (r2.le ac3.ok l4) ok4 st4 _ fun yk W5 p5 _ => ?_
        intro s2' H2' C2' cl2' fp2'
        refine he env1 S5 d S6 hvf s2' H2' C2' cl2' fp2' σ2 W5 ((r2.le ac3.ok l4).le ok4 p5.le) p5.ok p5.st _ fun y W6 p6 _ => ?_
        have ac6 : Acc A W1 W6 := (ac4.le p5.le p5.ok (by rw [eA4]; exact Option.some_ne_none _)).le p6.le p6.ok (by rw [(p5.le.keep A _ ac4.out eA4).2]; exact Option.some_ne_none _)
        have eA5 := p5.le.keep A _ ac4.out eA4
        have eA6 : W6.H A = some (.dK kvs) := (p6.le.keep A _ eA5.1 eA5.2).2
        have hw6 : W6.own A := (ac6.own A).mpr (.inr rfl)
        split at hg
        · rename_i hz
          have ln : kvs.length = ks.length := by rw [ek, List.length_map]
          obtain ⟨q1, q2⟩ := put_rep (K := X.kw) (W := W6.put A (.dK (putK kvs (.inr kx') y))) (k := .inr kx') (Rep.le (put_leS hw6) d y p6.rep) (RepL.le ((p5.le.trans p6.le).leS.trans (put_leS hw6)) es _ ra4)
          refine ⟨kvs, .inr kx', p5.rep, eA6, by rw [ln, ← big_eq]; exact hz, hlt, W6.put A (.dK (putK kvs (.inr kx') y)), S6, _, _, putK kvs (.inr kx') y, rfl, ac6.put rfl, put_st ac6.ok hw6 p6.st, upd_same, q1, q2, ?_⟩
          rw [ek] at hg
          exact hg
        · cases hg
      | false =>
        rw [if_neg Bool.false_ne_true]
        simp only [Bool.false_eq_true, if_false] at hg
        exact ⟨hlt, W4, S3, ks, es, kvs, rfl, ac4, st4, eA4, ek, ra4, hg⟩
  · have ei : i = items.length := by omega
    subst ei
    rw [List.drop_length] at hg
    cases hg
    refine .inl ⟨it.stop W2 hT, q (.ref A) (Acc.fin W1 W2) ⟨l1.trans ac.fin_le, ac.fin_ok, st_le sti rfl ac.fin_leS fun _ _ => rfl, A, kvs, rfl, ⟨_, ⟨eA, ac.out, ac.fin_own ok1⟩, .inl rfl⟩, ek, RepL.le ac.fin_leS _ _ ra⟩ fun _ => .inr ⟨A, rfl, l1.free ok1 hA, ac.out, ac.fin_own ok1, kvs, eA, ek, RepL.le ac.fin_hide _ _ ra⟩⟩
/-! ### a dict locked while it is walked -/
theorem lock_leS {W : Wd} {a : Addr} {kvs : List (Key × V)} {od : Obj} (h : At W a (.dK kvs)) : LeS W (W.put a (.frz od (.dK kvs))) := by
  refine ⟨⟨[], by simp [Wd.put]⟩, fun b u ⟨e, n, w⟩ => ?_⟩
  by_cases hb : b = a
  · subst hb
    have : u = .dK kvs := by rw [h.1] at e; cases e; rfl
    subst this
    exact ⟨.frz od (.dK kvs), ⟨upd_same, n, w⟩, kp_dk (.inl rfl) (.inr ⟨od, rfl⟩)⟩
  · exact ⟨u, ⟨by show upd W.H a _ b = some u; rw [upd_ne hb]; exact e, n, w⟩, .refl u⟩
theorem unlock_leS {W : Wd} {a : Addr} {kvs : List (Key × V)} {od : Obj} (h : W.H a = some (.frz od (.dK kvs))) : LeS W (W.put a (.dK kvs)) := by
  refine ⟨⟨[], by simp [Wd.put]⟩, fun b u ⟨e, n, w⟩ => ?_⟩
  by_cases hb : b = a
  · subst hb
    have : u = .frz od (.dK kvs) := by rw [h] at e; cases e; rfl
    subst this
    exact ⟨.dK kvs, ⟨upd_same, n, w⟩, kp_dk (.inr ⟨od, rfl⟩) (.inl rfl)⟩
  · exact ⟨u, ⟨by show upd W.H a _ b = some u; rw [upd_ne hb]; exact e, n, w⟩, .refl u⟩
theorem putV_ok {W : Wd} {a : Addr} {o : HO} (ok : WOk W) (n : a ∉ W.cs) (w : ¬ W.own a) : WOk (W.put a o) := by
  refine ⟨ok.nd, fun b z => ?_, fun b z => ⟨(ok.ow b z).1, ?_⟩⟩
  · show upd W.H a o b ≠ none
    rw [upd_ne (fun e : b = a => n (e ▸ z))]
    exact ok.dom b z
  · obtain ⟨u, e1, k⟩ := (ok.ow b z).2
    exact ⟨u, by show upd W.H a o b = some u; rw [upd_ne (fun e : b = a => w (e ▸ z))]; exact e1, k⟩
theorem with_lock {e : Expr} {d : D} {σ : L2.St} {W : Wd} {a : Addr} {kvs : List (Key × V)} (hat : AtD W a kvs) (rr : EnvR X.kw W env σ) (ok : WOk W) (st : SRep X.kw W S)
    (main : ∀ (Wl : Wd) (od : Obj), Wl.H a = some (.frz od (.dK kvs)) → a ∉ Wl.cs → EnvR X.kw Wl env σ → WOk Wl → SRep X.kw Wl S → ∀ Q : VK, (∀ v W', Post X.kw Wl S2 W' d v → Fresh X.kw Wl W' d v → Q v W'.H) → SatE X e σ Wl.H Q)
    (Q : VK) (q : ∀ v W', Post X.kw W S2 W' d v → Fresh X.kw W W' d v → Q v W'.H) : SatE X e σ W.H Q := by
  obtain ⟨o, hat, hd⟩ := hat
  rcases hd with rfl | ⟨ob, rfl⟩
  · refine satE (pe_lock pe_sat) ⟨a, .dK kvs, hat.1, trivial, fun od => ?_⟩
    have okl : WOk (W.put a (.frz od (.dK kvs))) := putV_ok ok hat.2.1 hat.2.2
    have hl := lock_leS (od := od) hat
    have rrl : EnvR X.kw (W.put a (.frz od (.dK kvs))) env σ := by
      refine ⟨rr.len, fun i d h => ?_, fun i d h => ?_, rr.un⟩
      · obtain ⟨v, e1, q1⟩ := rr.sh i d h
        exact ⟨v, e1, Rep.le hl d v q1⟩
      · obtain ⟨b, e1, o1, q1⟩ := rr.ow i d h
        have hb : b ≠ a := fun z => hat.2.2 (z ▸ o1)
        refine ⟨b, e1, o1, ?_⟩
        cases d with
        | lst ds => obtain ⟨vs, e2, r2⟩ := q1; exact ⟨vs, by show upd W.H a _ b = _; rw [upd_ne hb]; exact e2, RepL.le hl ds vs r2⟩
        | dct ks ds => obtain ⟨kk, e2, k2, r2⟩ := q1; exact ⟨kk, by show upd W.H a _ b = _; rw [upd_ne hb]; exact e2, k2, RepL.le hl ds _ r2⟩
        | ndc ks ds => obtain ⟨kk, ⟨ep, e2⟩, k2, ko, r2⟩ := q1; exact ⟨kk, ⟨ep, by show upd W.H a _ b = _; rw [upd_ne hb]; exact e2⟩, k2, ko.le hl, RepL.le hl ds _ r2⟩
        | _ => exact q1.elim
    refine main (W.put a (.frz od (.dK kvs))) od upd_same hat.2.1 rrl okl (st_le st rfl hl fun b m => upd_ne fun z : b = a => hat.2.1 (z ▸ m)) _ fun v W' p f => ?_
    obtain ⟨na', ea'⟩ := p.le.keep a _ hat.2.1 upd_same
    have nw' : ¬ W'.own a := fun z => hat.2.2 ((p.le.own a).mp z)
    have hu := unlock_leS ea'
    refine ⟨ea', q v (W'.put a (.dK kvs)) ⟨⟨p.le.cs, p.le.own, fun b u n e => ?_⟩, putV_ok p.ok na' nw', st_le p.st rfl hu fun b m => upd_ne fun z : b = a => na' (z ▸ m), Rep.le hu d v p.rep⟩ fun m => ?_⟩
    · by_cases hb : b = a
      · subst hb
        have : u = .dK kvs := by rw [hat.1] at e; cases e; rfl
        subst this
        exact ⟨na', upd_same⟩
      · obtain ⟨n1, e1⟩ := p.le.keep b u n (by show upd W.H a _ b = some u; rw [upd_ne hb]; exact e)
        exact ⟨n1, by show upd W'.H a _ b = some u; rw [upd_ne hb]; exact e1⟩
    · rcases f m with z | ⟨D', e1, e2, e3, e4, e5⟩
      · exact .inl z
      · have hD : D' ≠ a := fun z => by
          rw [z] at e2
          rw [show (W.put a (.frz od (.dK kvs))).H a = _ from upd_same] at e2
          cases e2
        have e2' : W.H D' = none := by
          rw [show (W.put a (.frz od (.dK kvs))).H D' = upd W.H a (.frz od (.dK kvs)) D' from rfl, upd_ne hD] at e2
          exact e2
        have hh : LeS (W'.hide D') ((W'.put a (.dK kvs)).hide D') := ⟨⟨[], by simp [Wd.put, Wd.hide]⟩, fun b u ⟨e, n, w⟩ => by
          obtain ⟨o', ⟨x1, x2, x3⟩, kp⟩ := hu.at_ b u ⟨e, n, fun z => w (.inl z)⟩
          exact ⟨o', ⟨x1, x2, w⟩, kp⟩⟩
        refine .inr ⟨D', e1, e2', e3, e4, ?_⟩
        cases d with
        | lst ds => obtain ⟨vs, x1, x2⟩ := e5; exact ⟨vs, by show upd W'.H a _ D' = _; rw [upd_ne hD]; exact x1, RepL.le hh ds vs x2⟩
        | dct ks ds => obtain ⟨kk, x1, x2, x3⟩ := e5; exact ⟨kk, by show upd W'.H a _ D' = _; rw [upd_ne hD]; exact x1, x2, RepL.le hh ds _ x3⟩
        | ndc ks ds => obtain ⟨kk, ⟨ep, x1⟩, x2, ko, x3⟩ := e5; exact ⟨kk, ⟨ep, by show upd W'.H a _ D' = _; rw [upd_ne hD]; exact x1⟩, x2, ko.le hh, RepL.le hh ds _ x3⟩
        | _ => exact e5.elim
  · exact main W ob hat.1 hat.2.1 rr ok st Q q
theorem keys_at : ∀ {ks : List NK} {kvs : List (Key × V)} {ds : List D} {i : Nat} {d : D}, ks = kvs.map (fun p => kNK p.1) → ks.mapM (fun k => match k with | NestedKey.text s => some (D.str s) | _ => none) = some ds → ds[i]? = some d → ∃ k v, kvs[i]? = some (k, v) ∧ Rep X.kw ⟨[], fun _ => False, fun _ => none⟩ d (kV k) ∧ ∃ s, d = .str s
  | ks, kvs, ds, i, d, e, h, g => by
    have r := keys_txt (K := X.kw) (W := ⟨[], fun _ => False, fun _ => none⟩) e h
    obtain ⟨v, e1, r1⟩ := r.get g
    rw [List.getElem?_map] at e1
    obtain ⟨⟨k, u⟩, e2, e3⟩ := Option.map_eq_some_iff.mp e1
    refine ⟨k, u, e2, by rw [e3]; exact r1, ?_⟩
    clear r r1 e1 e2 e3
    induction ks generalizing ds i kvs with
    | nil => simp at h; subst h; simp at g
    | cons k0 ks ih =>
      cases k0 with
      | text s =>
        simp only [List.mapM_cons, Option.pure_def, Option.bind_eq_bind, Option.bind_some, Option.bind_eq_some_iff, Option.some.injEq] at h
        obtain ⟨ds', h, rfl⟩ := h
        cases i with
        | zero => simp at g; exact ⟨s, g.symm⟩
        | succ i =>
          simp only [List.getElem?_cons_succ] at g
          cases kvs with
          | nil => cases e
          | cons p kvs => simp only [List.map_cons, List.cons.injEq] at e; exact ih _ _ _ e.2 h g
      | _ => simp at h
theorem iter_keys {T : Wd → Prop} {a : Addr} {od : Obj} {kvs : List (Key × V)} {ks : List NK} {ds : List D} (e : ks = kvs.map fun p => kNK p.1) (h : ks.mapM (fun k => match k with | NestedKey.text s => some (D.str s) | _ => none) = some ds) (hT : ∀ W, T W → W.H a = some (.frz od (.dK kvs))) : IterOk X.kw T (Itk a od kvs) ds := by
  have hl : ds.length = kvs.length := by
    have r := keys_txt (K := X.kw) (W := ⟨[], fun _ => False, fun _ => none⟩) e h
    rw [r.length, List.length_map]
  refine ⟨fun W i d t g => ⟨hT W t, ?_⟩, fun W i d x H' t g y => ?_, fun W t => ⟨hT W t, by rw [hl]; exact Nat.le_refl _⟩⟩
  · rw [← hl]; exact (List.getElem?_eq_some_iff.mp g).1
  · obtain ⟨rfl, k, v, e1, rfl⟩ := y
    obtain ⟨k', v', e2, r, s, rfl⟩ := keys_at (X := X) e h g
    rw [e1] at e2
    cases e2
    exact ⟨W, .inl rfl, rfl, r⟩
/-- over the keys of a dict that stands at a name -/
theorem evi_keys {x : Str} {p : Pos} {i : Nat} {ks : List NK} {ds es : List D} {σ : L2.St} {W : Wd} {a : Addr} {od : Obj} {kvs : List (Key × V)} (hN : X.N[i]? = some x) (hv : Vis X.env.scope x) (hd : (x == ("__debug__" : Str)) = false) (hcd : (x == ("__classdict__" : Str)) = false)
    (e1 : σ[i]? = some (some (.ref a))) (ek : ks = kvs.map fun p => kNK p.1) (h : itemsF .keys [.dct ks es] = some ds) (hl : W.H a = some (.frz od (.dK kvs))) (hn : a ∉ W.cs) (ok : WOk W) (st : SRep X.kw W S) : EvIat X LeK tg (.Name x p) ds S σ W := by
  intro R q
  refine satI (pi_keys (pe_var hN hv hd hcd)) ⟨.ref a, e1, a, od, rfl, .inl ⟨kvs, hl, ?_⟩⟩
  exact q _ W (.refl W) ok st (iter_keys ek h fun W2 t2 => (t2.2.keep a _ hn hl).2)
theorem EvI.at {P : Wd → Wd → Prop} (h : EvI X P env tg iter S items S1) {σ : L2.St} {W : Wd} (rr : EnvR X.kw W env σ) (ok : WOk W) (st : SRep X.kw W S) : EvIat X P tg iter items S1 σ W := fun R q => h σ W rr ok st R q
theorem pts_all {s : Shared} {H : Hp} {C : Addr} {cl : List (Str × Addr)} {fp : List Addr} : PTs (XB X scope s H C cl fp) ifs (fun σ H Q => ∀ s H0 C cl fp, SatTs (XB X scope s H0 C cl fp) ifs σ H Q) := ⟨fun pins s' σ H' Q I h => h s H C cl fp pins s' I⟩
theorem pe_all {e : Expr} {s : Shared} {H : Hp} {C : Addr} {cl : List (Str × Addr)} {fp : List Addr} : PE (XB X scope s H C cl fp) e (fun σ H Q => ∀ s H0 C cl fp, SatE (XB X scope s H0 C cl fp) e σ H Q) := ⟨fun pins s' σ H' Q I h => h s H C cl fp pins s' I⟩
end
end FG

namespace FG
open PySem PySem.Spec PyProof.Rows L2
section
variable {X : Cx} {pos : Pos} {k v : Expr} {tk tv : TE}
theorem dn_empty {H : Hp} (h : Heap) (hb : sysModules < h.objs.size) : ∃ ep, ObjOk X.prog X.w H (h.push { cls := .type "dict", data := .dict #[] }) h.objs.size (DN X.w h.objs.size [] ep) := by
  refine dn_new (us := []) (by simp) ?_ .nil (Heap.DictOfH.new h)
  simpa using Nat.ne_of_gt hb
/-- {} -/
def tDNewN (w : World) : TE := fun _ H Q => ∀ p ep, H p = none → Q (.ref p) (upd H p (DN w p [] ep))
theorem pe_dnewN : PE X (.Dict [] [] pos) (tDNewN X.w) := ⟨fun pins s σ H Q I q => by
  obtain ⟨ep, new⟩ := dn_empty (X := X) (H := upd H s.heap.objs.size (DN X.w s.heap.objs.size [] 0)) s.heap I.big
  exact wpAny_Dict_empty ⟨.ref s.heap.objs.size, _, I.laid (a := s.heap.objs.size) (o := DN X.w s.heap.objs.size [] ep) (t' := s.toks) (fun _ _ z => Heap.get?_push_of_some _ z) (Nat.le_refl _) new, rfl, q _ ep (I.hok.fresh (Nat.le_refl _))⟩⟩
/-- {k: v}, k a tuple -/
def tDispN (w : World) (tk tv : TE) : TE := fun σ H Q => ∀ p ep, H p = none → tk σ (upd H p (DN w p [] ep)) fun x H1 => tv σ H1 fun y H2 => ∃ W nk b, H2 = W.H ∧ H2 p = some (DN w p [] ep) ∧ x = .ref b ∧ KRep W nk (.ref b) ∧ nk.depth ≤ 8 ∧ ∀ ep', Q (.ref p) (upd H2 p (DN w p [(nk, b, y)] ep'))
theorem pe_dispN (hu : X.A.units + 10 < cLine) (hk : PE X k tk) (hv : PE X v tv) : PE X (.Dict [some k] [v] pos) (tDispN X.w tk tv) := by
  refine ⟨fun pins s σ H Q I q => ?_⟩
  have hn := I.hok.fresh (Nat.le_refl s.heap.objs.size)
  obtain ⟨ep, new⟩ := dn_empty (X := X) (H := upd H s.heap.objs.size (DN X.w s.heap.objs.size [] 0)) s.heap I.big
  have I1 := I.laid (a := s.heap.objs.size) (o := DN X.w s.heap.objs.size [] ep) (h' := s.heap.push { cls := .type "dict", data := .dict #[] }) (t' := s.toks) (fun _ _ z => Heap.get?_push_of_some _ z) (Nat.le_refl _) new
  rw [arm_eval_Dict, zip_pairTrees [some k] [v] X.env pos rfl rfl, dictDisplay_pairs _ (by simp [pairTrees]) (by simp [pairTrees])]
  refine wpAny_bind (wpAny_standAt (wpAny_bind (wpAny_subDictH (knd := nestedKind X.prog X.w) (show X.A.units + 8 < cLine by omega) (by simp [pairTrees]) (pairTrees_cons_walk (thn (hk.run pins _ σ _ _ I1 (q _ ep hn)) fun u s1 ⟨x, H1, I1, rx, q1⟩ => thn (hv.run pins s1 σ H1 _ I1 q1) fun u2 s2 ⟨y, H2, I2, ry, q2⟩ => pairTrees_nil_walk ?_)))))
  obtain ⟨W, nk, b, rfl, e, rfl, kr, hd, q2⟩ := q2
  obtain rfl : u = Value.ref b := rx
  obtain ⟨z, hs, us, r0, dd⟩ := dn_rd I2.hok e (fun x m => by cases m)
  cases r0
  refine ⟨[(nk, b, u2)], ⟨rfl, rfl, n_key I2 kr hd, trivial⟩, dd, fun h' tk' dd' same => ?_⟩
  obtain ⟨ep', new'⟩ := dn_new (X := X) (xs := [(nk, b, y)]) (H' := upd W.H s.heap.objs.size (DN X.w s.heap.objs.size [] 0)) (by simp; decide) hs (.cons ⟨rfl, rfl, ry⟩ .nil) dd'
  have he : ∃ o, h'.get? s.heap.objs.size = some o := let ⟨o, _, _, ho, _⟩ := dd'; ⟨o, ho⟩
  exact wpAny_pure ⟨.ref s.heap.objs.size, _, d_write I2 (by rw [e]; exact True.intro) same he new', rfl, q2 ep'⟩
end
section
variable {X : Cx} {env : En} {S S1 S2 : Sto} {d1 d2 : D} {k v : Expr} {fr : Bool} {pos : Pos}
theorem ev_ndc0 : Ev X env (.Dict [] [] pos) S (.ndc [] []) S fr := by
  intro σ W r ok st Q q
  refine satE pe_dnewN fun p ep hp => ?_
  have hat := up_at (o := DN X.w p [] ep) ok hp
  refine q (.ref p) (W.up p (DN X.w p [] ep)) ⟨up_le hp, up_ok ok hp, up_st ok st hp, p, [], rfl, ⟨_, hat⟩, rfl, (fun x m => by cases m), rfl⟩ fun _ _ => .inr ⟨p, rfl, hp, hat.2.1, hat.2.2, [], ⟨ep, upd_same⟩, rfl, (fun x m => by cases m), rfl⟩
theorem ev_ndc1 {nk : NK} (hu : X.A.units + 10 < cLine) (h1 : Ev X env k S d1 S1 false) (h2 : Ev X env v S1 d2 S2 false) (e : keyT d1 = some nk) : Ev X env (.Dict [some k] [v] pos) S (.ndc [nk] [d2]) S2 fr := by
  intro σ W r ok st Q q
  refine satE (pe_dispN hu pe_sat pe_sat) fun p ep hp => ?_
  have ac := Acc.start (o := DN X.w p [] ep) ok hp rfl
  have st1 : SRep X.kw ((W.up p (DN X.w p [] ep)).hide p) S := st_le st rfl (up_hide hp) fun a m => upd_ne fun e => ok.dom a m (by rw [e]; exact hp)
  have r1 := r.leK ok ac.leK
  refine h1 σ _ r1 ac.ok st1 _ fun x W1 p1 _ => h2 σ W1 (r1.le ac.ok p1.le) p1.ok p1.st _ fun y W2 p2 _ => ?_
  have ac1 : Acc p W W1 := ac.le p1.le p1.ok (by rw [show ((W.up p (DN X.w p [] ep)).hide p).H p = some (DN X.w p [] ep) from upd_same]; exact Option.some_ne_none _)
  have eA1 := p1.le.keep p (DN X.w p [] ep) ac.out upd_same
  have ac2 : Acc p W W2 := ac1.le p2.le p2.ok (by rw [eA1.2]; exact Option.some_ne_none _)
  have eA2 := p2.le.keep p _ eA1.1 eA1.2
  obtain ⟨kr, hd, b, rfl⟩ := keyT_rep e (Rep.le p2.le.leS d1 x p1.rep)
  refine ⟨W2, nk, b, rfl, eA2.2, rfl, kr, hd, fun ep' => ?_⟩
  have ho : W2.own p := (ac2.own p).mpr (.inr rfl)
  have ls : LeS W2 (W2.put p (DN X.w p [(nk, b, y)] ep')) := put_leS ho
  have ac3 : Acc p W (W2.put p (DN X.w p [(nk, b, y)] ep')) := ac2.put rfl
  have kr' := KRep.tups (W' := W2.put p (DN X.w p [(nk, b, y)] ep')) (fun a vs z => z.le ls noDk_tup) _ _ kr
  have ko : KeysOk (W2.put p (DN X.w p [(nk, b, y)] ep')) [(nk, b, y)] := fun z m => by rw [List.mem_singleton.mp m]; exact ⟨kr', hd⟩
  have rl : RepL X.kw (W2.put p (DN X.w p [(nk, b, y)] ep')) [d2] [y] := .one (Rep.le ls d2 y p2.rep)
  refine q (.ref p) (Acc.fin W (W2.put p (DN X.w p [(nk, b, y)] ep'))) ⟨ac3.fin_le, ac3.fin_ok, st_le (put_st ac2.ok ho p2.st) rfl ac3.fin_leS fun _ _ => rfl, p, [(nk, b, y)], rfl, ⟨ep', upd_same, ac3.out, ac3.fin_own ok⟩, rfl, ko.le ac3.fin_leS, RepL.le ac3.fin_leS _ _ rl⟩ fun _ _ => .inr ⟨p, rfl, hp, ac3.out, ac3.fin_own ok, _, ⟨ep', upd_same⟩, rfl, ko.le ac3.fin_hide, RepL.le ac3.fin_hide _ _ rl⟩
end
end FG
namespace FG
open PySem PySem.Spec PyProof.Rows L2
/-! ### over the keys -/
def Itn (w : World) (d : Addr) (xs : List NEnt) (ep : Nat) : It :=
  ⟨fun i H => H d = some (DN w d xs ep) ∧ i < xs.length, fun i H x H' => H' = H ∧ ∃ e, xs[i]? = some e ∧ x = .ref e.2.1, fun i H => H d = some (DN w d xs ep) ∧ xs.length ≤ i⟩
theorem pn_get : ∀ {xs : List NEnt} {us : List (NK × Addr × Value)} {i : Nat} {e : NEnt}, PN xs us → xs[i]? = some e → ∃ u, us[i]? = some u ∧ e.2.1 = u.2.1
  | _, _, _, _, .nil, h => by simp at h
  | _, _, 0, _, .cons r _, h => by simp at h; subst h; exact ⟨_, rfl, r.2.1⟩
  | _, _, i + 1, e, .cons _ t, h => by
    simp only [List.getElem?_cons_succ] at h
    obtain ⟨u, h1, h2⟩ := pn_get t h
    exact ⟨u, by simpa using h1, h2⟩
theorem dn_raw {X : Cx} {pins : List (Addr × Obj)} {σ : L2.St} {H : Hp} {s : Shared} {d : Addr} {xs : List NEnt} {ep : Nat} (I : Inv X pins σ H s) (h : H d = some (DN X.w d xs ep)) : (d == sysModules) = false ∧ ∃ (o : Obj) (es : Array DictEntry), s.heap.get? d = some o ∧ o.ExactDict ∧ o.data = .dict es ep ∧ es.size = xs.length ∧
    ∀ (i : Nat) (e : NEnt), xs[i]? = some e → ∃ en, es[i]? = some en ∧ en.key = .ref e.2.1 := by
  obtain ⟨⟨z, y, us, r, o, es, h1, h2, h3, h4, h5⟩, _⟩ := I.hok d _ h
  refine ⟨y, o, es, h1, h2, h3, ?_, fun i e he => ?_⟩
  · rw [← Array.length_toList, h4, List.length_map]
    exact (Paired.length r).symm
  · obtain ⟨u, hu, e2⟩ := pn_get r he
    refine ⟨entN X.w u, ?_, by rw [e2]; rfl⟩
    rw [← Array.getElem?_toList, h4, List.getElem?_map, hu]
    rfl
section
variable {P : Program} {w : World} {K : PySem.W.Frag} {tg : Expr} {d : Addr} {xs : List NEnt} {ep : Nat}
theorem turn_n (it : Addr) : Turn P w K tg (Itn w d xs ep) [it] it (fun i h => h.IsKeyIter it d i xs.length ep) where
  mem := by simp
  obj := fun i h st b hb => by
    obtain rfl : b = it := by simpa using hb
    obtain ⟨oi, z, _, dd⟩ := st
    exact ⟨oi, z, fun v q => by rw [dd] at q; cases q⟩
  keep := fun i h h' st k => st.at fun oi z => k it (by simp) oi z
  item := by
    intro X hP hw hK hc i pins s σ H E I hf st ⟨hd, hi⟩
    subst hP hw hK
    obtain ⟨f0, f1, f2, f3, f4, f5⟩ := hf it (by simp)
    obtain ⟨hs, o, es, g1, g2, g3, g4, ent⟩ := dn_raw I hd
    have hx : xs[i]? = some xs[i] := List.getElem?_eq_getElem hi
    obtain ⟨en, hen, hkey⟩ := ent i _ hx
    refine next_key_item st g1 g3 g4 hen fun h' st' sb => ?_
    have I1 : Inv X pins σ H { s with heap := h' } := I.turned (t' := s.toks) (fun b ob nb z => (sb.2 b nb).trans z) f0 f1 f3 f4 f5
    obtain ⟨oi, z, c, dd⟩ := id st'
    exact ⟨en.key, rfl, go_of (s := { s with heap := h' }) z c dd (by decide) ⟨.ref xs[i].2.1, H, I1, hkey, ⟨rfl, xs[i], hx, rfl⟩, st', fun b nb => (hf b nb).1⟩⟩
  done := by
    intro X hP hw hK hc i pins s σ H E I hf st ⟨hd, hi⟩
    subst hP hw hK
    obtain ⟨f0, f1, f2, f3, f4, f5⟩ := hf it (by simp)
    obtain ⟨hs, o, es, g1, g2, g3, g4, _⟩ := dn_raw I hd
    exact next_key_end (I.ok.hd hc) st g1 g3 g4 hi fun h' eb => ⟨rfl, I.turned (t' := s.toks) (fun b ob nb z => eb b ob nb z) f0 f1 f3 f4 f5⟩
  self := fun A i s Q E st q => by
    refine wpAny_pyIter_slot st.typeIs F.slot_dict_keyiterator_iter (wpAny_call_entry F.slot_dict_keyiterator_iter st.typeIs F.entry_dict_keyiterator_iter (show wpAny _ _ (ret (.ref it)) _ _ s from ?_) (F.args_dict_keyiterator_iter_1 _))
    exact wpAny_pure ⟨_, rfl, "dict_keyiterator", _, st.typeIs, F.slot_dict_keyiterator_next.lookup, q⟩
def iKeysN (w : World) (td : TE) : TI := fun σ H R => td σ H fun x H1 => ∃ d xs ep, x = .ref d ∧ H1 d = some (DN w d xs ep) ∧ R (Itn w d xs ep) H1
theorem pi_keysN {X : Cx} {e : Expr} {td : TE} (he : PE X e td) : PI X tg e (iKeysN X.w td) := by
  refine ⟨fun pins s σ H R I h => thn (he.run pins s σ H _ I h) fun u s1 ⟨x, H1, I1, rx, d, xs, ep, ex, hd, q⟩ => ?_⟩
  subst ex
  obtain rfl : u = Value.ref d := rx
  obtain ⟨hs, o, es, g1, g2, g3, g4, _⟩ := dn_raw I1 hd
  refine L2.iter_keys hs g1 g2 g3 (pi_one (tk := s1.toks) I1 _ (turn_n _) ⟨_, Heap.get?_push_size _ rfl, rfl, ?_⟩ q)
  rw [g4]
  rfl
end
section
variable {X : Cx} {env : En} {S S1 : Sto} {P : Wd → Wd → Prop} {a tg : Expr} {ks : List NK} {ds : List D}
theorem iter_n {T : Wd → Prop} {d : Addr} {xs : List NEnt} {ep : Nat} (h : ∀ W, T W → W.H d = some (DN X.w d xs ep) ∧ KeysOk W xs) : IterOk X.kw T (Itn X.w d xs ep) (xs.map fun x => keyD x.1) where
  go := fun W i e t g => ⟨(h W t).1, by have := (List.getElem?_eq_some_iff.mp g).1; simpa using this⟩
  yld := fun W i e x H' t g y => by
    obtain ⟨rfl, en, he, rfl⟩ := y
    refine ⟨W, .inl rfl, rfl, ?_⟩
    rw [List.getElem?_map, he] at g
    cases g
    exact rep_key _ _ ((h W t).2 en (List.mem_of_getElem? he)).1
  stop := fun W t => ⟨(h W t).1, by simp⟩
theorem evi_keysS {fr : Bool} (h : Ev X env a S (.ndc ks ds) S1 fr) : EvI X LeS env tg a S (ks.map keyD) S1 := by
  intro σ W rr ok st R q
  refine satI (pi_keysN pe_sat) (h σ W rr ok st _ fun v W' p _ => ?_)
  obtain ⟨d, xs, rfl, ⟨ep, at_⟩, rfl, ko, r⟩ := p.rep
  refine ⟨d, xs, ep, rfl, at_.1, q _ W' p.le p.ok p.st ?_⟩
  rw [List.map_map]
  exact iter_n fun W2 t2 => ⟨(at_.le t2.2 noDk_dn).1, ko.le t2.2⟩
theorem evi_keysK (h : EvC X env a S (.ndc ks ds) S1) : EvI X LeK env tg a S (ks.map keyD) S1 := by
  intro σ W rr ok st R q
  refine satI (pi_keysN pe_sat) (h σ W rr ok st _ fun v W' l ok' st' t => ?_)
  obtain ⟨d, xs, ep, rfl, e, rfl, ko, r⟩ := top_ndc t
  refine ⟨d, xs, ep, rfl, e, q _ W' l ok' st' ?_⟩
  have hn : d ∉ W'.cs := by
    rcases t with ⟨d', xs', z, ⟨ep', at_⟩, _⟩ | ⟨d', z, ow, _⟩
    · cases z; exact at_.2.1
    · cases z; exact (ok'.ow d ow).1
  rw [List.map_map]
  exact iter_n fun W2 t2 => ⟨(t2.2.keep d _ hn e).2, ko.le t2.2.leS⟩
end
end FG

namespace FG
open PySem PySem.Spec PyProof.Rows L2
structure Cfg where
  defs : List Df
  gl : List (Str × D)
structure Sx where
  sc : Scope
  bk : Option Scope
def Sx.blk (s : Sx) (scope : Scope) : Sx := ⟨relS scope s.sc, some scope⟩
def okNm (x : Str) : Bool := !(x == ("__debug__" : Str)) && !(x == ("__classdict__" : Str)) && !(decide (x = ("__name__" : Str)))
def visB (sc : Scope) (x : Str) : Bool := match sc.names.lookup x with
  | some .local => true
  | some .cell => true
  | some .free => true
  | _ => false
def glB (sc : Scope) (x : Str) : Bool := match sc.names.lookup x with
  | some .globalImplicit => true
  | _ => false
def conB : D → Const → Bool
  | .non, .none => true
  | .bl b, .bool c => b == c
  | .int i, .int j => decide (i = j)
  | .str x, .str y => decide (x = y)
  | _, _ => false
def glEq : D → D → Bool
  | .int i, .int j => decide (i = j)
  | .str x, .str y => decide (x = y)
  | _, _ => false
def fnOk : Option Scope → Str → Bool
  | none, _ => true
  | some s, x => s.names.lookup x == some .cell
def nmOk (N : List Str) (s : Sx) (i : Nat) (x : Str) : Bool := decide (N[i]? = some x) && match s.sc.names.lookup x with
  | some .local => true
  | some .cell => fnOk s.bk x
  | _ => false
def chkNms (N : List Str) (s : Sx) : List Nat → List Expr → Bool
  | [], [] => true
  | i :: is, .Name x _ :: xs => nmOk N s i x && chkNms N s is xs
  | _, _ => false
def chkTg (N : List Str) (s : Sx) : Tg → Expr → Bool
  | .nm i, .Name x _ => nmOk N s i x
  | .tp is, .Tuple xs _ _ => chkNms N s is xs
  | _, _ => false
def biName : Bi → Option Str
  | .len => some "len"
  | .all => some "all"
  | .any => some "any"
  | .tuple => some "tuple"
  | .list => some "list"
  | .dict => some "dict"
  | .sum => some "sum"
  | .sorted => some "sorted"
  | .max => some "max"
  | .min => some "min"
  | _ => none
def tyOkB (T : String) : Bool := decide (T = "str") || decide (T = "tuple") || decide (T = "list") || decide (T = "dict")
def itArgs : IK → Expr → List Expr
  | .seq, e => [e]
  | .keys, e => [e]
  | .nkeys, e => [e]
  | .zip, .Call (.Name x _) [a, b] [] _ => if x = ("zip" : Str) then [a, b] else []
  | .enum, .Call (.Name x _) [a] [] _ => if x = ("enumerate" : Str) then [a] else []
  | .range, .Call (.Name x _) [a] [] _ => if x = ("range" : Str) then [a] else []
  | _, _ => []
def itName : IK → Option Str
  | .zip => some "zip"
  | .enum => some "enumerate"
  | .range => some "range"
  | _ => none
def okIt (s : Sx) (ik : IK) (tg : Expr) : Bool := match ik with
  | .seq => true
  | .keys => true
  | .nkeys => true
  | .zip => tupTg tg && glB s.sc "zip"
  | .enum => tupTg tg && glB s.sc "enumerate"
  | .range => glB s.sc "range"
def isVar : List E → Bool
  | [.var _] => true
  | _ => false
def ownOf (N : List Str) (own : List Nat) : List (Str × Nat) := own.map fun i => (N.getD i "", i)
section
variable (cf : Cfg) (N : List Str)
mutual
def chk : E → Sx → Expr → Bool
  | .var i, s, ex => match ex with
    | .Name x _ => decide (N[i]? = some x) && visB s.sc x && okNm x
    | _ => false
  | .con d, _, ex => match ex with
    | .Constant c _ _ => conB d c
    | _ => false
  | .glob x d, s, ex => match ex with
    | .Name y _ => decide (x = y) && glB s.sc x && okNm x && cf.gl.any fun p => decide (p.1 = x) && glEq p.2 d
    | _ => false
  | .tup es, s, ex => match ex with
    | .Tuple xs _ _ => chks es s xs && decide (xs.length ≤ 1000)
    | _ => false
  | .lst es, s, ex => match ex with
    | .List xs _ => chks es s xs && decide (xs.length ≤ 1000)
    | _ => false
  | .dct, _, ex => match ex with
    | .Dict [] [] _ => true
    | _ => false
  | .ndc0, _, ex => match ex with
    | .Dict [] [] _ => true
    | _ => false
  | .ndc1 k v, s, ex => match ex with
    | .Dict [some x] [y] _ => chk k s x && chk v s y
    | _ => false
  | .idx a b, s, ex => match ex with
    | .Subscript x y _ => chk a s x && chk b s y && noSlice y
    | _ => false
  | .slf a lo, s, ex => match ex with
    | .Subscript x (.Slice (some l) none none _) _ => chk a s x && chk lo s l
    | _ => false
  | .slt a hi, s, ex => match ex with
    | .Subscript x (.Slice none (some h) none _) _ => chk a s x && chk hi s h
    | _ => false
  | .sl a lo hi, s, ex => match ex with
    | .Subscript x (.Slice (some l) (some h) none _) _ => chk a s x && chk lo s l && chk hi s h
    | _ => false
  | .rev a, s, ex => match ex with
    | .Subscript x (.Slice none none (some (.UnaryOp .USub (.Constant (.int 1) _ _) _)) _) _ => chk a s x
    | _ => false
  | .neg a, s, ex => match ex with
    | .UnaryOp .USub x _ => chk a s x
    | _ => false
  | .bin op a b, s, ex => match ex with
    | .BinOp x o y _ => decide (o = bOp op) && chk a s x && chk b s y
    | _ => false
  | .cmp op a b, s, ex => match ex with
    | .Compare x [o] [y] _ => decide (o = cOp op) && noSet y && chk a s x && chk b s y
    | _ => false
  | .chain a b z, s, ex => match ex with
    | .Compare x [.LtE, .LtE] [y, w] _ => noSet w && chk a s x && chk b s y && chk z s w
    | _ => false
  | .and a b, s, ex => match ex with
    | .BoolOp .And (x :: y :: r) pos => chk a s x && chk b s (bOne .And (y :: r) pos)
    | _ => false
  | .or a b, s, ex => match ex with
    | .BoolOp .Or (x :: y :: r) pos => chk a s x && chk b s (bOne .Or (y :: r) pos)
    | _ => false
  | .not a, s, ex => match ex with
    | .UnaryOp .Not x _ => chk a s x
    | _ => false
  | .ite z a b, s, ex => match ex with
    | .IfExp c x y _ => chk z s c && chk a s x && chk b s y
    | _ => false
  | .call f es, s, ex => match ex with
    | .Call (.Name x _) xs [] _ => (match cf.defs[f]? with
      | some df => decide (df.name = x) && okNm x && glB s.sc x && chks es s xs && !xs.isEmpty && decide (es.length = df.ar)
      | none => false)
    | _ => false
  | .bi f a, s, ex => match f, ex with
    | .isi T, .Call (.Name g _) [x, .Name t _] [] _ => decide (g = ("isinstance" : Str)) && decide (t = Str.ofString T) && glB s.sc g && glB s.sc t && tyOkB T && noStar x && chk a s x
    | .lenset, .Call (.Name g _) [.Call (.Name t _) [x] [] _] [] _ => decide (g = ("len" : Str)) && decide (t = ("set" : Str)) && glB s.sc g && glB s.sc t && noStar x && chk a s x
    | f, .Call (.Name g _) [x] [] _ => decide (biName f = some g) && glB s.sc g && noStar x && chk a s x
    | _, _ => false
  | .get o k, s, ex => match ex with
    | .Call (.Attribute x m apos) [y] [] cpos => decide (m = ("get" : Str)) && okBase x && noStar y && (apos.endLine == cpos.line) && chk o s x && chk k s y
    | _ => false
  | .getd o k z, s, ex => match ex with
    | .Call (.Attribute x m apos) [y, w] [] cpos => decide (m = ("get" : Str)) && okBase x && noStar y && noStar w && (apos.endLine == cpos.line) && chk o s x && chk k s y && chk z s w
    | _ => false
  | .lc own tg ik its ifs elt, s, ex => match ex with
    | .ListComp el [⟨t, it, fs, as⟩] scope _ => decide (as = 0) && blkC N s.sc scope (ownOf N own) && (tgSlots tg).all (fun i => own.contains i) && chkTg N (s.blk scope) tg t && okIt s ik t && noSet it && (decide (ik ≠ .keys) || isVar its) &&
        chks its s (itArgs ik it) && chks ifs (s.blk scope) fs && decide (ifs.length ≤ 1) && chk elt (s.blk scope) el
    | _ => false
  | .dc own tg ik its ifs k v, s, ex => match ex with
    | .DictComp ke ve [⟨t, it, fs, as⟩] scope _ => decide (as = 0) && blkC N s.sc scope (ownOf N own) && (tgSlots tg).all (fun i => own.contains i) && chkTg N (s.blk scope) tg t && okIt s ik t && noSet it && (decide (ik ≠ .keys) || isVar its) &&
        chks its s (itArgs ik it) && chks ifs (s.blk scope) fs && decide (ifs.length ≤ 1) && chk k (s.blk scope) ke && chk v (s.blk scope) ve
    | _ => false
  | .lend _ e, s, ex => chk e s ex
def chks : List E → Sx → List Expr → Bool
  | [], _, xs => xs.isEmpty
  | e :: es, s, xs => match xs with
    | x :: xs => chk e s x && noStar x && chks es s xs
    | [] => false
end
end
/-- which expressions hand on a new object, if it is a list or a dict -/
def isFr (cf : Cfg) : E → Bool
  | .con _ => true
  | .glob _ _ => true
  | .tup _ => true
  | .lst _ => true
  | .dct => true
  | .ndc0 => true
  | .ndc1 _ _ => true
  | .slf _ _ => true
  | .slt _ _ => true
  | .sl _ _ _ => true
  | .rev _ => true
  | .neg _ => true
  | .bin _ _ _ => true
  | .cmp _ _ _ => true
  | .chain _ _ _ => true
  | .and _ _ => true
  | .or _ _ => true
  | .not _ => true
  | .ite _ a b => isFr cf a && isFr cf b
  | .call f _ => match cf.defs[f]? with
    | some df => df.fr
    | none => false
  | .bi _ _ => true
  | .lc _ _ _ _ _ _ => true
  | .dc _ _ _ _ _ _ _ => true
  | .lend _ _ => true
  | _ => false
/-- the built-in names that a text may use -/
def bnames : List Str := ["len", "isinstance", "str", "tuple", "list", "dict", "all", "any", "set", "zip", "enumerate", "range", "sorted", "max", "min", "sum"]
structure XC (cf : Cfg) (c : Calls) (k : Nat) (N : List Str) (s : Sx) (X : Cx) : Prop where
  hN : X.N = N
  nd : N.Nodup
  sc : X.env.scope = s.sc
  kind : s.sc.kind = .function
  fn : ∀ x, fnOk s.bk x = true → X.fn x = true
  calm : X.calm = true
  room : Room k X.A
  calls : ∀ f df, cf.defs[f]? = some df → 0 < df.ar → ∃ fa fd ps, X.mg df.name = some (.ref fa) ∧ PySem.W.keepIn X.kw (.ref fa) = true ∧ Binds X.kw fd ps [] ∧ FnOk X.prog X.w X.kw X.mg X.base CX0 k fa fd ps (SpOf X.kw c f df.ar df.fr)
  glI : ∀ x i, (x, D.int i) ∈ cf.gl → ∃ t, X.mg x = some (.int i t)
  glS : ∀ x z, (x, D.str z) ∈ cf.gl → ∃ t, X.mg x = some (.str z t)
  bi : ∀ x ∈ bnames, X.mg x = none
section
variable {cf : Cfg} {c : Calls} {k : Nat} {N : List Str} {s : Sx} {X : Cx}
theorem XC.u (h : XC cf c k N s X) : X.A.units + 65 < cLine := by have := h.room.un; omega
theorem XC.gl (h : XC cf c k N s X) {x : Str} (g : glB s.sc x = true) : Gl X x := by
  unfold glB at g
  show X.env.scope.names.lookup x = some .globalImplicit
  rw [h.sc]
  split at g
  · assumption
  · cases g
theorem XC.vis (h : XC cf c k N s X) {x : Str} (g : visB s.sc x = true) : Vis X.env.scope x := by
  unfold visB at g
  unfold Vis
  rw [h.sc]
  split at g
  · exact .inl (by assumption)
  · exact .inr (.inl (by assumption))
  · exact .inr (.inr (by assumption))
  · cases g
theorem okNm_of {x : Str} (h : okNm x = true) : (x == ("__debug__" : Str)) = false ∧ (x == ("__classdict__" : Str)) = false ∧ x ≠ "__name__" := by
  unfold okNm at h
  simp only [Bool.and_eq_true, Bool.not_eq_true', decide_eq_false_iff_not] at h
  exact ⟨h.1.1, h.1.2, h.2⟩
theorem XC.blk (h : XC cf c k N s X) {scope : Scope} (hk : scope.kind = .function) {st : Shared} {H : Hp} {C : Addr} {cl : List (Str × Addr)} {fp : List Addr} : XC cf c k N (s.blk scope) (XB X scope st H C cl fp) where
  hN := h.hN
  nd := h.nd
  sc := by
    show relabel scope X.env = relS scope s.sc
    rw [← h.sc]
    rfl
  kind := hk
  fn := fun x z => z
  calm := h.calm
  room := h.room
  calls := h.calls
  glI := h.glI
  glS := h.glS
  bi := h.bi
theorem XC.pg_nm (h : XC cf c k N s X) {i : Nat} {x : Str} {p : Pos} (g : nmOk N s i x = true) : PG X (.Name x p) (gName i) := by
  unfold nmOk at g
  simp only [Bool.and_eq_true, decide_eq_true_eq] at g
  obtain ⟨g1, g2⟩ := g
  have hi : X.N[i]? = some x := by rw [h.hN]; exact g1
  have nd : X.N.Nodup := by rw [h.hN]; exact h.nd
  split at g2
  · rename_i e
    exact pg_name nd hi (.inl (by rw [h.sc]; exact e)) (.inr (by rw [h.sc]; exact e))
  · rename_i e
    exact pg_name nd hi (.inr (by rw [h.sc]; exact e)) (.inl (h.fn x g2))
  · cases g2
theorem XC.pg_nms (h : XC cf c k N s X) : ∀ {is : List Nat} {xs : List Expr}, chkNms N s is xs = true → PGs X xs (gNames is) ∧ (assignEach xs X.env).length = is.length ∧ (assignEach xs X.env).findIdx? (·.1) = none
  | [], [], _ => ⟨pgs_nil, rfl, rfl⟩
  | [], _ :: _, g => by cases g
  | _ :: _, [], g => by cases g
  | i :: is, x :: xs, g => by
    cases x with
    | Name x p =>
      have g' : nmOk N s i x = true ∧ chkNms N s is xs = true := by simpa [chkNms] using g
      obtain ⟨h1, h2, h3⟩ := h.pg_nms g'.2
      refine ⟨pgs_cons (h.pg_nm g'.1) h1 rfl, ?_, ?_⟩
      · show (assignEach xs X.env).length + 1 = is.length + 1
        rw [h2]
      · show ((false, assign (.Name x p) X.env) :: assignEach xs X.env).findIdx? (·.1) = none
        rw [List.findIdx?_cons]
        simp only [Bool.false_eq_true, if_false]
        rw [h3]
        rfl
    | _ => cases g
theorem XC.pg (h : XC cf c k N s X) {tg : Tg} {ex : Expr} (g : chkTg N s tg ex = true) : PG X ex (gOf X.kw tg) := by
  cases tg with
  | nm i =>
    cases ex with
    | Name x p => exact h.pg_nm g
    | _ => cases g
  | tp is =>
    cases ex with
    | Tuple xs kk p =>
      obtain ⟨h1, h2, h3⟩ := h.pg_nms (show chkNms N s is xs = true from g)
      exact pg_tup h.calm h1 h2 h3
    | _ => cases g
end
end FG

namespace FG
open PySem PySem.Spec PyProof.Rows L2
section
variable {cf : Cfg} {c : Calls} {k : Nat} {N : List Str}
theorem Ev.weak {X : Cx} {env : En} {a : Expr} {S S' : Sto} {d : D} {fr fr' : Bool} (h : Ev X env a S d S' fr) (w : fr' = true → fr = true) : Ev X env a S d S' fr' := fun σ W rr ok st Q q => h σ W rr ok st Q fun v W' p f => q v W' p fun e => f (w e)
theorem evs_len : ∀ {es : List E} {env : En} {S S' : Sto} {ds : List D}, evs c es env S = some (ds, S') → ds.length = es.length
  | [], env, S, S', ds, h => by simp only [evs] at h; cases h; rfl
  | e :: es, env, S, S', ds, h => by
    simp only [evs, Option.bind_eq_some_iff, Option.map_eq_some_iff] at h
    obtain ⟨x, h1, r, h2, h3⟩ := h
    cases h3
    simp [evs_len h2]
def PV (cf : Cfg) (c : Calls) (k : Nat) (N : List Str) (e : E) : Prop := ∀ (s : Sx) (ex : Expr) (X : Cx), chk cf N e s ex = true → XC cf c k N s X → (∀ env S d S', ev c e env S = some (d, S') → Ev X env ex S d S' (isFr cf e)) ∧ (∀ env S b S', ev c e env S = some (.bl b, S') → EvB X env ex S b S')
def PVs (cf : Cfg) (c : Calls) (k : Nat) (N : List Str) (es : List E) : Prop := ∀ (s : Sx) (xs : List Expr) (X : Cx), chks cf N es s xs = true → XC cf c k N s X → (∀ env S ds S', evs c es env S = some (ds, S') → EvL X env xs S ds S') ∧ (∀ env S ds S', evcs c es env S = some (ds, S') → EvCL X env xs S ds S') ∧ (∀ env S b S', evts c es env S = some (b, S') → EvTs X env xs S b S')
theorem chks_star : ∀ {es : List E} {s : Sx} {xs : List Expr}, chks cf N es s xs = true → xs.all noStar = true ∧ xs.length = es.length
  | [], s, xs, h => by
    cases xs with
    | nil => exact ⟨rfl, rfl⟩
    | cons x xs => simp [chks] at h
  | e :: es, s, xs, h => by
    cases xs with
    | nil => simp [chks] at h
    | cons x xs =>
      simp only [chks, Bool.and_eq_true] at h
      obtain ⟨h1, h2⟩ := chks_star h.2
      simp [h.1.2, h1, h2]
/-- the operand by its top -/
theorem evc_of {e : E} {s : Sx} {ex : Expr} {X : Cx} (ih : PV cf c k N e) (hc : chk cf N e s ex = true) (hx : XC cf c k N s X) {env : En} {S S1 : Sto} {d : D}
    (h : (match peek env e with | some d => some (d, S) | none => ev c e env S) = some (d, S1)) : EvC X env ex S d S1 := by
  cases hp : peek env e with
  | none =>
    rw [hp] at h
    exact ((ih s ex X hc hx).1 env S d S1 h).c
  | some d' =>
    rw [hp] at h
    cases h
    cases e with
    | var i =>
      cases ex with
      | Name x p =>
        simp only [chk, Bool.and_eq_true, decide_eq_true_eq] at hc
        obtain ⟨h1, h2, h3⟩ := okNm_of hc.2
        exact evc_own hp (by rw [hx.hN]; exact hc.1.1) (hx.vis hc.1.2) h1 h2
      | _ => simp [chk] at hc
    | _ => cases hp
theorem plain_and {X : Cx} {env : En} {ex : Expr} {S S' : Sto} {e : E} (hp : plainT ex = true) (h : ∀ env S d S', ev c e env S = some (d, S') → Ev X env ex S d S' (isFr cf e)) :
    (∀ env S d S', ev c e env S = some (d, S') → Ev X env ex S d S' (isFr cf e)) ∧ (∀ env S b S', ev c e env S = some (.bl b, S') → EvB X env ex S b S') :=
  ⟨h, fun env S b S' h' => evb_val hp (h env S _ S' h')⟩
theorem pv_var (i : Nat) : PV cf c k N (.var i) := by
  intro s ex X hc hx
  cases ex with
  | Name x p =>
    simp only [chk, Bool.and_eq_true, decide_eq_true_eq] at hc
    obtain ⟨h1, h2, h3⟩ := okNm_of hc.2
    refine plain_and (env := []) (S := []) (S' := []) rfl fun env S d S' h => ?_
    simp only [ev, Option.map_eq_some_iff] at h
    obtain ⟨d', h, e⟩ := h
    cases e
    exact ev_var h (by rw [hx.hN]; exact hc.1.1) (hx.vis hc.1.2) h1 h2
  | _ => simp [chk] at hc
theorem pv_con (d : D) : PV cf c k N (.con d) := by
  intro s ex X hc hx
  cases ex with
  | Constant cc kk p =>
    simp only [chk] at hc
    refine plain_and (env := []) (S := []) (S' := []) rfl fun env S d' S' h => ?_
    simp only [ev, Option.some.injEq, Prod.mk.injEq] at h
    obtain ⟨rfl, rfl⟩ := h
    cases d with
    | non => cases cc with
      | none => exact ev_non
      | _ => cases hc
    | bl b => cases cc with
      | bool b' => have := eq_of_beq hc; subst this; exact ev_bl
      | _ => cases hc
    | int i => cases cc with
      | int j => have := of_decide_eq_true hc; subst this; exact ev_int
      | _ => cases hc
    | str x => cases cc with
      | str y => have := of_decide_eq_true hc; subst this; exact ev_str
      | _ => cases hc
    | _ => cases cc <;> cases hc
  | _ => simp [chk] at hc
theorem pv_glob (x : Str) (d : D) : PV cf c k N (.glob x d) := by
  intro s ex X hc hx
  cases ex with
  | Name y p =>
    simp only [chk, Bool.and_eq_true, decide_eq_true_eq, List.any_eq_true] at hc
    obtain ⟨⟨⟨rfl, hg⟩, hn⟩, ⟨x', d'⟩, hm, hq⟩ := hc
    obtain ⟨h1, h2, h3⟩ := okNm_of hn
    obtain ⟨rfl, hd⟩ := hq
    refine plain_and (env := []) (S := []) (S' := []) rfl fun env S d2 S' h => ?_
    simp only [ev, Option.some.injEq, Prod.mk.injEq] at h
    obtain ⟨rfl, rfl⟩ := h
    cases d with
    | int i => cases d' with
      | int j => have := of_decide_eq_true hd; subst this; exact ev_globI (hx.gl hg) (hx.glI _ _ hm) h1
      | _ => cases hd
    | str i => cases d' with
      | str j => have := of_decide_eq_true hd; subst this; exact ev_globS (hx.gl hg) (hx.glS _ _ hm) h1
      | _ => cases hd
    | _ => cases d' <;> cases hd
  | _ => simp [chk] at hc
theorem small_line {n : Nat} (h : n ≤ 1000) : n ≤ sizeLine := Nat.le_of_lt (small1000 h)
theorem pv_tup (es : List E) (ih : PVs cf c k N es) : PV cf c k N (.tup es) := by
  intro s ex X hc hx
  cases ex with
  | Tuple xs kk p =>
    simp only [chk, Bool.and_eq_true, decide_eq_true_eq] at hc
    refine plain_and (env := []) (S := []) (S' := []) rfl fun env S d S' h => ?_
    simp only [ev, Option.map_eq_some_iff] at h
    obtain ⟨r, h, e⟩ := h
    cases e
    exact ev_tup ((ih s xs X hc.1 hx).1 env S _ _ h) (small_line (by rw [evs_len h, ← (chks_star hc.1).2]; exact hc.2))
  | _ => simp [chk] at hc
theorem pv_lst (es : List E) (ih : PVs cf c k N es) : PV cf c k N (.lst es) := by
  intro s ex X hc hx
  cases ex with
  | List xs p =>
    simp only [chk, Bool.and_eq_true, decide_eq_true_eq] at hc
    refine plain_and (env := []) (S := []) (S' := []) rfl fun env S d S' h => ?_
    simp only [ev, Option.map_eq_some_iff] at h
    obtain ⟨r, h, e⟩ := h
    cases e
    exact ev_lst ((ih s xs X hc.1 hx).1 env S _ _ h) (small_line (by rw [evs_len h, ← (chks_star hc.1).2]; exact hc.2))
  | _ => simp [chk] at hc
theorem pv_dct : PV cf c k N .dct := by
  intro s ex X hc hx
  cases ex with
  | Dict ks vs p =>
    cases ks with
    | nil =>
      cases vs with
      | nil =>
        refine plain_and (env := []) (S := []) (S' := []) rfl fun env S d S' h => ?_
        simp only [ev, Option.some.injEq, Prod.mk.injEq] at h
        obtain ⟨rfl, rfl⟩ := h
        exact ev_dct
      | cons v vs => simp [chk] at hc
    | cons k ks => simp [chk] at hc
  | _ => simp [chk] at hc
theorem pv_ndc0 : PV cf c k N .ndc0 := by
  intro s ex X hc hx
  cases ex with
  | Dict ks vs p =>
    cases ks with
    | nil =>
      cases vs with
      | nil =>
        refine plain_and (env := []) (S := []) (S' := []) rfl fun env S d S' h => ?_
        simp only [ev, Option.some.injEq, Prod.mk.injEq] at h
        obtain ⟨rfl, rfl⟩ := h
        exact ev_ndc0
      | cons v vs => simp [chk] at hc
    | cons k ks => simp [chk] at hc
  | _ => simp [chk] at hc
theorem pv_ndc1 (a b : E) (ia : PV cf c k N a) (ib : PV cf c k N b) : PV cf c k N (.ndc1 a b) := by
  intro s ex X hc hx
  unfold chk at hc
  split at hc
  · rename_i x y p
    simp only [Bool.and_eq_true] at hc
    refine plain_and (env := []) (S := []) (S' := []) rfl fun env S d S' h => ?_
    simp only [ev, Option.bind_eq_some_iff, Option.map_eq_some_iff] at h
    obtain ⟨⟨x', S1⟩, h1, ⟨y', S2⟩, h2, nk, h3, e⟩ := h
    cases e
    have := hx.u
    exact ev_ndc1 (by omega) (((ia s x X hc.1 hx).1 env _ _ _ h1).weak fun z => by cases z) (((ib s y X hc.2 hx).1 env _ _ _ h2).weak fun z => by cases z) h3
  · cases hc
theorem pv_idx (a b : E) (ia : PV cf c k N a) (ib : PV cf c k N b) : PV cf c k N (.idx a b) := by
  intro s ex X hc hx
  cases ex with
  | Subscript x y p =>
    simp only [chk, Bool.and_eq_true] at hc
    refine plain_and (env := []) (S := []) (S' := []) rfl fun env S d S' h => ?_
    simp only [ev, Option.bind_eq_some_iff, Option.map_eq_some_iff] at h
    obtain ⟨x', h1, y', h2, d', h3, e⟩ := h
    cases e
    have := hx.u
    exact ev_idxS (by omega) hc.2 (evc_of ia hc.1.1 hx h1) ((ib s y X hc.1.2 hx).1 env _ _ _ h2).c h3
  | _ => simp [chk] at hc
theorem pv_slf (a b : E) (ia : PV cf c k N a) (ib : PV cf c k N b) : PV cf c k N (.slf a b) := by
  intro s ex X hc hx
  unfold chk at hc
  split at hc
  · simp only [Bool.and_eq_true] at hc
    refine plain_and (env := []) (S := []) (S' := []) rfl fun env S d S' h => ?_
    simp only [ev, Option.bind_eq_some_iff, Option.map_eq_some_iff] at h
    obtain ⟨x', h1, ⟨y', S2⟩, h2, d', h3, e⟩ := h
    cases e
    cases y' with
    | int i => exact ev_slf (evc_of ia hc.1 hx h1) (((ib s _ X hc.2 hx).1 env _ _ _ h2).weak fun z => by cases z) h3
    | _ => cases h3
  · cases hc
theorem pv_slt (a b : E) (ia : PV cf c k N a) (ib : PV cf c k N b) : PV cf c k N (.slt a b) := by
  intro s ex X hc hx
  unfold chk at hc
  split at hc
  · simp only [Bool.and_eq_true] at hc
    refine plain_and (env := []) (S := []) (S' := []) rfl fun env S d S' h => ?_
    simp only [ev, Option.bind_eq_some_iff, Option.map_eq_some_iff] at h
    obtain ⟨x', h1, ⟨y', S2⟩, h2, d', h3, e⟩ := h
    cases e
    cases y' with
    | int i => exact ev_slt (evc_of ia hc.1 hx h1) (((ib s _ X hc.2 hx).1 env _ _ _ h2).weak fun z => by cases z) h3
    | _ => cases h3
  · cases hc
theorem pv_sl (a b z : E) (ia : PV cf c k N a) (ib : PV cf c k N b) (iz : PV cf c k N z) : PV cf c k N (.sl a b z) := by
  intro s ex X hc hx
  unfold chk at hc
  split at hc
  · simp only [Bool.and_eq_true] at hc
    refine plain_and (env := []) (S := []) (S' := []) rfl fun env S d S' h => ?_
    simp only [ev, Option.bind_eq_some_iff, Option.map_eq_some_iff] at h
    obtain ⟨x', h1, ⟨y', S2⟩, h2, ⟨w', S3⟩, h3, d', h4, e⟩ := h
    cases e
    cases y' with
    | int i =>
      cases w' with
      | int j => exact ev_sl (evc_of ia hc.1.1 hx h1) (((ib s _ X hc.1.2 hx).1 env _ _ _ h2).weak fun z => by cases z) (((iz s _ X hc.2 hx).1 env _ _ _ h3).weak fun z => by cases z) h4
      | _ => cases h4
    | _ => cases h4
  · cases hc
theorem pv_rev (a : E) (ia : PV cf c k N a) : PV cf c k N (.rev a) := by
  intro s ex X hc hx
  unfold chk at hc
  split at hc
  · refine plain_and (env := []) (S := []) (S' := []) rfl fun env S d S' h => ?_
    simp only [ev, Option.bind_eq_some_iff] at h
    obtain ⟨⟨x', S1⟩, h1, h2⟩ := h
    cases x' with
    | lst ds => cases h2; exact ev_rev (evc_of ia hc hx h1)
    | _ => cases h2
  · cases hc
theorem pv_neg (a : E) (ia : PV cf c k N a) : PV cf c k N (.neg a) := by
  intro s ex X hc hx
  unfold chk at hc
  split at hc
  · refine plain_and (env := []) (S := []) (S' := []) rfl fun env S d S' h => ?_
    simp only [ev, Option.bind_eq_some_iff] at h
    obtain ⟨⟨x', S1⟩, h1, h2⟩ := h
    cases x' with
    | int i => cases h2; exact ev_neg (((ia s _ X hc hx).1 env _ _ _ h1).weak fun z => by cases z)
    | _ => cases h2
  · cases hc
theorem pv_bin (op : BOp) (a b : E) (ia : PV cf c k N a) (ib : PV cf c k N b) : PV cf c k N (.bin op a b) := by
  intro s ex X hc hx
  unfold chk at hc
  split at hc
  · simp only [Bool.and_eq_true, decide_eq_true_eq] at hc
    obtain ⟨⟨rfl, ha⟩, hb⟩ := hc
    refine plain_and (env := []) (S := []) (S' := []) rfl fun env S d S' h => ?_
    simp only [ev, Option.bind_eq_some_iff, Option.map_eq_some_iff] at h
    obtain ⟨x', h1, y', h2, d', h3, e⟩ := h
    cases e
    have := hx.u
    exact ev_bin (by omega) (evc_of ia ha hx h1) (evc_of ib hb hx h2) h3
  · cases hc
theorem pv_cmp (op : COp) (a b : E) (ia : PV cf c k N a) (ib : PV cf c k N b) : PV cf c k N (.cmp op a b) := by
  intro s ex X hc hx
  unfold chk at hc
  split at hc
  · simp only [Bool.and_eq_true, decide_eq_true_eq] at hc
    obtain ⟨⟨⟨rfl, hs⟩, ha⟩, hb⟩ := hc
    refine ⟨fun env S d S' h => ?_, fun env S r S' h => ?_⟩
    · simp only [ev, Option.bind_eq_some_iff, Option.map_eq_some_iff] at h
      obtain ⟨x', h1, y', h2, d', h3, e⟩ := h
      cases e
      exact ev_cmp hx.u hs (evc_of ia ha hx h1) (evc_of ib hb hx h2) h3
    · simp only [ev, Option.bind_eq_some_iff, Option.map_eq_some_iff] at h
      obtain ⟨x', h1, y', h2, d', h3, e⟩ := h
      cases e
      exact evb_cmp hx.u hs (evc_of ia ha hx h1) (evc_of ib hb hx h2) h3
  · cases hc
theorem pv_chain (a b z : E) (ia : PV cf c k N a) (ib : PV cf c k N b) (iz : PV cf c k N z) : PV cf c k N (.chain a b z) := by
  intro s ex X hc hx
  unfold chk at hc
  split at hc
  · simp only [Bool.and_eq_true] at hc
    obtain ⟨⟨⟨hs, ha⟩, hb⟩, hz⟩ := hc
    have inv : ∀ {env S d S'}, ev c (.chain a b z) env S = some (d, S') → ∃ i j S1 S2, ev c a env S = some (.int i, S1) ∧ ev c b env S1 = some (.int j, S2) ∧ ((i ≤ j ∧ ∃ kk, ev c z env S2 = some (.int kk, S') ∧ d = .bl (decide (j ≤ kk))) ∨ (¬ i ≤ j ∧ d = .bl false ∧ S' = S2)) := by
      intro env S d S' h
      simp only [ev, Option.bind_eq_some_iff] at h
      obtain ⟨⟨x', S1⟩, h1, ⟨y', S2⟩, h2, h3⟩ := h
      cases x' with
      | int i =>
        cases y' with
        | int j =>
          refine ⟨i, j, S1, S2, h1, h2, ?_⟩
          by_cases hij : i ≤ j
          · simp only [if_pos hij, Option.bind_eq_some_iff] at h3
            obtain ⟨⟨w', S3⟩, h4, h5⟩ := h3
            cases w' with
            | int kk => cases h5; exact .inl ⟨hij, kk, h4, rfl⟩
            | _ => cases h5
          · simp only [if_neg hij] at h3
            cases h3
            exact .inr ⟨hij, rfl, rfl⟩
        | _ => cases h3
      | _ => cases h3
    refine ⟨fun env S d S' h => ?_, fun env S r S' h => ?_⟩
    · obtain ⟨i, j, S1, S2, h1, h2, ⟨hij, kk, h3, rfl⟩ | ⟨hij, rfl, rfl⟩⟩ := inv h
      · exact ev_chainT hs (((ia s _ X ha hx).1 env _ _ _ h1).weak fun z => by cases z) (((ib s _ X hb hx).1 env _ _ _ h2).weak fun z => by cases z) (((iz s _ X hz hx).1 env _ _ _ h3).weak fun z => by cases z) hij
      · exact ev_chainF hs (((ia s _ X ha hx).1 env _ _ _ h1).weak fun z => by cases z) (((ib s _ X hb hx).1 env _ _ _ h2).weak fun z => by cases z) hij
    · obtain ⟨i, j, S1, S2, h1, h2, ⟨hij, kk, h3, e⟩ | ⟨hij, e, rfl⟩⟩ := inv h
      · cases e
        exact evb_chainT hs (((ia s _ X ha hx).1 env _ _ _ h1).weak fun z => by cases z) (((ib s _ X hb hx).1 env _ _ _ h2).weak fun z => by cases z) (((iz s _ X hz hx).1 env _ _ _ h3).weak fun z => by cases z) hij
      · cases e
        exact evb_chainF hs (((ia s _ X ha hx).1 env _ _ _ h1).weak fun z => by cases z) (((ib s _ X hb hx).1 env _ _ _ h2).weak fun z => by cases z) hij
  · cases hc
end
end FG

namespace FG
open PySem PySem.Spec PyProof.Rows L2
/-- the number of different texts among the first i -/
def dcnt (xs : List Str) (i : Nat) : Nat := (xs.take i).eraseDups.length
theorem dcnt_succ {xs : List Str} {i : Nat} {x : Str} (h : xs[i]? = some x) : dcnt xs (i + 1) = if (xs.take i).any (· == x) = true then dcnt xs i else dcnt xs i + 1 := by
  unfold dcnt
  rw [List.take_add_one, h, List.eraseDups_append]
  by_cases m : x ∈ xs.take i
  · have e1 : (xs.take i).any (· == x) = true := by simpa using m
    have e2 : ([x] : List Str).removeAll (xs.take i) = [] := by simp [List.removeAll, m]
    rw [if_pos e1]
    simp only [Option.toList_some, e2, List.eraseDups_nil, List.append_nil]
  · have e1 : ¬ (xs.take i).any (· == x) = true := by simpa using m
    have e2 : ([x] : List Str).removeAll (xs.take i) = [x] := by simp [List.removeAll, m]
    rw [if_neg e1]
    simp only [Option.toList_some, e2, List.length_append]
    rfl
theorem dcnt_le (xs : List Str) : ∀ i : Nat, i ≤ xs.length → dcnt xs i ≤ i
  | 0, _ => by simp [dcnt]
  | i + 1, h => by
    have := dcnt_le xs i (by omega)
    rw [dcnt_succ (x := xs[i]) (List.getElem?_eq_getElem (by omega))]
    split <;> omega
section
variable {P : Program} {w : World} {A : Around} {R : Result → Shared → Prop} {I : Addr} {fp wr : List Addr} {G : Array GenState → Array GenState → Prop} {n : Nat} {Pv : Nat → Value → Prop} {St : Nat → Shared → Prop}
abbrev SetT (P : Program) (w : World) (h : Heap) (a : Addr) (xs : List Str) (i : Nat) : Prop := h.SetOf (PySem.strKind P w) a (fun k => (xs.take i).any (· == k)) (dcnt xs i)
theorem setT_keep {h h' : Heap} {a : Addr} {xs : List Str} {i : Nat} (k : ∀ o, h.get? a = some o → h'.get? a = some o) (x : SetT P w h a xs i) : SetT P w h' a xs i := by
  obtain ⟨o, es, ep, tb, ho, z⟩ := x
  exact ⟨o, es, ep, tb, k _ ho, z⟩
theorem fill_set (W : WalksS P w A.in1 I fp wr G n Pv St) (Z : Addr) (zf : Z ∉ fp) (xs : List Str) (hz : xs.length = n) (hb : n + 1 < scanBound) (hv : ∀ i v, Pv i v → ∃ x t, xs[i]? = some x ∧ v = .str x t) :
    ∀ (k i : Nat) (s : Shared), n - i = k → i ≤ n → St i s → SetT P w s.heap Z xs i → (∀ s', Moved (Z :: wr) G s s' → SetT P w s'.heap Z xs n → R (.ok (.ret .none)) s') → codeAny (model P w) A (.builtin "set.update.loop" ⟨[.ref Z, .ref I], []⟩) R s := by
  have zw : Z ∉ wr := fun h => zf (W.sub _ h)
  have sb : ∀ b ∈ wr, b ∈ Z :: wr := fun b m => List.mem_cons_of_mem _ m
  intro k
  induction k with
  | zero =>
    intro i s e1 e2 st hs fin
    obtain rfl : i = n := by omega
    refine codeAny_builtin PyProof.Rows.F.entry_set_update_loop ((Around.under_plainId PyProof.Rows.F.plain_set_update_loop _).symm ▸ ?_)
    refine wpAny_bind (m := pyNext (.ref I)) (W.done s _ _ st fun s' mv => ?_)
    show wpAny (model P w) A.in1 (ret .none) _ _ s'
    exact wpAny_pure (fin s' (mv.mono sb) (setT_keep (fun o e => mv.heap Z o zw e) hs))
  | succ k ih =>
    intro i s e1 e2 st hs fin
    have lt : i < n := by omega
    refine codeAny_builtin PyProof.Rows.F.entry_set_update_loop ((Around.under_plainId PyProof.Rows.F.plain_set_update_loop _).symm ▸ ?_)
    refine wpAny_bind (m := pyNext (.ref I)) (W.item i s _ _ lt st fun v s' pv st' mv => ?_)
    obtain ⟨x, t, hx, rfl⟩ := hv i v pv
    have hs' := setT_keep (P := P) (w := w) (fun o e => mv.heap Z o zw e) hs
    show wpAny _ A.in1 (holding [Value.str x t] (setAdd Z (.str x t)) >>= _) _ _ s'
    refine wpAny_bind (wpAny_holding ?_)
    unfold setAdd
    refine wpAny_holding (wpAny_bind ((PySem.strKind P w).pyHash (k := x) (strKind_is _ _ _ _) ?_))
    have hd := dcnt_le xs i (by omega)
    refine wpAny_setAddHashed_of (knd := PySem.strKind P w) (s := { s' with toks := s'.toks + 1 }) (strKind_is _ _ _ _) rfl hs' (by omega) fun h' same hs2 => ?_
    have hs3 : SetT P w h' Z xs (i + 1) := SetOf_congr hs2 (fun y => by
      show ((xs.take i).any (· == y) || decide (y = x)) = (xs.take (i + 1)).any (· == y)
      rw [List.take_add_one, hx, List.any_append]
      congr 1
      by_cases e : y = x
      · subst e; simp
      · have e' : ¬ x = y := fun z => e z.symm
        simp [e, e']) (dcnt_succ hx).symm
    refine wpAny_pure ⟨plainId_quiet PyProof.Rows.F.plain_set_update_loop _, ih (i + 1) _ (by omega) lt (W.frame _ s' _ _ st' (Nat.le_succ _) fun b m o e => ?_) hs3 fun s2 mv2 q2 => ?_⟩
    · exact (same.2 b fun z : b = Z => zf (z ▸ m)).trans e
    · exact fin s2 (Moved.trans W.gtrans ((mv.mono sb).then_heap (Nat.le_succ _) fun b o m e => (same.2 b fun z : b = Z => m (z ▸ List.mem_cons_self)).trans e) mv2) q2
end
section
variable {P : Program} {w : World} {A : Around} {E : Value → Shared → Prop} {s : Shared}
/-- an empty set -/
abbrev set0 (led : Bool) : Obj := { cls := .type "set", dict := none, data := .set #[] 0 (.fresh 0 0 led) }
theorem set_of_tuple {l : Addr} {its : Array Value} {xs : List Str} {Q : Value → Shared → Prop} (hh : A.handled = none) (hl : s.heap.IsTuple l its) (hi : StrsAre its.toList xs) (hb : xs.length + 1 < scanBound)
    (q : ∀ (h' : Heap) (tk : Nat), SetT P w h' s.heap.objs.size xs xs.length → (∀ b o, b < s.heap.objs.size → s.heap.get? b = some o → h'.get? b = some o) → Q (.ref s.heap.objs.size) { s with heap := h', toks := tk }) :
    wpAny (model P w) A (call (.type "set") [.ref l]) Q E s := by
  obtain ⟨mc, mt, m1⟩ := PySem.F.called_set.mro
  have m2 := PySem.F.called_set.made
  have m3 := PySem.F.called_set.sub
  have m4 := PySem.F.called_set.notType
  have m5 := PySem.F.called_set.canCreate
  have m6 := PySem.F.typeCall_set_1 (.ref l)
  have hz : xs.length = its.size := by rw [← StrsAre.len_eq hi, Array.length_toList]
  refine wpAny_call (codeAny_of_tree (wpAny_pure ⟨Code.quiet_builtin _ (by decide +kernel), codeAny_builtin PySem.F.entry_type_call ?_⟩))
  refine (Around.under_plain (weight_type_call_type "set" [.ref l] []) rfl).symm ▸ ?_
  repeat (any_goals (first | assumption | wp_step))
  refine codeAny_mono (code_set_new_1 (.ref l) (E := E) (Q₁ := fun v s1 => ∃ led, v = .ref s.heap.objs.size ∧ s1 = { s with heap := s.heap.push (set0 led) }) fun led => ⟨led, rfl, rfl⟩) fun r s1 hr => ?_
  rcases r with e | (_ | _ | _ | v)
  · exact hr
  all_goals first | exact hr.elim | skip
  obtain ⟨led, rfl, rfl⟩ := hr
  have g1 : (s.heap.push (set0 led)).get? s.heap.objs.size = some (set0 led) := Heap.get?_push_size _ rfl
  have g2 : Shared.TypeIs { s with heap := s.heap.push (set0 led) } (.ref s.heap.objs.size) "set" := ⟨_, g1, rfl⟩
  have m7 := PySem.F.called_set.init.lookup
  have m8 := PySem.F.called_set.init.bind (.ref s.heap.objs.size)
  repeat (any_goals (first | assumption | wp_step))
  refine codeAny_mono (codeAny_call_builtin (R := wants (fun r s2 => r = .none ∧ ∃ h' tk, s2 = { s with heap := h', toks := tk } ∧ SetT P w h' s.heap.objs.size xs xs.length ∧ ∀ b o, b < s.heap.objs.size → s.heap.get? b = some o → h'.get? b = some o) E) PySem.F.called_set.init.plain PySem.F.entry_set_init (check_set_init_1 g2 ?_)) fun r s2 hr => ?_
  · obtain ⟨⟨oc, od, ot, os⟩, ho, hc, nl, hd⟩ := hl
    simp only at hc hd
    subst hc
    subst hd
    have k1 : (s.heap.push (set0 led)).get? l = some ⟨.type "tuple", od, .seq its nl, os⟩ := Heap.get?_push_of_some _ ho
    have k2 := PySem.F.sub_tuple_set
    have k3 := PySem.F.sub_tuple_frozenset
    have k4 : (Value.type "tuple" == Value.type "dict") = false := by decide
    have k5 : (s.heap.push (set0 led)).IsTuple l its := ⟨_, k1, rfl, nl, rfl⟩
    unfold Builtin.«set.__init__» noKeywords Builtin.Frozenset.updateFrom
    generalize hp : pyIter = pit
    wp_walk
    subst hp
    refine wpAny_pyIter_tuple k5 (wpAny_bind (wpAny_runValue ?_))
    have lt : l < s.heap.objs.size := Heap.lt_size ho
    have hn3 : A.in1.in1.in1.handled = none := by simp [hh]
    have z1 : (s.heap.push (set0 led)).objs.size = s.heap.objs.size + 1 := Heap.size_push ..
    have ne1 : l ≠ (s.heap.push (set0 led)).objs.size := by rw [z1]; exact Nat.ne_of_lt (Nat.lt_succ_of_lt lt)
    have ne2 : s.heap.objs.size ∉ [(s.heap.push (set0 led)).objs.size, l] := by rw [z1, List.mem_cons, List.mem_singleton]; exact fun z => z.elim (fun z => Nat.ne_of_lt (Nat.lt_succ_self _) z) fun z => Nat.ne_of_gt lt z
    have hv : ∀ (i : Nat) (v : Value), its[i]? = some v → ∃ x t, xs[i]? = some x ∧ v = .str x t := fun i v e => by
      have hi' : i < xs.length := by rw [hz]; exact (Array.getElem?_eq_some_iff.mp e).1
      obtain ⟨t, e'⟩ := SS.strs_at hi i v (by rw [Array.getElem?_toList]; exact e)
      exact ⟨xs[i], t, List.getElem?_eq_getElem hi', by rw [e', List.getD_eq_getElem?_getD, List.getElem?_eq_getElem hi']; rfl⟩
    refine fill_set ((Walks.tuple hn3 _ l ne1 its).toS) s.heap.objs.size ne2 xs hz (hz ▸ hb) hv its.size 0 _ (by omega) (Nat.zero_le _) ⟨⟨_, Heap.get?_push_size _ rfl, rfl, rfl⟩, k5.push _⟩ ?_ fun s' mv hs => ?_
    · have g3 : ((s.heap.push (set0 led)).push ⟨.type "tuple_iterator", none, .fields #[.ref l, .int 0 0], #[]⟩).get? s.heap.objs.size = some (set0 led) := Heap.get?_push_of_some _ g1
      exact SetOf_congr ((setObjOf_fresh (knd := PySem.strKind P w) led).setOf g3 (by unfold scanBound; omega)) (fun _ => rfl) rfl
    · obtain ⟨h', gn, dr, tk, ops⟩ := s'
      obtain rfl : gn = s.gens := mv.gens
      obtain rfl : dr = s.drawn := mv.drawn
      obtain rfl : ops = s.os := mv.os
      refine wpAny_pure ?_
      show wpAny _ _ (ret Value.none) _ _ _
      refine wpAny_pure ⟨rfl, h', tk, rfl, hz ▸ hs, fun b o lb e => mv.heap b o ?_ (Heap.get?_push_of_some _ (Heap.get?_push_of_some _ e))⟩
      rw [z1, List.mem_cons, List.mem_singleton]
      exact fun z => z.elim (fun z => Nat.ne_of_lt lb z) fun z => Nat.ne_of_lt (Nat.lt_succ_of_lt lb) z
  · rcases r with e | (_ | _ | _ | v)
    · exact hr
    all_goals first | exact hr.elim | skip
    obtain ⟨rfl, h', tk, rfl, hs, hk⟩ := hr
    repeat (any_goals (first | assumption | wp_step))
    exact q _ _ hs hk
end
/-- len(set(xs)), xs a tuple of texts -/
def tLenT (K : KW) (ta : TE) : TE := fun σ H Q => ta σ H fun x H1 => ∃ l, ∃ xs : List Str, x = .ref l ∧ SqT K H1 l (xs.map V.str) ∧ xs.length ≤ 8 ∧ Q (.int xs.eraseDups.length) H1
theorem pe_lenT {X : Cx} {a : Expr} {ta : TE} {p p2 q pos : Pos} (hc : X.calm = true) (g1 : Gl X "len") (b1 : X.mg "len" = none) (g2 : Gl X "set") (b2 : X.mg "set" = none) (ha : PE X a ta) (na : starEach [a] X.env = (false, eval a X.env) :: starEach [] X.env) :
    PE X (.Call (.Name "len" p) [.Call (.Name "set" p2) [a] [] q] [] pos) (tLenT X.kw ta) := by
  refine ⟨fun pins s σ H Q I h => Call_ (ld_blt I g1 b1 boot_len (callWith_builtin1 (args_cons (Call_ (ld_blt I g2 b2 boot_set (callWith_type1 (args_cons (thn (ha.run pins s σ H _ I h) fun v s1 ⟨x, H1, I1, r1, q1⟩ => args_nil ?_) na) na rfl))) rfl) rfl rfl))⟩
  obtain ⟨l, xs, rfl, hq, h8, q1⟩ := q1
  cases r1
  obtain ⟨its, r, pl, hz⟩ := I1.tuple hq
  refine set_of_tuple (xs := xs) (I1.ok.hd hc) pl (by simpa using strsAre_of r) (by unfold scanBound; omega) fun h' tk hs hk => args_nil ?_
  have e8 : dcnt xs xs.length = xs.eraseDups.length := by unfold dcnt; rw [List.take_length]
  have le8 := dcnt_le xs xs.length (Nat.le_refl _)
  obtain ⟨o, es, ep, t, ho, hex, hd, _, _, _, hf, hn⟩ := hs
  have I2 : Inv X pins σ H1 { s1 with heap := h', toks := tk } := I1.kept fun b o e => hk b o (Heap.lt_size e) e
  exact call_len_set ho hex hd hf (by rw [hn]; omega) ⟨.int xs.eraseDups.length, H1, I2.tok _, ⟨_, by rw [hn, e8]⟩, q1⟩
theorem repL_strs {K : KW} {W : Wd} : ∀ {ds : List D} {vs : List V} {xs : List Str}, txts ds = some xs → RepL K W ds vs → vs = xs.map V.str
  | [], vs, xs, e, r => by cases e; exact r
  | d :: ds, vs, xs, e, r => by
    obtain ⟨v, vs', rfl, r1, r2⟩ := r
    cases d with
    | str z =>
      simp only [txts, Option.map_eq_some_iff] at e
      obtain ⟨ys, e, rfl⟩ := e
      rw [show v = .str z from r1, repL_strs e r2]
      rfl
    | _ => cases e
theorem ev_lenset {X : Cx} {env : En} {a : Expr} {S S1 : Sto} {d d1 : D} {p p2 q pos : Pos} {fr : Bool} (hc : X.calm = true) (hg : Gl X "len") (hm : X.mg "len" = none) (hg2 : Gl X "set") (hm2 : X.mg "set" = none) (ns : noStar a = true) (h1 : EvC X env a S d1 S1) (e : biF .lenset d1 = some d) :
    Ev X env (.Call (.Name "len" p) [.Call (.Name "set" p2) [a] [] q] [] pos) S d S1 fr := by
  cases d1 with
  | tup ds =>
    simp only [biF, Option.bind_eq_some_iff] at e
    obtain ⟨xs, e1, e2⟩ := e
    split at e2
    · rename_i h8
      cases e2
      intro σ W r ok st Q qq
      refine satE (pe_lenT hc hg hm hg2 hm2 pe_sat (star_of ns)) (h1 σ W r ok st _ fun v W' l ok' st' tr => ?_)
      rcases tr with tr | ⟨b, _, _, z⟩
      · obtain ⟨b, vs, rfl, at_, rl⟩ := tr
        rw [repL_strs e1 rl] at at_
        exact ⟨b, xs, rfl, .inl (.inl at_.1), by simpa using h8, qq _ W' ⟨l, ok', st', rfl⟩ fun _ => fresh_imm rfl⟩
      · exact z.elim
    · cases e2
  | _ => cases e
end FG

namespace FG
open PySem PySem.Spec PyProof.Rows L2
section
variable {cf : Cfg} {c : Calls} {k : Nat} {N : List Str}
theorem pv_and (a b : E) (ia : PV cf c k N a) (ib : PV cf c k N b) : PV cf c k N (.and a b) := by
  intro s ex X hc hx
  unfold chk at hc
  split at hc
  · simp only [Bool.and_eq_true] at hc
    obtain ⟨ha, hb⟩ := hc
    have inv : ∀ {env S d S'}, ev c (.and a b) env S = some (d, S') → (∃ S1 r, ev c a env S = some (.bl true, S1) ∧ ev c b env S1 = some (.bl r, S') ∧ d = .bl r) ∨ (ev c a env S = some (.bl false, S') ∧ d = .bl false) := by
      intro env S d S' h
      simp only [ev, Option.bind_eq_some_iff] at h
      obtain ⟨⟨x', S1⟩, h1, h2⟩ := h
      cases x' with
      | bl v =>
        cases v with
        | true =>
          simp only [Option.bind_eq_some_iff] at h2
          obtain ⟨⟨y', S2⟩, h3, h4⟩ := h2
          cases y' with
          | bl r => cases h4; exact .inl ⟨S1, r, h1, h3, rfl⟩
          | _ => cases h4
        | false => cases h2; exact .inr ⟨h1, rfl⟩
      | _ => cases h2
    refine ⟨fun env S d S' h => ?_, fun env S r S' h => ?_⟩
    · rcases inv h with ⟨S1, r, h1, h2, rfl⟩ | ⟨h1, rfl⟩
      · exact ev_andT (((ia s _ X ha hx).1 env _ _ _ h1).weak fun z => by cases z) (((ib s _ X hb hx).1 env _ _ _ h2).weak fun z => by cases z)
      · exact ev_andF (((ia s _ X ha hx).1 env _ _ _ h1).weak fun z => by cases z)
    · rcases inv h with ⟨S1, r, h1, h2, e⟩ | ⟨h1, e⟩
      · cases e
        exact evb_andT ((ia s _ X ha hx).2 env _ _ _ h1) ((ib s _ X hb hx).2 env _ _ _ h2)
      · cases e
        exact evb_andF ((ia s _ X ha hx).2 env _ _ _ h1)
  · cases hc
theorem pv_or (a b : E) (ia : PV cf c k N a) (ib : PV cf c k N b) : PV cf c k N (.or a b) := by
  intro s ex X hc hx
  unfold chk at hc
  split at hc
  · simp only [Bool.and_eq_true] at hc
    obtain ⟨ha, hb⟩ := hc
    have inv : ∀ {env S d S'}, ev c (.or a b) env S = some (d, S') → (∃ S1 r, ev c a env S = some (.bl false, S1) ∧ ev c b env S1 = some (.bl r, S') ∧ d = .bl r) ∨ (ev c a env S = some (.bl true, S') ∧ d = .bl true) := by
      intro env S d S' h
      simp only [ev, Option.bind_eq_some_iff] at h
      obtain ⟨⟨x', S1⟩, h1, h2⟩ := h
      cases x' with
      | bl v =>
        cases v with
        | false =>
          simp only [Option.bind_eq_some_iff] at h2
          obtain ⟨⟨y', S2⟩, h3, h4⟩ := h2
          cases y' with
          | bl r => cases h4; exact .inl ⟨S1, r, h1, h3, rfl⟩
          | _ => cases h4
        | true => cases h2; exact .inr ⟨h1, rfl⟩
      | _ => cases h2
    refine ⟨fun env S d S' h => ?_, fun env S r S' h => ?_⟩
    · rcases inv h with ⟨S1, r, h1, h2, rfl⟩ | ⟨h1, rfl⟩
      · exact ev_orF (((ia s _ X ha hx).1 env _ _ _ h1).weak fun z => by cases z) (((ib s _ X hb hx).1 env _ _ _ h2).weak fun z => by cases z)
      · exact ev_orT (((ia s _ X ha hx).1 env _ _ _ h1).weak fun z => by cases z)
    · rcases inv h with ⟨S1, r, h1, h2, e⟩ | ⟨h1, e⟩
      · cases e
        exact evb_orF ((ia s _ X ha hx).2 env _ _ _ h1) ((ib s _ X hb hx).2 env _ _ _ h2)
      · cases e
        exact evb_orT ((ia s _ X ha hx).2 env _ _ _ h1)
  · cases hc
theorem pv_not (a : E) (ia : PV cf c k N a) : PV cf c k N (.not a) := by
  intro s ex X hc hx
  unfold chk at hc
  split at hc
  · have inv : ∀ {env S d S'}, ev c (.not a) env S = some (d, S') → ∃ r, ev c a env S = some (.bl r, S') ∧ d = .bl !r := by
      intro env S d S' h
      simp only [ev, Option.bind_eq_some_iff] at h
      obtain ⟨⟨x', S1⟩, h1, h2⟩ := h
      cases x' with
      | bl v => cases h2; exact ⟨v, h1, rfl⟩
      | _ => cases h2
    refine ⟨fun env S d S' h => ?_, fun env S r S' h => ?_⟩
    · obtain ⟨r, h1, rfl⟩ := inv h
      exact ev_not (((ia s _ X hc hx).1 env _ _ _ h1).weak fun z => by cases z)
    · obtain ⟨r, h1, e⟩ := inv h
      cases e
      exact evb_not ((ia s _ X hc hx).2 env _ _ _ h1)
  · cases hc
theorem satT_ite {X : Cx} {t a b : Expr} {pos : Pos} {σ : L2.St} {H : Hp} {Q : Bool → Hp → Prop} (h : SatT X t σ H fun c H1 => if c = true then SatT X a σ H1 Q else SatT X b σ H1 Q) : SatT X (.IfExp t a b pos) σ H Q := by
  intro pins s I
  show wpAny _ _ (do if ← isTrue t X.env (eval t X.env) then isTrue a X.env (eval a X.env) else isTrue b X.env (eval b X.env)) _ _ s
  refine wpAny_bind (thn (h pins s I) fun c s1 ⟨H1, I1, q1⟩ => ?_)
  cases c with
  | true => exact q1 pins s1 I1
  | false => exact q1 pins s1 I1
theorem pv_ite (z a b : E) (iz : PV cf c k N z) (ia : PV cf c k N a) (ib : PV cf c k N b) : PV cf c k N (.ite z a b) := by
  intro s ex X hc hx
  unfold chk at hc
  split at hc
  · simp only [Bool.and_eq_true] at hc
    obtain ⟨⟨hz, ha⟩, hb⟩ := hc
    have inv : ∀ {env S d S'}, ev c (.ite z a b) env S = some (d, S') → ∃ S1, (ev c z env S = some (.bl true, S1) ∧ ev c a env S1 = some (d, S')) ∨ (ev c z env S = some (.bl false, S1) ∧ ev c b env S1 = some (d, S')) := by
      intro env S d S' h
      simp only [ev, Option.bind_eq_some_iff] at h
      obtain ⟨⟨x', S1⟩, h1, h2⟩ := h
      cases x' with
      | bl v =>
        cases v with
        | true => exact ⟨S1, .inl ⟨h1, h2⟩⟩
        | false => exact ⟨S1, .inr ⟨h1, h2⟩⟩
      | _ => cases h2
    refine ⟨fun env S d S' h => ?_, fun env S r S' h => ?_⟩
    · obtain ⟨S1, ⟨h1, h2⟩ | ⟨h1, h2⟩⟩ := inv h
      · exact ev_iteT ((iz s _ X hz hx).2 env _ _ _ h1) (((ia s _ X ha hx).1 env _ _ _ h2).weak fun w => (Bool.and_eq_true_iff.mp w).1)
      · exact ev_iteF ((iz s _ X hz hx).2 env _ _ _ h1) (((ib s _ X hb hx).1 env _ _ _ h2).weak fun w => (Bool.and_eq_true_iff.mp w).2)
    · obtain ⟨S1, ⟨h1, h2⟩ | ⟨h1, h2⟩⟩ := inv h
      · intro σ W rr ok st Q q
        refine satT_ite ((iz s _ X hz hx).2 env _ _ _ h1 σ W rr ok st _ fun W1 l ok1 st1 => ?_)
        rw [if_pos rfl]
        exact ((ia s _ X ha hx).2 env _ _ _ h2).from rr ok l ok1 st1 q
      · intro σ W rr ok st Q q
        refine satT_ite ((iz s _ X hz hx).2 env _ _ _ h1 σ W rr ok st _ fun W1 l ok1 st1 => ?_)
        rw [if_neg Bool.false_ne_true]
        exact ((ib s _ X hb hx).2 env _ _ _ h2).from rr ok l ok1 st1 q
  · cases hc
theorem pv_call (f : Nat) (es : List E) (ih : PVs cf c k N es) : PV cf c k N (.call f es) := by
  intro s ex X hc hx
  unfold chk at hc
  split at hc
  · rename_i x p xs pos
    split at hc
    · rename_i df hdf
      simp only [Bool.and_eq_true, decide_eq_true_eq, Bool.not_eq_true', List.isEmpty_eq_false_iff] at hc
      obtain ⟨⟨⟨⟨⟨rfl, hn⟩, hg⟩, hcs⟩, hne⟩, har⟩ := hc
      obtain ⟨h1, h2, h3⟩ := okNm_of hn
      obtain ⟨fa, fd, ps, hm, hk, hb, F⟩ := hx.calls f df hdf (by rw [← har, ← (chks_star hcs).2]; exact List.length_pos_iff.mpr hne)
      refine plain_and (env := []) (S := []) (S' := []) rfl fun env S d S' h => ?_
      simp only [ev, Option.bind_eq_some_iff] at h
      obtain ⟨⟨ds, S1⟩, h4, h5⟩ := h
      have hl := evs_len h4
      cases xs with
      | nil => exact absurd rfl hne
      | cons x0 xs =>
        have e : isFr cf (.call f es) = df.fr := by simp [isFr, hdf]
        rw [e]
        exact ev_call F hx.room (hx.gl hg) hm hk hb h1 (chks_star hcs).1 ((ih s _ X hcs hx).1 env S _ _ h4) (by rw [hl]; exact har) h5
    · cases hc
  · cases hc
theorem tyOk_of {T : String} (h : tyOkB T = true) : tyOk T := by
  simp only [tyOkB, Bool.or_eq_true, decide_eq_true_eq] at h
  unfold tyOk
  rcases h with ((h | h) | h) | h
  · exact .inl h
  · exact .inr (.inl h)
  · exact .inr (.inr (.inl h))
  · exact .inr (.inr (.inr h))
theorem bi_ty {X : Cx} {s : Sx} (hx : XC cf c k N s X) {T : String} (h : tyOk T) : X.mg (Str.ofString T) = none := by
  rcases h with rfl | rfl | rfl | rfl
  · exact hx.bi "str" (by decide)
  · exact hx.bi "tuple" (by decide)
  · exact hx.bi "list" (by decide)
  · exact hx.bi "dict" (by decide)
theorem pv_bi (f : Bi) (a : E) (ia : PV cf c k N a) : PV cf c k N (.bi f a) := by
  intro s ex X hc hx
  have fin : (∀ env S d S', ev c (.bi f a) env S = some (d, S') → Ev X env ex S d S' (isFr cf (.bi f a))) → plainT ex = true → (∀ env S d S', ev c (.bi f a) env S = some (d, S') → Ev X env ex S d S' (isFr cf (.bi f a))) ∧ (∀ env S b S', ev c (.bi f a) env S = some (.bl b, S') → EvB X env ex S b S') := fun h hp => plain_and (env := []) (S := []) (S' := []) hp h
  unfold chk at hc
  split at hc
  · rename_i T g p1 x t p2 p3
    simp only [Bool.and_eq_true, decide_eq_true_eq] at hc
    obtain ⟨⟨⟨⟨⟨⟨rfl, rfl⟩, g1⟩, g2⟩, hT⟩, ns⟩, ha⟩ := hc
    refine fin (fun env S d S' h => ?_) rfl
    simp only [ev, Option.bind_eq_some_iff, Option.map_eq_some_iff] at h
    obtain ⟨x', h1, d', h2, e⟩ := h
    cases e
    simp only [biF] at h2
    split at h2
    · simp only [Option.map_eq_some_iff] at h2
      obtain ⟨q, h2, rfl⟩ := h2
      exact ev_isi (tyOk_of hT) (hx.gl g1) (hx.bi "isinstance" (by decide)) (hx.gl g2) (bi_ty hx (tyOk_of hT)) ns (evc_of ia ha hx h1) h2
    · cases h2
  · rename_i g p1 t p2 x p3 p4
    simp only [Bool.and_eq_true, decide_eq_true_eq] at hc
    obtain ⟨⟨⟨⟨⟨rfl, rfl⟩, g1⟩, g2⟩, ns⟩, ha⟩ := hc
    refine fin (fun env S d S' h => ?_) rfl
    simp only [ev, Option.bind_eq_some_iff, Option.map_eq_some_iff] at h
    obtain ⟨x', h1, d', h2, e⟩ := h
    cases e
    exact ev_lenset hx.calm (hx.gl g1) (hx.bi "len" (by decide)) (hx.gl g2) (hx.bi "set" (by decide)) ns (evc_of ia ha hx h1) h2
  · simp only [Bool.and_eq_true, decide_eq_true_eq] at hc
    obtain ⟨⟨⟨hn, g1⟩, ns⟩, ha⟩ := hc
    refine fin (fun env S d S' h => ?_) rfl
    simp only [ev, Option.bind_eq_some_iff, Option.map_eq_some_iff] at h
    obtain ⟨x', h1, d', h2, e⟩ := h
    cases e
    have hC := evc_of ia ha hx h1
    cases f with
    | len => cases hn; exact ev_len (hx.gl g1) (hx.bi "len" (by decide)) ns hC h2
    | all => cases hn; exact ev_all hx.calm (hx.gl g1) (hx.bi "all" (by decide)) ns hC h2
    | any => cases hn; exact ev_any hx.calm (hx.gl g1) (hx.bi "any" (by decide)) ns hC h2
    | tuple => cases hn; exact ev_tuple (hx.gl g1) (hx.bi "tuple" (by decide)) ns hC h2
    | list => cases hn; exact ev_list hx.calm (hx.gl g1) (hx.bi "list" (by decide)) ns hC h2
    | dict => cases hn; exact ev_dict hx.calm (hx.gl g1) (hx.bi "dict" (by decide)) ns hC h2
    | isi T => cases hn
    | lenset => cases hn
    | sum => cases hn; exact ev_sum hx.calm (hx.gl g1) (hx.bi "sum" (by decide)) ns hC h2
    | sorted => cases hn; exact ev_sorted hx.u (hx.gl g1) (hx.bi "sorted" (by decide)) ns hC h2
    | max => cases hn; exact ev_max hx.calm (hx.gl g1) (hx.bi "max" (by decide)) ns hC h2
    | min => cases hn; exact ev_min hx.calm (hx.gl g1) (hx.bi "min" (by decide)) ns hC h2
  · cases hc
theorem pv_get (a b : E) (ia : PV cf c k N a) (ib : PV cf c k N b) : PV cf c k N (.get a b) := by
  intro s ex X hc hx
  unfold chk at hc
  split at hc
  · simp only [Bool.and_eq_true, decide_eq_true_eq] at hc
    obtain ⟨⟨⟨⟨⟨rfl, hb⟩, ns⟩, hl⟩, ha⟩, hk⟩ := hc
    refine plain_and (env := []) (S := []) (S' := []) rfl fun env S d S' h => ?_
    simp only [ev, Option.bind_eq_some_iff, Option.map_eq_some_iff] at h
    obtain ⟨x', h1, y', h2, d', h3, e⟩ := h
    cases e
    have := hx.u
    exact ev_get (by omega) hb ns hl (evc_of ia ha hx h1) (((ib s _ X hk hx).1 env _ _ _ h2).weak fun z => by cases z) h3
  · cases hc
theorem pv_getd (a b z : E) (ia : PV cf c k N a) (ib : PV cf c k N b) (iz : PV cf c k N z) : PV cf c k N (.getd a b z) := by
  intro s ex X hc hx
  unfold chk at hc
  split at hc
  · simp only [Bool.and_eq_true, decide_eq_true_eq] at hc
    obtain ⟨⟨⟨⟨⟨⟨⟨rfl, hb⟩, ns⟩, ns2⟩, hl⟩, ha⟩, hk⟩, hz⟩ := hc
    refine plain_and (env := []) (S := []) (S' := []) rfl fun env S d S' h => ?_
    simp only [ev, Option.bind_eq_some_iff, Option.map_eq_some_iff] at h
    obtain ⟨x', h1, ⟨y', S2⟩, h2, w', h3, d', h4, e⟩ := h
    cases e
    have := hx.u
    cases y' with
    | str t => exact ev_getd (by omega) hb ns ns2 hl (evc_of ia ha hx h1) (((ib s _ X hk hx).1 env _ _ _ h2).weak fun z => by cases z) (((iz s _ X hz hx).1 env _ _ _ h3).weak fun z => by cases z) h4 ⟨t, rfl⟩
    | _ => cases h4
  · cases hc
theorem pv_lend (js : List Nat) (a : E) (ia : PV cf c k N a) : PV cf c k N (.lend js a) := by
  intro s ex X hc hx
  simp only [chk] at hc
  have inv : ∀ {env S d S'}, ev c (.lend js a) env S = some (d, S') → ev c a (unown env js) S = some (d, S') ∧ imm d = true := by
    intro env S d S' h
    simp only [ev, Option.bind_eq_some_iff] at h
    obtain ⟨⟨d', S1⟩, h1, h2⟩ := h
    split at h2
    · rename_i hm; cases h2; exact ⟨h1, hm⟩
    · cases h2
  refine ⟨fun env S d S' h => ?_, fun env S r S' h => ?_⟩
  · obtain ⟨h1, h2⟩ := inv h
    exact ev_lend ((ia s ex X hc hx).1 _ S d S' h1) h2
  · obtain ⟨h1, h2⟩ := inv h
    exact evb_lend ((ia s ex X hc hx).2 _ S r S' h1)
end
end FG

namespace FG
open PySem PySem.Spec PyProof.Rows L2
section
variable {cf : Cfg} {c : Calls} {k : Nat} {N : List Str}
theorem pvs_of : ∀ {es : List E}, (∀ e ∈ es, PV cf c k N e) → PVs cf c k N es
  | [], _ => by
    intro s xs X hc hx
    cases xs with
    | nil =>
      refine ⟨fun env S ds S' h => ?_, fun env S ds S' h => ?_, fun env S b S' h => ?_⟩
      · simp only [evs] at h; cases h; exact evl_nil
      · simp only [evcs] at h; cases h; exact evcl_nil
      · simp only [evts] at h; cases h; exact ets_nil
    | cons x xs => simp [chks] at hc
  | e :: es, ih => by
    intro s xs X hc hx
    cases xs with
    | nil => simp [chks] at hc
    | cons x xs =>
      simp only [chks, Bool.and_eq_true] at hc
      have ie := ih e List.mem_cons_self
      obtain ⟨i1, i2, i3⟩ := pvs_of (fun e h => ih e (List.mem_cons_of_mem _ h)) s xs X hc.2 hx
      refine ⟨fun env S ds S' h => ?_, fun env S ds S' h => ?_, fun env S b S' h => ?_⟩
      · simp only [evs, Option.bind_eq_some_iff, Option.map_eq_some_iff] at h
        obtain ⟨⟨d, S1⟩, h1, ⟨ds', S2⟩, h2, e⟩ := h
        cases e
        exact evl_cons ((ie s x X hc.1.1 hx).1 env S d S1 h1) (i1 env S1 ds' _ h2) hc.1.2
      · simp only [evcs, Option.bind_eq_some_iff, Option.map_eq_some_iff] at h
        obtain ⟨⟨d, S1⟩, h1, ⟨ds', S2⟩, h2, e⟩ := h
        cases e
        exact evcl_cons (evc_of ie hc.1.1 hx h1) (i2 env S1 ds' _ h2) hc.1.2
      · simp only [evts, Option.bind_eq_some_iff] at h
        obtain ⟨⟨d, S1⟩, h1, h2⟩ := h
        cases es with
        | nil =>
          cases xs with
          | nil =>
            cases d with
            | bl r => cases h2; exact ets_one ((ie s x X hc.1.1 hx).2 env S _ _ h1)
            | _ => cases h2
          | cons x' xs => simp [chks] at hc
        | cons e' es => cases d <;> cases h2
theorem folded_of {it : Expr} {env : Env} (h : noSet it = true) (x : Value) : foldedSetIterable it env x = pure x := by
  cases it <;> first | rfl | cases h
theorem one_of {ik : IK} {its : List E} {s : Sx} {it : Expr} {x : Expr} (h : chks cf N its s [x] = true) : ∃ e, its = [e] ∧ chk cf N e s x = true ∧ noStar x = true := by
  cases its with
  | nil => simp [chks] at h
  | cons e es =>
    simp only [chks, Bool.and_eq_true] at h
    cases es with
    | nil => exact ⟨e, rfl, h.1.1, h.1.2⟩
    | cons e' es => simp [chks] at h
theorem it_inv {ik : IK} {it : Expr} (hk : ik ≠ .keys) (hs : ik ≠ .seq) (hn : ik ≠ .nkeys) : itArgs ik it = [] ∨ (∃ p a b pos, ik = .zip ∧ it = .Call (.Name "zip" p) [a, b] [] pos ∧ itArgs ik it = [a, b]) ∨ (∃ p a pos, ik = .enum ∧ it = .Call (.Name "enumerate" p) [a] [] pos ∧ itArgs ik it = [a]) ∨ (∃ p a pos, ik = .range ∧ it = .Call (.Name "range" p) [a] [] pos ∧ itArgs ik it = [a]) := by
  unfold itArgs
  split
  · exact absurd rfl hs
  · exact absurd rfl hk
  · exact absurd rfl hn
  · split
    · rename_i hx; subst hx; exact .inr (.inl ⟨_, _, _, _, rfl, rfl, rfl⟩)
    · exact .inl rfl
  · split
    · rename_i hx; subst hx; exact .inr (.inr (.inl ⟨_, _, _, rfl, rfl, rfl⟩))
    · exact .inl rfl
  · split
    · rename_i hx; subst hx; exact .inr (.inr (.inr ⟨_, _, _, rfl, rfl, rfl⟩))
    · exact .inl rfl
  · exact .inl rfl
theorem evcs_len : ∀ {es : List E} {env : En} {S S' : Sto} {ds : List D}, evcs c es env S = some (ds, S') → ds.length = es.length
  | [], env, S, S', ds, h => by simp only [evcs] at h; cases h; rfl
  | e :: es, env, S, S', ds, h => by
    simp only [evcs, Option.bind_eq_some_iff, Option.map_eq_some_iff] at h
    obtain ⟨x, h1, r, h2, h3⟩ := h
    cases h3
    simp [evcs_len h2]
theorem items_nil {ik : IK} {items : List D} (h : itemsF ik [] = some items) : False := by cases ik <;> cases h
theorem len1 {α : Type} {l : List α} (h : l.length = 1) : ∃ a, l = [a] := match l, h with | [a], _ => ⟨a, rfl⟩
theorem len2 {α : Type} {l : List α} (h : l.length = 2) : ∃ a b, l = [a, b] := match l, h with | [a, b], _ => ⟨a, b, rfl⟩
/-- what is walked by a call: zip, enumerate, range -/
theorem iter_call {P : Wd → Wd → Prop} {ik : IK} {its : List E} {s : Sx} {t it : Expr} {X : Cx} {env : En} {S S1 : Sto} {ds items : List D} (hk : ik ≠ .keys) (hs : ik ≠ .seq) (hn : ik ≠ .nkeys) (hx : XC cf c k N s X) (ho : okIt s ik t = true) (hc : chks cf N its s (itArgs ik it) = true)
    (hl : ds.length = its.length) (hp : EvP X P env (itArgs ik it) S ds S1) (h2 : itemsF ik ds = some items) : EvI X P env t it S items S1 := by
  have hst := chks_star hc
  rcases it_inv (it := it) hk hs hn with e | ⟨p, a, b, pos, rfl, rfl, e⟩ | ⟨p, a, pos, rfl, rfl, e⟩ | ⟨p, a, pos, rfl, rfl, e⟩
  · rw [e] at hst
    have : ds = [] := List.length_eq_zero_iff.mp (by rw [hl, ← hst.2]; rfl)
    subst this
    exact (items_nil h2).elim
  · rw [e] at hst hp
    simp only [okIt, Bool.and_eq_true] at ho
    obtain ⟨d1, d2, rfl⟩ := len2 (l := ds) (by rw [hl, ← hst.2]; rfl)
    have ns : noStar a = true ∧ noStar b = true := by simpa using hst.1
    exact evi_zip ho.1 (hx.gl ho.2) (hx.bi "zip" (by decide)) ns.1 ns.2 hp h2
  · rw [e] at hst hp
    simp only [okIt, Bool.and_eq_true] at ho
    obtain ⟨d1, rfl⟩ := len1 (l := ds) (by rw [hl, ← hst.2]; rfl)
    have ns : noStar a = true := by simpa using hst.1
    exact evi_enum ho.1 (hx.gl ho.2) (hx.bi "enumerate" (by decide)) ns hp h2
  · rw [e] at hst hp
    simp only [okIt] at ho
    obtain ⟨d1, rfl⟩ := len1 (l := ds) (by rw [hl, ← hst.2]; rfl)
    have ns : noStar a = true := by simpa using hst.1
    exact evi_range (hx.gl ho) (hx.bi "range" (by decide)) ns hp h2
/-- what is walked, where it is not a dict's keys; by tops -/
theorem iter_ok {ik : IK} {its : List E} {s : Sx} {t it : Expr} {X : Cx} {env : En} {S S1 : Sto} {ds items : List D} (hk : ik ≠ .keys) (ih : ∀ e ∈ its, PV cf c k N e) (hx : XC cf c k N s X) (ho : okIt s ik t = true) (hc : chks cf N its s (itArgs ik it) = true)
    (h1 : evcs c its env S = some (ds, S1)) (h2 : itemsF ik ds = some items) : EvI X LeK env t it S items S1 := by
  by_cases hs : ik = .seq
  · subst hs
    obtain ⟨e, rfl, hce, ns⟩ := one_of (ik := .seq) (it := it) hc
    simp only [evcs, Option.bind_eq_some_iff, Option.map_eq_some_iff] at h1
    obtain ⟨⟨d, S2⟩, h3, ⟨ds', S3⟩, h4, e4⟩ := h1
    cases e4
    cases h4
    exact evi_seq (EvC.p (evc_of (ih e List.mem_cons_self) hce hx h3)) h2
  by_cases hn : ik = .nkeys
  · subst hn
    obtain ⟨e, rfl, hce, ns⟩ := one_of (ik := .nkeys) (it := it) hc
    simp only [evcs, Option.bind_eq_some_iff, Option.map_eq_some_iff] at h1
    obtain ⟨⟨d, S2⟩, h3, ⟨ds', S3⟩, h4, e4⟩ := h1
    cases e4
    cases h4
    cases d with
    | ndc ks vs => cases h2; exact evi_keysK (evc_of (ih e List.mem_cons_self) hce hx h3)
    | _ => cases h2
  · exact iter_call hk hs hn hx ho hc (evcs_len h1) (((pvs_of ih) s _ X hc hx).2.1 env S ds S1 h1).p h2
/-- .. the values shared: for a loop's statement -/
theorem iter_okS {ik : IK} {its : List E} {s : Sx} {t it : Expr} {X : Cx} {env : En} {S S1 : Sto} {ds items : List D} (hk : ik ≠ .keys) (ih : ∀ e ∈ its, PV cf c k N e) (hx : XC cf c k N s X) (ho : okIt s ik t = true) (hc : chks cf N its s (itArgs ik it) = true)
    (h1 : evs c its env S = some (ds, S1)) (h2 : itemsF ik ds = some items) : EvI X LeS env t it S items S1 := by
  by_cases hs : ik = .seq
  · subst hs
    obtain ⟨e, rfl, hce, ns⟩ := one_of (ik := .seq) (it := it) hc
    simp only [evs, Option.bind_eq_some_iff, Option.map_eq_some_iff] at h1
    obtain ⟨⟨d, S2⟩, h3, ⟨ds', S3⟩, h4, e4⟩ := h1
    cases e4
    cases h4
    exact evi_seq (Ev.p ((ih e List.mem_cons_self s _ X hce hx).1 env S d _ h3)) h2
  by_cases hn : ik = .nkeys
  · subst hn
    obtain ⟨e, rfl, hce, ns⟩ := one_of (ik := .nkeys) (it := it) hc
    simp only [evs, Option.bind_eq_some_iff, Option.map_eq_some_iff] at h1
    obtain ⟨⟨d, S2⟩, h3, ⟨ds', S3⟩, h4, e4⟩ := h1
    cases e4
    cases h4
    cases d with
    | ndc ks vs => cases h2; exact evi_keysS ((ih e List.mem_cons_self s _ X hce hx).1 env S _ _ h3)
    | _ => cases h2
  · exact iter_call hk hs hn hx ho hc (evs_len h1) (((pvs_of ih) s _ X hc hx).1 env S ds S1 h1).p h2
theorem own_map (own : List Nat) : (ownOf N own).map (·.2) = own := by
  unfold ownOf
  rw [List.map_map]
  show own.map (fun i => i) = own
  exact List.map_id' own
section
variable {own : List Nat} {tg : Tg} {ik : IK} {its ifs : List E} {elt ke ve : E} {s : Sx} {X : Cx} {el kx vx t it : Expr} {fs : List Expr} {as : Int} {scope : Scope} {pos : Pos}
/-- the parts of a list comprehension -/
structure LcP (cf : Cfg) (c : Calls) (k : Nat) (N : List Str) (own : List Nat) (tg : Tg) (s : Sx) (X : Cx) (t it : Expr) (scope : Scope) : Prop where
  ok : BlkOk X.N X.env.scope scope (ownOf N own)
  pg : ∀ st H C cl fp, PG (XB X scope st H C cl fp) t (gOf X.kw tg)
  fold : ∀ x, foldedSetIterable it X.env x = pure x
  slots : ∀ i ∈ tgSlots tg, i ∈ (ownOf N own).map (·.2)
theorem lcp_of (hx : XC cf c k N s X) (h1 : blkC N s.sc scope (ownOf N own) = true) (h2 : (tgSlots tg).all (fun i => own.contains i) = true) (h3 : chkTg N (s.blk scope) tg t = true) (h4 : noSet it = true) : LcP cf c k N own tg s X t it scope := by
  have hb := blkOk_by h1
  refine ⟨by rw [hx.hN, hx.sc]; exact hb, fun st H C cl fp => (hx.blk hb.kind).pg h3, folded_of h4, fun i hi => ?_⟩
  rw [own_map]
  simpa using List.all_eq_true.mp h2 i hi
theorem pv_lc (ii : ∀ e ∈ its, PV cf c k N e) (ifi : ∀ e ∈ ifs, PV cf c k N e) (ie : PV cf c k N elt) : PV cf c k N (.lc own tg ik its ifs elt) := by
  intro s ex X hc hx
  unfold chk at hc
  split at hc
  · rename_i el t it fs as scope pos
    simp only [Bool.and_eq_true, decide_eq_true_eq] at hc
    obtain ⟨⟨⟨⟨⟨⟨⟨⟨⟨⟨rfl, hbl⟩, hsl⟩, htg⟩, hoi⟩, hns⟩, hkv⟩, hci⟩, hcf⟩, hfl⟩, hce⟩ := hc
    have hb := blkOk_by hbl
    have lp := lcp_of (cf := cf) (c := c) (k := k) hx hbl hsl htg hns
    refine plain_and (env := []) (S := []) (S' := []) rfl fun env S d S' h => ?_
    simp only [ev, Option.bind_eq_some_iff, Option.map_eq_some_iff] at h
    obtain ⟨⟨ds, S1⟩, h1, items, h2, ⟨rs, S2⟩, h3, e⟩ := h
    cases e
    have hgo : lcGo (fun d => bindT tg d (wipeE env ((ownOf N own).map (·.2)))) (fun e S => evts c ifs e S) (fun e S => ev c elt e S) items S1 [] = some (rs, S2) := by rw [own_map]; exact h3
    have ht : ∀ env1 S t' S', evts c ifs env1 S = some (t', S') → ∀ st H C cl fp, EvTs (XB X scope st H C cl fp) env1 fs S t' S' := fun env1 S t' S' hh st H C cl fp => ((pvs_of ifi) _ fs _ hcf (hx.blk hb.kind)).2.2 env1 S t' S' hh
    have he : ∀ env1 S d S', ev c elt env1 S = some (d, S') → ∀ st H C cl fp, Ev (XB X scope st H C cl fp) env1 el S d S' false := fun env1 S d S' hh st H C cl fp => ((ie _ el _ hce (hx.blk hb.kind)).1 env1 S d S' hh).weak fun z => by cases z
    by_cases hk : ik = .keys
    · subst hk
      have hv : isVar its = true := by simpa using hkv
      cases its with
      | nil => cases hv
      | cons e0 es0 =>
        cases es0 with
        | cons _ _ => cases e0 <;> cases hv
        | nil =>
          cases e0 with
          | var i =>
            have h1' : evs c [.var i] env S = some (ds, S1) := h1
            simp only [evs, ev, Option.bind_eq_some_iff, Option.map_eq_some_iff] at h1'
            obtain ⟨⟨d0, S3⟩, ⟨d0', hge, e0⟩, ⟨ds', S4⟩, h4, e4⟩ := h1'
            cases e4
            cases h4
            cases e0
            obtain ⟨_, hd0⟩ : True ∧ ∃ ks es, d0 = .dct ks es := by
              cases d0 <;> first | exact ⟨trivial, _, _, rfl⟩ | cases h2
            obtain ⟨ks, es, rfl⟩ := hd0
            have hci' : chk cf N (.var i) s it = true := by
              have : chks cf N [.var i] s [it] = true := hci
              simp only [chks, Bool.and_eq_true] at this
              exact this.1.1
            cases it with
            | Name x p =>
              simp only [chk, Bool.and_eq_true, decide_eq_true_eq] at hci'
              obtain ⟨n1, n2, n3⟩ := okNm_of hci'.2
              intro σ W rr ok st Q q
              have hge' : env[i]? = some (some (.sh (.dct ks es))) := by
                unfold getE at hge
                split at hge
                · rename_i q; cases hge; exact q
                · cases hge
              obtain ⟨v, e1, a, kvs, rfl, hat, ek, rs'⟩ := rr.sh i _ hge'
              refine with_lock (S2 := S2) hat rr ok st (fun Wl od hl hn rl okl stl Q' q' => ?_) Q fun v W' p f => q v W' p fun _ => f
              refine satE (pe_lc hx.calm (by rw [hx.hN]; exact hx.nd) pi_sat lp.ok lp.pg (fun st H C cl fp => pts_all) (fun st H C cl fp => pe_all) lp.fold) ?_
              exact lc_read lp.slots (evi_keys (by rw [hx.hN]; exact hci'.1.1) (hx.vis hci'.1.2) n1 n2 e1 ek h2 hl hn okl stl) ht he hgo rl okl Q' q'
            | _ => simp [chk] at hci'
          | _ => cases hv
    · have h1' : evcs c its env S = some (ds, S1) := by
        cases ik <;> first | exact absurd rfl hk | exact h1
      have hi := iter_ok hk ii hx hoi hci h1' h2
      intro σ W rr ok st Q q
      refine satE (pe_lc hx.calm (by rw [hx.hN]; exact hx.nd) pi_sat lp.ok lp.pg (fun st H C cl fp => pts_all) (fun st H C cl fp => pe_all) lp.fold) ?_
      exact lc_read lp.slots (hi.at rr ok st) ht he hgo rr ok Q fun v W' p f => q v W' p fun _ => f
  · cases hc
theorem pv_dc (ii : ∀ e ∈ its, PV cf c k N e) (ifi : ∀ e ∈ ifs, PV cf c k N e) (ik' : PV cf c k N ke) (ie : PV cf c k N ve) : PV cf c k N (.dc own tg ik its ifs ke ve) := by
  intro s ex X hc hx
  unfold chk at hc
  split at hc
  · rename_i kx vx t it fs as scope pos
    simp only [Bool.and_eq_true, decide_eq_true_eq] at hc
    obtain ⟨⟨⟨⟨⟨⟨⟨⟨⟨⟨⟨rfl, hbl⟩, hsl⟩, htg⟩, hoi⟩, hns⟩, hkv⟩, hci⟩, hcf⟩, hfl⟩, hck⟩, hce⟩ := hc
    have hb := blkOk_by hbl
    have lp := lcp_of (cf := cf) (c := c) (k := k) hx hbl hsl htg hns
    refine plain_and (env := []) (S := []) (S' := []) rfl fun env S d S' h => ?_
    simp only [ev, Option.bind_eq_some_iff, Option.map_eq_some_iff] at h
    obtain ⟨⟨ds, S1⟩, h1, items, h2, ⟨rk, rs, S2⟩, h3, e⟩ := h
    cases e
    have hgo : dcGo (fun d => bindT tg d (wipeE env ((ownOf N own).map (·.2)))) (fun e S => evts c ifs e S) (fun e S => ev c ke e S) (fun e S => ev c ve e S) items S1 [] [] = some (rk, rs, S2) := by rw [own_map]; exact h3
    have ht : ∀ env1 S t' S', evts c ifs env1 S = some (t', S') → ∀ st H C cl fp, EvTs (XB X scope st H C cl fp) env1 fs S t' S' := fun env1 S t' S' hh st H C cl fp => ((pvs_of ifi) _ fs _ hcf (hx.blk hb.kind)).2.2 env1 S t' S' hh
    have hk' : ∀ env1 S d S', ev c ke env1 S = some (d, S') → ∀ st H C cl fp, Ev (XB X scope st H C cl fp) env1 kx S d S' false := fun env1 S d S' hh st H C cl fp => ((ik' _ kx _ hck (hx.blk hb.kind)).1 env1 S d S' hh).weak fun z => by cases z
    have he : ∀ env1 S d S', ev c ve env1 S = some (d, S') → ∀ st H C cl fp, Ev (XB X scope st H C cl fp) env1 vx S d S' false := fun env1 S d S' hh st H C cl fp => ((ie _ vx _ hce (hx.blk hb.kind)).1 env1 S d S' hh).weak fun z => by cases z
    by_cases hk : ik = .keys
    · subst hk
      have hv : isVar its = true := by simpa using hkv
      cases its with
      | nil => cases hv
      | cons e0 es0 =>
        cases es0 with
        | cons _ _ => cases e0 <;> cases hv
        | nil =>
          cases e0 with
          | var i =>
            have h1' : evs c [.var i] env S = some (ds, S1) := h1
            simp only [evs, ev, Option.bind_eq_some_iff, Option.map_eq_some_iff] at h1'
            obtain ⟨⟨d0, S3⟩, ⟨d0', hge, e0⟩, ⟨ds', S4⟩, h4, e4⟩ := h1'
            cases e4
            cases h4
            cases e0
            obtain ⟨_, hd0⟩ : True ∧ ∃ ks es, d0 = .dct ks es := by
              cases d0 <;> first | exact ⟨trivial, _, _, rfl⟩ | cases h2
            obtain ⟨ks, es, rfl⟩ := hd0
            have hci' : chk cf N (.var i) s it = true := by
              have : chks cf N [.var i] s [it] = true := hci
              simp only [chks, Bool.and_eq_true] at this
              exact this.1.1
            cases it with
            | Name x p =>
              simp only [chk, Bool.and_eq_true, decide_eq_true_eq] at hci'
              obtain ⟨n1, n2, n3⟩ := okNm_of hci'.2
              intro σ W rr ok st Q q
              have hge' : env[i]? = some (some (.sh (.dct ks es))) := by
                unfold getE at hge
                split at hge
                · rename_i q; cases hge; exact q
                · cases hge
              obtain ⟨v, e1, a, kvs, rfl, hat, ek, rs'⟩ := rr.sh i _ hge'
              refine with_lock (S2 := S2) hat rr ok st (fun Wl od hl hn rl okl stl Q' q' => ?_) Q fun v W' p f => q v W' p fun _ => f
              refine satE (pe_dc hx.calm (by rw [hx.hN]; exact hx.nd) pi_sat lp.ok lp.pg (fun st H C cl fp => pts_all) (fun st H C cl fp => pe_all) (fun st H C cl fp => pe_all) lp.fold) ?_
              exact dc_read lp.slots (evi_keys (by rw [hx.hN]; exact hci'.1.1) (hx.vis hci'.1.2) n1 n2 e1 ek h2 hl hn okl stl) ht hk' he hgo rl okl Q' q'
            | _ => simp [chk] at hci'
          | _ => cases hv
    · have h1' : evcs c its env S = some (ds, S1) := by
        cases ik <;> first | exact absurd rfl hk | exact h1
      have hi := iter_ok hk ii hx hoi hci h1' h2
      intro σ W rr ok st Q q
      refine satE (pe_dc hx.calm (by rw [hx.hN]; exact hx.nd) pi_sat lp.ok lp.pg (fun st H C cl fp => pts_all) (fun st H C cl fp => pe_all) (fun st H C cl fp => pe_all) lp.fold) ?_
      exact dc_read lp.slots (hi.at rr ok st) ht hk' he hgo rr ok Q fun v W' p f => q v W' p fun _ => f
  · cases hc
end
mutual
theorem pv : ∀ e : E, PV cf c k N e
  | .var i => pv_var i
  | .con d => pv_con d
  | .glob x d => pv_glob x d
  | .tup es => pv_tup es (pvs_of (pvl es))
  | .lst es => pv_lst es (pvs_of (pvl es))
  | .dct => pv_dct
  | .idx a b => pv_idx a b (pv a) (pv b)
  | .slf a b => pv_slf a b (pv a) (pv b)
  | .slt a b => pv_slt a b (pv a) (pv b)
  | .sl a b z => pv_sl a b z (pv a) (pv b) (pv z)
  | .rev a => pv_rev a (pv a)
  | .neg a => pv_neg a (pv a)
  | .bin op a b => pv_bin op a b (pv a) (pv b)
  | .cmp op a b => pv_cmp op a b (pv a) (pv b)
  | .chain a b z => pv_chain a b z (pv a) (pv b) (pv z)
  | .and a b => pv_and a b (pv a) (pv b)
  | .or a b => pv_or a b (pv a) (pv b)
  | .not a => pv_not a (pv a)
  | .ite z a b => pv_ite z a b (pv z) (pv a) (pv b)
  | .call f es => pv_call f es (pvs_of (pvl es))
  | .bi f a => pv_bi f a (pv a)
  | .get a b => pv_get a b (pv a) (pv b)
  | .getd a b z => pv_getd a b z (pv a) (pv b) (pv z)
  | .lc own tg ik its ifs elt => pv_lc (pvl its) (pvl ifs) (pv elt)
  | .dc own tg ik its ifs ke ve => pv_dc (pvl its) (pvl ifs) (pv ke) (pv ve)
  | .lend js a => pv_lend js a (pv a)
  | .ndc0 => pv_ndc0
  | .ndc1 a b => pv_ndc1 a b (pv a) (pv b)
theorem pvl : ∀ es : List E, ∀ e ∈ es, PV cf c k N e
  | [], e, h => by cases h
  | e :: es, e', h => (List.mem_cons.mp h).elim (fun q => q ▸ pv e) fun q => pvl es e' q
end
end
end FG

namespace FG
open PySem PySem.Spec PyProof.Rows L2
section
variable (X : Cx)
def SatS (st : Stmt) : TS := fun D σ H => ∀ pins s, Inv X pins σ H s → wpAny (model X.prog X.w) X.A (PySem.exec st X.env) (SP X pins D) X.xe s
def SatSs (sts : List Stmt) : TS := fun D σ H => ∀ pins s, Inv X pins σ H s → wpAny (model X.prog X.w) X.A (PySem.execs sts X.env) (SP X pins D) X.xe s
end
section
variable {X : Cx}
theorem ps_sat {st : Stmt} : PS X st (SatS X st) := ⟨fun pins s σ H D I h => h pins s I⟩
theorem pss_sat {sts : List Stmt} : PSs X sts (SatSs X sts) := ⟨fun pins s σ H D I h => h pins s I⟩
theorem satS {st : Stmt} {t : TS} (h : PS X st t) {σ : L2.St} {H : Hp} {D : Ends} (q : t D σ H) : SatS X st D σ H := fun pins s I => h.run pins s σ H D I q
theorem satSs {sts : List Stmt} {t : TS} (h : PSs X sts t) {σ : L2.St} {H : Hp} {D : Ends} (q : t D σ H) : SatSs X sts D σ H := fun pins s I => h.run pins s σ H D I q
end
/-! ### the state of a running def -/
structure Rn (K : KW) (W0 W : Wd) (env : En) (σ : L2.St) (S : Sto) : Prop where
  r : EnvR K W env σ
  ok : WOk W
  st : SRep K W S
  ok0 : WOk W0
  cs : ∃ t, W.cs = W0.cs ++ t
  own : ∀ b, W0.own b → W.own b
  own2 : ∀ b, W.own b → W0.own b ∨ W0.H b = none
  keep : ∀ b o, b ∉ W0.cs → W0.H b = some o → b ∉ W.cs ∧ W.H b = some o
  mine : ∀ (i : Nat) (d : D) (a : Addr), env[i]? = some (some (.ow d)) → σ[i]? = some (some (.ref a)) → W0.H a = none
section
variable {K : KW} {W0 W W' : Wd} {env : En} {σ : L2.St} {S S' : Sto} {d : D} {v : V} {a : Addr} {i : Nat}
theorem Rn.free (h : Rn K W0 W env σ S) (n : W.H a = none) : W0.H a = none := by
  cases q : W0.H a with
  | none => rfl
  | some u =>
    by_cases m : a ∈ W0.cs
    · obtain ⟨t, e⟩ := h.cs
      exact absurd n (h.ok.dom a (by rw [e]; exact List.mem_append_left _ m))
    · have := (h.keep a u m q).2
      rw [n] at this
      cases this
theorem Rn.leK (h : Rn K W0 W env σ S) (l : LeK W W') (ok' : WOk W') (st' : SRep K W' S') : Rn K W0 W' env σ S' where
  r := h.r.leK h.ok l
  ok := ok'
  st := st'
  ok0 := h.ok0
  cs := by
    obtain ⟨t, e⟩ := h.cs
    obtain ⟨u, e'⟩ := l.cs
    exact ⟨t ++ u, by rw [e', e, List.append_assoc]⟩
  own := fun b z => l.own1 b (h.own b z)
  own2 := fun b z => by
    rcases l.own2 b z with z | z
    · exact h.own2 b z
    · exact .inr (h.free z)
  keep := fun b o n e => by
    obtain ⟨n1, e1⟩ := h.keep b o n e
    exact l.keep b o n1 e1
  mine := h.mine
theorem Rn.le (h : Rn K W0 W env σ S) (l : Le W W') (ok' : WOk W') (st' : SRep K W' S') : Rn K W0 W' env σ S' := h.leK l.k ok' st'
theorem set_back {e0 : Ent} {j : Nat} {d' : D} (h : (env.set i (some e0))[j]? = some (some (.ow d'))) : (i = j ∧ e0 = .ow d') ∨ (i ≠ j ∧ env[j]? = some (some (.ow d'))) := by
  by_cases hj : i = j
  · subst hj
    by_cases hi : i < env.length
    · rw [List.getElem?_set_self hi] at h; cases h; exact .inl ⟨rfl, rfl⟩
    · rw [List.getElem?_eq_none (by simpa using hi)] at h; cases h
  · rw [List.getElem?_set_ne hj] at h
    exact .inr ⟨hj, h⟩
theorem Rn.setSh (h : Rn K W0 W env σ S) (rv : Rep K W d v) : Rn K W0 W (env.set i (some (.sh d))) (σ.set i (some v)) S :=
  { h with
    r := h.r.setSh rv
    mine := fun j d' b e e1 => by
      rcases set_back e with ⟨_, z⟩ | ⟨hj, e⟩
      · cases z
      · rw [List.getElem?_set_ne hj] at e1
        exact h.mine j d' b e e1 }
/-- the tuples that are seen stay seen when a list or a dict is hidden -/
theorem own_mut (x : OwnRep K W' a d) : ∃ o, W'.H a = some o ∧ mutO o = true := by
  cases d with
  | lst ds => obtain ⟨vs, e, _⟩ := x; exact ⟨_, e, rfl⟩
  | dct ks ds => obtain ⟨kvs, e, _⟩ := x; exact ⟨_, e, rfl⟩
  | ndc ks ds => obtain ⟨xs, ⟨ep, e⟩, _⟩ := x; exact ⟨_, e, rfl⟩
  | _ => exact x.elim
theorem hide_imm {o : HO} (e : W.H a = some o) (m : mutO o = true) {ds : List D} {vs : List V} (im : imms ds = true) (r : RepL K W ds vs) : RepL K (W.hide a) ds vs := by
  refine RepL.immLe ⟨[], by simp [Wd.hide]⟩ (fun b us x => ?_) (fun b xs x => ?_) ds vs im r
  · obtain ⟨e1, n, w⟩ := x
    refine ⟨e1, n, ?_⟩
    rintro (z | rfl)
    · exact w z
    · rw [e] at e1
      cases e1
      cases m
  · rcases x with ⟨u, ⟨e1, n, w⟩, ob, rfl⟩ | x
    · refine .inl ⟨_, ⟨e1, n, ?_⟩, ob, rfl⟩
      rintro (z | rfl)
      · exact w z
      · rw [e] at e1
        cases e1
        cases m
    · exact .inr x
theorem hide_st {o : HO} (e : W.H a = some o) (m : mutO o = true) (st : SRep K W S) : SRep K (W.hide a) S := by
  refine ⟨st.len, fun n ob b e1 e2 => ?_⟩
  have z := st.at_ n ob b e1 e2
  cases ob with
  | lst ds =>
    obtain ⟨im, vs, e3, r⟩ := z
    exact ⟨im, vs, e3, hide_imm e m im r⟩
  | ins c fs => exact z.elim
theorem hide_ok {o : HO} (ok : WOk W) (n : a ∉ W.cs) (e : W.H a = some o) (m : mutO o = true) : WOk (W.hide a) := by
  refine ⟨ok.nd, ok.dom, fun b z => ?_⟩
  rcases z with z | rfl
  · exact ok.ow b z
  · exact ⟨n, o, e, m⟩
/-- a new list or dict becomes one's own -/
theorem Rn.setOw (h : Rn K W0 W env σ S) (l : Le W W') (ok' : WOk W') (st' : SRep K W' S') (na : W.H a = none) (nc : a ∉ W'.cs) (no : ¬ W'.own a) (x : OwnRep K (W'.hide a) a d) :
    Rn K W0 (W'.hide a) (env.set i (some (.ow d))) (σ.set i (some (.ref a))) S' ∧ LeK W (W'.hide a) := by
  obtain ⟨o, e, m⟩ := own_mut x
  have lk : LeK W (W'.hide a) := ⟨l.cs, fun b z => .inl ((l.own b).mpr z), fun b z => by
    rcases z with z | rfl
    · exact .inl ((l.own b).mp z)
    · exact .inr na, l.keep⟩
  have h1 : Rn K W0 (W'.hide a) env σ S' := h.leK lk (hide_ok ok' nc e m) (hide_st e m st')
  have ne : ∀ (j : Nat) (d' : D) (b : Addr), env[j]? = some (some (.ow d')) → σ[j]? = some (some (.ref b)) → b ≠ a := fun j d' b e1 e2 z => by
    obtain ⟨b', e3, o3, _⟩ := h.r.ow j d' e1
    rw [e2] at e3
    cases e3
    obtain ⟨_, u, e4, _⟩ := h.ok.ow b o3
    rw [z, na] at e4
    cases e4
  refine ⟨{ h1 with
    r := ⟨by rw [List.length_set, List.length_set]; exact h1.r.len, fun j d' e1 => ?_, fun j d' e1 => ?_, fun j j' d' d'' b e1 e2 e3 e4 => ?_⟩
    mine := fun j d' b e1 e2 => ?_ }, lk⟩
  · by_cases hj : i = j
    · subst hj
      by_cases hi : i < env.length
      · rw [List.getElem?_set_self hi] at e1; cases e1
      · rw [List.getElem?_eq_none (by simpa using hi)] at e1; cases e1
    · rw [List.getElem?_set_ne hj] at e1 ⊢
      exact h1.r.sh j d' e1
  · by_cases hj : i = j
    · subst hj
      by_cases hi : i < env.length
      · rw [List.getElem?_set_self hi] at e1; cases e1
        exact ⟨a, by rw [List.getElem?_set_self (by rw [← h.r.len]; exact hi)], .inr rfl, x⟩
      · rw [List.getElem?_eq_none (by simpa using hi)] at e1; cases e1
    · rw [List.getElem?_set_ne hj] at e1 ⊢
      exact h1.r.ow j d' e1
  · have hs : ∀ (j : Nat) (d' : D), (env.set i (some (Ent.ow d)))[j]? = some (some (.ow d')) → (σ.set i (some (.ref a)))[j]? = some (some (.ref b)) → (i = j ∧ b = a) ∨ (i ≠ j ∧ env[j]? = some (some (.ow d')) ∧ σ[j]? = some (some (.ref b))) := fun j d' z1 z2 => by
      rcases set_back z1 with ⟨hj, z⟩ | ⟨hj, z⟩
      · subst hj
        by_cases hi : i < σ.length
        · rw [List.getElem?_set_self hi] at z2; cases z2; exact .inl ⟨rfl, rfl⟩
        · rw [List.getElem?_eq_none (by simpa using hi)] at z2; cases z2
      · rw [List.getElem?_set_ne hj] at z2
        exact .inr ⟨hj, z, z2⟩
    rcases hs j d' e1 e3 with ⟨p1, p2⟩ | ⟨p1, p2, p3⟩
    · rcases hs j' d'' e2 e4 with ⟨q1, q2⟩ | ⟨q1, q2, q3⟩
      · exact p1.symm.trans q1
      · exact absurd p2 (ne j' d'' b q2 q3)
    · rcases hs j' d'' e2 e4 with ⟨q1, q2⟩ | ⟨q1, q2, q3⟩
      · exact absurd q2 (ne j d' b p2 p3)
      · exact h.r.un j j' d' d'' b p2 q2 p3 q3
  · rcases set_back e1 with ⟨hj, z⟩ | ⟨hj, z⟩
    · subst hj
      by_cases hi : i < σ.length
      · rw [List.getElem?_set_self hi] at e2; cases e2; exact h.free na
      · rw [List.getElem?_eq_none (by simpa using hi)] at e2; cases e2
    · rw [List.getElem?_set_ne hj] at e2
      exact h.mine j d' b z e2
/-- a value into a name -/
theorem Rn.put {ow : Bool} (h : Rn K W0 W env σ S) (p : Post K W S' W' d v) (f : ow = true → isMut d = true ∧ Fresh K W W' d v) :
    ∃ W2, W2.H = W'.H ∧ LeK W W2 ∧ Rn K W0 W2 (env.set i (some (if ow then .ow d else .sh d))) (σ.set i (some v)) S' := by
  cases ow with
  | false => exact ⟨W', rfl, p.le.k, (h.le p.le p.ok p.st).setSh p.rep⟩
  | true =>
    obtain ⟨m, f⟩ := f rfl
    have im : imm d = false := by cases d <;> first | rfl | cases m
    rcases f im with ⟨xs, z⟩ | ⟨a, e, na, nc, no, x⟩
    · subst z; cases m
    · subst e
      obtain ⟨q1, q2⟩ := h.setOw (i := i) p.le p.ok p.st na nc no x
      exact ⟨W'.hide a, rfl, q2, q1⟩
/-- one's own object gets a new content -/
theorem Rn.putOw {o : HO} {d' : D} (h : Rn K W0 W env σ S) (e : env[i]? = some (some (.ow d))) (e1 : σ[i]? = some (some (.ref a))) (m : mutO o = true) (x : OwnRep K (W.put a o) a d') :
    Rn K W0 (W.put a o) (env.set i (some (.ow d'))) σ S ∧ LeS W (W.put a o) := by
  obtain ⟨a', e2, ho, _⟩ := h.r.ow i d e
  rw [e1] at e2
  cases e2
  have hi : i < env.length := (List.getElem?_eq_some_iff.mp e).1
  have hn := h.mine i d a e e1
  have ls : LeS W (W.put a o) := put_leS ho
  refine ⟨{ h with
    r := ⟨by rw [List.length_set]; exact h.r.len, fun j d2 e3 => ?_, fun j d2 e3 => ?_, fun j j' d2 d3 b z1 z2 => ?_⟩
    ok := put_ok h.ok ho m
    st := put_st h.ok ho h.st
    keep := fun b u n e3 => ?_
    mine := fun j d2 b e3 e4 => ?_ }, ls⟩
  · by_cases hj : i = j
    · subst hj
      rw [List.getElem?_set_self hi] at e3; cases e3
    · rw [List.getElem?_set_ne hj] at e3
      obtain ⟨v, e4, r4⟩ := h.r.sh j d2 e3
      exact ⟨v, e4, Rep.le ls d2 v r4⟩
  · by_cases hj : i = j
    · subst hj
      rw [List.getElem?_set_self hi] at e3; cases e3
      exact ⟨a, e1, ho, x⟩
    · rw [List.getElem?_set_ne hj] at e3
      obtain ⟨b, e4, o4, r4⟩ := h.r.ow j d2 e3
      have hb : b ≠ a := fun z => hj (h.r.un i j d d2 a e e3 e1 (by rw [← z]; exact e4))
      refine ⟨b, e4, o4, ?_⟩
      cases d2 with
      | lst ds => obtain ⟨vs, e5, r5⟩ := r4; exact ⟨vs, by show upd W.H a o b = _; rw [upd_ne hb]; exact e5, RepL.le ls ds vs r5⟩
      | dct ks ds => obtain ⟨kvs, e5, k5, r5⟩ := r4; exact ⟨kvs, by show upd W.H a o b = _; rw [upd_ne hb]; exact e5, k5, RepL.le ls ds _ r5⟩
      | ndc ks ds => obtain ⟨kvs, ⟨ep, e5⟩, k5, ko, r5⟩ := r4; exact ⟨kvs, ⟨ep, by show upd W.H a o b = _; rw [upd_ne hb]; exact e5⟩, k5, ko.le ls, RepL.le ls ds _ r5⟩
      | _ => exact r4.elim
  · have hb : ∀ (j : Nat) (d2 : D), (env.set i (some (Ent.ow d')))[j]? = some (some (.ow d2)) → ∃ d3, env[j]? = some (some (.ow d3)) := fun j d2 z => by
      rcases set_back z with ⟨hj, z⟩ | ⟨hj, z⟩
      · subst hj; exact ⟨d, e⟩
      · exact ⟨d2, z⟩
    obtain ⟨x1, y1⟩ := hb j d2 z1
    obtain ⟨x2, y2⟩ := hb j' d3 z2
    exact h.r.un j j' x1 x2 b y1 y2
  · obtain ⟨n1, e4⟩ := h.keep b u n e3
    refine ⟨n1, ?_⟩
    show upd W.H a o b = _
    rw [upd_ne (ne_of_none e3 hn)]
    exact e4
  · rcases set_back e3 with ⟨hj, z⟩ | ⟨hj, z⟩
    · subst hj; exact h.mine i d b e e4
    · exact h.mine j d2 b z e4
/-- names given free -/
theorem Rn.unown (h : Rn K W0 W env σ S) (fz : List Nat) : ∃ W1, W1.H = W.H ∧ LeS W W1 ∧ Rn K W0 W1 (unown env fz) σ S := by
  obtain ⟨L, r1, n1, b1, l1⟩ := EnvR.lends fz h.ok h.r
  refine ⟨lendW W L, rfl, lend_le, { h with
    r := r1
    ok := lend_ok h.ok
    st := st_le h.st rfl lend_le fun _ _ => rfl
    own := fun b z => ⟨h.own b z, fun y => ?_⟩
    own2 := fun b z => h.own2 b z.1
    mine := fun i d a e e1 => h.mine i d a (b1 i d e) e1 }⟩
  obtain ⟨i, d, e1, e2⟩ := l1 b y
  have := h.mine i d b e1 e2
  obtain ⟨_, o, e3, _⟩ := h.ok0.ow b z
  rw [this] at e3
  cases e3
/-! ### the def's end -/
def endW (W0 W : Wd) : Wd := ⟨W.cs, W0.own, W.H⟩
theorem Rn.endLe (h : Rn K W0 W env σ S) : LeS W (endW W0 W) := ⟨⟨[], by simp [endW]⟩, fun b o ⟨e, n, w⟩ => ⟨o, ⟨e, n, fun z => w (h.own b z)⟩, .refl o⟩⟩
theorem Rn.endPost (h : Rn K W0 W env σ S) (p : Rep K (endW W0 W) d v) : Post K W0 S (endW W0 W) d v :=
  ⟨⟨h.cs, fun _ => Iff.rfl, h.keep⟩, ⟨h.ok.nd, h.ok.dom, fun b z => h.ok.ow b (h.own b z)⟩, st_le h.st rfl h.endLe fun _ _ => rfl, p⟩
theorem Rn.endFresh (h : Rn K W0 W env σ S) (p : Post K W S' W' d v) (f : Fresh K W W' d v) : Fresh K W0 (endW W0 W') d v := fun im => by
  rcases f im with z | ⟨a, e, na, nc, no, x⟩
  · exact .inl z
  · have h0 := h.free na
    refine .inr ⟨a, e, h0, nc, fun z => ?_, ?_⟩
    · obtain ⟨_, o, e3, _⟩ := h.ok0.ow a z
      rw [h0] at e3
      cases e3
    · have l : LeS (W'.hide a) ((endW W0 W').hide a) := ⟨⟨[], by simp [endW, Wd.hide]⟩, fun b o ⟨e, n, w⟩ => ⟨o, ⟨e, n, fun z => w (z.imp (fun z => (p.le.own b).mpr (h.own b z)) id)⟩, .refl o⟩⟩
      cases d with
      | lst ds => obtain ⟨vs, e5, r5⟩ := x; exact ⟨vs, e5, RepL.le l ds vs r5⟩
      | dct ks ds => obtain ⟨kvs, e5, k5, r5⟩ := x; exact ⟨kvs, e5, k5, RepL.le l ds _ r5⟩
      | ndc ks ds => obtain ⟨kvs, ⟨ep, e5⟩, k5, ko, r5⟩ := x; exact ⟨kvs, ⟨ep, e5⟩, k5, ko.le l, RepL.le l ds _ r5⟩
      | _ => exact x.elim
/-- one's own object is returned -/
theorem Rn.endOwn (h : Rn K W0 W env σ S) (e : env[i]? = some (some (.ow d))) : ∃ a, σ[i]? = some (some (.ref a)) ∧ Rep K (endW W0 W) d (.ref a) ∧ Fresh K W0 (endW W0 W) d (.ref a) := by
  obtain ⟨a, e1, o, x⟩ := h.r.ow i d e
  have h0 := h.mine i d a e e1
  have no : ¬ (endW W0 W).own a := fun z => by
    obtain ⟨_, o, e3, _⟩ := h.ok0.ow a z
    rw [h0] at e3
    cases e3
  have nc := (h.ok.ow a o).1
  refine ⟨a, e1, own_at h.endLe rfl nc nc no x, fun _ => .inr ⟨a, rfl, h0, nc, no, ?_⟩⟩
  have l : LeS W ((endW W0 W).hide a) := ⟨⟨[], by simp [endW, Wd.hide]⟩, fun b u ⟨e, n, w⟩ => ⟨u, ⟨e, n, fun z => by
    rcases z with z | rfl
    · exact w (h.own b z)
    · exact w o⟩, .refl u⟩⟩
  cases d with
  | lst ds => obtain ⟨vs, e5, r5⟩ := x; exact ⟨vs, e5, RepL.le l ds vs r5⟩
  | dct ks ds => obtain ⟨kvs, e5, k5, r5⟩ := x; exact ⟨kvs, e5, k5, RepL.le l ds _ r5⟩
  | ndc ks ds => obtain ⟨kvs, ⟨ep, e5⟩, k5, ko, r5⟩ := x; exact ⟨kvs, ⟨ep, e5⟩, k5, ko.le l, RepL.le l ds _ r5⟩
  | _ => exact x.elim
end
end FG

namespace FG
open PySem PySem.Spec PyProof.Rows L2
section
variable {K : KW} {W0 W W' : Wd} {env : En} {σ : L2.St} {S S' : Sto} {d : D} {v : V} {a : Addr} {i n : Nat}
/-! ### cells -/
theorem Rn.putC {ds ds' : List D} {vs : List V} (h : Rn K W0 W env σ S) (ec : W.cs[n]? = some a) (hn : n < S.length) (im : imms ds' = true) (r : RepL K W ds' vs) :
    Rn K W0 (W.put a (.lst vs)) env σ (S.set n (.lst ds')) ∧ LeS W (W.put a (.lst vs)) := by
  have ma : a ∈ W.cs := List.mem_of_getElem? ec
  have ls : LeS W (W.put a (.lst vs)) := ⟨⟨[], by simp [Wd.put]⟩, fun b u ⟨e, n, w⟩ => ⟨u, ⟨by show upd W.H a _ b = some u; rw [upd_ne (fun z : b = a => n (z ▸ ma))]; exact e, n, w⟩, .refl u⟩⟩
  refine ⟨{ h with
    r := ⟨h.r.len, fun j d2 e3 => ?_, fun j d2 e3 => ?_, h.r.un⟩
    ok := ⟨h.ok.nd, fun b z => ?_, fun b z => ⟨(h.ok.ow b z).1, ?_⟩⟩
    st := ⟨by rw [List.length_set]; exact h.st.len, fun m ob b e1 e2 => ?_⟩
    keep := fun b u n1 e3 => ?_ }, ls⟩
  · obtain ⟨v, e4, r4⟩ := h.r.sh j d2 e3
    exact ⟨v, e4, Rep.le ls d2 v r4⟩
  · obtain ⟨b, e4, o4, r4⟩ := h.r.ow j d2 e3
    have hb : b ≠ a := fun z => (h.ok.ow b o4).1 (z ▸ ma)
    refine ⟨b, e4, o4, ?_⟩
    cases d2 with
    | lst ds => obtain ⟨vs, e5, r5⟩ := r4; exact ⟨vs, by show upd W.H a _ b = _; rw [upd_ne hb]; exact e5, RepL.le ls ds vs r5⟩
    | dct ks ds => obtain ⟨kvs, e5, k5, r5⟩ := r4; exact ⟨kvs, by show upd W.H a _ b = _; rw [upd_ne hb]; exact e5, k5, RepL.le ls ds _ r5⟩
    | ndc ks ds => obtain ⟨kvs, ⟨ep, e5⟩, k5, ko, r5⟩ := r4; exact ⟨kvs, ⟨ep, by show upd W.H a _ b = _; rw [upd_ne hb]; exact e5⟩, k5, ko.le ls, RepL.le ls ds _ r5⟩
    | _ => exact r4.elim
  · show upd W.H a _ b ≠ none
    by_cases hb : b = a
    · rw [hb, upd_same]; exact Option.some_ne_none _
    · rw [upd_ne hb]; exact h.ok.dom b z
  · obtain ⟨n1, u, e1, k⟩ := h.ok.ow b z
    exact ⟨u, by show upd W.H a _ b = some u; rw [upd_ne (fun z : b = a => n1 (z ▸ ma))]; exact e1, k⟩
  · by_cases hm : n = m
    · subst hm
      rw [List.getElem?_set_self hn] at e1
      cases e1
      have : b = a := by
        have e2' : W.cs[n]? = some b := e2
        rw [ec] at e2'
        cases e2'
        rfl
      subst this
      exact ⟨im, vs, upd_same, RepL.le ls ds' vs r⟩
    · rw [List.getElem?_set_ne hm] at e1
      have z := h.st.at_ m ob b e1 e2
      have hb : b ≠ a := fun z => by
        subst z
        have l1 := (List.getElem?_eq_some_iff.mp ec)
        have l2 := (List.getElem?_eq_some_iff.mp (show W.cs[m]? = some b from e2))
        obtain ⟨h1, g1⟩ := l1
        obtain ⟨h2, g2⟩ := l2
        have nn := List.pairwise_iff_getElem.mp h.ok.nd
        rcases Nat.lt_trichotomy n m with z | z | z
        · exact nn n m h1 h2 z (g1.trans g2.symm)
        · exact hm z
        · exact nn m n h2 h1 z (g2.trans g1.symm)
      cases ob with
      | lst es =>
        obtain ⟨m1, us, e5, r5⟩ := z
        exact ⟨m1, us, by show upd W.H a _ b = _; rw [upd_ne hb]; exact e5, RepL.le ls es us r5⟩
      | ins c fs => exact z.elim
  · obtain ⟨n2, e4⟩ := h.keep b u n1 e3
    exact ⟨n2, by show upd W.H a _ b = _; rw [upd_ne (fun z : b = a => n2 (z ▸ ma))]; exact e4⟩
def Wd.cell (W : Wd) (p : Addr) (o : HO) : Wd := ⟨W.cs ++ [p], W.own, upd W.H p o⟩
theorem Rn.newC {ds : List D} {vs : List V} (h : Rn K W0 W env σ S) (hp : W.H a = none) (im : imms ds = true) (r : RepL K W ds vs) :
    Rn K W0 (W.cell a (.lst vs)) (env.set i (some (.sh (.obj S.length)))) (σ.set i (some (.ref a))) (S ++ [.lst ds]) ∧ LeS W (W.cell a (.lst vs)) := by
  have na : a ∉ W.cs := fun z => h.ok.dom a z hp
  have ls : LeS W (W.cell a (.lst vs)) := ⟨⟨[a], rfl⟩, fun b u ⟨e, n, w⟩ => by
    have hb : b ≠ a := ne_of_none e hp
    exact ⟨u, ⟨by show upd W.H a _ b = some u; rw [upd_ne hb]; exact e, by simp [Wd.cell, n, hb], w⟩, .refl u⟩⟩
  have h1 : Rn K W0 (W.cell a (.lst vs)) env σ (S ++ [.lst ds]) := { h with
    r := ⟨h.r.len, fun j d2 e3 => by
        obtain ⟨v, e4, r4⟩ := h.r.sh j d2 e3
        exact ⟨v, e4, Rep.le ls d2 v r4⟩, fun j d2 e3 => by
        obtain ⟨b, e4, o4, r4⟩ := h.r.ow j d2 e3
        have hb : b ≠ a := fun z => by
          obtain ⟨_, u, e5, _⟩ := h.ok.ow b o4
          rw [z, hp] at e5
          cases e5
        refine ⟨b, e4, o4, ?_⟩
        cases d2 with
        | lst ds => obtain ⟨vs, e5, r5⟩ := r4; exact ⟨vs, by show upd W.H a _ b = _; rw [upd_ne hb]; exact e5, RepL.le ls ds vs r5⟩
        | dct ks ds => obtain ⟨kvs, e5, k5, r5⟩ := r4; exact ⟨kvs, by show upd W.H a _ b = _; rw [upd_ne hb]; exact e5, k5, RepL.le ls ds _ r5⟩
        | ndc ks ds => obtain ⟨kvs, ⟨ep, e5⟩, k5, ko, r5⟩ := r4; exact ⟨kvs, ⟨ep, by show upd W.H a _ b = _; rw [upd_ne hb]; exact e5⟩, k5, ko.le ls, RepL.le ls ds _ r5⟩
        | _ => exact r4.elim, h.r.un⟩
    ok := ⟨by
        show (W.cs ++ [a]).Nodup
        rw [List.nodup_append]
        exact ⟨h.ok.nd, by simp, fun x hx y hy => by
          rw [List.mem_singleton] at hy
          subst hy
          exact fun z => na (z ▸ hx)⟩, fun b z => by
        show upd W.H a _ b ≠ none
        by_cases hb : b = a
        · rw [hb, upd_same]; exact Option.some_ne_none _
        · rw [upd_ne hb]
          have z' : b ∈ W.cs ++ [a] := z
          simp [hb] at z'
          exact h.ok.dom b z', fun b z => by
        obtain ⟨n1, u, e1, k⟩ := h.ok.ow b z
        have hb : b ≠ a := ne_of_none e1 hp
        exact ⟨by simp [Wd.cell, n1, hb], u, by show upd W.H a _ b = some u; rw [upd_ne hb]; exact e1, k⟩⟩
    st := ⟨by
        show (S ++ [Ob.lst ds]).length = (W.cs ++ [a]).length
        simp [h.st.len], fun m ob b e1 e2 => by
        have e2' : (W.cs ++ [a])[m]? = some b := e2
        by_cases hm : m < S.length
        · rw [List.getElem?_append_left hm] at e1
          rw [List.getElem?_append_left (by rw [← h.st.len]; exact hm)] at e2'
          have z := h.st.at_ m ob b e1 e2'
          have hb : b ≠ a := fun z => na (z ▸ List.mem_of_getElem? e2')
          cases ob with
          | lst es =>
            obtain ⟨m1, us, e5, r5⟩ := z
            exact ⟨m1, us, by show upd W.H a _ b = _; rw [upd_ne hb]; exact e5, RepL.le ls es us r5⟩
          | ins c fs => exact z.elim
        · have hml : m = S.length := by
            have := (List.getElem?_eq_some_iff.mp e1).1
            simp at this
            omega
          subst hml
          rw [List.getElem?_append_right (Nat.le_refl _)] at e1
          rw [h.st.len, List.getElem?_append_right (Nat.le_refl _)] at e2'
          simp at e1 e2'
          subst e1
          subst e2'
          exact ⟨im, vs, upd_same, RepL.le ls ds vs r⟩⟩
    cs := by
      obtain ⟨t, e⟩ := h.cs
      exact ⟨t ++ [a], by show W.cs ++ [a] = _; rw [e, List.append_assoc]⟩
    keep := fun b u n1 e3 => by
      obtain ⟨n2, e4⟩ := h.keep b u n1 e3
      have hb : b ≠ a := ne_of_none e4 hp
      exact ⟨by simp [Wd.cell, n2, hb], by show upd W.H a _ b = _; rw [upd_ne hb]; exact e4⟩ }
  refine ⟨h1.setSh ⟨a, rfl, ?_⟩, ls⟩
  show (W.cs ++ [a])[S.length]? = some a
  rw [h.st.len, List.getElem?_append_right (Nat.le_refl _)]
  simp
end
/-! ### what a statement's end must give -/
def FlOk (K : KW) (W0 : Wd) (fr : Bool) (W : Wd) (Dn : Ends) : Fl → Prop
  | .nx env S => ∀ σ' W', Rn K W0 W' env σ' S → LeS W W' → Dn.nx σ' W'.H
  | .ct env S => ∀ σ' W', Rn K W0 W' env σ' S → LeS W W' → Dn.ct σ' W'.H
  | .rt d S => ∀ v W', Post K W0 S W' d v → (fr = true → Fresh K W0 W' d v) → Dn.rt v W'.H
theorem FlOk.le {K : KW} {W0 W W' : Wd} {fr : Bool} {Dn : Ends} {fl : Fl} (h : FlOk K W0 fr W Dn fl) (l : LeS W W') : FlOk K W0 fr W' Dn fl := by
  cases fl with
  | nx env S => exact fun σ' W2 r l2 => h σ' W2 r (l.trans l2)
  | ct env S => exact fun σ' W2 r l2 => h σ' W2 r (l.trans l2)
  | rt d S => exact h
def ExOk (X : Cx) (fr : Bool) (ex : Stmt) (env : En) (S : Sto) (fl : Fl) : Prop := ∀ (W0 : Wd) (σ : L2.St) (W : Wd), Rn X.kw W0 W env σ S → ∀ Dn : Ends, FlOk X.kw W0 fr W Dn fl → SatS X ex Dn σ W.H
def ExsOk (X : Cx) (fr : Bool) (exs : List Stmt) (env : En) (S : Sto) (fl : Fl) : Prop := ∀ (W0 : Wd) (σ : L2.St) (W : Wd), Rn X.kw W0 W env σ S → ∀ Dn : Ends, FlOk X.kw W0 fr W Dn fl → SatSs X exs Dn σ W.H
section
variable {X : Cx} {fr fe : Bool} {env : En} {S S1 S2 : Sto} {d : D} {pos px : Pos} {e : Expr} {fl : Fl} {i j : Nat} {x y : Str}
theorem exs_nil : ExsOk X fr [] env S (.nx env S) := fun W0 σ W rn Dn q => satSs pss_nil (q σ W rn (.refl W))
theorem exs_cons {st : Stmt} {rest : List Stmt} {env1 : En} (h1 : ExOk X fr st env S (.nx env1 S1)) (h2 : ExsOk X fr rest env1 S1 fl) : ExsOk X fr (st :: rest) env S fl := by
  intro W0 σ W rn Dn q
  refine satSs (pss_cons ps_sat pss_sat) (h1 W0 σ W rn _ fun σ' W' rn' l => ?_)
  exact h2 W0 σ' W' rn' Dn (q.le l)
theorem exs_cut {st : Stmt} {rest : List Stmt} (h1 : ExOk X fr st env S fl) (hn : ∀ env S, fl ≠ .nx env S) : ExsOk X fr (st :: rest) env S fl := by
  intro W0 σ W rn Dn q
  refine satSs (pss_cons ps_sat (pss_never (sts := rest))) (h1 W0 σ W rn _ ?_)
  cases fl with
  | nx env S => exact absurd rfl (hn env S)
  | ct env S => exact q
  | rt d S => exact q
theorem ex_unown {ex : Stmt} {fz : List Nat} (h : ExOk X fr ex (unown env fz) S fl) : ExOk X fr ex env S fl := by
  intro W0 σ W rn Dn q
  obtain ⟨W1, e, l, rn1⟩ := rn.unown fz
  rw [← e]
  exact h W0 σ W1 rn1 Dn (q.le l)
/-- name = value -/
theorem ex_set {ow : Bool} {te : TE} (hp : PS X (.Assign [.Name x px] e pos) (tAsg te (gName i)))
    (he : ∀ σ W, EnvR X.kw W env σ → WOk W → SRep X.kw W S → ∀ Q : VK, (∀ v W', Post X.kw W S1 W' d v → (fe = true → Fresh X.kw W W' d v) → Q v W'.H) → te σ W.H Q) (hm : ow = true → isMut d = true ∧ fe = true) :
    ExOk X fr (.Assign [.Name x px] e pos) env S (.nx (env.set i (some (if ow then .ow d else .sh d))) S1) := by
  intro W0 σ W rn Dn q
  refine satS hp (he σ W rn.r rn.ok rn.st _ fun v W' p f => ?_)
  obtain ⟨W2, e2, l2, r2⟩ := rn.put (i := i) (ow := ow) p fun z => ⟨(hm z).1, f (hm z).2⟩
  show Dn.nx (σ.set i (some v)) W'.H
  rw [← e2]
  exact q _ W2 r2 l2.leS
/-- (names) = value -/
theorem ex_unp {is : List Nat} {tg : Expr} {env1 : En} (he : Ev X env e S d S1 fe) (hg : PG X tg (gOf X.kw (.tp is))) (hs : swapsWithSole [tg] e pos.line X.env = pure false) (hw : swappedStores [tg] e X.env = pure none) (h1 : (assignEach [tg] X.env).map (·.2) = [assign tg X.env])
    (hb : bindT (.tp is) d env = some env1) : ExOk X fr (.Assign [tg] e pos) env S (.nx env1 S1) := by
  intro W0 σ W rn Dn q
  refine satS (ps_asg pe_sat hg hs hw h1) (he σ W rn.r rn.ok rn.st _ fun v W' p f => ?_)
  have rn1 := rn.le p.le p.ok p.st
  -- the names one after another
  have go : ∀ (is : List Nat) (ds : List D) (vs : List V) (env : En) (σ : L2.St), is.length = ds.length → RepL X.kw W' ds vs → Rn X.kw W0 W' env σ S1 →
      (∀ σ2, Rn X.kw W0 W' ((is.zip ds).foldl (fun e p => e.set p.1 (some (.sh p.2))) env) σ2 S1 → Dn.nx σ2 W'.H) → gNames is vs σ W'.H Dn.nx := by
    intro is
    induction is with
    | nil =>
      intro ds vs env σ hl r rr q
      cases ds with
      | nil => exact ⟨r, q σ rr⟩
      | cons _ _ => simp at hl
    | cons i is ih =>
      intro ds vs env σ hl r rr q
      cases ds with
      | nil => simp at hl
      | cons d ds =>
        obtain ⟨v, vs', rfl, rv, rs⟩ := r
        exact ⟨v, vs', rfl, ih ds vs' _ _ (by simpa using hl) rs (rr.setSh (i := i) rv) q⟩
  cases d with
  | tup ds =>
    simp only [bindT] at hb
    split at hb
    · rename_i hl
      cases hb
      obtain ⟨a, vs, rfl, hat, rs⟩ := p.rep
      exact ⟨a, vs, rfl, SqT.of hat.1, by rw [← rs.length]; exact hl.symm, go is ds vs env σ hl rs rn1 fun σ2 r2 => q σ2 W' r2 p.le.leS⟩
    · cases hb
  | _ => cases hb
theorem ex_exp {te : TE} (hp : PE X e te) (hs : swapsWith e none pos.line X.env = pure false) (he : ∀ W0 σ W, Rn X.kw W0 W env σ S → ∀ Dn : Ends, FlOk X.kw W0 fr W Dn fl → te σ W.H fun _ H1 => Dn.nx σ H1) : ExOk X fr (.Expr e pos) env S fl := by
  intro W0 σ W rn Dn q
  exact satS (ps_expr hp hs) (he W0 σ W rn Dn q)
theorem ex_drop (h : Ev X env e S d S1 fe) (hs : swapsWith e none pos.line X.env = pure false) : ExOk X fr (.Expr e pos) env S (.nx env S1) :=
  ex_exp pe_sat hs fun W0 σ W rn Dn q => h σ W rn.r rn.ok rn.st _ fun v W' p _ => q σ W' (rn.le p.le p.ok p.st) p.le.leS
theorem ex_ret (h : Ev X env e S d S1 fe) (hf : fr = true → fe = true) : ExOk X fr (.Return (some e) pos) env S (.rt d S1) := by
  intro W0 σ W rn Dn q
  refine satS (ps_ret pe_sat) (h σ W rn.r rn.ok rn.st _ fun v W' p f => ?_)
  have rn' := rn.le p.le p.ok p.st
  exact q v (endW W0 W') (rn'.endPost (Rep.le rn'.endLe d v p.rep)) fun z => rn.endFresh p (f (hf z))
theorem ex_retO (e1 : getO env i = some d) (hN : X.N[i]? = some x) (hv : Vis X.env.scope x) (hd : (x == ("__debug__" : Str)) = false) (hcd : (x == ("__classdict__" : Str)) = false) : ExOk X fr (.Return (some (.Name x px)) pos) env S (.rt d S) := by
  intro W0 σ W rn Dn q
  have e' : env[i]? = some (some (.ow d)) := by
    unfold getO at e1
    split at e1
    · rename_i q; cases e1; exact q
    · cases e1
  obtain ⟨a, e2, r2, f2⟩ := rn.endOwn e'
  exact satS (ps_ret (pe_var hN hv hd hcd)) ⟨.ref a, e2, q _ (endW W0 W) (rn.endPost r2) fun _ => f2⟩
theorem ex_cont : ExOk X fr (.Continue pos) env S (.ct env S) := fun W0 σ W rn Dn q => satS ps_continue (q σ W rn (.refl W))
theorem ex_if {c : Expr} {p q : List Stmt} {b : Bool} (hc : EvB X env c S b S1) (h : ExsOk X fr (if b then p else q) env S1 fl) : ExOk X fr (.If c p q pos) env S fl := by
  intro W0 σ W rn Dn qq
  refine satS (ps_if pt_sat pss_sat pss_sat) (hc σ W rn.r rn.ok rn.st _ fun W' l ok st => ?_)
  have := h W0 σ W' (rn.le l ok st) Dn (qq.le l.leS)
  cases b with
  | true => rw [if_pos rfl]; exact this
  | false => rw [if_neg Bool.false_ne_true]; exact this
end
end FG

namespace FG
open PySem PySem.Spec PyProof.Rows L2
def noComp : Expr → Bool
  | .ListComp _ _ _ _ => false
  | .SetComp _ _ _ _ => false
  | .DictComp _ _ _ _ _ => false
  | _ => true
theorem sw_no {v : Expr} {t : Option Expr} {l : Nat} {env : Env} (h : noComp v = true) : swapsWith v t l env = pure false := by
  cases v <;> first | rfl | cases h
theorem sw_sub {v o i : Expr} {p : Pos} {l : Nat} {env : Env} : swapsWith v (some (.Subscript o i p)) l env = pure false := by
  cases v <;> rfl
theorem sws_sub {v o i : Expr} {p : Pos} {l : Nat} {env : Env} : swapsWithSole [.Subscript o i p] v l env = pure false := by cases v <;> rfl
theorem sw_tup {v : Expr} {es : List Expr} {k : Nat} {p : Pos} {l : Nat} {env : Env} : swapsWith v (some (.Tuple es k p)) l env = pure false := by
  cases v <;> rfl
def noTupE : Expr → Bool
  | .Tuple _ _ _ => false
  | _ => true
theorem ss_no {v : Expr} {es : List Expr} {k : Nat} {p : Pos} {env : Env} (h : noTupE v = true) : swappedStores [.Tuple es k p] v env = pure none := by
  cases v <;> first | rfl | cases h
/-- which names a, b = x, y stores from the right -/
def ssF (sc : Scope) (ts vs : List Expr) : Option (Option (List Str)) :=
  if !(ts.length == 2 || ts.length == 3) || vs.length != ts.length || ScopeKind.function != ScopeKind.function then some none else
  if vs.any fun | .Starred .. => true | _ => false then some none else
  let line := (ts.head?.map (·.pos.line)).getD 0
  let names := ts.filterMap fun
    | .Name id pos => if sc.names.lookup id == some .local && pos.line == line then some id else none
    | _ => none
  if names.length != ts.length || names.eraseDups.length != names.length then some none else
  if vs.all (foldedForSure 8) then some none else
  if vs.all (constantsAlone 8) then none else some (some names)
theorem ss_of {ts vs : List Expr} {kt k2 : Nat} {pt pt2 : Pos} {env : Env} {r : Option (List Str)} (hk : env.scope.kind = .function) (h : ssF env.scope ts vs = some r) : swappedStores [.Tuple ts kt pt] (.Tuple vs k2 pt2) env = pure r := by
  have hb : env.blockKind = .function := by unfold Env.blockKind; rw [hk]; rfl
  unfold swappedStores
  simp only [hb]
  unfold ssF at h
  split at h
  · rename_i h1
    cases h
    exact if_pos h1
  · rename_i h1
    refine (if_neg h1).trans ?_
    split at h
    · rename_i h2
      cases h
      exact if_pos h2
    · rename_i h2
      refine (if_neg h2).trans ?_
      simp only at h
      split at h
      · rename_i h3
        cases h
        exact if_pos h3
      · rename_i h3
        refine (if_neg h3).trans ?_
        split at h
        · rename_i h4
          cases h
          exact if_pos h4
        · rename_i h4
          refine (if_neg h4).trans ?_
          split at h
          · cases h
          · rename_i h5
            cases h
            exact if_neg h5
theorem asg_sub {o i : Expr} {p : Pos} {env : Env} (h : noSlice i = true) (v : Value) : assign (.Subscript o i p) env v = (do
      let ov ← holding [v] (eval o env)
      let iv ← holding [v, ov] (eval i env)
      standAt p
      holding [v, ov, iv] (setItem ov iv v)
      release [v, ov, iv] []) := by
  rw [assign_Subscript]
  cases i <;> first | rfl | (cases h; done)
section
variable {K : KW} {W0 W W' : Wd} {env : En} {σ : L2.St} {S S' : Sto} {d : D} {v : V} {a : Addr} {i n : Nat}
theorem Rn.binds {Q : L2.St → Hp → Prop} : ∀ {is : List Nat} {ds : List D} {vs : List V} {env : En} {σ : L2.St}, is.length = ds.length → RepL K W ds vs → Rn K W0 W env σ S →
    (∀ σ2, Rn K W0 W ((is.zip ds).foldl (fun e p => e.set p.1 (some (.sh p.2))) env) σ2 S → Q σ2 W.H) → gNames is vs σ W.H Q
  | [], [], vs, env, σ, hl, r, rr, q => ⟨r, q σ rr⟩
  | i :: is, d :: ds, vs, env, σ, hl, r, rr, q => by
    obtain ⟨v, vs', rfl, rv, rs⟩ := r
    exact ⟨v, vs', rfl, Rn.binds (by simpa using hl) rs (rr.setSh (i := i) rv) q⟩
  | [], _ :: _, _, _, _, hl, _, _, _ => by simp at hl
  | _ :: _, [], _, _, _, hl, _, _, _ => by simp at hl
theorem Rn.bind {tg : Tg} {env1 : En} {x : V} {Q : L2.St → Hp → Prop} (rx : Rep K W d x) (rr : Rn K W0 W env σ S) (e : bindT tg d env = some env1) (q : ∀ σ2, Rn K W0 W env1 σ2 S → Q σ2 W.H) : gOf K tg x σ W.H Q := by
  cases tg with
  | nm i =>
    cases e
    exact q _ (rr.setSh rx)
  | tp is =>
    cases d with
    | tup ds =>
      simp only [bindT] at e
      split at e
      · rename_i hl
        cases e
        obtain ⟨a, vs, rfl, hat, rs⟩ := rx
        exact ⟨a, vs, rfl, SqT.of hat.1, by rw [← rs.length]; exact hl.symm, Rn.binds hl rs rr q⟩
      · cases e
    | _ => cases e
end
/-! ### xs[i], by values -/
def rGetL : V → V → Hp → VK → Prop := fun o i H Q => ∃ p xs k x, o = .ref p ∧ i = .int k ∧ 0 ≤ k ∧ H p = some (.lst xs) ∧ xs[k.toNat]? = some x ∧ Q x H
theorem get_list {X : Cx} : PGet X rGetL := by
  intro pins s σ H o i ov iv Q I ro ri h
  obtain ⟨p, xs, k, x, rfl, rfl, h0, hp, hx, q⟩ := h
  cases ro
  obtain ⟨t, rfl⟩ := ri
  obtain ⟨its, n, r, ho, hz⟩ := I.lst hp
  obtain ⟨u, hu, ru⟩ := r.get hx
  have hl := r.length
  have hlt := (List.getElem?_eq_some_iff.mp hu).1
  have hn := line63
  exact wpAny_getItem_list (items := its.toArray) ⟨_, ho, rfl, n, rfl⟩ h0 (by omega) (by simpa using hu) ⟨x, H, I, ru, q⟩
section
variable {X : Cx} {fr fe : Bool} {env : En} {S S1 S2 : Sto} {d d1 d2 : D} {pos px tp : Pos} {e ke ve : Expr} {fl : Fl} {i j n : Nat} {x y : Str}
theorem ixN_lt {n : Nat} {i : Int} (h0 : 0 ≤ i) (h : i < n) : ixN n i = some i.toNat := by
  unfold ixN
  rw [if_pos h0, if_pos h]
theorem own_put {K : KW} {W : Wd} {a : Addr} {ds : List D} {vs : List V} (r : RepL K (W.put a (.lst vs)) ds vs) : OwnRep K (W.put a (.lst vs)) a (.lst ds) := ⟨vs, upd_same, r⟩
theorem big_line {n : Nat} (h : n < big) : n < sizeLine := by rw [← big_eq]; exact h
/-- d[k] = v, one's own dict -/
theorem ex_dput {d' : D} {ks : List NK} {ds : List D} (hu : X.A.units + 1 < cLine) (hN : X.N[i]? = some x) (hv : Vis X.env.scope x) (hd : (x == ("__debug__" : Str)) = false) (hcd : (x == ("__classdict__" : Str)) = false) (e0 : env[i]? = some (some (.ow (.dct ks ds))))
    (h1 : Ev X env ve S d1 S1 fe) (h2 : Ev X env ke S1 d2 S2 false) (e : setF (.dct ks ds) d2 d1 = some d') : ExOk X fr (.Assign [.Subscript (.Name x px) ke tp] ve pos) env S (.nx (env.set i (some (.ow d'))) S2) := by
  intro W0 σ W rn Dn q
  refine satS (ps_dput hu (pe_var hN hv hd hcd) pe_sat pe_sat sw_sub) (h1 σ W rn.r rn.ok rn.st _ fun v W1 p1 f1 => ?_)
  have rn1 := rn.le p1.le p1.ok p1.st
  obtain ⟨a, e1, ho, _⟩ := rn1.r.ow i _ e0
  refine ⟨.ref a, e1, h2 σ W1 rn1.r rn1.ok rn1.st _ fun u W2 p2 f2 => ?_⟩
  have rn2 := rn1.le p2.le p2.ok p2.st
  obtain ⟨a', e1', ho2, kvs, eH, ek, rs⟩ := rn2.r.ow i _ e0
  rw [e1] at e1'
  cases e1'
  cases d2 with
  | str k =>
    simp only [setF] at e
    split at e
    · rename_i hl
      cases e
      obtain rfl : u = .str k := p2.rep
      subst ek
      have hlen : kvs.length < sizeLine := big_line (by simpa using hl)
      refine ⟨a, upd W2.H a (.dK (putK kvs (.inr k) v)), rfl, DPut.k (k := .inr k) eH hlen, ?_⟩
      have ls : LeS W2 (W2.put a (.dK (putK kvs (.inr k) v))) := put_leS ho2
      obtain ⟨q1, q2⟩ := put_rep (K := X.kw) (W := W2.put a (.dK (putK kvs (.inr k) v))) (k := .inr k) (Rep.le (p2.le.leS.trans ls) d1 v p1.rep) (RepL.le ls ds _ rs)
      obtain ⟨r3, l3⟩ := rn2.putOw (o := .dK (putK kvs (.inr k) v)) (d' := .dct (dPut (kvs.map fun p => kNK p.1) ds (.text k) d1).1 (dPut (kvs.map fun p => kNK p.1) ds (.text k) d1).2) e0 e1 rfl ⟨_, upd_same, q1, q2⟩
      exact q σ _ r3 ((p1.le.leS.trans p2.le.leS).trans l3)
    · cases e
  | _ => cases e
/-- d[k] = v, k a tuple -/
def sNPut (w : World) (td ty tv : TE) : TS := fun Dn σ H => tv σ H fun v H1 => td σ H1 fun x H2 => ty σ H2 fun y H3 => ∃ W a xs ep k b, H3 = W.H ∧ x = .ref a ∧ W.H a = some (DN w a xs ep) ∧ KeysOk W xs ∧ y = .ref b ∧ KRep W k (.ref b) ∧ k.depth ≤ 8 ∧ xs.length < sizeLine ∧ ∀ ep', Dn.nx σ (upd H3 a (DN w a (nput xs k b v) ep'))
theorem ps_nput {o ix value : Expr} {td ty tv : TE} {pos' : Pos} (hu : X.A.units + 10 < cLine) (ho : PE X o td) (hi : PE X ix ty) (hv : PE X value tv) (hs : swapsWith value (some (.Subscript o ix pos')) pos.line X.env = pure false) : PS X (.Assign [.Subscript o ix pos'] value pos) (sNPut X.w td ty tv) := by
  refine ⟨fun pins s σ H Dn I h => wpAny_Assign_Subscript (thn (hv.run pins s σ H _ I h) fun r s1 ⟨v, H1, I1, rv, q1⟩ => thn (ho.run pins s1 σ H1 _ I1 q1) fun u s2 ⟨x, H2, I2, rx, q2⟩ => thn (hi.run pins s2 σ H2 _ I2 q2) fun iv s3 ⟨y, H3, I3, ry, q3⟩ => ?_) hs⟩
  obtain ⟨W, a, xs, ep, k, b, rfl, rfl, e, ko, rfl, kr, hd, hl, q3⟩ := q3
  obtain rfl : u = Value.ref a := rx
  obtain rfl : iv = Value.ref b := ry
  exact n_set hu I3 e ko kr hd hl rv fun ep' s4 I4 => ⟨σ, _, I4, q3 ep'⟩
theorem ex_nput {d' : D} {ks : List NK} {ds : List D} (hu : X.A.units + 10 < cLine) (hN : X.N[i]? = some x) (hv : Vis X.env.scope x) (hd : (x == ("__debug__" : Str)) = false) (hcd : (x == ("__classdict__" : Str)) = false) (e0 : env[i]? = some (some (.ow (.ndc ks ds))))
    (h1 : Ev X env ve S d1 S1 fe) (h2 : Ev X env ke S1 d2 S2 false) (e : setF (.ndc ks ds) d2 d1 = some d') : ExOk X fr (.Assign [.Subscript (.Name x px) ke tp] ve pos) env S (.nx (env.set i (some (.ow d'))) S2) := by
  intro W0 σ W rn Dn q
  refine satS (ps_nput hu (pe_var hN hv hd hcd) pe_sat pe_sat sw_sub) (h1 σ W rn.r rn.ok rn.st _ fun v W1 p1 f1 => ?_)
  have rn1 := rn.le p1.le p1.ok p1.st
  obtain ⟨a, e1, ho, _⟩ := rn1.r.ow i _ e0
  refine ⟨.ref a, e1, h2 σ W1 rn1.r rn1.ok rn1.st _ fun u W2 p2 f2 => ?_⟩
  have rn2 := rn1.le p2.le p2.ok p2.st
  obtain ⟨a', e1', ho2, xs, ⟨ep, eH⟩, ek, ko, rs⟩ := rn2.r.ow i _ e0
  rw [e1] at e1'
  cases e1'
  simp only [setF, Option.bind_eq_some_iff] at e
  obtain ⟨k, hk, e⟩ := e
  split at e
  · rename_i hl
    cases e
    subst ek
    obtain ⟨kr, hdp, b, rfl⟩ := keyT_rep hk p2.rep
    refine ⟨W2, a, xs, ep, k, b, rfl, rfl, eH, ko, rfl, kr, hdp, big_line (by simpa using hl), fun ep' => ?_⟩
    have ls : LeS W2 (W2.put a (DN X.w a (nput xs k b v) ep')) := put_leS ho2
    have kr' := KRep.tups (W' := W2.put a (DN X.w a (nput xs k b v) ep')) (fun a vs z => z.le ls noDk_tup) _ _ kr
    obtain ⟨q1, q2⟩ := nput_rep (K := X.kw) (W := W2.put a (DN X.w a (nput xs k b v) ep')) (k := k) (b := b) (Rep.le (p2.le.leS.trans ls) d1 v p1.rep) (RepL.le ls ds _ rs)
    obtain ⟨r3, l3⟩ := rn2.putOw (o := DN X.w a (nput xs k b v) ep') (d' := .ndc (dPut (xs.map (·.1)) ds k d1).1 (dPut (xs.map (·.1)) ds k d1).2) e0 e1 rfl ⟨_, ⟨ep', upd_same⟩, q1, nput_keys (ko.le ls) kr' hdp, q2⟩
    exact q σ _ r3 ((p1.le.leS.trans p2.le.leS).trans l3)
  · cases e
/-- xs[i] = v, one's own list -/
theorem ex_lput {d' : D} {ds : List D} (hN : X.N[i]? = some x) (hv : Vis X.env.scope x) (hd : (x == ("__debug__" : Str)) = false) (hcd : (x == ("__classdict__" : Str)) = false) (hs : noSlice ke = true) (e0 : env[i]? = some (some (.ow (.lst ds))))
    (h1 : Ev X env ve S d1 S1 fe) (h2 : Ev X env ke S1 d2 S2 false) (e : setF (.lst ds) d2 d1 = some d') : ExOk X fr (.Assign [.Subscript (.Name x px) ke tp] ve pos) env S (.nx (env.set i (some (.ow d'))) S2) := by
  intro W0 σ W rn Dn q
  refine satS (ps_asg pe_sat (pg_sub (pe_var hN hv hd hcd) pe_sat set_list (asg_sub hs)) sws_sub) (h1 σ W rn.r rn.ok rn.st _ fun v W1 p1 f1 => ?_)
  have rn1 := rn.le p1.le p1.ok p1.st
  obtain ⟨a, e1, ho, _⟩ := rn1.r.ow i _ e0
  refine ⟨.ref a, e1, h2 σ W1 rn1.r rn1.ok rn1.st _ fun u W2 p2 f2 => ?_⟩
  have rn2 := rn1.le p2.le p2.ok p2.st
  obtain ⟨a', e1', ho2, vs, eH, rs⟩ := rn2.r.ow i _ e0
  rw [e1] at e1'
  cases e1'
  cases d2 with
  | int k =>
    simp only [setF, Option.map_eq_some_iff] at e
    obtain ⟨m, hm, rfl⟩ := e
    obtain rfl : u = .int k := p2.rep
    refine ⟨a, vs, k, m, rfl, rfl, eH, by rw [← rs.length]; exact hm, ?_⟩
    have ls : LeS W2 (W2.put a (.lst (vs.set m v))) := put_leS ho2
    obtain ⟨r3, l3⟩ := rn2.putOw (o := .lst (vs.set m v)) (d' := .lst (ds.set m d1)) e0 e1 rfl ⟨_, upd_same, RepL.set m (RepL.le ls ds vs rs) (Rep.le (p2.le.leS.trans ls) d1 v p1.rep)⟩
    exact q σ _ r3 ((p1.le.leS.trans p2.le.leS).trans l3)
  | _ => cases e
theorem imms_set : ∀ {ds : List D} {n : Nat} {d : D}, imms ds = true → imm d = true → imms (ds.set n d) = true
  | [], n, d, h, _ => h
  | d' :: ds, 0, d, h, hd => by
    simp only [imms, Bool.and_eq_true] at h
    simp only [List.set_cons_zero, imms, Bool.and_eq_true]
    exact ⟨hd, h.2⟩
  | d' :: ds, n + 1, d, h, hd => by
    simp only [imms, Bool.and_eq_true] at h
    simp only [List.set_cons_succ, imms, Bool.and_eq_true]
    exact ⟨h.1, imms_set h.2 hd⟩
/-- a cell at a name -/
theorem cell_at {K : KW} {W0 W : Wd} {env : En} {σ : L2.St} {S : Sto} {ds : List D} (rn : Rn K W0 W env σ S) (e0 : env[i]? = some (some (.sh (.obj n)))) (eS : S[n]? = some (.lst ds)) :
    ∃ a vs, σ[i]? = some (some (.ref a)) ∧ W.cs[n]? = some a ∧ imms ds = true ∧ W.H a = some (.lst vs) ∧ RepL K W ds vs := by
  obtain ⟨v, e1, a, rfl, ec⟩ := rn.r.sh i _ e0
  obtain ⟨im, vs, eH, rs⟩ := rn.st.at_ n _ a eS ec
  exact ⟨a, vs, e1, ec, im, eH, rs⟩
theorem ex_cput {ds ds' : List D} (hN : X.N[i]? = some x) (hv : Vis X.env.scope x) (hd : (x == ("__debug__" : Str)) = false) (hcd : (x == ("__classdict__" : Str)) = false) (hs : noSlice ke = true) (e0 : env[i]? = some (some (.sh (.obj n))))
    (h1 : Ev X env ve S d1 S1 fe) (h2 : Ev X env ke S1 d2 S2 false) (eS : S2[n]? = some (.lst ds)) (im1 : imm d1 = true) (e : setF (.lst ds) d2 d1 = some (.lst ds')) : ExOk X fr (.Assign [.Subscript (.Name x px) ke tp] ve pos) env S (.nx env (S2.set n (.lst ds'))) := by
  intro W0 σ W rn Dn q
  refine satS (ps_asg pe_sat (pg_sub (pe_var hN hv hd hcd) pe_sat set_list (asg_sub hs)) sws_sub) (h1 σ W rn.r rn.ok rn.st _ fun v W1 p1 f1 => ?_)
  have rn1 := rn.le p1.le p1.ok p1.st
  obtain ⟨u0, e1, a, rfl, _⟩ := rn1.r.sh i _ e0
  refine ⟨.ref a, e1, h2 σ W1 rn1.r rn1.ok rn1.st _ fun u W2 p2 f2 => ?_⟩
  have rn2 := rn1.le p2.le p2.ok p2.st
  obtain ⟨a', vs, e1', ec, im, eH, rs⟩ := cell_at rn2 e0 eS
  rw [e1] at e1'
  cases e1'
  cases d2 with
  | int k =>
    simp only [setF, Option.map_eq_some_iff, D.lst.injEq] at e
    obtain ⟨m, hm, rfl⟩ := e
    obtain rfl : u = .int k := p2.rep
    refine ⟨a, vs, k, m, rfl, rfl, eH, by rw [← rs.length]; exact hm, ?_⟩
    obtain ⟨r3, l3⟩ := rn2.putC (ds := ds) (ds' := ds.set m d1) (vs := vs.set m v) ec (List.getElem?_eq_some_iff.mp eS).1 (imms_set im im1) (RepL.set m rs (Rep.le p2.le.leS d1 v p1.rep))
    exact q σ _ r3 ((p1.le.leS.trans p2.le.leS).trans l3)
  | _ => cases e
/-- c[k] += e at a cell of ints -/
theorem ex_caug {ds ds2 : List D} {ix p qq : Int} (hN : X.N[i]? = some x) (hv : Vis X.env.scope x) (hd : (x == ("__debug__" : Str)) = false) (hcd : (x == ("__classdict__" : Str)) = false) (hs : noSlice ke = true) (e0 : env[i]? = some (some (.sh (.obj n))))
    (h1 : Ev X env ke S (.int ix) S1 false) (eS : S1[n]? = some (.lst ds)) (h0 : 0 ≤ ix) (ei : ds[ix.toNat]? = some (.int p)) (h2 : Ev X env ve S1 (.int qq) S2 fe) (eS2 : S2[n]? = some (.lst ds2)) (hlt : ix < ds2.length) :
    ExOk X fr (.AugAssign (.Subscript (.Name x px) ke tp) .Add ve pos) env S (.nx env (S2.set n (.lst (ds2.set ix.toNat (.int (p + qq)))))) := by
  intro W0 σ W rn Dn q
  have ha : ∀ ov iv new, augStore ke ov iv new = (do holding [new, ov, iv] (setItem ov iv new); release [new, ov, iv] []; pure .next) := fun ov iv new => by
    cases ke <;> first | rfl | cases hs
  refine satS (ps_augS (pe_var hN hv hd hcd) pe_sat get_list pe_sat ip_add set_list ha) ?_
  obtain ⟨u0, e1, a, rfl, _⟩ := rn.r.sh i _ e0
  refine ⟨.ref a, e1, h1 σ W rn.r rn.ok rn.st _ fun u W1 p1 f1 => ?_⟩
  have rn1 := rn.le p1.le p1.ok p1.st
  obtain ⟨a', vs, e1', ec, im, eH, rs⟩ := cell_at rn1 e0 eS
  rw [e1] at e1'
  cases e1'
  obtain rfl : u = .int ix := p1.rep
  obtain ⟨w, hw, rw'⟩ := rs.get ei
  obtain rfl : w = .int p := rw'
  refine ⟨a, vs, ix, .int p, rfl, rfl, h0, eH, hw, h2 σ W1 rn1.r rn1.ok rn1.st _ fun z W2 p2 f2 => ?_⟩
  have rn2 := rn1.le p2.le p2.ok p2.st
  obtain ⟨a', vs2, e1', ec2, im2, eH2, rs2⟩ := cell_at rn2 e0 eS2
  rw [e1] at e1'
  cases e1'
  obtain rfl : z = .int qq := p2.rep
  refine ⟨p, qq, rfl, rfl, a, vs2, ix, ix.toNat, rfl, rfl, eH2, by rw [← rs2.length]; exact ixN_lt h0 hlt, ?_⟩
  obtain ⟨r3, l3⟩ := rn2.putC (ds := ds2) (ds' := ds2.set ix.toNat (.int (p + qq))) (vs := vs2.set ix.toNat (.int (p + qq))) ec2 (List.getElem?_eq_some_iff.mp eS2).1 (imms_set im2 rfl) (RepL.set _ rs2 rfl)
  exact q σ _ r3 ((p1.le.leS.trans p2.le.leS).trans l3)
end
end FG

namespace FG
open PySem PySem.Spec PyProof.Rows L2
section
variable {X : Cx} {fr fe : Bool} {env : En} {S S1 S2 : Sto} {d d1 d2 : D} {pos px tp apos cpos : Pos} {e ke ve : Expr} {fl : Fl} {i j n : Nat} {x y : Str}
theorem pe_bm1 {o : Expr} {to : TE} {name : Str} {T id : String} {r : V → List V → Hp → VK → Prop} (pa : PlainAttrs T) (slot : Slot T name id) (hty : typeOf (.builtin id) = pure (.type "method_descriptor")) (hm : MtR X id r) (ho : PE X o to) (hb : okBase o = true) (ne : noStar e = true) (hl : (apos.endLine == cpos.line) = true) :
    PE X (.Call (.Attribute o name apos) [e] [] cpos) (tBM X.kw T r to (SatA X [e])) := by
  have hs := star_of (es := []) (env := X.env) ne
  exact pe_bm pa slot hty hm ho pa_sat (base_of hb) (by rw [hs]; rfl) hl hs rfl
/-- xs.append(e) -/
theorem ex_app {ds : List D} (hN : X.N[i]? = some x) (hv : Vis X.env.scope x) (hd : (x == ("__debug__" : Str)) = false) (hcd : (x == ("__classdict__" : Str)) = false) (ne : noStar e = true) (hl : (apos.endLine == cpos.line) = true) (e0 : env[i]? = some (some (.ow (.lst ds))))
    (h1 : Ev X env e S d S1 fe) (hz : ds.length < big) : ExOk X fr (.Expr (.Call (.Attribute (.Name x px) "append" apos) [e] [] cpos) pos) env S (.nx (env.set i (some (.ow (.lst (ds ++ [d]))))) S1) := by
  refine ex_exp (pe_bm1 PySem.F.plainAttrs_list PySem.F.slot_list_append PySem.F.type_list_append mt_append (pe_var hN hv hd hcd) rfl ne hl) (sw_no rfl) fun W0 σ W rn Dn q => ?_
  obtain ⟨a, e1, ho, vs0, eH0, _⟩ := rn.r.ow i _ e0
  refine ⟨.ref a, e1, .inl ⟨rfl, vs0, SqL.of eH0⟩, satA (pa_cons pe_sat pa_nil (star_of ne)) (h1 σ W rn.r rn.ok rn.st _ fun v W1 p1 f1 => ?_)⟩
  have rn1 := rn.le p1.le p1.ok p1.st
  obtain ⟨a', e1', ho2, vs, eH, rs⟩ := rn1.r.ow i _ e0
  rw [e1] at e1'
  cases e1'
  refine ⟨a, vs, v, rfl, rfl, eH, by rw [← rs.length]; exact big_line hz, ?_⟩
  have ls : LeS W1 (W1.put a (.lst (vs ++ [v]))) := put_leS ho2
  obtain ⟨r3, l3⟩ := rn1.putOw (o := .lst (vs ++ [v])) (d' := .lst (ds ++ [d])) e0 e1 rfl ⟨_, upd_same, (RepL.le ls ds vs rs).append (.one (Rep.le ls d v p1.rep))⟩
  exact q σ _ r3 (p1.le.leS.trans l3)
/-- xs.extend(ys) -/
theorem ex_ext {ds es : List D} (hN : X.N[i]? = some x) (hv : Vis X.env.scope x) (hd : (x == ("__debug__" : Str)) = false) (hcd : (x == ("__classdict__" : Str)) = false) (ne : noStar e = true) (hl : (apos.endLine == cpos.line) = true) (e0 : env[i]? = some (some (.ow (.lst ds))))
    (h1 : EvC X env e S (.lst es) S1) (hz : ds.length + es.length ≤ big) : ExOk X fr (.Expr (.Call (.Attribute (.Name x px) "extend" apos) [e] [] cpos) pos) env S (.nx (env.set i (some (.ow (.lst (ds ++ es))))) S1) := by
  refine ex_exp (pe_bm1 PySem.F.plainAttrs_list PySem.F.slot_list_extend PySem.F.type_list_extend mt_extend (pe_var hN hv hd hcd) rfl ne hl) (sw_no rfl) fun W0 σ W rn Dn q => ?_
  obtain ⟨a, e1, ho, vs0, eH0, _⟩ := rn.r.ow i _ e0
  refine ⟨.ref a, e1, .inl ⟨rfl, vs0, SqL.of eH0⟩, satA (pa_cons pe_sat pa_nil (star_of ne)) (h1 σ W rn.r rn.ok rn.st _ fun v W1 l1 ok1 st1 t1 => ?_)⟩
  have rn1 := rn.le l1 ok1 st1
  obtain ⟨a', e1', ho2, vs, eH, rs⟩ := rn1.r.ow i _ e0
  rw [e1] at e1'
  cases e1'
  obtain ⟨b, us, rfl, hat, ru⟩ := top_lst t1
  refine ⟨a, b, vs, us, rfl, rfl, eH, hat, by rw [← rs.length, ← ru.length, ← big_eq]; exact hz, ?_⟩
  have ls : LeS W1 (W1.put a (.lst (vs ++ us))) := put_leS ho2
  obtain ⟨r3, l3⟩ := rn1.putOw (o := .lst (vs ++ us)) (d' := .lst (ds ++ es)) e0 e1 rfl ⟨_, upd_same, (RepL.le ls ds vs rs).append (RepL.le ls es us ru)⟩
  exact q σ _ r3 (l1.leS.trans l3)
/-- a cell: name = [..] -/
theorem ex_newC {es : List Expr} {ds : List D} (hN : X.N.Nodup) (hi : X.N[i]? = some x) (hx : Loc X.env.scope x) (hf : X.fn x = true ∨ X.env.scope.names.lookup x = some .local) (h : EvL X env es S ds S1) (n : ds.length ≤ sizeLine) (im : imms ds = true) :
    ExOk X fr (.Assign [.Name x px] (.List es tp) pos) env S (.nx (env.set i (some (.sh (.obj S1.length)))) (S1 ++ [.lst ds])) := by
  intro W0 σ W rn Dn q
  refine satS (ps_set hN hi hx (pe_lst pa_sat) (sw_no rfl) hf) (h σ W rn.r rn.ok rn.st _ fun vs W1 l ok1 st1 rs => ⟨by rw [← rs.length]; exact n, fun p hp => ?_⟩)
  obtain ⟨r3, l3⟩ := (rn.le l ok1 st1).newC (i := i) hp im rs
  exact q _ _ r3 (l.leS.trans l3)
/-- for -/
theorem ex_for {tg : Tg} {t it : Expr} {body : List Stmt} {items : List D} {bodyf : En → Sto → Option Fl} (hp : PassesOwn (model X.prog X.w) X.A X.env X.xe) (hc : X.calm = true) (hi : EvI X LeS env t it S items S1) (hg : PG X t (gOf X.kw tg)) (hs : ∀ x, foldedSetIterable it X.env x = pure x)
    (hb : ∀ env S fl, bodyf env S = some fl → ExsOk X fr body env S fl) (hgo : forGo (bindT tg) bodyf items env S1 = some fl) : ExOk X fr (.For t it body [] pos) env S fl := by
  intro W0 σ W rn Dn q
  refine satS (ps_for hp hc pi_sat hg pss_sat hs) (hi σ W rn.r rn.ok rn.st _ fun J W1 l1 ok1 st1 itk => ?_)
  have q1 := q.le l1.leS
  let Iv : Nat → L2.St → Hp → Prop := fun i σ H => i ≤ items.length ∧ ∃ (W2 : Wd) (envi : En) (Si : Sto), W2.H = H ∧ Rn X.kw W0 W2 envi σ Si ∧ LeS W1 W2 ∧ forGo (bindT tg) bodyf (items.drop i) envi Si = some fl
  refine ⟨fun i m σ H => m = items.length - i ∧ Iv i σ H, ⟨_, rfl, Nat.zero_le _, W1, env, S1, rfl, rn.le l1 ok1 st1, .refl W1, by rw [List.drop_zero]; exact hgo⟩, ?_⟩
  rintro i m σ H ⟨rfl, hile, W2, envi, Si, rfl, rn2, ls2, hgi⟩
  have hT : WOk W2 ∧ LeS W1 W2 := ⟨rn2.ok, ls2⟩
  by_cases hlt : i < items.length
  · have ed : items[i]? = some items[i] := List.getElem?_eq_getElem hlt
    refine .inr ⟨itk.go W2 i _ hT ed, Iv (i + 1), fun σ' H' p' => ⟨items.length - (i + 1), by omega, rfl, p'⟩, fun x H' y => ?_⟩
    obtain ⟨W3, gr, rfl, rx⟩ := itk.yld W2 i _ x H' hT ed y
    rw [List.drop_eq_getElem_cons hlt] at hgi
    simp only [forGo, Option.bind_eq_some_iff] at hgi
    obtain ⟨env1, hbd, fl1, hbody, hgi⟩ := hgi
    have rn3 := rn2.le gr.le (gr.ok rn2.ok) (gr.st rn2.ok rn2.st)
    refine rn3.bind rx hbd fun σ2 rn4 => ?_
    refine hb env1 Si fl1 hbody W0 σ2 W3 rn4 _ ?_
    cases fl1 with
    | nx env5 S5 => exact fun σ' W5 rn5 l5 => ⟨hlt, W5, env5, S5, rfl, rn5, (ls2.trans gr.le.leS).trans l5, hgi⟩
    | ct env5 S5 => exact fun σ' W5 rn5 l5 => ⟨hlt, W5, env5, S5, rfl, rn5, (ls2.trans gr.le.leS).trans l5, hgi⟩
    | rt d5 S5 =>
      cases hgi
      exact q1
  · have ei : i = items.length := by omega
    subst ei
    rw [List.drop_length] at hgi
    cases hgi
    exact .inl ⟨itk.stop W2 hT, q1 σ W2 rn2 ls2⟩
/-- while -/
theorem ex_whl {c : Expr} {body : List Stmt} {testf : En → Sto → Option (D × Sto)} {bodyf : En → Sto → Option Fl} {F : Nat} (hp : PassesOwn (model X.prog X.w) X.A X.env X.xe) (ht : ∀ env S b S', testf env S = some (.bl b, S') → EvB X env c S b S')
    (hb : ∀ env S fl, bodyf env S = some fl → ExsOk X fr body env S fl) (hgo : whlGo testf bodyf F env S = some fl) : ExOk X fr (.While c body [] pos) env S fl := by
  intro W0 σ W rn Dn q
  refine satS (ps_while hp pt_sat pss_sat) ?_
  let Iv : Nat → L2.St → Hp → Prop := fun m σ H => ∃ (W2 : Wd) (envi : En) (Si : Sto), W2.H = H ∧ Rn X.kw W0 W2 envi σ Si ∧ LeS W W2 ∧ whlGo testf bodyf m envi Si = some fl
  refine ⟨Iv, ⟨F, W, env, S, rfl, rn, .refl W, hgo⟩, ?_⟩
  rintro m σ H ⟨W2, envi, Si, rfl, rn2, ls2, hgi⟩
  cases m with
  | zero => cases hgi
  | succ m =>
    simp only [whlGo, Option.bind_eq_some_iff] at hgi
    obtain ⟨⟨d1, S3⟩, h3, hgi⟩ := hgi
    cases d1 with
    | bl b =>
      refine ht envi Si b S3 h3 σ W2 rn2.r rn2.ok rn2.st _ fun W3 l3 ok3 st3 => ?_
      have rn3 := rn2.le l3 ok3 st3
      have ls3 := ls2.trans l3.leS
      cases b with
      | false =>
        rw [if_neg Bool.false_ne_true]
        cases hgi
        exact q σ W3 rn3 ls3
      | true =>
        rw [if_pos rfl]
        simp only [Option.bind_eq_some_iff] at hgi
        obtain ⟨fl1, hbody, hgi⟩ := hgi
        refine ⟨Iv m, fun σ' H' p' => ⟨m, Nat.lt_succ_self m, p'⟩, hb envi S3 fl1 hbody W0 σ W3 rn3 _ ?_⟩
        cases fl1 with
        | nx env5 S5 => exact fun σ' W5 rn5 l5 => ⟨W5, env5, S5, rfl, rn5, ls3.trans l5, hgi⟩
        | ct env5 S5 => exact fun σ' W5 rn5 l5 => ⟨W5, env5, S5, rfl, rn5, ls3.trans l5, hgi⟩
        | rt d5 S5 =>
          cases hgi
          exact q
    | _ => cases hgi
/-- name = xs.pop(0) -/
theorem ex_pop {ds : List D} {k0 : Nat} {p0 : Pos} (hN : X.N.Nodup) (hNi : X.N[i]? = some x) (hv : Vis X.env.scope x) (hd : (x == ("__debug__" : Str)) = false) (hcd : (x == ("__classdict__" : Str)) = false) (hNj : X.N[j]? = some y) (hy : Loc X.env.scope y) (hf : X.fn y = true ∨ X.env.scope.names.lookup y = some .local)
    (hl : (apos.endLine == cpos.line) = true) (e0 : env[i]? = some (some (.ow (.lst (d :: ds))))) (hij : i ≠ j) : ExOk X fr (.Assign [.Name y px] (.Call (.Attribute (.Name x tp) "pop" apos) [.Constant (.int 0) k0 p0] [] cpos) pos) env S (.nx ((env.set i (some (.ow (.lst ds)))).set j (some (.sh d))) S) := by
  intro W0 σ W rn Dn q
  refine satS (ps_set hN hNj hy (pe_bm1 PySem.F.plainAttrs_list PySem.F.slot_list_pop PySem.F.type_list_pop mt_popAt (pe_var hNi hv hd hcd) rfl rfl hl) (sw_no rfl) hf) ?_
  obtain ⟨a, e1, ho, vs, eH, rs⟩ := rn.r.ow i _ e0
  refine ⟨.ref a, e1, .inl ⟨rfl, vs, SqL.of eH⟩, satA (pa_cons pe_int pa_nil rfl) ?_⟩
  obtain ⟨v, vs', rfl, rv, rs'⟩ := rs
  refine ⟨a, v :: vs', 0, 0, v, rfl, rfl, eH, by omega, by omega, ?_, rfl, ?_⟩
  · show seqIndex? 0 (vs'.length + 1) = some 0
    rw [seqIndex_of (by omega) (by omega)]
    rfl
  · have ls : LeS W (W.put a (.lst vs')) := put_leS ho
    obtain ⟨r3, l3⟩ := rn.putOw (o := .lst vs') (d' := .lst ds) e0 e1 rfl ⟨_, upd_same, RepL.le ls ds vs' rs'⟩
    exact q _ _ (r3.setSh (i := j) (Rep.le ls d v rv)) l3
end
end FG

namespace FG
open PySem PySem.Spec PyProof.Rows L2
section
variable {X : Cx}
/-- the block of a dict comprehension stores its value itself -/
theorem sw_dcT {kx vx : Expr} {gs : List Comprehension} {scope : Scope} {pos py : Pos} {y : Str} {l : Nat} {env : Env}
    (k1 : env.scope.kind = .function) (k2 : env.scope.names.lookup y = some .local) (k3 : (py.line == pos.line) = true)
    (k4 : (scope.names.any fun (n, k) => n == y && (k == .local || k == .cell)) = false) :
    swapsWith (.DictComp kx vx gs scope pos) (some (.Name y py)) l env = pure true := by
  have e1 : env.kindOf y = some .local := k2
  have e2 : env.blockKind = .function := by
    unfold Env.blockKind; rw [k1]; rfl
  unfold swapsWith
  simp only [e2, e1, k4, Expr.pos, k3]
  rfl
abbrev Blk (P : Cx → Prop) (X : Cx) (scope : Scope) : Prop := ∀ (s : Shared) (H : Hp) (C : Addr) (cl : List (Str × Addr)) (fp : List Addr), P (X.blk s H scope (compEnvC scope cl C X.env) fp)
/-- name = {k: v for ..} on one line, the name a local -/
theorem ps_dcT {i : Nat} {y : Str} {py : Pos} {kx vx tg iter : Expr} {ifs : List Expr} {scope : Scope} {own : List (Str × Nat)} {pos spos : Pos} {wi : TI} {g : TG} {tt : TT} {tk tv : TE}
    (hc : X.calm = true) (hN : X.N.Nodup) (hy : X.N[i]? = some y) (hl : X.env.scope.names.lookup y = some .local)
    (hw : swapsWith (.DictComp kx vx [⟨tg, iter, ifs, 0⟩] scope pos) (some (.Name y py)) spos.line X.env = pure true)
    (hi : PI X tg iter wi) (ok : BlkOk X.N X.env.scope scope own)
    (hg : Blk (fun Y => PG Y tg g) X scope) (ht : Blk (fun Y => PTs Y ifs tt) X scope) (hk : Blk (fun Y => PE Y kx tk) X scope) (he : Blk (fun Y => PE Y vx tv) X scope)
    (hs : ∀ x, foldedSetIterable iter X.env x = pure x) :
    PS X (.Assign [.Name y py] (.DictComp kx vx [⟨tg, iter, ifs, 0⟩] scope pos) spos) (tAsg (tDc wi g tt tk tv (own.map (·.2))) (gName i)) := by
  refine ⟨fun ps s σ H D I h => ?_⟩
  rw [exec_Assign_Name_used _ _ _ _ hw]
  refine wpAny_bind (wpAny_standAt (wpAny_bind ?_))
  show wpAny _ X.A (do let _ ← comprehension (.DictComp kx vx [⟨tg, iter, ifs, 0⟩] scope pos) scope X.env (firstIterPos [⟨tg, iter, ifs, 0⟩] pos) newDict false (eval iter X.env) (some (assign (.Name y py) X.env))) _ _ s
  have h : tDc wi g tt tk tv (own.map (·.2)) σ H (fun x H1 => gName i x σ H1 D.nx) := h
  refine wpAny_bind (thn (dc_core (Qf := fun _ s' => SP X ps D .next s') hc hN I hi ok hg ht hk he hs h fun L C s' m H' I' q hn f => ?_) fun _ s' hq => wpAny_pure (wpAny_pure hq))
  show wpAny _ _ (assign (.Name y py) X.env (.ref L)) _ _ _
  refine wpAny_assign_Name (store_ok2 (v := V.ref L) I' hN hy (.inl hl) rfl (fun s2 I2 z => ?_) (.inr hl))
  obtain ⟨a, sb, ha⟩ := z
  obtain ⟨p0, p1, _, p3, p4, p5⟩ := f
  have ne : C ≠ a := by
    cases ha with
    | inl u => rw [u]; exact p1
    | inr u => intro e; exact p4 y a u e.symm
  refine ⟨m, hn.sameBut sb ne, fun h3 sb3 => ?_⟩
  refine ⟨_, H', I2.turned (t' := s2.toks) ?_ p0 p1 p3 p4 p5, q⟩
  intro b o hb e
  exact (sb3.2 b hb).trans e
end
end FG

namespace FG
open PySem PySem.Spec PyProof.Rows L2
/-- does the comprehension store its value itself -/
def swB (sc : Scope) (x : Str) (px : Pos) : Expr → Bool
  | .ListComp _ _ scope pos => (sc.names.lookup x == some .local) && (px.line == pos.line) && !(scope.names.any fun (n, k) => n == x && (k == .local || k == .cell))
  | .SetComp _ _ _ _ => true
  | .DictComp _ _ _ scope pos => (sc.names.lookup x == some .local) && (px.line == pos.line) && !(scope.names.any fun (n, k) => n == x && (k == .local || k == .cell))
  | _ => false
theorem sw_false {x : Str} {px : Pos} {v : Expr} {l : Nat} {env : Env} (hk : env.scope.kind = .function) (h : swB env.scope x px v = false) : swapsWith v (some (.Name x px)) l env = pure false := by
  have hb : env.blockKind = .function := by unfold Env.blockKind; rw [hk]; rfl
  have hx : env.kindOf x = env.scope.names.lookup x := rfl
  cases v with
  | ListComp e g scope pos =>
    unfold swapsWith
    simp only [hb, hx, Expr.pos, beq_self_eq_true, Bool.true_and]
    simp only [swB] at h
    rw [h]
  | DictComp ke ve g scope pos =>
    unfold swapsWith
    simp only [hb, hx, Expr.pos, beq_self_eq_true, Bool.true_and]
    simp only [swB] at h
    rw [h]
  | SetComp e g scope pos => cases h
  | _ => rfl
def isLcE : E → Bool
  | .lc _ _ ik _ _ _ => decide (ik ≠ .keys)
  | .dc _ _ ik _ _ _ _ => decide (ik ≠ .keys)
  | _ => false
def isLcX : Expr → Bool
  | .ListComp _ _ _ _ => true
  | .DictComp _ _ _ _ _ => true
  | _ => false
def asgB (s : Sx) (x : Str) (px : Pos) (v : Expr) (e : E) : Bool := !(swB s.sc x px v) || (isLcE e && isLcX v)
def varB (N : List Str) (s : Sx) (i : Nat) (x : Str) : Bool := decide (N[i]? = some x) && visB s.sc x && okNm x
def locB (N : List Str) (s : Sx) (i : Nat) (x : Str) : Bool := decide (N[i]? = some x) && decide (s.sc.names.lookup x = some .local)
def nameOf : Expr → Option Str
  | .Name x _ => some x
  | _ => none
def parShape (is : List Nat) (ts vs : List Expr) : Bool := match is, ts, vs with
  | [_, _], [.Name _ _, .Name _ _], [_, _] => true
  | [_, _, _], [.Name _ _, .Name _ _, .Name _ _], [_, _, _] => true
  | _, _, _ => false
theorem shape_inv {is : List Nat} {ts vs : List Expr} (h : parShape is ts vs = true) : (∃ i j x px y py a b, is = [i, j] ∧ ts = [.Name x px, .Name y py] ∧ vs = [a, b]) ∨ ∃ i j l x px y py z pz a b d, is = [i, j, l] ∧ ts = [.Name x px, .Name y py, .Name z pz] ∧ vs = [a, b, d] := by
  unfold parShape at h
  split at h
  · exact .inl ⟨_, _, _, _, _, _, _, _, rfl, rfl, rfl⟩
  · exact .inr ⟨_, _, _, _, _, _, _, _, _, _, _, _, rfl, rfl, rfl⟩
  · cases h
def parB (sc : Scope) (is : List Nat) (ts vs : List Expr) : Bool := match ssF sc ts vs with
  | some none => true
  | some (some ns) => decide (ns = ts.filterMap nameOf) && (ns.all fun x => decide (sc.names.lookup x = some .local)) && decide is.Nodup && parShape is ts vs
  | none => false
def frs (cf : Cfg) : List E → List Bool → Bool
  | [], [] => true
  | e :: es, o :: os => (!o || isFr cf e) && frs cf es os
  | _, _ => false
section
variable (cf : Cfg) (N : List Str) (fr : Bool)
mutual
def chkS : S → Sx → Stmt → Bool
  | .asg _ i e, s, st => match st with
    | .Assign [.Name x px] v _ => nmOk N s i x && chk cf N e s v && asgB s x px v e
    | _ => false
  | .asgO _ i e, s, st => match st with
    | .Assign [.Name x px] v _ => nmOk N s i x && chk cf N e s v && asgB s x px v e && isFr cf e
    | _ => false
  | .unp _ is e, s, st => match st with
    | .Assign [.Tuple ts _ _] v _ => chkNms N s is ts && chk cf N e s v && noTupE v && noComp v
    | _ => false
  | .par is es os, s, st => match st with
    | .Assign [.Tuple ts _ _] (.Tuple vs _ _) _ => chkNms N s is ts && chks cf N es s vs && frs cf es os && parB s.sc is ts vs && decide (vs.length ≤ 1000)
    | _ => false
  | .setI i k v, s, st => match st with
    | .Assign [.Subscript (.Name x _) ke _] ve _ => varB N s i x && chk cf N k s ke && noSlice ke && chk cf N v s ve
    | _ => false
  | .augC i k e, s, st => match st with
    | .AugAssign (.Subscript (.Name x _) ke _) .Add ve _ => varB N s i x && chk cf N k s ke && noSlice ke && chk cf N e s ve
    | _ => false
  | .app i e, s, st => match st with
    | .Expr (.Call (.Attribute (.Name x _) m apos) [a] [] cpos) _ => decide (m = ("append" : Str)) && varB N s i x && chk cf N e s a && noStar a && (apos.endLine == cpos.line)
    | _ => false
  | .ext i e, s, st => match st with
    | .Expr (.Call (.Attribute (.Name x _) m apos) [a] [] cpos) _ => decide (m = ("extend" : Str)) && varB N s i x && chk cf N e s a && noStar a && (apos.endLine == cpos.line)
    | _ => false
  | .pop0 j i, s, st => match st with
    | .Assign [.Name y _] (.Call (.Attribute (.Name x _) m apos) [.Constant (.int z) _ _] [] cpos) _ => decide (m = ("pop" : Str)) && decide (z = 0) && varB N s i x && nmOk N s j y && (apos.endLine == cpos.line)
    | _ => false
  | .exp _ e, s, st => match st with
    | .Expr v _ => chk cf N e s v && noComp v
    | _ => false
  | .ite z a b, s, st => match st with
    | .If c p q _ => chk cf N z s c && chkSs a s p && chkSs b s q
    | _ => false
  | .for _ tg ik its body, s, st => match st with
    | .For t it b [] _ => decide (ik ≠ .keys) && chkTg N s tg t && okIt s ik t && noSet it && chks cf N its s (itArgs ik it) && chkSs body s b
    | _ => false
  | .whl z body, s, st => match st with
    | .While c b [] _ => chk cf N z s c && chkSs body s b
    | _ => false
  | .ret _ e, s, st => match st with
    | .Return (some v) _ => chk cf N e s v && (!fr || isFr cf e)
    | _ => false
  | .retO i, s, st => match st with
    | .Return (some (.Name x _)) _ => varB N s i x
    | _ => false
  | .cont, _, st => match st with
    | .Continue _ => true
    | _ => false
  | .stuck, _, _ => true
  | .newC i es, s, st => match st with
    | .Assign [.Name x _] (.List xs _) _ => nmOk N s i x && chks cf N es s xs && decide (xs.length ≤ 1000)
    | _ => false
def chkSs : List S → Sx → List Stmt → Bool
  | [], _, sts => sts.isEmpty
  | a :: as, s, sts => match sts with
    | st :: sts => chkS a s st && chkSs as s sts
    | [] => false
end
end
section
variable {cf : Cfg} {c : Calls} {k : Nat} {N : List Str} {s : Sx} {X : Cx} {F : Nat}
theorem XC.loc (h : XC cf c k N s X) {i : Nat} {x : Str} (g : nmOk N s i x = true) : X.N[i]? = some x ∧ Loc X.env.scope x ∧ (X.fn x = true ∨ X.env.scope.names.lookup x = some .local) := by
  unfold nmOk at g
  simp only [Bool.and_eq_true, decide_eq_true_eq] at g
  obtain ⟨g1, g2⟩ := g
  have hi : X.N[i]? = some x := by rw [h.hN]; exact g1
  split at g2
  · rename_i e
    exact ⟨hi, .inl (by rw [h.sc]; exact e), .inr (by rw [h.sc]; exact e)⟩
  · rename_i e
    exact ⟨hi, .inr (by rw [h.sc]; exact e), .inl (h.fn x g2)⟩
  · cases g2
theorem XC.var (h : XC cf c k N s X) {i : Nat} {x : Str} (g : varB N s i x = true) : X.N[i]? = some x ∧ Vis X.env.scope x ∧ (x == ("__debug__" : Str)) = false ∧ (x == ("__classdict__" : Str)) = false := by
  unfold varB at g
  simp only [Bool.and_eq_true, decide_eq_true_eq] at g
  obtain ⟨n1, n2, _⟩ := okNm_of g.2
  exact ⟨by rw [h.hN]; exact g.1.1, h.vis g.1.2, n1, n2⟩
theorem XC.nodup (h : XC cf c k N s X) : X.N.Nodup := by rw [h.hN]; exact h.nd
def PX (cf : Cfg) (c : Calls) (k : Nat) (N : List Str) (F : Nat) (a : S) : Prop := ∀ (fr : Bool) (s : Sx) (ex : Stmt) (X : Cx), chkS cf N fr a s ex = true → XC cf c k N s X → PassesOwn (model X.prog X.w) X.A X.env X.xe → ∀ env S fl, exec c F a env S = some fl → ExOk X fr ex env S fl
def PXs (cf : Cfg) (c : Calls) (k : Nat) (N : List Str) (F : Nat) (as : List S) : Prop := ∀ (fr : Bool) (s : Sx) (exs : List Stmt) (X : Cx), chkSs cf N fr as s exs = true → XC cf c k N s X → PassesOwn (model X.prog X.w) X.A X.env X.xe → ∀ env S fl, execs c F as env S = some fl → ExsOk X fr exs env S fl
/-- name = value, both kinds -/
theorem ex_asg {ow : Bool} {i : Nat} {e : E} {x : Str} {px pos : Pos} {v : Expr} {fr : Bool} (hx : XC cf c k N s X) (h1 : nmOk N s i x = true) (h2 : chk cf N e s v = true) (h3 : asgB s x px v e = true) {env : En} {S S1 : Sto} {d : D} (h : ev c e env S = some (d, S1)) (hm : ow = true → isMut d = true ∧ isFr cf e = true) :
    ExOk X fr (.Assign [.Name x px] v pos) env S (.nx (env.set i (some (if ow then .ow d else .sh d))) S1) := by
  obtain ⟨hN, hl, hf⟩ := hx.loc h1
  cases hsw : swB s.sc x px v with
  | false =>
    have he := (pv e s v X h2 hx).1 env S d S1 h
    exact ex_set (fe := isFr cf e) (ps_set hx.nodup hN hl pe_sat (sw_false (by rw [hx.sc]; exact hx.kind) (by rw [hx.sc]; exact hsw)) hf) he hm
  | true =>
    unfold asgB at h3
    rw [hsw] at h3
    simp only [Bool.not_true, Bool.false_or, Bool.and_eq_true] at h3
    cases e with
    | lc own tg ik its ifs elt =>
      have hk : ik ≠ .keys := by simpa [isLcE] using h3.1
      cases v with
      | ListComp el gs scope lpos =>
        unfold chk at h2
        split at h2
        · rename_i el' t it fs as scope' pos' heq
          cases heq
          simp only [Bool.and_eq_true, decide_eq_true_eq] at h2
          obtain ⟨⟨⟨⟨⟨⟨⟨⟨⟨⟨rfl, hbl⟩, hsl⟩, htg⟩, hoi⟩, hns⟩, hkv⟩, hci⟩, hcf⟩, hfl⟩, hce⟩ := h2
          have hb := blkOk_by hbl
          have lp := lcp_of (cf := cf) (c := c) (k := k) hx hbl hsl htg hns
          simp only [ev, Option.bind_eq_some_iff, Option.map_eq_some_iff] at h
          obtain ⟨⟨ds, S2⟩, h1', items, h2', ⟨rs, S3⟩, h3', e'⟩ := h
          obtain ⟨rfl, rfl⟩ : D.lst rs = d ∧ S3 = S1 := by simpa using e'
          have hgo : lcGo (fun d => bindT tg d (wipeE env ((ownOf N own).map (·.2)))) (fun e S => evts c ifs e S) (fun e S => ev c elt e S) items S2 [] = some (rs, S3) := by rw [own_map]; exact h3'
          have ht : ∀ env1 S t' S', evts c ifs env1 S = some (t', S') → ∀ st H C cl fp, EvTs (XB X scope st H C cl fp) env1 fs S t' S' := fun env1 S t' S' hh st H C cl fp => ((pvs_of (pvl ifs)) _ fs _ hcf (hx.blk hb.kind)).2.2 env1 S t' S' hh
          have he : ∀ env1 S d S', ev c elt env1 S = some (d, S') → ∀ st H C cl fp, Ev (XB X scope st H C cl fp) env1 el S d S' false := fun env1 S d S' hh st H C cl fp => ((pv elt _ el _ hce (hx.blk hb.kind)).1 env1 S d S' hh).weak fun z => by cases z
          have h1'' : evcs c its env S = some (ds, S2) := by
            cases ik <;> first | exact absurd rfl hk | exact h1'
          have hi := iter_ok hk (pvl its) hx hoi hci h1'' h2'
          simp only [swB, Bool.and_eq_true, Bool.not_eq_true', beq_iff_eq] at hsw
          have hsw' := sw_true (elt := el) (gs := [⟨t, it, fs, 0⟩]) (l := pos.line) (env := X.env) (by rw [hx.sc]; exact hx.kind) (by rw [hx.sc]; exact hsw.1.1) (by simpa using hsw.1.2) hsw.2
          refine ex_set (fe := true) (ps_setLc hx.calm hx.nodup hN (by rw [hx.sc]; exact hsw.1.1) hsw' pi_sat lp.ok lp.pg (fun st H C cl fp => pts_all) (fun st H C cl fp => pe_all) lp.fold) (fun σ W rr ok st Q q => ?_) fun z => ⟨(hm z).1, rfl⟩
          exact lc_read lp.slots (hi.at rr ok st) ht he hgo rr ok Q fun v W' p f => q v W' p fun _ => f
        · cases h2
      | DictComp _ _ _ _ _ => simp [chk] at h2
      | _ => cases h3.2
    | dc own tg ik its ifs ke ve =>
      have hk : ik ≠ .keys := by simpa [isLcE] using h3.1
      cases v with
      | DictComp kx vx gs scope lpos =>
        unfold chk at h2
        split at h2
        · rename_i kx' vx' t it fs as scope' pos' heq
          cases heq
          simp only [Bool.and_eq_true, decide_eq_true_eq] at h2
          obtain ⟨⟨⟨⟨⟨⟨⟨⟨⟨⟨⟨rfl, hbl⟩, hsl⟩, htg⟩, hoi⟩, hns⟩, hkv⟩, hci⟩, hcf⟩, hfl⟩, hck⟩, hce⟩ := h2
          have hb := blkOk_by hbl
          have lp := lcp_of (cf := cf) (c := c) (k := k) hx hbl hsl htg hns
          simp only [ev, Option.bind_eq_some_iff, Option.map_eq_some_iff] at h
          obtain ⟨⟨ds, S2⟩, h1', items, h2', ⟨rk, rs, S3⟩, h3', e'⟩ := h
          cases e'
          have hgo : dcGo (fun d => bindT tg d (wipeE env ((ownOf N own).map (·.2)))) (fun e S => evts c ifs e S) (fun e S => ev c ke e S) (fun e S => ev c ve e S) items S2 [] [] = some (rk, rs, S3) := by rw [own_map]; exact h3'
          have ht : ∀ env1 S t' S', evts c ifs env1 S = some (t', S') → ∀ st H C cl fp, EvTs (XB X scope st H C cl fp) env1 fs S t' S' := fun env1 S t' S' hh st H C cl fp => ((pvs_of (pvl ifs)) _ fs _ hcf (hx.blk hb.kind)).2.2 env1 S t' S' hh
          have hk' : ∀ env1 S d S', ev c ke env1 S = some (d, S') → ∀ st H C cl fp, Ev (XB X scope st H C cl fp) env1 kx S d S' false := fun env1 S d S' hh st H C cl fp => ((pv ke _ kx _ hck (hx.blk hb.kind)).1 env1 S d S' hh).weak fun z => by cases z
          have he : ∀ env1 S d S', ev c ve env1 S = some (d, S') → ∀ st H C cl fp, Ev (XB X scope st H C cl fp) env1 vx S d S' false := fun env1 S d S' hh st H C cl fp => ((pv ve _ vx _ hce (hx.blk hb.kind)).1 env1 S d S' hh).weak fun z => by cases z
          have h1'' : evcs c its env S = some (ds, S2) := by
            cases ik <;> first | exact absurd rfl hk | exact h1'
          have hi := iter_ok hk (pvl its) hx hoi hci h1'' h2'
          simp only [swB, Bool.and_eq_true, Bool.not_eq_true', beq_iff_eq] at hsw
          have hsw' := sw_dcT (kx := kx) (vx := vx) (gs := [⟨t, it, fs, 0⟩]) (l := pos.line) (env := X.env) (by rw [hx.sc]; exact hx.kind) (by rw [hx.sc]; exact hsw.1.1) (by simpa using hsw.1.2) hsw.2
          refine ex_set (fe := true) (ps_dcT hx.calm hx.nodup hN (by rw [hx.sc]; exact hsw.1.1) hsw' pi_sat lp.ok lp.pg (fun st H C cl fp => pts_all) (fun st H C cl fp => pe_all) (fun st H C cl fp => pe_all) lp.fold) (fun σ W rr ok st Q q => ?_) fun z => ⟨(hm z).1, rfl⟩
          exact dc_read lp.slots (hi.at rr ok st) ht hk' he hgo rr ok Q fun v W' p f => q v W' p fun _ => f
        · cases h2
      | ListComp _ _ _ _ => simp [chk] at h2
      | _ => cases h3.2
    | _ => cases h3.1
theorem px_asg (fz : List Nat) (i : Nat) (e : E) : PX cf c k N F (.asg fz i e) := by
  intro fr s ex X hc hx hp env S fl h
  unfold chkS at hc
  split at hc
  · simp only [Bool.and_eq_true] at hc
    simp only [exec, Option.map_eq_some_iff] at h
    obtain ⟨⟨d, S1⟩, h, rfl⟩ := h
    exact ex_unown (ex_asg (ow := false) hx hc.1.1 hc.1.2 hc.2 h fun z => by cases z)
  · cases hc
theorem px_asgO (fz : List Nat) (i : Nat) (e : E) : PX cf c k N F (.asgO fz i e) := by
  intro fr s ex X hc hx hp env S fl h
  unfold chkS at hc
  split at hc
  · simp only [Bool.and_eq_true] at hc
    simp only [exec, Option.bind_eq_some_iff] at h
    obtain ⟨⟨d, S1⟩, h, h'⟩ := h
    split at h'
    · rename_i hm
      cases h'
      exact ex_unown (ex_asg (ow := true) hx hc.1.1.1 hc.1.1.2 hc.1.2 h fun _ => ⟨hm, hc.2⟩)
    · cases h'
  · cases hc
theorem px_unp (fz is : List Nat) (e : E) : PX cf c k N F (.unp fz is e) := by
  intro fr s ex X hc hx hp env S fl h
  unfold chkS at hc
  split at hc
  · rename_i ts kk tp v pos
    simp only [Bool.and_eq_true] at hc
    obtain ⟨⟨⟨h1, h2⟩, h3⟩, h4⟩ := hc
    simp only [exec, Option.bind_eq_some_iff, Option.map_eq_some_iff] at h
    obtain ⟨⟨d, S1⟩, h, env1, hb, rfl⟩ := h
    exact ex_unown (ex_unp ((pv e s v X h2 hx).1 _ S d S1 h) (hx.pg (tg := .tp is) (ex := .Tuple ts kk tp) h1) (show swapsWithSole [.Tuple ts kk tp] v pos.line X.env = pure false from by rw [show swapsWithSole [.Tuple ts kk tp] v pos.line X.env = swapsWith v (some (.Tuple ts kk tp)) pos.line X.env from rfl]; exact sw_no h4) (ss_no h3) rfl hb)
  · cases hc
def setAll (σ : L2.St) : List Nat → List V → L2.St
  | i :: is, v :: vs => setAll (σ.set i (some v)) is vs
  | _, _ => σ
theorem gNames_set {H : Hp} {Q : L2.St → Hp → Prop} : ∀ {is : List Nat} {vs : List V} {σ : L2.St}, vs.length = is.length → Q (setAll σ is vs) H → gNames is vs σ H Q
  | [], [], σ, _, q => ⟨rfl, q⟩
  | i :: is, v :: vs, σ, h, q => ⟨v, vs, rfl, gNames_set (by simpa using h) q⟩
  | [], _ :: _, _, h, _ => by simp at h
  | _ :: _, [], _, h, _ => by simp at h
theorem par_read {fr : Bool} (hx : XC cf c k N s X) {env : En} {σ : L2.St} {W0 : Wd} : ∀ {is : List Nat} {es : List E} {os : List Bool} {exs : List Expr} {acc acc' : En} {S S' : Sto} {τ : L2.St} {W : Wd} {Q : List V → Hp → Prop},
    parGo c is es os env acc S = some (acc', S') → chks cf N es s exs = true → frs cf es os = true → Rn X.kw W0 W acc τ S → EnvR X.kw W env σ →
    (∀ vs W', vs.length = is.length → Rn X.kw W0 W' acc' (setAll τ is vs) S' → LeK W W' → Q vs W'.H) → SatA X exs σ W.H Q
  | [], [], [], exs, acc, acc', S, S', τ, W, Q, h, hc, hf, rn, rr, q => by
    cases h
    cases exs with
    | nil => exact satA pa_nil (q [] W rfl rn (LeK.mk ⟨[], by simp⟩ (fun _ z => z) (fun _ z => .inl z) fun b o n e => ⟨n, e⟩))
    | cons _ _ => simp [chks] at hc
  | i :: is, e :: es, o :: os, exs, acc, acc', S, S', τ, W, Q, h, hc, hf, rn, rr, q => by
    cases exs with
    | nil => simp [chks] at hc
    | cons x xs =>
      simp only [chks, Bool.and_eq_true] at hc
      simp only [frs, Bool.and_eq_true, Bool.or_eq_true, Bool.not_eq_true'] at hf
      simp only [parGo, Option.bind_eq_some_iff] at h
      obtain ⟨⟨d, S1⟩, h1, h⟩ := h
      split at h
      · cases h
      · rename_i hn
        refine satA (pa_cons pe_sat pa_sat (star_of hc.1.2)) ((pv e s x X hc.1.1 hx).1 env S d S1 h1 σ W rr rn.ok rn.st _ fun v W1 p1 f1 => ?_)
        obtain ⟨W2, e2, l2, r2⟩ := rn.put (i := i) (ow := o) p1 fun z => by
          subst z
          refine ⟨by simpa using hn, f1 ?_⟩
          rcases hf.1 with y | y
          · cases y
          · exact y
        show SatA X xs σ W1.H _
        rw [← e2]
        refine par_read (fr := fr) hx h hc.2 hf.2 r2 (rr.leK rn.ok l2) fun vs W' hl rn' l' => ?_
        refine q (v :: vs) W' (by simp [hl]) rn' ⟨?_, fun b z => l'.own1 b (l2.own1 b z), fun b z => ?_, fun b u n e => ?_⟩
        · obtain ⟨t, e⟩ := l2.cs
          obtain ⟨u, e'⟩ := l'.cs
          exact ⟨t ++ u, by rw [e', e, List.append_assoc]⟩
        · rcases l'.own2 b z with z | z
          · exact l2.own2 b z
          · refine .inr ?_
            cases y : W.H b with
            | none => rfl
            | some u =>
              by_cases m : b ∈ W.cs
              · obtain ⟨t, e⟩ := l2.cs
                exact absurd z (r2.ok.dom b (by rw [e]; exact List.mem_append_left _ m))
              · have := (l2.keep b u m y).2
                rw [z] at this
                cases this
        · obtain ⟨n1, e1⟩ := l2.keep b u n e
          exact l'.keep b u n1 e1
  | [], _ :: _, _, _, _, _, _, _, _, _, _, h, _, _, _, _, _ => by cases h
  | _ :: _, [], _, _, _, _, _, _, _, _, _, h, _, _, _, _, _ => by cases h
  | [], [], _ :: _, _, _, _, _, _, _, _, _, h, _, _, _, _, _ => by cases h
  | _ :: _, _ :: _, [], _, _, _, _, _, _, _, _, h, _, _, _, _, _ => by cases h
theorem px_par (is : List Nat) (es : List E) (os : List Bool) : PX cf c k N F (.par is es os) := by
  intro fr s ex X hc hx hp env S fl h
  unfold chkS at hc
  split at hc
  · rename_i ts kt tp vs k2 tp2 pos
    simp only [Bool.and_eq_true, decide_eq_true_eq] at hc
    obtain ⟨⟨⟨⟨hn, hv⟩, hf⟩, hpar⟩, hlen⟩ := hc
    simp only [exec, Option.map_eq_some_iff] at h
    obtain ⟨⟨env1, S1⟩, h1, rfl⟩ := h
    have hker : X.env.scope.kind = .function := by rw [hx.sc]; exact hx.kind
    obtain ⟨g1, g2, g3⟩ := hx.pg_nms hn
    have hlv : vs.length = es.length := (chks_star hv).2
    intro W0 σ W rn Dn q
    unfold parB at hpar
    split at hpar
    · rename_i hss
      have hss' := ss_of (kt := kt) (k2 := k2) (pt := tp) (pt2 := tp2) (env := X.env) hker (by rw [hx.sc]; exact hss)
      refine satS (ps_asg (pe_tup pa_sat) (pg_tup hx.calm g1 g2 g3) (show swapsWithSole [.Tuple ts kt tp] (.Tuple vs k2 tp2) pos.line X.env = pure false from rfl) hss' rfl) ?_
      refine par_read (fr := fr) hx h1 hv hf rn rn.r fun us W' hl rn' l' => ⟨?_, fun p hp => ?_⟩
      · have hli : is.length = es.length := by
          clear hpar hss hss' g1 g2 g3 q rn rn' l' hl hf hv hlen hlv
          have : ∀ (is : List Nat) (es : List E) (os : List Bool) (env acc : En) (S : Sto) (r : En × Sto), parGo c is es os env acc S = some r → is.length = es.length := by
            intro is
            induction is with
            | nil => intro es os env acc S r h; cases es with
              | nil => rfl
              | cons _ _ => cases os <;> cases h
            | cons i is ih => intro es os env acc S r h; cases es with
              | nil => cases os <;> cases h
              | cons e es => cases os with
                | nil => cases h
                | cons o os =>
                  simp only [parGo, Option.bind_eq_some_iff] at h
                  obtain ⟨d, _, h⟩ := h
                  split at h
                  · cases h
                  · simp [ih es os env _ _ r h]
          exact this is es os env env S _ h1
        rw [hl, hli, ← hlv]
        exact small_line hlen
      · have rn2 := rn'.le (up_le (o := .tup us) hp) (up_ok rn'.ok hp) (up_st rn'.ok rn'.st hp)
        exact ⟨p, us, rfl, SqT.of upd_same, hl, gNames_set hl (q _ _ rn2 (l'.leS.trans (up_le hp).leS))⟩
    · rename_i ns hss
      simp only [Bool.and_eq_true, decide_eq_true_eq, List.all_eq_true] at hpar
      obtain ⟨⟨⟨hns, hloc⟩, hnd⟩, hl23⟩ := hpar
      have hss' := ss_of (kt := kt) (k2 := k2) (pt := tp) (pt2 := tp2) (env := X.env) hker (by rw [hx.sc]; exact hss)
      have loc : ∀ x ∈ ns, X.env.scope.names.lookup x = some .local := fun x m => by rw [hx.sc]; exact hloc x m
      have nm : ∀ {i : Nat} {x : Str}, nmOk N s i x = true → X.N[i]? = some x := fun h => (hx.loc h).1
      rcases shape_inv hl23 with ⟨i, j, x, px, y, py, a, b, rfl, rfl, rfl⟩ | ⟨i, j, l, x, px, y, py, z, pz, a, b, d, rfl, rfl, rfl⟩
      · simp only [chkNms, Bool.and_eq_true] at hn
        simp only [List.filterMap, nameOf] at hns
        subst hns
        have hij : i ≠ j := by simp at hnd; exact hnd
        refine satS (ps_par (i := i) (j := j) hx.calm hx.nodup (nm hn.1) (nm hn.2.1) hij (loc x (by simp)) (loc y (by simp)) pa_sat hss' rfl) ?_
        refine par_read (fr := fr) hx h1 hv hf rn rn.r fun us W' hl rn' l' => ?_
        match us, hl, rn' with
        | [u, v], _, rn' => exact ⟨u, v, rfl, q _ W' rn' l'.leS⟩
      · simp only [chkNms, Bool.and_eq_true] at hn
        simp only [List.filterMap, nameOf] at hns
        subst hns
        simp only [List.nodup_cons, List.mem_cons, List.not_mem_nil, or_false, not_or] at hnd
        refine satS (ps_par3 (i := i) (j := j) (l := l) hx.calm hx.nodup (nm hn.1) (nm hn.2.1) (nm hn.2.2.1) hnd.1.1 hnd.1.2 hnd.2.1 (loc x (by simp)) (loc y (by simp)) (loc z (by simp)) pa_sat hss' rfl) ?_
        refine par_read (fr := fr) hx h1 hv hf rn rn.r fun us W' hl rn' l' => ?_
        match us, hl, rn' with
        | [u, v, w], _, rn' => exact ⟨u, v, w, rfl, q _ W' rn' l'.leS⟩
    · cases hpar
  · cases hc
theorem px_setI (i : Nat) (ke ve : E) : PX cf c k N F (.setI i ke ve) := by
  intro fr s ex X hc hx hp env S fl h
  unfold chkS at hc
  split at hc
  · rename_i x px kx tp vx pos
    simp only [Bool.and_eq_true] at hc
    obtain ⟨⟨⟨hv, hk⟩, hs⟩, hve⟩ := hc
    obtain ⟨n1, n2, n3, n4⟩ := hx.var hv
    simp only [exec, Option.bind_eq_some_iff] at h
    obtain ⟨⟨d1, S1⟩, h1, h⟩ := h
    have e1 := (pv ve s vx X hve hx).1 env S d1 S1 h1
    split at h
    · rename_i d0 e0
      simp only [Option.bind_eq_some_iff, Option.map_eq_some_iff] at h
      obtain ⟨⟨d2, S2⟩, h2, d', hs', rfl⟩ := h
      have e2 := ((pv ke s kx X hk hx).1 env S1 d2 S2 h2).weak (fr' := false) fun z => by cases z
      cases d0 with
      | dct ks ds => exact ex_dput (by have := hx.u; omega) n1 n2 n3 n4 e0 e1 e2 hs'
      | lst ds => exact ex_lput n1 n2 n3 n4 hs e0 e1 e2 hs'
      | ndc ks ds => exact ex_nput (by have := hx.u; omega) n1 n2 n3 n4 e0 e1 e2 hs'
      | _ => cases hs'
    · rename_i n e0
      simp only [Option.bind_eq_some_iff] at h
      obtain ⟨⟨d2, S2⟩, h2, h⟩ := h
      have e2 := ((pv ke s kx X hk hx).1 env S1 d2 S2 h2).weak (fr' := false) fun z => by cases z
      split at h
      · rename_i ds eS
        split at h
        · rename_i him
          simp only [Option.bind_eq_some_iff] at h
          obtain ⟨d', hs', h⟩ := h
          split at h
          · rename_i ds'
            cases h
            exact ex_cput n1 n2 n3 n4 hs e0 e1 e2 eS him hs'
          · cases h
        · cases h
      · cases h
    · cases h
  · cases hc
theorem px_augC (i : Nat) (ke ve : E) : PX cf c k N F (.augC i ke ve) := by
  intro fr s ex X hc hx hp env S fl h
  unfold chkS at hc
  split at hc
  · rename_i x px kx tp vx pos
    simp only [Bool.and_eq_true] at hc
    obtain ⟨⟨⟨hv, hk⟩, hs⟩, hve⟩ := hc
    obtain ⟨n1, n2, n3, n4⟩ := hx.var hv
    simp only [exec] at h
    split at h
    · rename_i n e0
      simp only [Option.bind_eq_some_iff] at h
      obtain ⟨⟨d1, S1⟩, h1, h⟩ := h
      split at h
      · rename_i ix ds he1 eS
        split at h
        · rename_i h0
          split at h
          · rename_i p ei
            simp only [Option.bind_eq_some_iff] at h
            obtain ⟨⟨d2, S2⟩, h2, h⟩ := h
            split at h
            · rename_i qq ds2 he2 eS2
              split at h
              · rename_i hlt
                cases h
                simp only at he1 he2
                subst he1
                subst he2
                exact ex_caug n1 n2 n3 n4 hs e0 (((pv ke s kx X hk hx).1 env S _ S1 h1).weak (fr' := false) fun z => by cases z) eS h0 ei ((pv ve s vx X hve hx).1 env S1 _ S2 h2) eS2 hlt
              · cases h
            · cases h
          · cases h
        · cases h
      · cases h
    · cases h
  · cases hc
theorem px_app (i : Nat) (e : E) : PX cf c k N F (.app i e) := by
  intro fr s ex X hc hx hp env S fl h
  unfold chkS at hc
  split at hc
  · rename_i x px m apos a cpos pos
    simp only [Bool.and_eq_true, decide_eq_true_eq] at hc
    obtain ⟨⟨⟨⟨rfl, hv⟩, he⟩, ns⟩, hl⟩ := hc
    obtain ⟨n1, n2, n3, n4⟩ := hx.var hv
    simp only [exec] at h
    split at h
    · rename_i ds e0
      simp only [Option.bind_eq_some_iff] at h
      obtain ⟨⟨d1, S1⟩, h1, h⟩ := h
      split at h
      · rename_i hz
        cases h
        exact ex_app n1 n2 n3 n4 ns hl e0 ((pv e s a X he hx).1 env S d1 S1 h1) hz
      · cases h
    · cases h
  · cases hc
theorem px_ext (i : Nat) (e : E) : PX cf c k N F (.ext i e) := by
  intro fr s ex X hc hx hp env S fl h
  unfold chkS at hc
  split at hc
  · rename_i x px m apos a cpos pos
    simp only [Bool.and_eq_true, decide_eq_true_eq] at hc
    obtain ⟨⟨⟨⟨rfl, hv⟩, he⟩, ns⟩, hl⟩ := hc
    obtain ⟨n1, n2, n3, n4⟩ := hx.var hv
    simp only [exec] at h
    split at h
    · rename_i ds e0
      simp only [Option.bind_eq_some_iff] at h
      obtain ⟨⟨d1, S1⟩, h1, h⟩ := h
      split at h
      · rename_i es he1
        simp only at he1
        subst he1
        split at h
        · rename_i hz
          cases h
          exact ex_ext n1 n2 n3 n4 ns hl e0 (evc_of (pv e) he hx h1) hz
        · cases h
      · cases h
    · cases h
  · cases hc
theorem px_pop (j i : Nat) : PX cf c k N F (.pop0 j i) := by
  intro fr s ex X hc hx hp env S fl h
  unfold chkS at hc
  split at hc
  · rename_i y py x px m apos z k0 p0 cpos pos
    simp only [Bool.and_eq_true, decide_eq_true_eq] at hc
    obtain ⟨⟨⟨⟨rfl, rfl⟩, hv⟩, hn⟩, hl⟩ := hc
    obtain ⟨n1, n2, n3, n4⟩ := hx.var hv
    obtain ⟨m1, m2, m3⟩ := hx.loc hn
    simp only [exec] at h
    split at h
    · rename_i d ds e0
      split at h
      · cases h
      · rename_i hij
        cases h
        exact ex_pop hx.nodup n1 n2 n3 n4 m1 m2 m3 hl e0 hij
    · cases h
  · cases hc
theorem px_exp (fz : List Nat) (e : E) : PX cf c k N F (.exp fz e) := by
  intro fr s ex X hc hx hp env S fl h
  unfold chkS at hc
  split at hc
  · rename_i v pos
    simp only [Bool.and_eq_true] at hc
    simp only [exec, Option.map_eq_some_iff] at h
    obtain ⟨⟨d, S1⟩, h, rfl⟩ := h
    exact ex_unown (ex_drop ((pv e s v X hc.1 hx).1 _ S d S1 h) (sw_no hc.2))
  · cases hc
theorem px_ite (z : E) (a b : List S) (ia : PXs cf c k N F a) (ib : PXs cf c k N F b) : PX cf c k N F (.ite z a b) := by
  intro fr s ex X hc hx hp env S fl h
  unfold chkS at hc
  split at hc
  · rename_i t p q pos
    simp only [Bool.and_eq_true] at hc
    simp only [exec, Option.bind_eq_some_iff] at h
    obtain ⟨⟨d, S1⟩, h1, h⟩ := h
    split at h
    · rename_i he
      simp only at he
      subst he
      exact ex_if ((pv z s t X hc.1.1 hx).2 env S true S1 h1) (ia fr s p X hc.1.2 hx hp env S1 fl h)
    · rename_i he
      simp only at he
      subst he
      exact ex_if ((pv z s t X hc.1.1 hx).2 env S false S1 h1) (ib fr s q X hc.2 hx hp env S1 fl h)
    · cases h
  · cases hc
theorem px_for (fz : List Nat) (tg : Tg) (ik : IK) (its : List E) (body : List S) (ib : PXs cf c k N F body) : PX cf c k N F (.for fz tg ik its body) := by
  intro fr s ex X hc hx hp env S fl h
  unfold chkS at hc
  split at hc
  · rename_i t it b pos
    simp only [Bool.and_eq_true, decide_eq_true_eq] at hc
    obtain ⟨⟨⟨⟨⟨hk, ht⟩, ho⟩, hns⟩, hci⟩, hb⟩ := hc
    simp only [exec, Option.bind_eq_some_iff] at h
    obtain ⟨⟨ds, S1⟩, h1, items, h2, h3⟩ := h
    exact ex_unown (ex_for hp hx.calm (iter_okS hk (pvl its) hx ho hci h1 h2) (hx.pg ht) (folded_of hns) (fun env S fl h => ib fr s b X hb hx hp env S fl h) h3)
  · cases hc
theorem px_whl (z : E) (body : List S) (ib : PXs cf c k N F body) : PX cf c k N F (.whl z body) := by
  intro fr s ex X hc hx hp env S fl h
  unfold chkS at hc
  split at hc
  · rename_i t b pos
    simp only [Bool.and_eq_true] at hc
    simp only [exec] at h
    exact ex_whl hp (fun env S b S' h => (pv z s t X hc.1 hx).2 env S b S' h) (fun env S fl h => ib fr s b X hc.2 hx hp env S fl h) h
  · cases hc
theorem px_ret (fz : List Nat) (e : E) : PX cf c k N F (.ret fz e) := by
  intro fr s ex X hc hx hp env S fl h
  unfold chkS at hc
  split at hc
  · rename_i v pos
    simp only [Bool.and_eq_true, Bool.or_eq_true, Bool.not_eq_true'] at hc
    simp only [exec, Option.map_eq_some_iff] at h
    obtain ⟨⟨d, S1⟩, h, rfl⟩ := h
    refine ex_unown (ex_ret ((pv e s v X hc.1 hx).1 _ S d S1 h) fun z => ?_)
    rcases hc.2 with y | y
    · rw [z] at y; cases y
    · exact y
  · cases hc
theorem px_retO (i : Nat) : PX cf c k N F (.retO i) := by
  intro fr s ex X hc hx hp env S fl h
  unfold chkS at hc
  split at hc
  · simp only [exec, Option.map_eq_some_iff] at h
    obtain ⟨d, h, rfl⟩ := h
    obtain ⟨n1, n2, n3, n4⟩ := hx.var hc
    exact ex_retO h n1 n2 n3 n4
  · cases hc
theorem px_newC (i : Nat) (es : List E) : PX cf c k N F (.newC i es) := by
  intro fr s ex X hc hx hp env S fl h
  unfold chkS at hc
  split at hc
  · rename_i x px xs tp pos
    simp only [Bool.and_eq_true, decide_eq_true_eq] at hc
    obtain ⟨m1, m2, m3⟩ := hx.loc hc.1.1
    simp only [exec, Option.bind_eq_some_iff] at h
    obtain ⟨⟨ds, S1⟩, h1, h⟩ := h
    split at h
    · rename_i him
      cases h
      have hl : ds.length = xs.length := (evs_len h1).trans (chks_star hc.1.2).2.symm
      exact ex_newC hx.nodup m1 m2 m3 (((pvs_of (pvl es)) s xs X hc.1.2 hx).1 env S ds S1 h1) (by rw [hl]; exact small_line hc.2) him
    · cases h
  · cases hc
theorem pxs_nil : PXs cf c k N F [] := by
  intro fr s exs X hc hx hp env S fl h
  cases exs with
  | nil => cases h; exact exs_nil
  | cons _ _ => simp [chkSs] at hc
theorem pxs_cons (a : S) (as : List S) (ia : PX cf c k N F a) (ias : PXs cf c k N F as) : PXs cf c k N F (a :: as) := by
  intro fr s exs X hc hx hp env S fl h
  cases exs with
  | nil => simp [chkSs] at hc
  | cons e es =>
    simp only [chkSs, Bool.and_eq_true] at hc
    simp only [execs, Option.bind_eq_some_iff] at h
    obtain ⟨f1, h1, h⟩ := h
    have e1 := ia fr s e X hc.1 hx hp env S f1 h1
    cases f1 with
    | nx env1 S1 => exact exs_cons e1 (ias fr s es X hc.2 hx hp env1 S1 fl h)
    | ct env1 S1 => cases h; exact exs_cut e1 fun _ _ z => by cases z
    | rt d1 S1 => cases h; exact exs_cut e1 fun _ _ z => by cases z
mutual
theorem px : ∀ a : S, PX cf c k N F a
  | .asg fz i e => px_asg fz i e
  | .asgO fz i e => px_asgO fz i e
  | .unp fz is e => px_unp fz is e
  | .par is es os => px_par is es os
  | .setI i ke ve => px_setI i ke ve
  | .augC i ke ve => px_augC i ke ve
  | .app i e => px_app i e
  | .ext i e => px_ext i e
  | .pop0 j i => px_pop j i
  | .exp fz e => px_exp fz e
  | .ite z a b => px_ite z a b (pxs a) (pxs b)
  | .for fz tg ik its body => px_for fz tg ik its body (pxs body)
  | .whl z body => px_whl z body (pxs body)
  | .ret fz e => px_ret fz e
  | .retO i => px_retO i
  | .cont => fun fr s ex X hc hx hp env S fl h => by
    unfold chkS at hc
    split at hc
    · cases h; exact ex_cont
    · cases hc
  | .stuck => fun fr s ex X hc hx hp env S fl h => by cases h
  | .newC i es => px_newC i es
theorem pxs : ∀ as : List S, PXs cf c k N F as
  | [] => pxs_nil
  | a :: as => pxs_cons a as (px a) (pxs as)
end
end
end FG

namespace FG
open PySem PySem.Spec PyProof.Rows L2
/-- a def's compact text fits the def -/
structure DefOk (cf : Cfg) (df : Df) (params : Arguments) (body : List Stmt) (scope : Scope) : Prop where
  chk : chkSs cf df.N df.fr df.body ⟨scope, none⟩ body = true
  sco : FnScope df.N (df.N.take df.ar) scope
  ar : df.ar ≤ df.N.length
  bind : ∀ (kV doc pm : Value) (an : Option Addr) (cdv ct : Value) (us : List Value), us.length = df.ar → bindArgs (PySem.W.fnOf df.name df.name params body scope .none kV doc pm an cdv ct) ⟨us, []⟩ = pure ((df.N.take df.ar).zip us)
def scopeB (N : List Str) (ar : Nat) (sc : Scope) : Bool := decide (sc.kind = .function) && !sc.isCoroutine && !sc.isGenerator && decide N.Nodup && ((N.take ar).all fun x => sc.names.lookup x == some .local || sc.names.lookup x == some .cell) && sc.names.all (fun y => y.2 != .free)
theorem scope_of {N : List Str} {ar : Nat} {sc : Scope} (h : scopeB N ar sc = true) : FnScope N (N.take ar) sc := by
  simp only [scopeB, Bool.and_eq_true, decide_eq_true_eq, Bool.not_eq_true', List.all_eq_true, Bool.or_eq_true, beq_iff_eq, bne_iff_ne] at h
  obtain ⟨⟨⟨⟨⟨h1, h2⟩, h3⟩, h4⟩, h5⟩, h6⟩ := h
  exact ⟨h1, h2, h3, h4, by rw [List.length_take, List.take_eq_take_iff]; omega, h5, h6⟩
section
variable {K : KW} {W : Wd} {S : Sto}
theorem start_rn {N : List Str} {ds : List D} {vs : List V} (ok : WOk W) (st : SRep K W S) (r : RepL K W ds vs) : Rn K W W (startE N.length ds) (L2.start N vs) S := by
  have hl := r.length
  have g1 : ∀ (i : Nat) (e : Ent), (startE N.length ds)[i]? = some (some e) → ∃ d, ds[i]? = some d ∧ e = .sh d := fun i e h => by
    unfold startE at h
    by_cases hi : i < ds.length
    · rw [List.getElem?_append_left (by simpa using hi), List.getElem?_map] at h
      obtain ⟨d, h1, h2⟩ := Option.map_eq_some_iff.mp h
      cases h2
      exact ⟨d, h1, rfl⟩
    · rw [List.getElem?_append_right (by simpa using hi), List.getElem?_replicate] at h
      split at h <;> cases h
  have noOw : ∀ (i : Nat) (d : D), (startE N.length ds)[i]? = some (some (.ow d)) → False := fun i d h => by
    obtain ⟨d', _, h⟩ := g1 i _ h
    cases h
  refine ⟨⟨?_, fun i d h => ?_, fun i d h => (noOw i d h).elim, fun i j d e a h => (noOw i d h).elim⟩, ok, st, ok, ⟨[], by simp⟩, fun b z => z, fun b z => .inl z, fun b o n e => ⟨n, e⟩, fun i d a h => (noOw i d h).elim⟩
  · unfold startE L2.start
    simp [hl]
  · obtain ⟨d', h1, h2⟩ := g1 i _ h
    cases h2
    obtain ⟨v, h3, r3⟩ := r.get h1
    refine ⟨v, ?_, r3⟩
    unfold L2.start
    rw [List.getElem?_append_left (by simpa using (List.getElem?_eq_some_iff.mp h3).1), List.getElem?_map, h3]
    rfl
end
section
variable {P : Program} {w : World} {K : PySem.W.Frag} {mg : Str → Option Value} {base : Heap} {cf : Cfg} {F : Nat}
/-- no def -/
def noDf : Df := ⟨"", [], 0, true, [.stuck]⟩
/-- what the linked program says -/
structure Lnk (cf : Cfg) (K : PySem.W.Frag) (mg : Str → Option Value) : Prop where
  defs : ∀ (f : Nat) (df : Df), cf.defs[f]? = some df → 0 < df.ar → ∃ (fa : Addr) (fd : FuncData) (params : Arguments) (body : List Stmt) (scope : Scope), FunD K df.name df.name params body scope [] [] fa fd ∧ mg df.name = some (.ref fa) ∧ DefOk cf df params body scope
  glI : ∀ x i, (x, D.int i) ∈ cf.gl → ∃ t, mg x = some (.int i t)
  glS : ∀ x z, (x, D.str z) ∈ cf.gl → ∃ t, mg x = some (.str z t)
  bi : ∀ x ∈ bnames, mg x = none
theorem DefOk.binds {df : Df} {params : Arguments} {body : List Stmt} {scope : Scope} {fa : Addr} {fd : FuncData} (d : DefOk cf df params body scope) (f : FunD K df.name df.name params body scope [] [] fa fd) : Binds K fd (df.N.take df.ar) [] :=
  f.bindsN fun kV doc pm an cdv ct us h => d.bind kV doc pm an cdv ct us (by rw [h, List.length_take]; have := d.ar; omega)
theorem level (L : Lnk cf K mg) : ∀ (k f : Nat) (df : Df) (fa : Addr) (fd : FuncData) (params : Arguments) (body : List Stmt) (scope : Scope), cf.defs[f]? = some df → FunD K df.name df.name params body scope [] [] fa fd → DefOk cf df params body scope →
    FnOk P w K mg base CX0 k fa fd (df.N.take df.ar) (SpOf ⟨K, w⟩ (callK cf.defs F k) f df.ar df.fr)
  | 0, f, df, fa, fd, params, body, scope, hf, hF, hd => by
    refine ⟨fun vs H Q E h => ?_, fun A outer s H args us vs Q E hr he hb hv hs => ?_⟩
    · obtain ⟨hl, W, ds, S, r, S', _, _, _, _, hc, _⟩ := h
      cases hc
    · obtain ⟨hl, W, ds, S, r, S', _, _, _, _, hc, _⟩ := hs
      cases hc
  | k + 1, f, df, fa, fd, params, body, scope, hf, hF, hd => by
    refine hF.ok hd.sco (fun vs H Q E h => ?_) fun cdv A outer s H vs Q E hr h => ?_
    · rw [List.length_take, h.1]; have := hd.ar; omega
    · obtain ⟨hl, W, ds, S, r, S', rfl, ok, st, rs, hc, q⟩ := h
      have hx : XC cf (callK cf.defs F k) k df.N ⟨scope, none⟩ (cxOf CX0 P w K mg base df.N df.name scope fa cdv A outer s W.H E).nox := by
        refine ⟨rfl, hd.sco.nd, rfl, hd.sco.kind, fun _ _ => rfl, rfl, hr, fun f' df' hf' ha' => ?_, L.glI, L.glS, L.bi⟩
        obtain ⟨fa', fd', params', body', scope', h1, h2, h3⟩ := L.defs f' df' hf' ha'
        exact ⟨fa', fd', _, h2, h1.kp, h3.binds h1, level L k f' df' fa' fd' params' body' scope' hf' h1 h3⟩
      have hrn := start_rn (N := df.N) ok st rs
      simp only [callK, hf] at hc
      split at hc
      · refine ⟨_, (pss_sat (X := (cxOf CX0 P w K mg base df.N df.name scope fa cdv A outer s W.H E).nox) (sts := body)).nox, ?_⟩
        split at hc
        · rename_i d1 S1 he
          cases hc
          exact pxs df.body df.fr ⟨scope, none⟩ body _ hd.chk hx .never _ S _ he W _ W hrn _ fun v W' p f => q v W' p f
        · rename_i env1 S1 he
          cases hc
          exact pxs df.body df.fr ⟨scope, none⟩ body _ hd.chk hx .never _ S _ he W _ W hrn _ fun σ' W' rn' l => q .non (endW W W') (rn'.endPost rfl) fun _ => fresh_imm rfl
        · cases hc
      · cases hc
end
end FG

namespace FG
open PySem PySem.Spec PyProof.Rows L2
def d_is_word : Df := ⟨"is_word", ["value", "char"], 1, true, [.ret [] (.and (.bi (.isi "str") (.var 0)) (.and (.chain (.con (.int 1)) (.bi .len (.var 0)) (.con (.int 4))) (.bi .all (.lc [1] (.nm 1) .seq [.var 0] [] (.cmp .isin (.var 1) (.glob "LETTERS" (.str "abcdefghijklmnopqrstuvwxyz")))))))]⟩
def d_is_condition : Df := ⟨"is_condition", ["value", "earlier", "depth", "kind", "one"], 3, true, [.ite (.or (.not (.bi (.isi "tuple") (.var 0))) (.or (.cmp .eq (.var 0) (.tup [])) (.not (.bi (.isi "str") (.idx (.var 0) (.con (.int 0))))))) [.ret [] (.con (.bl false))] [], .asg [] 3 (.idx (.var 0) (.con (.int 0))), .ite (.cmp .eq (.var 3) (.con (.str "is"))) [.ret [] (.and (.cmp .eq (.bi .len (.var 0)) (.con (.int 3))) (.and (.call 0 [.idx (.var 0) (.con (.int 1))]) (.cmp .isin (.idx (.var 0) (.con (.int 2))) (.getd (.var 1) (.idx (.var 0) (.con (.int 1))) (.tup [])))))] [], .ite (.cmp .eq (.var 3) (.con (.str "always"))) [.ret [] (.cmp .eq (.bi .len (.var 0)) (.con (.int 1)))] [], .ite (.or (.cmp .notin (.var 3) (.tup [.con (.str "not"), .con (.str "and"), .con (.str "or")])) (.or (.cmp .ne (.bi .len (.var 0)) (.ite (.cmp .eq (.var 3) (.con (.str "not"))) (.con (.int 2)) (.con (.int 3)))) (.cmp .eq (.var 2) (.con (.int 0))))) [.ret [] (.con (.bl false))] [], .ret [] (.bi .all (.lc [4] (.nm 4) .seq [.slf (.var 0) (.con (.int 1))] [] (.call 1 [.var 4, .var 1, .bin .sub (.var 2) (.con (.int 1))])))]⟩
def d_are_choices : Df := ⟨"are_choices", ["value", "one"], 1, true, [.ite (.or (.not (.bi (.isi "tuple") (.var 0))) (.or (.not (.chain (.con (.int 1)) (.bi .len (.var 0)) (.glob "CHOICES" (.int 3)))) (.not (.bi .all (.lc [1] (.nm 1) .seq [.var 0] [] (.call 0 [.var 1])))))) [.ret [] (.con (.bl false))] [], .ret [] (.cmp .eq (.bi .len (.var 0)) (.bi .lenset (.var 0)))]⟩
def d_is_field : Df := ⟨"is_field", ["value", "earlier"], 2, true, [.ite (.or (.not (.bi (.isi "tuple") (.var 0))) (.or (.cmp .ne (.bi .len (.var 0)) (.con (.int 5))) (.or (.not (.call 0 [.idx (.var 0) (.con (.int 0))])) (.cmp .isin (.idx (.var 0) (.con (.int 0))) (.var 1))))) [.ret [] (.con (.bl false))] [], .ite (.or (.not (.call 2 [.idx (.var 0) (.con (.int 1))])) (.not (.call 1 [.idx (.var 0) (.con (.int 2)), .var 1, .glob "DEPTH" (.int 3)]))) [.ret [] (.con (.bl false))] [], .ite (.or (.not (.bi (.isi "str") (.idx (.var 0) (.con (.int 3))))) (.cmp .notin (.idx (.var 0) (.con (.int 3))) (.tup [.con (.str "clear"), .con (.str "keep")]))) [.ret [] (.con (.bl false))] [], .ret [] (.or (.cmp .is (.idx (.var 0) (.con (.int 4))) (.con (.non))) (.and (.call 0 [.idx (.var 0) (.con (.int 4))]) (.cmp .eq (.get (.var 1) (.idx (.var 0) (.con (.int 4)))) (.idx (.var 0) (.con (.int 1))))))]⟩
def d_is_form : Df := ⟨"is_form", ["value", "earlier", "field"], 1, true, [.ite (.or (.not (.bi (.isi "tuple") (.var 0))) (.not (.chain (.con (.int 1)) (.bi .len (.var 0)) (.glob "FIELDS" (.int 4))))) [.ret [] (.con (.bl false))] [], .asgO [] 1 (.dct), .for [] (.nm 2) .seq [.var 0] [.ite (.not (.lend [1] (.call 3 [.var 2, .var 1]))) [.ret [] (.con (.bl false))] [], .setI 1 (.idx (.var 2) (.con (.int 0))) (.idx (.var 2) (.con (.int 1)))], .ret [] (.con (.bl true))]⟩
def d_need_form : Df := ⟨"need_form", ["value"], 1, true, [.ite (.not (.call 4 [.var 0])) [.stuck] []]⟩
def d_holds : Df := ⟨"holds", ["condition", "visible", "kind"], 2, true, [.asg [] 2 (.idx (.var 0) (.con (.int 0))), .ite (.cmp .eq (.var 2) (.con (.str "always"))) [.ret [] (.con (.bl true))] [], .ite (.cmp .eq (.var 2) (.con (.str "is"))) [.ret [] (.cmp .eq (.get (.var 1) (.idx (.var 0) (.con (.int 1)))) (.idx (.var 0) (.con (.int 2))))] [], .ite (.cmp .eq (.var 2) (.con (.str "not"))) [.ret [] (.not (.call 6 [.idx (.var 0) (.con (.int 1)), .var 1]))] [], .ite (.cmp .eq (.var 2) (.con (.str "and"))) [.ret [] (.and (.call 6 [.idx (.var 0) (.con (.int 1)), .var 1]) (.call 6 [.idx (.var 0) (.con (.int 2)), .var 1]))] [], .ret [] (.or (.call 6 [.idx (.var 0) (.con (.int 1)), .var 1]) (.call 6 [.idx (.var 0) (.con (.int 2)), .var 1]))]⟩
def d_refreshed : Df := ⟨"refreshed", ["form", "answers", "result", "visible", "field", "answer", "name", "choices", "condition", "policy", "source"], 2, true, [.par [2, 3] [.lst [], .dct] [true, true], .for [] (.tp [4, 5]) .zip [.var 0, .var 1] [.unp [] [6, 7, 8, 9, 10] (.var 4), .ite (.lend [3] (.call 6 [.var 8, .var 3])) [.setI 3 (.var 6) (.ite (.cmp .is (.var 5) (.con (.non))) (.get (.var 3) (.var 10)) (.var 5)), .app 2 (.idx (.var 3) (.var 6))] [.app 2 (.ite (.cmp .eq (.var 9) (.con (.str "clear"))) (.con (.non)) (.var 5))]], .ret [3] (.tup [.bi .tuple (.var 2), .var 3])]⟩
def d_visible_in : Df := ⟨"visible_in", ["form", "answers"], 2, false, [.ret [] (.idx (.call 7 [.var 0, .var 1]) (.con (.int 1)))]⟩
def d_collected : Df := ⟨"collected", ["form", "answers", "visible", "name"], 2, true, [.asg [] 2 (.call 8 [.var 0, .var 1]), .ret [] (.dc [3] (.nm 3) .keys [.var 2] [.cmp .isnot (.idx (.var 2) (.var 3)) (.con (.non))] (.var 3) (.idx (.var 2) (.var 3)))]⟩
def d_empty : Df := ⟨"empty", ["form"], 1, true, [.ret [] (.bin .mul (.tup [.con (.non)]) (.bi .len (.var 0)))]⟩
def d_place_of : Df := ⟨"place_of", ["form", "name", "found", "at", "field"], 2, false, [.asg [] 2 (.lc [3, 4] (.tp [3, 4]) .enum [.var 0] [.cmp .eq (.idx (.var 4) (.con (.int 0))) (.var 1)] (.var 3)), .ret [] (.ite (.cmp .ne (.var 2) (.lst [])) (.idx (.var 2) (.con (.int 0))) (.con (.non)))]⟩
def d_replaced : Df := ⟨"replaced", ["row", "at", "value"], 3, true, [.ret [] (.bin .add (.bin .add (.slt (.var 0) (.var 1)) (.tup [.var 2])) (.slf (.var 0) (.bin .add (.var 1) (.con (.int 1)))))]⟩
def d_stepped : Df := ⟨"stepped", ["form", "answers", "action", "at"], 3, false, [.asg [] 3 (.call 11 [.var 0, .idx (.var 2) (.con (.int 1))]), .ite (.cmp .notin (.idx (.var 2) (.con (.int 1))) (.call 8 [.var 0, .var 1])) [.ret [] (.var 1)] [], .ret [] (.idx (.call 7 [.var 0, .call 12 [.var 1, .var 3, .ite (.cmp .eq (.idx (.var 2) (.con (.int 0))) (.con (.str "choose"))) (.idx (.var 2) (.con (.int 2))) (.con (.non))]]) (.con (.int 0)))]⟩
def d_actions_of : Df := ⟨"actions_of", ["form", "found", "name", "choices", "condition", "policy", "source", "choice"], 1, true, [.asgO [] 1 (.lst []), .for [] (.tp [2, 3, 4, 5, 6]) .seq [.var 0] [.ext 1 (.bin .add (.lc [7] (.nm 7) .seq [.var 3] [] (.tup [.con (.str "choose"), .var 2, .var 7])) (.lst [.tup [.con (.str "clear"), .var 2]]))], .retO 1]⟩
def d_is_action : Df := ⟨"is_action", ["form", "value", "part"], 2, true, [.ite (.or (.not (.bi (.isi "tuple") (.var 1))) (.not (.bi .all (.lc [2] (.nm 2) .seq [.var 1] [] (.bi (.isi "str") (.var 2)))))) [.ret [] (.con (.bl false))] [], .ret [] (.cmp .isin (.var 1) (.call 14 [.var 0]))]⟩
def d_is_session : Df := ⟨"is_session", ["form", "value", "action"], 2, true, [.exp [] (.call 5 [.var 0]), .ret [] (.and (.bi (.isi "list") (.var 1)) (.and (.cmp .le (.bi .len (.var 1)) (.glob "ACTIONS" (.int 12))) (.bi .all (.lc [2] (.nm 2) .seq [.var 1] [] (.call 15 [.var 0, .var 2])))))]⟩
def d_need_session : Df := ⟨"need_session", ["form", "session"], 2, true, [.ite (.not (.call 16 [.var 0, .var 1])) [.stuck] []]⟩
def d_kept_choices : Df := ⟨"kept_choices", ["form", "answers", "choices", "action"], 4, false, [.ite (.cmp .notin (.idx (.var 3) (.con (.int 1))) (.call 8 [.var 0, .var 1])) [.ret [] (.var 2)] [], .ret [] (.call 12 [.var 2, .call 11 [.var 0, .idx (.var 3) (.con (.int 1))], .ite (.cmp .eq (.idx (.var 3) (.con (.int 0))) (.con (.str "choose"))) (.idx (.var 3) (.con (.int 2))) (.con (.non))])]⟩
def d_played : Df := ⟨"played", ["form", "session", "action", "answers", "choices"], 2, true, [.par [3, 4] [.call 10 [.var 0], .call 10 [.var 0]] [false, false], .for [] (.nm 2) .seq [.var 1] [.asg [] 4 (.call 18 [.var 0, .var 3, .var 4, .var 2]), .asg [] 3 (.call 13 [.var 0, .var 3, .var 2])], .ret [] (.tup [.var 3, .var 4])]⟩
def d_collect : Df := ⟨"collect", ["form", "session"], 2, true, [.exp [] (.call 17 [.var 0, .var 1]), .ret [] (.call 9 [.var 0, .idx (.call 19 [.var 0, .var 1]) (.con (.int 0))])]⟩
def d_shown : Df := ⟨"shown", ["form", "session"], 2, true, [.exp [] (.call 17 [.var 0, .var 1]), .ret [] (.bi .list (.call 8 [.var 0, .idx (.call 19 [.var 0, .var 1]) (.con (.int 0))]))]⟩
def d_last : Df := ⟨"last", ["form", "session", "choices", "field", "choice"], 2, true, [.exp [] (.call 17 [.var 0, .var 1]), .asg [] 2 (.idx (.call 19 [.var 0, .var 1]) (.con (.int 1))), .ret [] (.dc [3, 4] (.tp [3, 4]) .zip [.var 0, .var 2] [.cmp .isnot (.var 4) (.con (.non))] (.idx (.var 3) (.con (.int 0))) (.var 4))]⟩
def d_straight_for : Df := ⟨"straight_for", ["form", "choices", "session", "answers", "field", "choice", "action"], 2, true, [.par [2, 3] [.lst [], .call 10 [.var 0]] [true, false], .for [] (.tp [4, 5]) .zip [.var 0, .var 1] [.ite (.and (.cmp .isnot (.var 5) (.con (.non))) (.cmp .isin (.idx (.var 4) (.con (.int 0))) (.call 8 [.var 0, .var 3]))) [.asg [] 6 (.tup [.con (.str "choose"), .idx (.var 4) (.con (.int 0)), .var 5]), .app 2 (.var 6), .asg [] 3 (.call 13 [.var 0, .var 3, .var 6])] []], .ret [2] (.tup [.var 2, .var 3])]⟩
def d_straight : Df := ⟨"straight", ["form", "session"], 2, false, [.exp [] (.call 17 [.var 0, .var 1]), .ret [] (.idx (.call 23 [.var 0, .idx (.call 19 [.var 0, .var 1]) (.con (.int 1))]) (.con (.int 0)))]⟩
def d_law_draw : Df := ⟨"_law_draw", ["script", "town", "many", "at", "mixed", "one"], 3, false, [.ite (.cmp .gt (.idx (.var 1) (.con (.int 1))) (.con (.int 0))) [.asg [] 5 (.bin .mod (.idx (.var 1) (.con (.int 1))) (.var 2)), .setI 1 (.con (.int 1)) (.bin .fdiv (.idx (.var 1) (.con (.int 1))) (.var 2)), .ret [] (.var 5)] [], .asg [] 3 (.idx (.var 1) (.con (.int 0))), .augC 1 (.con (.int 0)) (.con (.int 1)), .ite (.cmp .eq (.var 0) (.lst [])) [.ret [] (.bin .mod (.var 3) (.var 2))] [], .ite (.and (.cmp .lt (.var 3) (.bi .len (.var 0))) (.cmp .ge (.idx (.var 0) (.var 3)) (.bin .pow (.con (.int 10)) (.con (.int 18))))) [.setI 1 (.con (.int 1)) (.bin .mod (.bin .fdiv (.idx (.var 0) (.var 3)) (.var 2)) (.bin .mul (.bin .pow (.con (.int 10)) (.con (.int 60))) (.bin .pow (.con (.int 10)) (.con (.int 60))))), .ret [] (.bin .mod (.idx (.var 0) (.var 3)) (.var 2))] [], .asg [] 4 (.bin .mod (.bin .add (.bin .add (.bin .mul (.idx (.var 0) (.bin .mod (.var 3) (.bi .len (.var 0)))) (.con (.int 1103515245))) (.bin .mul (.con (.int 7919)) (.var 3))) (.con (.int 12345))) (.con (.int 2147483647))), .ret [] (.bin .mod (.bin .mod (.bin .mod (.bin .pow (.var 4) (.con (.int 5))) (.con (.int 2147483647))) (.con (.int 999983))) (.var 2))]⟩
def d_law_pick : Df := ⟨"_law_pick", ["script", "town", "some"], 3, false, [.ret [] (.idx (.var 2) (.call 25 [.var 0, .var 1, .bi .len (.var 2)]))]⟩
def d_law_condition : Df := ⟨"_law_condition", ["script", "town", "earlier", "depth", "kind", "first", "name", "words"], 4, true, [.asg [] 4 (.call 26 [.var 0, .var 1, .lst [.con (.str "always"), .con (.str "is"), .con (.str "is"), .con (.str "is"), .con (.str "not"), .con (.str "and"), .con (.str "or")]]), .ite (.or (.cmp .eq (.var 2) (.lst [])) (.cmp .eq (.var 4) (.con (.str "always")))) [.ret [] (.tup [.con (.str "always")])] [], .ite (.or (.cmp .eq (.var 4) (.con (.str "is"))) (.cmp .eq (.var 3) (.con (.int 0)))) [.unp [] [6, 7] (.call 26 [.var 0, .var 1, .var 2]), .ret [] (.tup [.con (.str "is"), .var 6, .call 26 [.var 0, .var 1, .var 7]])] [], .asg [] 5 (.call 27 [.var 0, .var 1, .var 2, .bin .sub (.var 3) (.con (.int 1))]), .ite (.cmp .eq (.var 4) (.con (.str "not"))) [.ret [] (.tup [.var 4, .var 5])] [], .ret [] (.tup [.var 4, .var 5, .call 27 [.var 0, .var 1, .var 2, .bin .sub (.var 3) (.con (.int 1))]])]⟩
def d_law_form : Df := ⟨"_law_form", ["script", "town", "most", "name", "earlier", "made", "words", "condition", "sources", "policy", "source", "one", "other"], 3, true, [.par [4, 5] [.lst [], .lst []] [true, true], .for [] (.nm 3) .seq [.slt (.lst [.con (.str "a"), .con (.str "bc"), .con (.str "d"), .con (.str "e")]) (.bin .add (.con (.int 1)) (.call 25 [.var 0, .var 1, .var 2]))] [.asg [] 6 (.call 26 [.var 0, .var 1, .lst [.tup [.con (.str "x"), .con (.str "y")], .tup [.con (.str "x"), .con (.str "y")], .tup [.con (.str "x"), .con (.str "y"), .con (.str "z")], .tup [.con (.str "w")]]]), .asg [] 7 (.lend [4] (.call 27 [.var 0, .var 1, .var 4, .con (.int 2)])), .asg [] 8 (.bin .add (.lst [.con (.non)]) (.bin .mul (.lc [11, 12] (.tp [11, 12]) .seq [.var 4] [.cmp .eq (.var 12) (.var 6)] (.var 11)) (.con (.int 2)))), .par [9, 10] [.call 26 [.var 0, .var 1, .lst [.con (.str "keep"), .con (.str "clear")]], .call 26 [.var 0, .var 1, .var 8]] [false, false], .app 5 (.tup [.var 3, .var 6, .var 7, .var 9, .var 10]), .app 4 (.tup [.var 3, .var 6])], .ret [] (.bi .tuple (.var 5))]⟩
def d_law_moves : Df := ⟨"_law_moves", ["form", "moves", "field", "word"], 1, true, [.asgO [] 1 (.lst []), .for [] (.nm 2) .seq [.var 0] [.ext 1 (.bin .add (.lc [3] (.nm 3) .seq [.idx (.var 2) (.con (.int 1))] [] (.tup [.con (.str "choose"), .idx (.var 2) (.con (.int 0)), .var 3])) (.lst [.tup [.con (.str "clear"), .idx (.var 2) (.con (.int 0))]]))], .retO 1]⟩
def d_law_holds : Df := ⟨"_law_holds", ["condition", "seen", "parts", "one"], 2, true, [.ite (.cmp .eq (.idx (.var 0) (.con (.int 0))) (.con (.str "always"))) [.ret [] (.con (.bl true))] [], .ite (.cmp .eq (.idx (.var 0) (.con (.int 0))) (.con (.str "is"))) [.ret [] (.cmp .eq (.get (.var 1) (.idx (.var 0) (.con (.int 1)))) (.idx (.var 0) (.con (.int 2))))] [], .asg [] 2 (.lc [3] (.nm 3) .seq [.slf (.var 0) (.con (.int 1))] [] (.call 30 [.var 3, .var 1])), .ret [] (.ite (.cmp .eq (.idx (.var 0) (.con (.int 0))) (.con (.str "not"))) (.not (.idx (.var 2) (.con (.int 0)))) (.ite (.cmp .eq (.idx (.var 0) (.con (.int 0))) (.con (.str "and"))) (.bi .all (.var 2)) (.bi .any (.var 2))))]⟩
def d_law_seen : Df := ⟨"_law_seen", ["form", "answers", "seen", "field"], 2, true, [.asgO [] 2 (.dct), .for [] (.nm 3) .seq [.var 0] [.ite (.lend [2] (.call 30 [.idx (.var 3) (.con (.int 2)), .var 2])) [.setI 2 (.idx (.var 3) (.con (.int 0))) (.get (.var 1) (.idx (.var 3) (.con (.int 0))))] []], .retO 2]⟩
def d_law_done : Df := ⟨"_law_done", ["form", "answers", "action", "seen", "field", "name"], 3, true, [.asgO [] 1 (.bi .dict (.var 1)), .ite (.lend [1] (.cmp .notin (.idx (.var 2) (.con (.int 1))) (.call 31 [.var 0, .var 1]))) [.retO 1] [], .setI 1 (.idx (.var 2) (.con (.int 1))) (.ite (.cmp .eq (.idx (.var 2) (.con (.int 0))) (.con (.str "choose"))) (.idx (.var 2) (.con (.int 2))) (.con (.non))), .asgO [] 3 (.dct), .for [] (.nm 4) .seq [.var 0] [.asg [] 5 (.idx (.var 4) (.con (.int 0))), .ite (.lend [3] (.call 30 [.idx (.var 4) (.con (.int 2)), .var 3])) [.ite (.and (.cmp .is (.get (.var 1) (.var 5)) (.con (.non))) (.cmp .isnot (.idx (.var 4) (.con (.int 4))) (.con (.non)))) [.setI 1 (.var 5) (.get (.var 3) (.idx (.var 4) (.con (.int 4))))] [], .setI 3 (.var 5) (.get (.var 1) (.var 5))] [.ite (.cmp .eq (.idx (.var 4) (.con (.int 3))) (.con (.str "clear"))) [.setI 1 (.var 5) (.con (.non))] []]], .retO 1]⟩
def d_law_run : Df := ⟨"_law_run", ["form", "session", "action", "seen", "found", "answers", "chosen", "name"], 2, true, [.par [5, 6] [.dct, .dct] [false, true], .for [] (.nm 2) .seq [.var 1] [.ite (.cmp .isin (.idx (.var 2) (.con (.int 1))) (.call 31 [.var 0, .var 5])) [.setI 6 (.idx (.var 2) (.con (.int 1))) (.ite (.cmp .eq (.idx (.var 2) (.con (.int 0))) (.con (.str "choose"))) (.idx (.var 2) (.con (.int 2))) (.con (.non)))] [], .asg [] 5 (.call 32 [.var 0, .var 5, .var 2])], .asg [] 3 (.call 31 [.var 0, .var 5]), .asg [] 4 (.bi .dict (.lc [7] (.nm 7) .keys [.var 3] [.cmp .isnot (.idx (.var 3) (.var 7)) (.con (.non))] (.tup [.var 7, .idx (.var 3) (.var 7)]))), .ret [6] (.tup [.var 4, .bi .dict (.lc [7] (.nm 7) .keys [.var 6] [.cmp .isnot (.idx (.var 6) (.var 7)) (.con (.non))] (.tup [.var 7, .idx (.var 6) (.var 7)])), .bi .list (.var 3)])]⟩
def d_law_straight : Df := ⟨"_law_straight", ["form", "chosen", "session", "field"], 2, true, [.asgO [] 2 (.lst []), .for [] (.nm 3) .seq [.var 0] [.ite (.and (.cmp .isin (.idx (.var 3) (.con (.int 0))) (.var 1)) (.lend [2] (.cmp .isin (.idx (.var 3) (.con (.int 0))) (.idx (.call 33 [.var 0, .var 2]) (.con (.int 2)))))) [.app 2 (.tup [.con (.str "choose"), .idx (.var 3) (.con (.int 0)), .idx (.var 1) (.idx (.var 3) (.con (.int 0)))])] []], .retO 2]⟩
def d_law_is_bent : Df := ⟨"_law_is_bent", ["form", "session", "found", "chosen", "seen"], 2, true, [.unp [] [2, 3, 4] (.call 33 [.var 0, .var 1]), .ret [] (.cmp .ne (.var 2) (.idx (.call 33 [.var 0, .call 34 [.var 0, .var 3]]) (.con (.int 0))))]⟩
def d_law_sessions : Df := ⟨"_law_sessions", ["form", "most", "moves", "found", "newest", "longer", "session", "move"], 2, true, [.par [3, 4] [.lst [.lst []], .lst [.lst []]] [true, false], .asg [] 2 (.call 29 [.var 0]), .whl (.and (.cmp .lt (.bi .len (.idx (.var 4) (.con (.int 0)))) (.var 1)) (.cmp .lt (.bin .mul (.bi .len (.var 3)) (.bi .len (.var 2))) (.con (.int 700)))) [.asgO [] 5 (.lst []), .for [] (.nm 6) .seq [.var 4] [.ext 5 (.lc [7] (.nm 7) .seq [.var 2] [] (.bin .add (.var 6) (.lst [.var 7])))], .ext 3 (.var 5), .asg [5] 4 (.var 5)], .retO 3]⟩
def d_session_to : Df := ⟨"session_to", ["sources", "key", "session", "action"], 2, true, [.asgO [] 2 (.lst []), .whl (.cmp .isnot (.idx (.var 0) (.var 1)) (.con (.non))) [.unp [] [1, 3] (.idx (.var 0) (.var 1)), .app 2 (.var 3)], .ret [] (.rev (.var 2))]⟩
def d_unstable_of : Df := ⟨"unstable_of", ["form", "start", "sources", "level", "key", "action", "answers", "choices", "reached"], 1, true, [.asg [] 1 (.tup [.call 10 [.var 0], .call 10 [.var 0]]), .par [2, 3] [.ndc1 (.var 1) (.con (.non)), .lst [.var 1]] [true, true], .whl (.cmp .ne (.var 3) (.lst [])) [.pop0 4 3, .unp [] [6, 7] (.var 4), .ite (.cmp .ne (.call 9 [.var 0, .var 6]) (.call 9 [.var 0, .idx (.call 23 [.var 0, .var 7]) (.con (.int 1))])) [.ret [2] (.call 37 [.var 2, .var 4])] [], .for [] (.nm 5) .seq [.call 14 [.var 0]] [.asg [] 8 (.tup [.call 13 [.var 0, .var 6, .var 5], .call 18 [.var 0, .var 6, .var 7, .var 5]]), .ite (.cmp .notin (.var 8) (.var 2)) [.setI 2 (.var 8) (.tup [.var 4, .var 5]), .app 3 (.var 8)] []]], .ret [] (.con (.non))]⟩
def d_unstable : Df := ⟨"unstable", ["form"], 1, true, [.exp [] (.call 5 [.var 0]), .ret [] (.call 38 [.var 0])]⟩
def d_plain_at : Df := ⟨"plain_at", ["form", "places", "at", "field"], 2, true, [.ret [] (.bi .tuple (.lc [2, 3] (.tp [2, 3]) .enum [.var 0] [] (.ite (.cmp .isin (.var 2) (.var 1)) (.bin .add (.slt (.var 3) (.con (.int 3))) (.tup [.con (.str "keep"), .con (.non)])) (.var 3))))]⟩
def d_choices_of : Df := ⟨"choices_of", ["places", "size", "found", "index", "first", "rest"], 2, true, [.ite (.cmp .eq (.var 1) (.con (.int 0))) [.ret [] (.lst [.lst []])] [], .asgO [] 2 (.lst []), .for [] (.tp [3, 4]) .enum [.var 0] [.ext 2 (.lc [5] (.nm 5) .seq [.call 41 [.slf (.var 0) (.bin .add (.var 3) (.con (.int 1))), .bin .sub (.var 1) (.con (.int 1))]] [] (.bin .add (.lst [.var 4]) (.var 5)))], .retO 2]⟩
def d_repair : Df := ⟨"repair", ["form", "places", "size", "some", "at", "field"], 1, true, [.exp [] (.call 5 [.var 0]), .asg [] 1 (.lc [4, 5] (.tp [4, 5]) .enum [.var 0] [.cmp .ne (.slf (.var 5) (.con (.int 3))) (.tup [.con (.str "keep"), .con (.non)])] (.var 4)), .for [] (.nm 2) .range [.bin .add (.bi .len (.var 1)) (.con (.int 1))] [.for [] (.nm 3) .seq [.call 41 [.var 1, .var 2]] [.ite (.cmp .is (.call 38 [.call 40 [.var 0, .var 3]]) (.con (.non))) [.ret [] (.lc [4] (.nm 4) .seq [.var 3] [] (.idx (.idx (.var 0) (.var 4)) (.con (.int 0))))] []]], .ret [] (.lst [])]⟩
def d_alike : Df := ⟨"alike", ["form", "other", "field"], 2, true, [.exp [] (.call 5 [.var 0]), .exp [] (.call 5 [.var 1]), .ret [] (.cmp .eq (.lc [2] (.nm 2) .seq [.var 0] [] (.slt (.var 2) (.con (.int 2)))) (.lc [2] (.nm 2) .seq [.var 1] [] (.slt (.var 2) (.con (.int 2)))))]⟩
def d_difference : Df := ⟨"difference", ["form", "other", "start", "sources", "level", "key", "action", "reached"], 2, true, [.ite (.not (.call 43 [.var 0, .var 1])) [.stuck] [], .asg [] 2 (.tup [.call 10 [.var 0], .call 10 [.var 1]]), .par [3, 4] [.ndc1 (.var 2) (.con (.non)), .lst [.var 2]] [true, true], .whl (.cmp .ne (.var 4) (.lst [])) [.pop0 5 4, .ite (.cmp .ne (.call 9 [.var 0, .idx (.var 5) (.con (.int 0))]) (.call 9 [.var 1, .idx (.var 5) (.con (.int 1))])) [.ret [3] (.call 37 [.var 3, .var 5])] [], .for [] (.nm 6) .seq [.call 14 [.var 0]] [.asg [] 7 (.tup [.call 13 [.var 0, .idx (.var 5) (.con (.int 0)), .var 6], .call 13 [.var 1, .idx (.var 5) (.con (.int 1)), .var 6]]), .ite (.cmp .notin (.var 7) (.var 3)) [.setI 3 (.var 7) (.tup [.var 5, .var 6]), .app 4 (.var 7)] []]], .ret [] (.con (.non))]⟩
def d_is_collection : Df := ⟨"is_collection", ["form", "value", "known", "field", "name"], 2, true, [.ite (.or (.not (.bi (.isi "dict") (.var 1))) (.not (.bi .all (.lc [4] (.nm 4) .keys [.var 1] [] (.bi (.isi "str") (.var 4)))))) [.ret [] (.con (.bl false))] [], .asg [] 2 (.dc [3] (.nm 3) .seq [.var 0] [] (.idx (.var 3) (.con (.int 0))) (.idx (.var 3) (.con (.int 1)))), .ret [] (.bi .all (.lc [4] (.nm 4) .keys [.var 1] [] (.and (.bi (.isi "str") (.idx (.var 1) (.var 4))) (.cmp .isin (.idx (.var 1) (.var 4)) (.getd (.var 2) (.var 4) (.tup []))))))]⟩
def d_sources_of : Df := ⟨"sources_of", ["form", "start", "sources", "level", "answers", "action", "reached"], 1, true, [.asg [] 1 (.call 10 [.var 0]), .par [2, 3] [.ndc1 (.var 1) (.con (.non)), .lst [.var 1]] [true, true], .whl (.cmp .ne (.var 3) (.lst [])) [.pop0 4 3, .for [] (.nm 5) .seq [.call 14 [.var 0]] [.asg [] 6 (.call 13 [.var 0, .var 4, .var 5]), .ite (.cmp .notin (.var 6) (.var 2)) [.setI 2 (.var 6) (.tup [.var 4, .var 5]), .app 3 (.var 6)] []]], .retO 2]⟩
def d_showing : Df := ⟨"showing", ["form", "name", "sources", "answers"], 2, true, [.exp [] (.call 5 [.var 0]), .ite (.or (.not (.bi (.isi "str") (.var 1))) (.cmp .is (.call 11 [.var 0, .var 1]) (.con (.non)))) [.stuck] [], .asg [] 2 (.call 46 [.var 0]), .for [] (.nm 3) .nkeys [.var 2] [.ite (.cmp .isin (.var 1) (.call 8 [.var 0, .var 3])) [.ret [] (.call 37 [.var 2, .var 3])] []], .ret [] (.con (.non))]⟩
def d_reaching : Df := ⟨"reaching", ["form", "collection", "sources", "answers"], 2, true, [.exp [] (.call 5 [.var 0]), .ite (.not (.call 45 [.var 0, .var 1])) [.stuck] [], .asg [] 2 (.call 46 [.var 0]), .for [] (.nm 3) .nkeys [.var 2] [.ite (.cmp .eq (.call 9 [.var 0, .var 3]) (.var 1)) [.ret [] (.call 37 [.var 2, .var 3])] []], .ret [] (.con (.non))]⟩
end FG

namespace FG
open PySem PySem.Spec PyProof.Rows L2
/-! ### typed data -/
inductive Cnd where
  | alw | is (n w : Str) | not (c : Cnd) | and (a b : Cnd) | or (a b : Cnd)
def Cnd.d : Cnd → D
  | .alw => .tup [.str "always"]
  | .is n w => .tup [.str "is", .str n, .str w]
  | .not c => .tup [.str "not", c.d]
  | .and a b => .tup [.str "and", a.d, b.d]
  | .or a b => .tup [.str "or", a.d, b.d]
def Cnd.dep : Cnd → Nat
  | .alw => 0
  | .is _ _ => 0
  | .not c => c.dep + 1
  | .and a b => max a.dep b.dep + 1
  | .or a b => max a.dep b.dep + 1
def oD : Option Str → D
  | none => .non
  | some x => .str x
structure Fld where
  name : Str
  words : List Str
  cond : Cnd
  clr : Bool
  src : Option Str
def Fld.d (f : Fld) : D := .tup [.str f.name, .tup (f.words.map .str), f.cond.d, .str (if f.clr then "clear" else "keep"), oD f.src]
def formD (fs : List Fld) : D := .tup (fs.map Fld.d)
abbrev Dic := List (Str × Option Str)
def dD (l : Dic) : D := .dct (l.map fun p => .text p.1) (l.map fun p => oD p.2)
def dget (l : Dic) (k : Str) : Option Str := (l.lookup k).join
def dput (l : Dic) (k : Str) (v : Option Str) : Dic := if k ∈ l.map (·.1) then l.map fun p => if p.1 = k then (p.1, v) else p else l ++ [(k, v)]
def holdsM : Cnd → Dic → Bool
  | .alw, _ => true
  | .is n w, l => decide (dget l n = some w)
  | .not c, l => !holdsM c l
  | .and a b, l => holdsM a l && holdsM b l
  | .or a b, l => holdsM a l || holdsM b l
/-! ### calls -/
def fin : Option Fl → Option (D × Sto)
  | some (.rt d S) => some (d, S)
  | some (.nx _ S) => some (.non, S)
  | _ => none
theorem callK_eq {fs : List Df} {F k f : Nat} {df : Df} {ds : List D} {S : Sto} (h : fs[f]? = some df) (hl : ds.length = df.ar) : callK fs F (k + 1) f ds S = fin (execs (callK fs F k) F df.body (startE df.N.length ds) S) := by
  simp only [callK, h, hl, if_true]
  cases execs (callK fs F k) F df.body (startE df.N.length ds) S with
  | none => rfl
  | some fl => cases fl <;> rfl
/-! ### operations over typed data -/
theorem eq_str (a b : Str) : eqF (.str a) (.str b) = some (decide (a = b)) := by
  simp only [eqF, scalD, Bool.true_or, if_true, Option.some.injEq]
  show PyData.eqv (.str a) (.str b) = _
  rw [Bool.eq_iff_iff]
  simp [PyData.eqv]
theorem eq_oD (a : Option Str) (b : Str) : eqF (oD a) (.str b) = some (decide (a = some b)) := by
  cases a with
  | none => rfl
  | some x => simp [oD, eq_str]
theorem look_dD : ∀ (l : Dic) (k : Str), dLook (l.map fun p => .text p.1) (l.map fun p => oD p.2) (.text k) = (l.lookup k).map oD
  | [], k => rfl
  | p :: l, k => by
    simp only [List.map_cons, dLook, NestedKey.text.injEq]
    by_cases h : p.1 = k
    · subst h
      obtain ⟨a, b⟩ := p
      simp [List.lookup]
    · obtain ⟨a, b⟩ := p
      have h' : (k == a) = false := by simpa using fun z : k = a => h z.symm
      rw [if_neg h, look_dD l k]
      simp [List.lookup, h']
theorem get_dD (l : Dic) (k : Str) : getF (dD l) (.str k) .non = some (oD (dget l k)) := by
  simp only [getF, dD, look_dD, dget]
  cases l.lookup k with
  | none => rfl
  | some v => cases v <;> rfl
theorem get_dDo (l : Dic) (k : Option Str) : getF (dD l) (oD k) .non = some (oD (k.bind (dget l))) := by
  cases k with
  | none => rfl
  | some k => exact get_dD l k
end FG

namespace FG
open PySem PySem.Spec PyProof.Rows L2
theorem fnx (e : En) (S : Sto) : fin (some (.nx e S)) = some (.non, S) := rfl
theorem frt (d : D) (S : Sto) : fin (some (.rt d S)) = some (d, S) := rfl
theorem atI_nat {α : Type} (xs : List α) (n : Nat) : atI xs (n : Int) = xs[n]? := by
  unfold atI ixN
  rw [if_pos (Int.natCast_nonneg n)]
  by_cases h : n < xs.length
  · rw [if_pos (by omega)]
    rfl
  · rw [if_neg (by omega), List.getElem?_eq_none (by omega)]
    rfl
theorem idxT (S : Sto) (ds : List D) (n : Nat) : idxS S (.tup ds) (.int (n : Int)) = ds[n]? := atI_nat ds n
theorem idxL (S : Sto) (ds : List D) (n : Nat) : idxS S (.lst ds) (.int (n : Int)) = ds[n]? := atI_nat ds n
theorem idx0 (S : Sto) (a : D) (ds : List D) : idxS S (.tup (a :: ds)) (.int 0) = some a := idxT S (a :: ds) 0
theorem idx1 (S : Sto) (a b : D) (ds : List D) : idxS S (.tup (a :: b :: ds)) (.int 1) = some b := idxT S (a :: b :: ds) 1
theorem idx2 (S : Sto) (a b c : D) (ds : List D) : idxS S (.tup (a :: b :: c :: ds)) (.int 2) = some c := idxT S (a :: b :: c :: ds) 2
theorem idx3 (S : Sto) (a b c d : D) (ds : List D) : idxS S (.tup (a :: b :: c :: d :: ds)) (.int 3) = some d := idxT S (a :: b :: c :: d :: ds) 3
theorem idx4 (S : Sto) (a b c d e : D) (ds : List D) : idxS S (.tup (a :: b :: c :: d :: e :: ds)) (.int 4) = some e := idxT S (a :: b :: c :: d :: e :: ds) 4
theorem idxl0 (S : Sto) (a : D) (ds : List D) : idxS S (.lst (a :: ds)) (.int 0) = some a := idxL S (a :: ds) 0
theorem idxl1 (S : Sto) (a b : D) (ds : List D) : idxS S (.lst (a :: b :: ds)) (.int 1) = some b := idxL S (a :: b :: ds) 1
theorem idxl2 (S : Sto) (a b c : D) (ds : List D) : idxS S (.lst (a :: b :: c :: ds)) (.int 2) = some c := idxL S (a :: b :: c :: ds) 2
theorem sdec {a b : Str} (h : a ≠ b) : decide (a = b) = false := decide_eq_false h
section
variable {fs : List Df} {F k : Nat} {S : Sto}
theorem e_holds (h : fs[6]? = some d_holds) : ∀ (c : Cnd) (l : Dic) (k : Nat), c.dep ≤ k → callK fs F (k + 1) 6 [c.d, dD l] S = some (.bl (holdsM c l), S)
  | .alw, l, k, _ => by
    rw [callK_eq h rfl]
    simp only [startE, List.map, List.length, List.replicate, execs, exec, ev, evs, evcs, evts, unown, unown1, List.foldl, peek, getO, getE, idx0, idx1, idx2, idx3, idx4, idxl0, idxl1, idxl2, List.cons_append, List.nil_append, List.append_nil, Option.map_some, Option.bind_some, Option.map_none, Option.bind_none, cmpF, eq_str, List.getElem?_cons_zero, List.getElem?_cons_succ, List.set_cons_zero, List.set_cons_succ, Nat.reduceSub, Nat.reduceAdd, decide_true, decide_false, fnx, frt, bindT, d_holds, Cnd.d, holdsM]
  | .is n w, l, k, _ => by
    rw [callK_eq h rfl]
    simp only [startE, List.map, List.length, List.replicate, execs, exec, ev, evs, evcs, evts, unown, unown1, List.foldl, peek, getO, getE, idx0, idx1, idx2, idx3, idx4, idxl0, idxl1, idxl2, List.cons_append, List.nil_append, List.append_nil, Option.map_some, Option.bind_some, Option.map_none, Option.bind_none, cmpF, eq_str, List.getElem?_cons_zero, List.getElem?_cons_succ, List.set_cons_zero, List.set_cons_succ, Nat.reduceSub, Nat.reduceAdd, decide_true, decide_false, fnx, frt, bindT, d_holds, Cnd.d, holdsM, get_dD, eq_oD, sdec (show ("is" : Str) ≠ "always" by decide)]
  | .not c, l, k + 1, hk => by
    rw [callK_eq h rfl]
    have ih := e_holds h c l k (by simp [Cnd.dep] at hk; omega)
    simp only [startE, List.map, List.length, List.replicate, execs, exec, ev, evs, evcs, evts, unown, unown1, List.foldl, peek, getO, getE, idx0, idx1, idx2, idx3, idx4, idxl0, idxl1, idxl2, List.cons_append, List.nil_append, List.append_nil, Option.map_some, Option.bind_some, Option.map_none, Option.bind_none, cmpF, eq_str, List.getElem?_cons_zero, List.getElem?_cons_succ, List.set_cons_zero, List.set_cons_succ, Nat.reduceSub, Nat.reduceAdd, decide_true, decide_false, fnx, frt, bindT, d_holds, Cnd.d, holdsM, ih, sdec (show ("not" : Str) ≠ "always" by decide), sdec (show ("not" : Str) ≠ "is" by decide)]
  | .and a b, l, k + 1, hk => by
    rw [callK_eq h rfl]
    have ia := e_holds h a l k (by simp [Cnd.dep] at hk; omega)
    have ib := e_holds h b l k (by simp [Cnd.dep] at hk; omega)
    simp only [startE, List.map, List.length, List.replicate, execs, exec, ev, evs, evcs, evts, unown, unown1, List.foldl, peek, getO, getE, idx0, idx1, idx2, idx3, idx4, idxl0, idxl1, idxl2, List.cons_append, List.nil_append, List.append_nil, Option.map_some, Option.bind_some, Option.map_none, Option.bind_none, cmpF, eq_str, List.getElem?_cons_zero, List.getElem?_cons_succ, List.set_cons_zero, List.set_cons_succ, Nat.reduceSub, Nat.reduceAdd, decide_true, decide_false, fnx, frt, bindT, d_holds, Cnd.d, holdsM, ia, ib, sdec (show ("and" : Str) ≠ "always" by decide), sdec (show ("and" : Str) ≠ "is" by decide), sdec (show ("and" : Str) ≠ "not" by decide)]
    cases holdsM a l <;> rfl
  | .or a b, l, k + 1, hk => by
    rw [callK_eq h rfl]
    have ia := e_holds h a l k (by simp [Cnd.dep] at hk; omega)
    have ib := e_holds h b l k (by simp [Cnd.dep] at hk; omega)
    simp only [startE, List.map, List.length, List.replicate, execs, exec, ev, evs, evcs, evts, unown, unown1, List.foldl, peek, getO, getE, idx0, idx1, idx2, idx3, idx4, idxl0, idxl1, idxl2, List.cons_append, List.nil_append, List.append_nil, Option.map_some, Option.bind_some, Option.map_none, Option.bind_none, cmpF, eq_str, List.getElem?_cons_zero, List.getElem?_cons_succ, List.set_cons_zero, List.set_cons_succ, Nat.reduceSub, Nat.reduceAdd, decide_true, decide_false, fnx, frt, bindT, d_holds, Cnd.d, holdsM, ia, ib, sdec (show ("or" : Str) ≠ "always" by decide), sdec (show ("or" : Str) ≠ "is" by decide), sdec (show ("or" : Str) ≠ "not" by decide), sdec (show ("or" : Str) ≠ "and" by decide)]
    cases holdsM a l <;> rfl
  | .not c, l, 0, hk => by simp [Cnd.dep] at hk
  | .and a b, l, 0, hk => by simp [Cnd.dep] at hk
  | .or a b, l, 0, hk => by simp [Cnd.dep] at hk
end
end FG

namespace FG
open PySem PySem.Spec PyProof.Rows L2
theorem is_oD (a : Option Str) : isF (oD a) .non = some a.isNone := by cases a <;> rfl
theorem lookup_app (l : Dic) (k : Str) (v : Option Str) (h : k ∉ l.map (·.1)) : (l ++ [(k, v)]).lookup k = some v := by
  induction l with
  | nil => simp [List.lookup]
  | cons p l ih =>
    obtain ⟨a, b⟩ := p
    simp only [List.map_cons, List.mem_cons, not_or] at h
    have h' : (k == a) = false := by simpa using h.1
    simp only [List.cons_append, List.lookup, h']
    exact ih h.2
theorem lookup_map (l : Dic) (k : Str) (v : Option Str) (h : k ∈ l.map (·.1)) : (l.map fun p => if p.1 = k then (p.1, v) else p).lookup k = some v := by
  induction l with
  | nil => simp at h
  | cons p l ih =>
    obtain ⟨a, b⟩ := p
    by_cases hk : a = k
    · simp [List.lookup, hk]
    · have h' : (k == a) = false := by simpa using fun z : k = a => hk z.symm
      simp only [List.map_cons, List.mem_cons] at h
      simp only [List.map_cons, hk, if_false, List.lookup, h']
      exact ih (h.resolve_left fun z => hk z.symm)
theorem lookup_dput (l : Dic) (k : Str) (v : Option Str) : (dput l k v).lookup k = some v := by
  unfold dput
  split
  · rename_i h
    exact lookup_map l k v h
  · rename_i h
    exact lookup_app l k v h
theorem dSet_dD (l : Dic) (k : Str) (v : Option Str) : dSet (l.map fun p => .text p.1) (l.map fun p => oD p.2) (.text k) (oD v) = l.map fun p => if p.1 = k then oD v else oD p.2 := by
  induction l with
  | nil => rfl
  | cons q l ih => simp [dSet, ih]
theorem dPut_dD (l : Dic) (k : Str) (v : Option Str) : dPut (l.map fun p => .text p.1) (l.map fun p => oD p.2) (.text k) (oD v) = ((dput l k v).map (fun p => NestedKey.text p.1), (dput l k v).map fun p => oD p.2) := by
  have hm : NestedKey.text k ∈ l.map (fun p => NestedKey.text p.1) ↔ k ∈ l.map (·.1) := by simp
  unfold dPut dput
  by_cases h : k ∈ l.map (·.1)
  · rw [if_pos (hm.mpr h), if_pos h, dSet_dD, List.map_map, List.map_map]
    refine Prod.ext ?_ ?_
    · refine List.map_congr_left fun p _ => ?_
      simp only [Function.comp]
      split <;> rfl
    · refine List.map_congr_left fun p _ => ?_
      simp only [Function.comp]
      split <;> rfl
  · rw [if_neg (fun z => h (hm.mp z)), if_neg h]
    simp
theorem dput_len (l : Dic) (k : Str) (v : Option Str) : (dput l k v).length ≤ l.length + 1 := by
  unfold dput
  split <;> simp
theorem set_dD (l : Dic) (k : Str) (v : Option Str) (h : l.length < big) : setF (dD l) (.str k) (oD v) = some (dD (dput l k v)) := by
  simp only [setF, dD, List.length_map, h, if_true, dPut_dD]
theorem idx_dD (S : Sto) (l : Dic) (k : Str) : idxS S (dD l) (.str k) = (l.lookup k).map oD := look_dD l k
theorem in_dD (l : Dic) (k : Str) : inF (.str k) (dD l) = some (l.lookup k).isSome := by
  simp only [inF, dD, txtKey, Option.map_some, look_dD]
  cases l.lookup k <;> rfl
/-! ### refreshed -/
def ansD (as : List (Option Str)) : D := .tup (as.map oD)
def valM (f : Fld) (a : Option Str) (vis : Dic) : Option Str := match a with
  | none => f.src.bind (dget vis)
  | some x => some x
def refM : List Fld → List (Option Str) → List (Option Str) → Dic → List (Option Str) × Dic
  | f :: fs, a :: as, res, vis => if holdsM f.cond vis then refM fs as (res ++ [valM f a vis]) (dput vis f.name (valM f a vis)) else refM fs as (res ++ [if f.clr then none else a]) vis
  | _, _, res, vis => (res, vis)
theorem refM_cons (f : Fld) (fm : List Fld) (a : Option Str) (as res : List (Option Str)) (vis : Dic) : refM (f :: fm) (a :: as) res vis = refM fm as (res ++ [if holdsM f.cond vis then valM f a vis else if f.clr then none else a]) (if holdsM f.cond vis then dput vis f.name (valM f a vis) else vis) := by
  rw [refM]
  cases holdsM f.cond vis <;> rfl
def loopOf : List S → List S
  | .for _ _ _ _ b :: _ => b
  | _ :: ss => loopOf ss
  | [] => []
theorem pol_eq (f : Fld) : decide ((if f.clr then ("clear" : Str) else "keep") = "clear") = f.clr := by
  cases f.clr <;> decide
theorem fD_ite (b : Bool) (x : Option Str) : (if b then some (D.non, S) else some (oD x, S)) = some (oD (if b then none else x), S) := by cases b <;> rfl
section
variable {fs : List Df} {F k : Nat} {S : Sto}
theorem execs_nx {c : Calls} {s : FG.S} {ss : List FG.S} {env env' : En} {S S' : Sto} (h : exec c F s env S = some (.nx env' S')) : execs c F (s :: ss) env S = execs c F ss env' S' := by
  simp only [execs, h, Option.bind_some]
theorem execs_rt {c : Calls} {s : FG.S} {ss : List FG.S} {env : En} {S S' : Sto} {d : D} (h : exec c F s env S = some (.rt d S')) : execs c F (s :: ss) env S = some (.rt d S') := by
  simp only [execs, h, Option.bind_some]
theorem exec_for {c : Calls} {fz : List Nat} {tg : Tg} {ik : IK} {its : List E} {body : List FG.S} {env : En} {S S1 : Sto} {ds items : List D} {fl : Fl} (h1 : evs c its (unown env fz) S = some (ds, S1)) (h2 : itemsF ik ds = some items)
    (h3 : forGo (bindT tg) (fun e S => execs c F body e S) items (unown env fz) S1 = some fl) : exec c F (.for fz tg ik its body) env S = some fl := by
  simp only [exec, h1, h2, h3, Option.bind_some]
theorem ref_step (h : fs[6]? = some d_holds) (x0 x1 : Option Ent) (f : Fld) (a : Option Str) (res : List (Option Str)) (vis : Dic) (a6 a7 a8 a9 a10 : Option Ent) (hd : f.cond.dep ≤ k) (hr : res.length < big) (hv : vis.length < big) :
    ∃ b4 b5 b6 b7 b8 b9 b10, execs (callK fs F (k + 1)) F (loopOf d_refreshed.body) [x0, x1, some (.ow (.lst (res.map oD))), some (.ow (dD vis)), some (.sh f.d), some (.sh (oD a)), a6, a7, a8, a9, a10] S =
      some (.nx [x0, x1, some (.ow (.lst ((res ++ [if holdsM f.cond vis then valM f a vis else if f.clr then none else a]).map oD))), some (.ow (dD (if holdsM f.cond vis then dput vis f.name (valM f a vis) else vis))), b4, b5, b6, b7, b8, b9, b10] S) := by
  have hh := e_holds (F := F) (S := S) h f.cond vis k hd
  have hrl : (res.map oD).length < big := by simpa using hr
  cases hb : holdsM f.cond vis with
  | true =>
    rw [hb] at hh
    have hset := set_dD vis f.name (valM f a vis) hv
    have hix : ∀ S, idxS S (dD (dput vis f.name (valM f a vis))) (.str f.name) = some (oD (valM f a vis)) := fun S => by rw [idx_dD, lookup_dput]; rfl
    cases a with
    | none =>
      have hset' : setF (dD vis) (.str f.name) (oD (f.src.bind (dget vis))) = some (dD (dput vis f.name (valM f none vis))) := hset
      simp only [startE, List.map, List.length, List.replicate, execs, exec, ev, evs, evcs, evts, unown, unown1, List.foldl, peek, getO, getE, idx0, idx1, idx2, idx3, idx4, idxl0, idxl1, idxl2, List.cons_append, List.nil_append, List.append_nil, Option.map_some, Option.bind_some, Option.map_none, Option.bind_none, cmpF, eq_str, List.getElem?_cons_zero, List.getElem?_cons_succ, List.set_cons_zero, List.set_cons_succ, Nat.reduceSub, Nat.reduceAdd, decide_true, decide_false, fnx, frt, bindT, loopOf, d_refreshed, Fld.d, List.zip_cons_cons, List.zip_nil_right, hh, imm, is_oD, get_dDo, if_true, Option.isNone_none, hset', hix, hrl]
      exact ⟨_, _, _, _, _, _, _, by rw [List.map_append]; rfl⟩
    | some x =>
      simp only [startE, List.map, List.length, List.replicate, execs, exec, ev, evs, evcs, evts, unown, unown1, List.foldl, peek, getO, getE, idx0, idx1, idx2, idx3, idx4, idxl0, idxl1, idxl2, List.cons_append, List.nil_append, List.append_nil, Option.map_some, Option.bind_some, Option.map_none, Option.bind_none, cmpF, eq_str, List.getElem?_cons_zero, List.getElem?_cons_succ, List.set_cons_zero, List.set_cons_succ, Nat.reduceSub, Nat.reduceAdd, decide_true, decide_false, fnx, frt, bindT, loopOf, d_refreshed, Fld.d, List.zip_cons_cons, List.zip_nil_right, hh, imm, is_oD, get_dDo, if_true, Option.isNone_some]
      have hset' : setF (dD vis) (.str f.name) (oD (some x)) = some (dD (dput vis f.name (valM f (some x) vis))) := hset
      simp only [startE, List.map, List.length, List.replicate, execs, exec, ev, evs, evcs, evts, unown, unown1, List.foldl, peek, getO, getE, idx0, idx1, idx2, idx3, idx4, idxl0, idxl1, idxl2, List.cons_append, List.nil_append, List.append_nil, Option.map_some, Option.bind_some, Option.map_none, Option.bind_none, cmpF, eq_str, List.getElem?_cons_zero, List.getElem?_cons_succ, List.set_cons_zero, List.set_cons_succ, Nat.reduceSub, Nat.reduceAdd, decide_true, decide_false, fnx, frt, bindT, hset', hix, hrl, if_true]
      exact ⟨_, _, _, _, _, _, _, by rw [List.map_append]; rfl⟩
  | false =>
    rw [hb] at hh
    simp only [startE, List.map, List.length, List.replicate, execs, exec, ev, evs, evcs, evts, unown, unown1, List.foldl, peek, getO, getE, idx0, idx1, idx2, idx3, idx4, idxl0, idxl1, idxl2, List.cons_append, List.nil_append, List.append_nil, Option.map_some, Option.bind_some, Option.map_none, Option.bind_none, cmpF, eq_str, List.getElem?_cons_zero, List.getElem?_cons_succ, List.set_cons_zero, List.set_cons_succ, Nat.reduceSub, Nat.reduceAdd, decide_true, decide_false, fnx, frt, bindT, loopOf, d_refreshed, Fld.d, List.zip_cons_cons, List.zip_nil_right, hh, imm, if_true, pol_eq]
    cases f.clr with
    | true =>
      simp only [startE, List.map, List.length, List.replicate, execs, exec, ev, evs, evcs, evts, unown, unown1, List.foldl, peek, getO, getE, idx0, idx1, idx2, idx3, idx4, idxl0, idxl1, idxl2, List.cons_append, List.nil_append, List.append_nil, Option.map_some, Option.bind_some, Option.map_none, Option.bind_none, cmpF, eq_str, List.getElem?_cons_zero, List.getElem?_cons_succ, List.set_cons_zero, List.set_cons_succ, Nat.reduceSub, Nat.reduceAdd, decide_true, decide_false, fnx, frt, bindT, hrl, if_true]
      exact ⟨_, _, _, _, _, _, _, by rw [List.map_append]; rfl⟩
    | false =>
      simp only [startE, List.map, List.length, List.replicate, execs, exec, ev, evs, evcs, evts, unown, unown1, List.foldl, peek, getO, getE, idx0, idx1, idx2, idx3, idx4, idxl0, idxl1, idxl2, List.cons_append, List.nil_append, List.append_nil, Option.map_some, Option.bind_some, Option.map_none, Option.bind_none, cmpF, eq_str, List.getElem?_cons_zero, List.getElem?_cons_succ, List.set_cons_zero, List.set_cons_succ, Nat.reduceSub, Nat.reduceAdd, decide_true, decide_false, fnx, frt, bindT, hrl, if_true]
      exact ⟨_, _, _, _, _, _, _, by rw [List.map_append]; rfl⟩
theorem ref_loop (h : fs[6]? = some d_holds) (x0 x1 : Option Ent) : ∀ (fm : List Fld) (as res : List (Option Str)) (vis : Dic) (a4 a5 a6 a7 a8 a9 a10 : Option Ent), (∀ f ∈ fm, f.cond.dep ≤ k) → fm.length + res.length < big → fm.length + vis.length < big →
    ∃ b4 b5 b6 b7 b8 b9 b10, forGo (bindT (.tp [4, 5])) (fun e S => execs (callK fs F (k + 1)) F (loopOf d_refreshed.body) e S) (List.zipWith (fun x y => .tup [x, y]) (fm.map Fld.d) (as.map oD)) [x0, x1, some (.ow (.lst (res.map oD))), some (.ow (dD vis)), a4, a5, a6, a7, a8, a9, a10] S =
      some (.nx [x0, x1, some (.ow (.lst ((refM fm as res vis).1.map oD))), some (.ow (dD (refM fm as res vis).2)), b4, b5, b6, b7, b8, b9, b10] S) := by
  intro fm
  induction fm with
  | nil => intro as res vis a4 a5 a6 a7 a8 a9 a10 _ _ _; exact ⟨a4, a5, a6, a7, a8, a9, a10, by simp [forGo, refM]⟩
  | cons f fm ih =>
    intro as res vis a4 a5 a6 a7 a8 a9 a10 hd hr hv
    cases as with
    | nil => exact ⟨a4, a5, a6, a7, a8, a9, a10, by simp [forGo, refM]⟩
    | cons a as =>
      simp only [List.length_cons] at hr hv
      obtain ⟨b4, b5, b6, b7, b8, b9, b10, hs⟩ := ref_step (F := F) (S := S) h x0 x1 f a res vis a6 a7 a8 a9 a10 (hd f List.mem_cons_self) (by omega) (by omega)
      have hvl : (if holdsM f.cond vis then dput vis f.name (valM f a vis) else vis).length ≤ vis.length + 1 := by
        split
        · exact dput_len _ _ _
        · omega
      obtain ⟨c4, c5, c6, c7, c8, c9, c10, hs2⟩ := ih as (res ++ [if holdsM f.cond vis then valM f a vis else if f.clr then none else a]) (if holdsM f.cond vis then dput vis f.name (valM f a vis) else vis) b4 b5 b6 b7 b8 b9 b10 (fun g m => hd g (List.mem_cons_of_mem _ m)) (by simp; omega) (by omega)
      refine ⟨c4, c5, c6, c7, c8, c9, c10, ?_⟩
      simp only [List.map_cons, List.zipWith_cons_cons, forGo, bindT, List.length_cons, List.length_nil, if_true, List.zip_cons_cons, List.zip_nil_right, List.foldl, List.set_cons_zero, List.set_cons_succ, Option.bind_some, hs]
      rw [hs2, refM_cons]
theorem e_refreshed (h : fs[6]? = some d_holds) (h7 : fs[7]? = some d_refreshed) (fm : List Fld) (as : List (Option Str)) (hd : ∀ f ∈ fm, f.cond.dep ≤ k) (hl : fm.length < big) :
    callK fs F (k + 2) 7 [formD fm, ansD as] S = some (.tup [ansD (refM fm as [] []).1, dD (refM fm as [] []).2], S) := by
  rw [callK_eq h7 rfl]
  obtain ⟨c4, c5, c6, c7, c8, c9, c10, hs⟩ := ref_loop (F := F) (S := S) h (some (.sh (formD fm))) (some (.sh (ansD as))) fm as [] [] none none none none none none none hd (by simpa using hl) (by simpa using hl)
  refine (congrArg fin (execs_nx (env' := [some (.sh (formD fm)), some (.sh (ansD as)), some (.ow (.lst [])), some (.ow (dD [])), none, none, none, none, none, none, none]) (S' := S) ?_)).trans ?_
  · simp only [startE, List.map, List.length, List.replicate, execs, exec, ev, evs, evcs, evts, unown, unown1, List.foldl, peek, getO, getE, idx0, idx1, idx2, idx3, idx4, idxl0, idxl1, idxl2, List.cons_append, List.nil_append, List.append_nil, Option.map_some, Option.bind_some, Option.map_none, Option.bind_none, cmpF, eq_str, List.getElem?_cons_zero, List.getElem?_cons_succ, List.set_cons_zero, List.set_cons_succ, Nat.reduceSub, Nat.reduceAdd, decide_true, decide_false, fnx, frt, bindT, parGo, isMut, Bool.not_true, Bool.and_false, Bool.false_eq_true, if_false, if_true]
    rfl
  · refine (congrArg fin (execs_nx (exec_for (ds := [formD fm, ansD as]) (S1 := S) ?_ rfl hs))).trans ?_
    · simp only [startE, List.map, List.length, List.replicate, execs, exec, ev, evs, evcs, evts, unown, unown1, List.foldl, peek, getO, getE, idx0, idx1, idx2, idx3, idx4, idxl0, idxl1, idxl2, List.cons_append, List.nil_append, List.append_nil, Option.map_some, Option.bind_some, Option.map_none, Option.bind_none, cmpF, eq_str, List.getElem?_cons_zero, List.getElem?_cons_succ, List.set_cons_zero, List.set_cons_succ, Nat.reduceSub, Nat.reduceAdd, decide_true, decide_false, fnx, frt, bindT]
    · simp only [startE, List.map, List.length, List.replicate, execs, exec, ev, evs, evcs, evts, unown, unown1, List.foldl, peek, getO, getE, idx0, idx1, idx2, idx3, idx4, idxl0, idxl1, idxl2, List.cons_append, List.nil_append, List.append_nil, Option.map_some, Option.bind_some, Option.map_none, Option.bind_none, cmpF, eq_str, List.getElem?_cons_zero, List.getElem?_cons_succ, List.set_cons_zero, List.set_cons_succ, Nat.reduceSub, Nat.reduceAdd, decide_true, decide_false, fnx, frt, bindT, biF]
      rfl
end
end FG

namespace FG
open PySem PySem.Spec PyProof.Rows L2
/-! ### comprehensions -/
theorem lc_run {α : Type} (enc : α → D) (bind : D → Option En) (test : En → Sto → Option (Bool × Sto)) (elt : En → Sto → Option (D × Sto)) (p : α → Bool) (f : α → D) (S : Sto) : ∀ (xs : List α) (acc : List D),
    (∀ x ∈ xs, ∃ e, bind (enc x) = some e ∧ test e S = some (p x, S) ∧ (p x = true → elt e S = some (f x, S))) → xs.length + acc.length ≤ big → lcGo bind test elt (xs.map enc) S acc = some (acc ++ (xs.filter p).map f, S)
  | [], acc, _, _ => by simp [lcGo]
  | x :: xs, acc, h, hl => by
    obtain ⟨e, h1, h2, h3⟩ := h x List.mem_cons_self
    simp only [List.length_cons] at hl
    have h' := fun y hy => h y (List.mem_cons_of_mem _ hy)
    simp only [List.map_cons, lcGo, h1, h2, Option.bind_some]
    cases hp : p x with
    | true =>
      simp only [if_true, h3 hp, Option.bind_some]
      rw [if_pos (by omega), lc_run enc bind test elt p f S xs (acc ++ [f x]) h' (by simp; omega)]
      simp [hp]
    | false =>
      simp only [Bool.false_eq_true, if_false]
      rw [lc_run enc bind test elt p f S xs acc h' (by omega)]
      simp [hp]
theorem ev_lcR {α : Type} {c : Calls} {own : List Nat} {tg : Tg} {ik : IK} {its ifs : List E} {elt : E} {env : En} {S S1 : Sto} {ds : List D} (enc : α → D) (p : α → Bool) (f : α → D) (xs : List α) (h1 : evcs c its env S = some (ds, S1)) (h0 : ik ≠ .keys) (h2 : itemsF ik ds = some (xs.map enc))
    (hs : ∀ x ∈ xs, ∃ e, bindT tg (enc x) (wipeE env own) = some e ∧ evts c ifs e S1 = some (p x, S1) ∧ (p x = true → ev c elt e S1 = some (f x, S1))) (hl : xs.length ≤ big) : ev c (.lc own tg ik its ifs elt) env S = some (.lst ((xs.filter p).map f), S1) := by
  have e := lc_run enc (fun d => bindT tg d (wipeE env own)) (fun e S => evts c ifs e S) (fun e S => ev c elt e S) p f S1 xs [] hs (by simpa using hl)
  rw [List.nil_append] at e
  cases ik with
  | keys => exact absurd rfl h0
  | _ => simp only [ev, h1, Option.bind_some, h2, e, Option.map_some]
theorem exec_asg {c : Calls} {F : Nat} {fz : List Nat} {i : Nat} {e : E} {env : En} {S S1 : Sto} {d : D} (h : ev c e (unown env fz) S = some (d, S1)) : exec c F (.asg fz i e) env S = some (.nx ((unown env fz).set i (some (.sh d))) S1) := by
  simp only [exec, h, Option.map_some]
theorem exec_asgO {c : Calls} {F : Nat} {fz : List Nat} {i : Nat} {e : E} {env : En} {S S1 : Sto} {d : D} (h : ev c e (unown env fz) S = some (d, S1)) (hm : isMut d = true) : exec c F (.asgO fz i e) env S = some (.nx ((unown env fz).set i (some (.ow d))) S1) := by
  simp only [exec, h, Option.bind_some, hm, if_true]
theorem exec_ret {c : Calls} {F : Nat} {fz : List Nat} {e : E} {env : En} {S S1 : Sto} {d : D} (h : ev c e (unown env fz) S = some (d, S1)) : exec c F (.ret fz e) env S = some (.rt d S1) := by
  simp only [exec, h, Option.map_some]
theorem exec_ite {c : Calls} {F : Nat} {z : E} {a b : List FG.S} {env : En} {S S1 : Sto} {r : Bool} (h : ev c z env S = some (.bl r, S1)) : exec c F (.ite z a b) env S = execs c F (if r then a else b) env S1 := by
  cases r <;> simp only [exec, h, Option.bind_some, if_true, Bool.false_eq_true, if_false]
section
variable {fs : List Df} {F k : Nat} {S : Sto}
structure B2 (fs : List Df) : Prop where
  h6 : fs[6]? = some d_holds
  h7 : fs[7]? = some d_refreshed
  h8 : fs[8]? = some d_visible_in
  h10 : fs[10]? = some d_empty
  h11 : fs[11]? = some d_place_of
  h12 : fs[12]? = some d_replaced
  h13 : fs[13]? = some d_stepped
/-- depth and size of a form -/
structure Sz (fm : List Fld) (k : Nat) : Prop where
  dep : ∀ f ∈ fm, f.cond.dep ≤ k
  len : fm.length ≤ 1000
theorem Sz.big {fm : List Fld} {k : Nat} (h : Sz fm k) : fm.length < big := by have := h.len; unfold FG.big; omega
def visM (fm : List Fld) (as : List (Option Str)) : Dic := (refM fm as [] []).2
def ansM (fm : List Fld) (as : List (Option Str)) : List (Option Str) := (refM fm as [] []).1
theorem e_visible (b : B2 fs) {fm : List Fld} (z : Sz fm k) (as : List (Option Str)) : callK fs F (k + 3) 8 [formD fm, ansD as] S = some (dD (visM fm as), S) := by
  rw [callK_eq b.h8 rfl]
  have h := e_refreshed (F := F) (S := S) b.h6 b.h7 fm as z.dep z.big
  simp only [startE, List.map, List.length, List.replicate, execs, exec, ev, evs, evcs, evts, unown, unown1, List.foldl, peek, getO, getE, idx0, idx1, idx2, idx3, idx4, idxl0, idxl1, idxl2, List.cons_append, List.nil_append, List.append_nil, Option.map_some, Option.bind_some, Option.map_none, Option.bind_none, cmpF, eq_str, List.getElem?_cons_zero, List.getElem?_cons_succ, List.set_cons_zero, List.set_cons_succ, Nat.reduceSub, Nat.reduceAdd, decide_true, decide_false, fnx, frt, bindT, d_visible_in, h]
  rfl
theorem mul_none (n : Nat) (h : 1 ≤ n) (h2 : n ≤ 1000) : binF .mul (.tup [.non]) (.int (n : Int)) = some (.tup (List.replicate n .non)) := by
  have e : ∀ n : Nat, (List.replicate n [D.non]).flatten = List.replicate n D.non := fun n => by
    induction n with
    | zero => rfl
    | succ n ih => rw [List.replicate_succ, List.flatten_cons, ih, List.replicate_succ]; rfl
  simp only [binF, List.isEmpty_cons, Bool.not_false, Bool.true_and, List.length_cons, List.length_nil]
  rw [if_pos, Int.toNat_natCast, e]
  simp
  omega
theorem map_len {α : Type} (f : α → D) (xs : List α) : biF .len (.tup (xs.map f)) = some (.int (xs.length : Nat)) := by
  simp [biF]
def noneM (fm : List Fld) : List (Option Str) := List.replicate fm.length none
theorem ansD_none (fm : List Fld) : ansD (noneM fm) = .tup (List.replicate fm.length .non) := by
  simp [ansD, noneM, oD]
theorem e_empty (h : fs[10]? = some d_empty) {fm : List Fld} (z : fm ≠ []) (hl : fm.length ≤ 1000) : callK fs F (k + 1) 10 [formD fm] S = some (ansD (noneM fm), S) := by
  rw [callK_eq h rfl]
  have h1 := map_len Fld.d fm
  have h2 := mul_none fm.length (by cases fm with | nil => exact absurd rfl z | cons _ _ => simp) hl
  rw [ansD_none]
  simp only [startE, List.map, List.length, List.replicate, execs, exec, ev, evs, evcs, evts, unown, unown1, List.foldl, peek, getO, getE, idx0, idx1, idx2, idx3, idx4, idxl0, idxl1, idxl2, List.cons_append, List.nil_append, List.append_nil, Option.map_some, Option.bind_some, Option.map_none, Option.bind_none, cmpF, eq_str, List.getElem?_cons_zero, List.getElem?_cons_succ, List.set_cons_zero, List.set_cons_succ, Nat.reduceSub, Nat.reduceAdd, decide_true, decide_false, fnx, frt, bindT, d_empty, formD, h1, h2]
/-! ### replaced -/
def replM (as : List (Option Str)) (i : Nat) (v : Option Str) : List (Option Str) := as.take i ++ [v] ++ as.drop (i + 1)
theorem cut_take (xs : List D) (i : Nat) : cutD xs none (some (i : Int)) = xs.take i := by
  unfold cutD
  rw [HT.sIx_none, HT.sIx_nat, List.drop_zero, Nat.sub_zero]
  rcases Nat.le_total i xs.length with h | h
  · rw [Nat.min_eq_left h]
  · rw [Nat.min_eq_right h, List.take_length, List.take_of_length_le h]
theorem cut_drop (xs : List D) (i : Nat) : cutD xs (some (i : Int)) none = xs.drop i := by
  unfold cutD
  rw [HT.sIx_none, HT.sIx_nat]
  rcases Nat.le_total i xs.length with h | h
  · rw [Nat.min_eq_left h, List.take_of_length_le (by rw [List.length_drop]; exact Nat.le_refl _)]
  · rw [Nat.min_eq_right h, List.drop_of_length_le h, List.drop_length, List.take_nil]
theorem e_replaced (h : fs[12]? = some d_replaced) (as : List (Option Str)) (i : Nat) (v : Option Str) (hl : as.length ≤ 1000) : callK fs F (k + 1) 12 [ansD as, .int (i : Int), oD v] S = some (ansD (replM as i v), S) := by
  rw [callK_eq h rfl]
  have h1 := cut_take (as.map oD) i
  have h2 := cut_drop (as.map oD) (i + 1)
  have e : ((i + 1 : Nat) : Int) = (i : Int) + 1 := by omega
  rw [e] at h2
  have hb : ((as.map oD).take i).length + 1 ≤ big := by rw [List.length_take, List.length_map]; unfold big; omega
  have hb2 : ((as.map oD).take i ++ [oD v]).length + ((as.map oD).drop (i + 1)).length ≤ big := by
    simp only [List.length_append, List.length_take, List.length_map, List.length_drop, List.length_singleton]; unfold big; omega
  simp only [startE, List.map, List.length, List.replicate, execs, exec, ev, evs, evcs, evts, unown, unown1, List.foldl, peek, getO, getE, idx0, idx1, idx2, idx3, idx4, idxl0, idxl1, idxl2, List.cons_append, List.nil_append, List.append_nil, Option.map_some, Option.bind_some, Option.map_none, Option.bind_none, cmpF, eq_str, List.getElem?_cons_zero, List.getElem?_cons_succ, List.set_cons_zero, List.set_cons_succ, Nat.reduceSub, Nat.reduceAdd, decide_true, decide_false, fnx, frt, bindT, d_replaced, ansD, slcF, binF, h1, h2, hb, hb2, if_true, List.length_singleton]
  simp [replM]
/-! ### == over data -/
def natD (i : Nat) : D := .int (i : Int)
theorem eq_nil (ds : List D) (h : pyOk 60 (.lst ds) = true) : eqF (.lst ds) (.lst []) = some ds.isEmpty := by
  have e : eqF (.lst ds) (.lst []) = if scalD (.lst ds) (.lst []) || (pyOk 60 (.lst ds) && pyOk 60 (.lst [])) then some (eqD (.lst ds) (.lst [])) else none := rfl
  rw [e, h, if_pos (by rfl)]
  cases ds with
  | nil => rfl
  | cons d ds => rfl
theorem pyOks_int (n : Nat) : ∀ xs : List Nat, pyOks n (xs.map natD) = true
  | [] => by simp [pyOks]
  | x :: xs => by simp [pyOks, natD, pyOk, pyOks_int n xs]
/-! ### place_of -/
def placeM (fm : List Fld) (n : Str) : List Nat := (fm.zipIdx.filter fun p => decide (p.1.name = n)).map (·.2)
def headD (l : List Nat) : D := match l with
  | [] => .non
  | i :: _ => .int (i : Int)
theorem e_place (h : fs[11]? = some d_place_of) {fm : List Fld} (hl : fm.length ≤ 1000) (n : Str) : callK fs F (k + 1) 11 [formD fm, .str n] S = some (headD (placeM fm n), S) := by
  rw [callK_eq h rfl]
  have hit : itemsF .enum [formD fm] = some (fm.zipIdx.map fun p => .tup [.int (p.2 : Int), p.1.d]) := by
    simp only [itemsF, formD, List.zipIdx_map, List.map_map]
    rfl
  have hm : ((fm.zipIdx.filter fun p => decide (p.1.name = n)).map fun p => D.int (p.2 : Int)) = (placeM fm n).map natD := by simp only [placeM, List.map_map]; rfl
  have hlc := ev_lcR (c := callK fs F k) (own := [3, 4]) (tg := .tp [3, 4]) (its := [.var 0]) (ifs := [.cmp .eq (.idx (.var 4) (.con (.int 0))) (.var 1)]) (elt := .var 3) (env := [some (.sh (formD fm)), some (.sh (.str n)), none, none, none]) (S := S) (S1 := S) (ds := [formD fm]) (fun p : Fld × Nat => D.tup [.int (p.2 : Int), p.1.d])
    (fun p => decide (p.1.name = n)) (fun p => .int (p.2 : Int)) fm.zipIdx rfl (by decide) hit (fun p _ => ⟨[some (.sh (formD fm)), some (.sh (.str n)), none, some (.sh (.int (p.2 : Int))), some (.sh p.1.d)], rfl, by simp only [startE, List.map, List.length, List.replicate, execs, exec, ev, evs, evcs, evts, unown, unown1, List.foldl, peek, getO, getE, idx0, idx1, idx2, idx3, idx4, idxl0, idxl1, idxl2, List.cons_append, List.nil_append, List.append_nil, Option.map_some, Option.bind_some, Option.map_none, Option.bind_none, cmpF, eq_str, List.getElem?_cons_zero, List.getElem?_cons_succ, List.set_cons_zero, List.set_cons_succ, Nat.reduceSub, Nat.reduceAdd, decide_true, decide_false, fnx, frt, bindT, Fld.d], fun _ => by simp only [startE, List.map, List.length, List.replicate, execs, exec, ev, evs, evcs, evts, unown, unown1, List.foldl, peek, getO, getE, idx0, idx1, idx2, idx3, idx4, idxl0, idxl1, idxl2, List.cons_append, List.nil_append, List.append_nil, Option.map_some, Option.bind_some, Option.map_none, Option.bind_none, cmpF, eq_str, List.getElem?_cons_zero, List.getElem?_cons_succ, List.set_cons_zero, List.set_cons_succ, Nat.reduceSub, Nat.reduceAdd, decide_true, decide_false, fnx, frt, bindT]⟩) (by simp; unfold big; omega)
  rw [hm] at hlc
  refine (congrArg fin (execs_nx (exec_asg hlc))).trans ?_
  have he := eq_nil ((placeM fm n).map natD) (pyOks_int 59 _)
  cases hp : placeM fm n with
  | nil =>
    rw [hp] at he
    simp only [startE, List.map, List.length, List.replicate, execs, exec, ev, evs, evcs, evts, unown, unown1, List.foldl, peek, getO, getE, idx0, idx1, idx2, idx3, idx4, idxl0, idxl1, idxl2, List.cons_append, List.nil_append, List.append_nil, Option.map_some, Option.bind_some, Option.map_none, Option.bind_none, cmpF, eq_str, List.getElem?_cons_zero, List.getElem?_cons_succ, List.set_cons_zero, List.set_cons_succ, Nat.reduceSub, Nat.reduceAdd, decide_true, decide_false, fnx, frt, bindT, he, d_place_of]
    rfl
  | cons i l =>
    rw [hp] at he
    simp only [List.map_cons] at he
    simp only [startE, List.map, List.length, List.replicate, execs, exec, ev, evs, evcs, evts, unown, unown1, List.foldl, peek, getO, getE, idx0, idx1, idx2, idx3, idx4, idxl0, idxl1, idxl2, List.cons_append, List.nil_append, List.append_nil, Option.map_some, Option.bind_some, Option.map_none, Option.bind_none, cmpF, eq_str, List.getElem?_cons_zero, List.getElem?_cons_succ, List.set_cons_zero, List.set_cons_succ, Nat.reduceSub, Nat.reduceAdd, decide_true, decide_false, fnx, frt, bindT, he, List.isEmpty_cons, Bool.not_false, List.map_cons, d_place_of]
    rfl
end
end FG

namespace FG
open PySem PySem.Spec PyProof.Rows L2
inductive Act where
  | ch (n w : Str) | cl (n : Str)
deriving DecidableEq
def Act.d : Act → D
  | .ch n w => .tup [.str "choose", .str n, .str w]
  | .cl n => .tup [.str "clear", .str n]
def Act.nm : Act → Str
  | .ch n _ => n
  | .cl n => n
def Act.val : Act → Option Str
  | .ch _ w => some w
  | .cl _ => none
theorem refM_len : ∀ (fm : List Fld) (as res : List (Option Str)) (vis : Dic), as.length = fm.length → (refM fm as res vis).1.length = res.length + fm.length
  | [], as, res, vis, h => by cases as with | nil => simp [refM] | cons _ _ => simp at h
  | f :: fm, [], res, vis, h => by simp at h
  | f :: fm, a :: as, res, vis, h => by
    rw [refM_cons, refM_len fm as _ _ (by simpa using h)]
    simp
    omega
theorem ansM_len {fm : List Fld} {as : List (Option Str)} (h : as.length = fm.length) : (ansM fm as).length = fm.length := by
  unfold ansM
  rw [refM_len fm as [] [] h]
  simp
theorem dput_keys (l : Dic) (k : Str) (v : Option Str) : ∀ x ∈ (dput l k v).map (·.1), x ∈ l.map (·.1) ∨ x = k := by
  intro x hx
  unfold dput at hx
  split at hx
  · left
    rw [List.map_map] at hx
    have : ((fun p : Str × Option Str => p.1) ∘ fun p => if p.1 = k then (p.1, v) else p) = fun p => p.1 := by
      funext p
      simp only [Function.comp]
      split <;> rfl
    rw [this] at hx
    exact hx
  · simp only [List.map_append, List.mem_append, List.map_cons, List.map_nil, List.mem_singleton] at hx
    exact hx
theorem refM_keys : ∀ (fm : List Fld) (as res : List (Option Str)) (vis : Dic), ∀ x ∈ (refM fm as res vis).2.map (·.1), x ∈ vis.map (·.1) ∨ x ∈ fm.map (·.name)
  | [], as, res, vis, x, h => by
    left
    have : refM [] as res vis = (res, vis) := by cases as <;> rfl
    rw [this] at h
    exact h
  | f :: fm, [], res, vis, x, h => .inl h
  | f :: fm, a :: as, res, vis, x, h => by
    rw [refM_cons] at h
    rcases refM_keys fm as _ _ x h with h | h
    · split at h
      · rcases dput_keys _ _ _ x h with h | h
        · exact .inl h
        · right; simp [h]
      · exact .inl h
    · right
      simp only [List.map_cons, List.mem_cons]
      exact .inr h
theorem lookup_mem {l : Dic} {k : Str} (h : (l.lookup k).isSome = true) : k ∈ l.map (·.1) := by
  induction l with
  | nil => simp [List.lookup] at h
  | cons p l ih =>
    obtain ⟨a, b⟩ := p
    by_cases hk : k = a
    · simp [hk]
    · have h' : (k == a) = false := by simpa using hk
      simp only [List.lookup, h'] at h
      exact List.mem_cons_of_mem _ (ih h)
theorem vis_names {fm : List Fld} {as : List (Option Str)} {n : Str} (h : ((visM fm as).lookup n).isSome = true) : n ∈ fm.map (·.name) := by
  rcases refM_keys fm as [] [] n (lookup_mem h) with h | h
  · simp at h
  · exact h
def atM (fm : List Fld) (n : Str) : Nat := (placeM fm n).headD 0
theorem place_at {fm : List Fld} {n : Str} (h : n ∈ fm.map (·.name)) : headD (placeM fm n) = .int (atM fm n : Int) := by
  have : placeM fm n ≠ [] := by
    obtain ⟨f, hf, rfl⟩ := List.mem_map.mp h
    obtain ⟨i, hi⟩ := List.getElem?_of_mem hf
    intro z
    have : (f, i) ∈ fm.zipIdx.filter fun p => decide (p.1.name = f.name) := by
      rw [List.mem_filter]
      refine ⟨?_, by simp⟩
      rw [List.mem_zipIdx_iff_getElem?]
      exact hi
    have h2 : i ∈ placeM fm f.name := List.mem_map.mpr ⟨(f, i), this, rfl⟩
    rw [z] at h2
    cases h2
  unfold headD atM
  cases h : placeM fm n with
  | nil => exact absurd h this
  | cons i l => rfl
def stepM (fm : List Fld) (as : List (Option Str)) (a : Act) : List (Option Str) := if ((visM fm as).lookup a.nm).isSome then ansM fm (replM as (atM fm a.nm) a.val) else as
def keptM (fm : List Fld) (as cs : List (Option Str)) (a : Act) : List (Option Str) := if ((visM fm as).lookup a.nm).isSome then replM cs (atM fm a.nm) a.val else cs
theorem act_nm (S : Sto) (a : Act) : idxS S a.d (.int 1) = some (.str a.nm) := by cases a <;> simp only [Act.d, idx1, Act.nm]
theorem act_kind (S : Sto) (a : Act) : idxS S a.d (.int 0) = some (.str (match a with | .ch _ _ => "choose" | .cl _ => "clear")) := by cases a <;> simp only [Act.d, idx0]
section
variable {fs : List Df} {F k : Nat} {S : Sto}
/-- action[2] if action[0] == 'choose' else None, the action at a name -/
theorem ev_aval {c : Calls} {env : En} {i : Nat} {a : Act} (h : env[i]? = some (some (.sh a.d))) : ev c (.ite (.cmp .eq (.idx (.var i) (.con (.int 0))) (.con (.str "choose"))) (.idx (.var i) (.con (.int 2))) (.con .non)) env S = some (oD a.val, S) := by
  cases a with
  | ch n w => simp only [startE, List.map, List.length, List.replicate, execs, exec, ev, evs, evcs, evts, unown, unown1, List.foldl, peek, getO, getE, idx0, idx1, idx2, idx3, idx4, idxl0, idxl1, idxl2, List.cons_append, List.nil_append, List.append_nil, Option.map_some, Option.bind_some, Option.map_none, Option.bind_none, cmpF, eq_str, List.getElem?_cons_zero, List.getElem?_cons_succ, List.set_cons_zero, List.set_cons_succ, Nat.reduceSub, Nat.reduceAdd, decide_true, decide_false, fnx, frt, bindT, h, Act.d, Act.val, oD]
  | cl n => simp only [startE, List.map, List.length, List.replicate, execs, exec, ev, evs, evcs, evts, unown, unown1, List.foldl, peek, getO, getE, idx0, idx1, idx2, idx3, idx4, idxl0, idxl1, idxl2, List.cons_append, List.nil_append, List.append_nil, Option.map_some, Option.bind_some, Option.map_none, Option.bind_none, cmpF, eq_str, List.getElem?_cons_zero, List.getElem?_cons_succ, List.set_cons_zero, List.set_cons_succ, Nat.reduceSub, Nat.reduceAdd, decide_true, decide_false, fnx, frt, bindT, h, Act.d, Act.val, oD, sdec (show ("clear" : Str) ≠ "choose" by decide)]
theorem e_stepped (b : B2 fs) {fm : List Fld} (z : Sz fm k) {as : List (Option Str)} (hl : as.length = fm.length) (a : Act) : callK fs F (k + 4) 13 [formD fm, ansD as, a.d] S = some (ansD (stepM fm as a), S) := by
  rw [callK_eq b.h13 rfl]
  have hp := e_place (F := F) (k := k + 2) (S := S) b.h11 z.len a.nm
  have hv := e_visible (F := F) (S := S) b z as
  have hin := in_dD (visM fm as) a.nm
  have hln := z.len
  have hval := ev_aval (c := callK fs F (k + 3)) (S := S) (env := [some (.sh (formD fm)), some (.sh (ansD as)), some (.sh a.d), some (.sh (headD (placeM fm a.nm)))]) (i := 2) (a := a) rfl
  generalize hE : (E.ite (.cmp .eq (.idx (.var 2) (.con (.int 0))) (.con (.str "choose"))) (.idx (.var 2) (.con (.int 2))) (.con .non)) = e at hval
  have hb : d_stepped.body = [.asg [] 3 (.call 11 [.var 0, .idx (.var 2) (.con (.int 1))]), .ite (.cmp .notin (.idx (.var 2) (.con (.int 1))) (.call 8 [.var 0, .var 1])) [.ret [] (.var 1)] [], .ret [] (.idx (.call 7 [.var 0, .call 12 [.var 1, .var 3, e]]) (.con (.int 0)))] := by rw [← hE]; rfl
  rw [hb]
  unfold stepM
  cases hs : ((visM fm as).lookup a.nm).isSome with
  | false =>
    rw [hs] at hin
    simp only [startE, List.map, List.length, List.replicate, execs, exec, ev, evs, evcs, evts, unown, unown1, List.foldl, peek, getO, getE, idx0, idx1, idx2, idx3, idx4, idxl0, idxl1, idxl2, List.cons_append, List.nil_append, List.append_nil, Option.map_some, Option.bind_some, Option.map_none, Option.bind_none, cmpF, eq_str, List.getElem?_cons_zero, List.getElem?_cons_succ, List.set_cons_zero, List.set_cons_succ, Nat.reduceSub, Nat.reduceAdd, decide_true, decide_false, fnx, frt, bindT, d_stepped, act_nm, hp, hv, hin, Bool.not_false]
    rfl
  | true =>
    rw [hs] at hin
    have hpl := place_at (vis_names hs)
    have hrep := e_replaced (F := F) (k := k + 2) (S := S) b.h12 as (atM fm a.nm) a.val (by omega)
    have href := e_refreshed (F := F) (k := k + 1) (S := S) b.h6 b.h7 fm (replM as (atM fm a.nm) a.val) (fun f m => Nat.le_succ_of_le (z.dep f m)) z.big
    rw [hpl] at hp hval
    simp only [startE, List.map, List.length, List.replicate, execs, exec, ev, evs, evcs, evts, unown, unown1, List.foldl, peek, getO, getE, idx0, idx1, idx2, idx3, idx4, idxl0, idxl1, idxl2, List.cons_append, List.nil_append, List.append_nil, Option.map_some, Option.bind_some, Option.map_none, Option.bind_none, cmpF, eq_str, List.getElem?_cons_zero, List.getElem?_cons_succ, List.set_cons_zero, List.set_cons_succ, Nat.reduceSub, Nat.reduceAdd, decide_true, decide_false, fnx, frt, bindT, d_stepped, act_nm, hp, hv, hin, Bool.not_true, hval, hrep, href]
    rfl
theorem e_kept (b : B2 fs) (h18 : fs[18]? = some d_kept_choices) {fm : List Fld} (z : Sz fm k) {as cs : List (Option Str)} (hl : cs.length ≤ 1000) (a : Act) : callK fs F (k + 4) 18 [formD fm, ansD as, ansD cs, a.d] S = some (ansD (keptM fm as cs a), S) := by
  rw [callK_eq h18 rfl]
  have hp := e_place (F := F) (k := k + 2) (S := S) b.h11 z.len a.nm
  have hv := e_visible (F := F) (S := S) b z as
  have hin := in_dD (visM fm as) a.nm
  have hval := ev_aval (c := callK fs F (k + 3)) (S := S) (env := [some (.sh (formD fm)), some (.sh (ansD as)), some (.sh (ansD cs)), some (.sh a.d)]) (i := 3) (a := a) rfl
  generalize hE : (E.ite (.cmp .eq (.idx (.var 3) (.con (.int 0))) (.con (.str "choose"))) (.idx (.var 3) (.con (.int 2))) (.con .non)) = e at hval
  have hb : d_kept_choices.body = [.ite (.cmp .notin (.idx (.var 3) (.con (.int 1))) (.call 8 [.var 0, .var 1])) [.ret [] (.var 2)] [], .ret [] (.call 12 [.var 2, .call 11 [.var 0, .idx (.var 3) (.con (.int 1))], e])] := by rw [← hE]; rfl
  rw [hb]
  unfold keptM
  cases hs : ((visM fm as).lookup a.nm).isSome with
  | false =>
    rw [hs] at hin
    simp only [startE, List.map, List.length, List.replicate, execs, exec, ev, evs, evcs, evts, unown, unown1, List.foldl, peek, getO, getE, idx0, idx1, idx2, idx3, idx4, idxl0, idxl1, idxl2, List.cons_append, List.nil_append, List.append_nil, Option.map_some, Option.bind_some, Option.map_none, Option.bind_none, cmpF, eq_str, List.getElem?_cons_zero, List.getElem?_cons_succ, List.set_cons_zero, List.set_cons_succ, Nat.reduceSub, Nat.reduceAdd, decide_true, decide_false, fnx, frt, bindT, d_kept_choices, act_nm, hv, hin, Bool.not_false]
    rfl
  | true =>
    rw [hs] at hin
    have hpl := place_at (vis_names hs)
    have hrep := e_replaced (F := F) (k := k + 2) (S := S) b.h12 cs (atM fm a.nm) a.val hl
    rw [hpl] at hp
    simp only [startE, List.map, List.length, List.replicate, execs, exec, ev, evs, evcs, evts, unown, unown1, List.foldl, peek, getO, getE, idx0, idx1, idx2, idx3, idx4, idxl0, idxl1, idxl2, List.cons_append, List.nil_append, List.append_nil, Option.map_some, Option.bind_some, Option.map_none, Option.bind_none, cmpF, eq_str, List.getElem?_cons_zero, List.getElem?_cons_succ, List.set_cons_zero, List.set_cons_succ, Nat.reduceSub, Nat.reduceAdd, decide_true, decide_false, fnx, frt, bindT, d_kept_choices, act_nm, hp, hv, hin, Bool.not_true, hval, hrep]
    rfl
end
end FG

namespace FG
open PySem PySem.Spec PyProof.Rows L2
theorem replM_len {as : List (Option Str)} {i : Nat} {v : Option Str} (h : i < as.length) : (replM as i v).length = as.length := by
  simp only [replM, List.length_append, List.length_take, List.length_drop, List.length_singleton]
  omega
theorem atM_lt {fm : List Fld} {n : Str} (h : n ∈ fm.map (·.name)) : atM fm n < fm.length := by
  have e := place_at h
  unfold headD at e
  cases hp : placeM fm n with
  | nil => rw [hp] at e; cases e
  | cons i l =>
    have hi : i ∈ placeM fm n := by rw [hp]; exact List.mem_cons_self
    obtain ⟨⟨f, j⟩, hm, rfl⟩ := List.mem_map.mp hi
    have := (List.mem_filter.mp hm).1
    rw [List.mem_zipIdx_iff_getElem?] at this
    unfold atM
    rw [hp]
    exact (List.getElem?_eq_some_iff.mp this).1
theorem stepM_len {fm : List Fld} {as : List (Option Str)} (h : as.length = fm.length) (a : Act) : (stepM fm as a).length = fm.length := by
  unfold stepM
  split
  · rename_i hs
    have hlt := atM_lt (vis_names hs)
    exact ansM_len ((replM_len (by omega)).trans h)
  · exact h
theorem keptM_len {fm : List Fld} {as cs : List (Option Str)} (h : cs.length = fm.length) (a : Act) : (keptM fm as cs a).length = fm.length := by
  unfold keptM
  split
  · rename_i hs
    have hlt := atM_lt (vis_names hs)
    exact (replM_len (by omega)).trans h
  · exact h
def playM (fm : List Fld) : List Act → List (Option Str) → List (Option Str) → List (Option Str) × List (Option Str)
  | [], as, cs => (as, cs)
  | a :: ss, as, cs => playM fm ss (stepM fm as a) (keptM fm as cs a)
def sesD (ss : List Act) : D := .lst (ss.map Act.d)
def plA (fm : List Fld) (ss : List Act) : List (Option Str) := (playM fm ss (noneM fm) (noneM fm)).1
def plC (fm : List Fld) (ss : List Act) : List (Option Str) := (playM fm ss (noneM fm) (noneM fm)).2
section
variable {fs : List Df} {F k : Nat} {S : Sto}
theorem play_loop (b : B2 fs) (h18 : fs[18]? = some d_kept_choices) {fm : List Fld} (z : Sz fm k) (x1 : Option Ent) : ∀ (ss : List Act) (as cs : List (Option Str)) (x2 : Option Ent), as.length = fm.length → cs.length = fm.length →
    ∃ y2, forGo (bindT (.nm 2)) (fun e S => execs (callK fs F (k + 4)) F (loopOf d_played.body) e S) (ss.map Act.d) [some (.sh (formD fm)), x1, x2, some (.sh (ansD as)), some (.sh (ansD cs))] S =
      some (.nx [some (.sh (formD fm)), x1, y2, some (.sh (ansD (playM fm ss as cs).1)), some (.sh (ansD (playM fm ss as cs).2))] S)
  | [], as, cs, x2, _, _ => ⟨x2, rfl⟩
  | a :: ss, as, cs, x2, ha, hc => by
    have hl := z.len
    have h1 := e_kept (F := F) (S := S) b h18 z (as := as) (cs := cs) (by omega) a
    have h2 := e_stepped (F := F) (S := S) b z ha a
    obtain ⟨y2, ih⟩ := play_loop b h18 z x1 ss (stepM fm as a) (keptM fm as cs a) (some (.sh a.d)) (stepM_len ha a) (keptM_len hc a)
    have hs : execs (callK fs F (k + 4)) F (loopOf d_played.body) [some (.sh (formD fm)), x1, some (.sh a.d), some (.sh (ansD as)), some (.sh (ansD cs))] S = some (.nx [some (.sh (formD fm)), x1, some (.sh a.d), some (.sh (ansD (stepM fm as a))), some (.sh (ansD (keptM fm as cs a)))] S) := by
      simp only [startE, List.map, List.length, List.replicate, execs, exec, ev, evs, evcs, evts, unown, unown1, List.foldl, peek, getO, getE, idx0, idx1, idx2, idx3, idx4, idxl0, idxl1, idxl2, List.cons_append, List.nil_append, List.append_nil, Option.map_some, Option.bind_some, Option.map_none, Option.bind_none, cmpF, eq_str, List.getElem?_cons_zero, List.getElem?_cons_succ, List.set_cons_zero, List.set_cons_succ, Nat.reduceSub, Nat.reduceAdd, decide_true, decide_false, fnx, frt, bindT, loopOf, d_played, h1, h2]
    refine ⟨y2, ?_⟩
    simp only [List.map_cons, forGo, bindT, List.set_cons_zero, List.set_cons_succ, Option.bind_some, hs]
    exact ih
theorem e_played (b : B2 fs) (h18 : fs[18]? = some d_kept_choices) (h19 : fs[19]? = some d_played) {fm : List Fld} (z : Sz fm k) (hn : fm ≠ []) (ss : List Act) :
    callK fs F (k + 5) 19 [formD fm, sesD ss] S = some (.tup [ansD (plA fm ss), ansD (plC fm ss)], S) := by
  rw [callK_eq h19 rfl]
  have he := e_empty (F := F) (k := k + 3) (S := S) b.h10 hn z.len
  obtain ⟨y2, hs⟩ := play_loop (F := F) (S := S) b h18 z (some (.sh (sesD ss))) ss (noneM fm) (noneM fm) none (by simp [noneM]) (by simp [noneM])
  refine (congrArg fin (execs_nx (env' := [some (.sh (formD fm)), some (.sh (sesD ss)), none, some (.sh (ansD (noneM fm))), some (.sh (ansD (noneM fm)))]) (S' := S) ?_)).trans ?_
  · simp only [startE, List.map, List.length, List.replicate, execs, exec, ev, evs, evcs, evts, unown, unown1, List.foldl, peek, getO, getE, idx0, idx1, idx2, idx3, idx4, idxl0, idxl1, idxl2, List.cons_append, List.nil_append, List.append_nil, Option.map_some, Option.bind_some, Option.map_none, Option.bind_none, cmpF, eq_str, List.getElem?_cons_zero, List.getElem?_cons_succ, List.set_cons_zero, List.set_cons_succ, Nat.reduceSub, Nat.reduceAdd, decide_true, decide_false, fnx, frt, bindT, parGo, d_played, he, Bool.false_and, Bool.false_eq_true, if_false]
  · refine (congrArg fin (execs_nx (exec_for (ds := [sesD ss]) (S1 := S) ?_ rfl hs))).trans ?_
    · simp only [startE, List.map, List.length, List.replicate, execs, exec, ev, evs, evcs, evts, unown, unown1, List.foldl, peek, getO, getE, idx0, idx1, idx2, idx3, idx4, idxl0, idxl1, idxl2, List.cons_append, List.nil_append, List.append_nil, Option.map_some, Option.bind_some, Option.map_none, Option.bind_none, cmpF, eq_str, List.getElem?_cons_zero, List.getElem?_cons_succ, List.set_cons_zero, List.set_cons_succ, Nat.reduceSub, Nat.reduceAdd, decide_true, decide_false, fnx, frt, bindT]
    · simp only [startE, List.map, List.length, List.replicate, execs, exec, ev, evs, evcs, evts, unown, unown1, List.foldl, peek, getO, getE, idx0, idx1, idx2, idx3, idx4, idxl0, idxl1, idxl2, List.cons_append, List.nil_append, List.append_nil, Option.map_some, Option.bind_some, Option.map_none, Option.bind_none, cmpF, eq_str, List.getElem?_cons_zero, List.getElem?_cons_succ, List.set_cons_zero, List.set_cons_succ, Nat.reduceSub, Nat.reduceAdd, decide_true, decide_false, fnx, frt, bindT]
      rfl
end
/-! ### dict comprehensions -/
theorem dPut_new {ks : List NK} {es : List D} {k : NK} {x : D} (h : k ∉ ks) : dPut ks es k x = (ks ++ [k], es ++ [x]) := by
  unfold dPut
  rw [if_neg h]
theorem dc_run {α : Type} (enc : α → D) (bind : D → Option En) (test : En → Sto → Option (Bool × Sto)) (kx vx : En → Sto → Option (D × Sto)) (p : α → Bool) (key : α → Str) (val : α → D) (S : Sto) : ∀ (xs acc : List α),
    (∀ x ∈ xs, ∃ e, bind (enc x) = some e ∧ test e S = some (p x, S) ∧ (p x = true → kx e S = some (.str (key x), S) ∧ vx e S = some (val x, S))) → ((acc ++ xs.filter p).map key).Nodup → xs.length + acc.length ≤ big →
    dcGo bind test kx vx (xs.map enc) S (acc.map fun x => .text (key x)) (acc.map val) = some ((acc ++ xs.filter p).map (fun x => NestedKey.text (key x)), (acc ++ xs.filter p).map val, S)
  | [], acc, _, _, _ => by simp [dcGo]
  | x :: xs, acc, h, hn, hl => by
    obtain ⟨e, h1, h2, h3⟩ := h x List.mem_cons_self
    simp only [List.length_cons] at hl
    have h' := fun y hy => h y (List.mem_cons_of_mem _ hy)
    simp only [List.map_cons, dcGo, h1, h2, Option.bind_some]
    cases hp : p x with
    | true =>
      obtain ⟨h4, h5⟩ := h3 hp
      simp only [List.filter_cons, hp, if_true] at hn ⊢
      have hx : NestedKey.text (key x) ∉ acc.map fun x => NestedKey.text (key x) := by
        intro z
        obtain ⟨y, hy, ey⟩ := List.mem_map.mp z
        simp only [NestedKey.text.injEq] at ey
        rw [List.map_append, List.nodup_append] at hn
        exact hn.2.2 (key y) (List.mem_map_of_mem hy) (key x) (by simp) ey
      simp only [h4, h5, Option.bind_some, txtKey, List.length_map]
      rw [if_pos (by omega), dPut_new hx]
      have ih := dc_run enc bind test kx vx p key val S xs (acc ++ [x]) h' (by simpa using hn) (by simp; omega)
      simp only [List.map_append, List.map_cons, List.map_nil, List.append_assoc, List.cons_append, List.nil_append] at ih ⊢
      exact ih
    | false =>
      simp only [List.filter_cons, hp, Bool.false_eq_true, if_false] at hn ⊢
      exact dc_run enc bind test kx vx p key val S xs acc h' hn (by omega)
theorem ev_dcR {α : Type} {c : Calls} {own : List Nat} {tg : Tg} {ik : IK} {its ifs : List E} {ke ve : E} {env : En} {S S1 : Sto} {ds : List D} (enc : α → D) (p : α → Bool) (key : α → Str) (val : α → D) (xs : List α) (h1 : (match ik with | .keys => evs c its env S | _ => evcs c its env S) = some (ds, S1)) (h2 : itemsF ik ds = some (xs.map enc))
    (hs : ∀ x ∈ xs, ∃ e, bindT tg (enc x) (wipeE env own) = some e ∧ evts c ifs e S1 = some (p x, S1) ∧ (p x = true → ev c ke e S1 = some (.str (key x), S1) ∧ ev c ve e S1 = some (val x, S1))) (hn : ((xs.filter p).map key).Nodup) (hl : xs.length ≤ big) :
    ev c (.dc own tg ik its ifs ke ve) env S = some (.dct ((xs.filter p).map fun x => .text (key x)) ((xs.filter p).map val), S1) := by
  have e := dc_run enc (fun d => bindT tg d (wipeE env own)) (fun e S => evts c ifs e S) (fun e S => ev c ke e S) (fun e S => ev c ve e S) p key val S1 xs [] hs (by simpa using hn) (by simpa using hl)
  simp only [List.nil_append, List.map_nil] at e
  cases ik <;> (simp only at h1; simp only [ev, h1, Option.bind_some, h2, e, Option.map_some])
end FG

namespace FG
open PySem PySem.Spec PyProof.Rows L2
theorem dput_map (l : Dic) (k : Str) (v : Option Str) : (dput l k v).map (·.1) = if k ∈ l.map (·.1) then l.map (·.1) else l.map (·.1) ++ [k] := by
  unfold dput
  split
  · rw [List.map_map]
    refine List.map_congr_left fun p _ => ?_
    simp only [Function.comp]
    split <;> rfl
  · simp
theorem dput_nodup {l : Dic} {k : Str} {v : Option Str} (h : (l.map (·.1)).Nodup) : ((dput l k v).map (·.1)).Nodup := by
  rw [dput_map]
  split
  · exact h
  · rename_i hk
    rw [List.nodup_append]
    exact ⟨h, by simp, fun a ha b hb => by
      rw [List.mem_singleton] at hb
      subst hb
      exact fun z => hk (z ▸ ha)⟩
theorem refM_nodup : ∀ (fm : List Fld) (as res : List (Option Str)) (vis : Dic), (vis.map (·.1)).Nodup → ((refM fm as res vis).2.map (·.1)).Nodup
  | [], as, res, vis, h => by
    have : refM [] as res vis = (res, vis) := by cases as <;> rfl
    rw [this]
    exact h
  | f :: fm, [], res, vis, h => h
  | f :: fm, a :: as, res, vis, h => by
    rw [refM_cons]
    refine refM_nodup fm as _ _ ?_
    split
    · exact dput_nodup h
    · exact h
theorem vis_nodup (fm : List Fld) (as : List (Option Str)) : ((visM fm as).map (·.1)).Nodup := refM_nodup fm as [] [] List.nodup_nil
theorem refM_vlen : ∀ (fm : List Fld) (as res : List (Option Str)) (vis : Dic), (refM fm as res vis).2.length ≤ vis.length + fm.length
  | [], as, res, vis => by
    have : refM [] as res vis = (res, vis) := by cases as <;> rfl
    rw [this]
    simp
  | f :: fm, [], res, vis => by simp [refM]
  | f :: fm, a :: as, res, vis => by
    rw [refM_cons]
    refine Nat.le_trans (refM_vlen fm as _ _) ?_
    simp only [List.length_cons]
    split
    · have := dput_len vis f.name (valM f a vis); omega
    · omega
theorem vis_len (fm : List Fld) (as : List (Option Str)) : (visM fm as).length ≤ fm.length := by
  have := refM_vlen fm as [] []
  simpa [visM] using this
theorem lookup_of_mem {l : Dic} (h : (l.map (·.1)).Nodup) {p : Str × Option Str} (m : p ∈ l) : l.lookup p.1 = some p.2 := by
  induction l with
  | nil => cases m
  | cons q l ih =>
    obtain ⟨a, b⟩ := q
    simp only [List.map_cons, List.nodup_cons] at h
    rcases List.mem_cons.mp m with e | m
    · subst e; simp [List.lookup]
    · have hk : (p.1 == a) = false := by
        simp only [beq_eq_false_iff_ne]
        exact fun z => h.1 (z ▸ List.mem_map_of_mem m)
      simp only [List.lookup, hk]
      exact ih h.2 m
theorem keys_dD (l : Dic) : itemsF .keys [dD l] = some (l.map fun p => .str p.1) := by
  simp only [itemsF, dD]
  induction l with
  | nil => rfl
  | cons p l ih =>
    simp only [List.map_cons, List.mapM_cons, Option.pure_def, Option.bind_eq_bind, Option.bind_some]
    rw [ih]
    rfl
theorem list_dD (l : Dic) : biF .list (dD l) = some (.lst (l.map fun p => .str p.1)) := congrArg (Option.map D.lst) (keys_dD l)
def collM (fm : List Fld) (as : List (Option Str)) : Dic := (visM fm as).filter fun p => p.2.isSome
theorem filter_nodup {l : Dic} {p : Str × Option Str → Bool} (h : (l.map (·.1)).Nodup) : ((l.filter p).map (·.1)).Nodup := (List.Sublist.map _ List.filter_sublist).nodup h
section
variable {fs : List Df} {F k : Nat} {S : Sto}
theorem e_collected (b : B2 fs) (h9 : fs[9]? = some d_collected) {fm : List Fld} (z : Sz fm k) (as : List (Option Str)) : callK fs F (k + 4) 9 [formD fm, ansD as] S = some (dD (collM fm as), S) := by
  rw [callK_eq h9 rfl]
  have hv := e_visible (F := F) (S := S) b z as
  refine (congrArg fin (execs_nx (env' := [some (.sh (formD fm)), some (.sh (ansD as)), some (.sh (dD (visM fm as))), none]) (S' := S) ?_)).trans ?_
  · simp only [startE, List.map, List.length, List.replicate, execs, exec, ev, evs, evcs, evts, unown, unown1, List.foldl, peek, getO, getE, idx0, idx1, idx2, idx3, idx4, idxl0, idxl1, idxl2, List.cons_append, List.nil_append, List.append_nil, Option.map_some, Option.bind_some, Option.map_none, Option.bind_none, cmpF, eq_str, List.getElem?_cons_zero, List.getElem?_cons_succ, List.set_cons_zero, List.set_cons_succ, Nat.reduceSub, Nat.reduceAdd, decide_true, decide_false, fnx, frt, bindT, d_collected, hv]
  · have hdc := ev_dcR (c := callK fs F (k + 3)) (own := [3]) (tg := .nm 3) (ik := .keys) (its := [.var 2]) (ifs := [.cmp .isnot (.idx (.var 2) (.var 3)) (.con .non)]) (ke := .var 3) (ve := .idx (.var 2) (.var 3)) (env := [some (.sh (formD fm)), some (.sh (ansD as)), some (.sh (dD (visM fm as))), none]) (S := S) (S1 := S) (ds := [dD (visM fm as)])
      (fun p : Str × Option Str => D.str p.1) (fun p => p.2.isSome) (fun p => p.1) (fun p => oD p.2) (visM fm as) (by simp only [startE, List.map, List.length, List.replicate, execs, exec, ev, evs, evcs, evts, unown, unown1, List.foldl, peek, getO, getE, idx0, idx1, idx2, idx3, idx4, idxl0, idxl1, idxl2, List.cons_append, List.nil_append, List.append_nil, Option.map_some, Option.bind_some, Option.map_none, Option.bind_none, cmpF, eq_str, List.getElem?_cons_zero, List.getElem?_cons_succ, List.set_cons_zero, List.set_cons_succ, Nat.reduceSub, Nat.reduceAdd, decide_true, decide_false, fnx, frt, bindT]) (keys_dD _)
      (fun p m => ⟨[some (.sh (formD fm)), some (.sh (ansD as)), some (.sh (dD (visM fm as))), some (.sh (.str p.1))], rfl, by
        have hx : ∀ S, idxS S (dD (visM fm as)) (.str p.1) = some (oD p.2) := fun S => by rw [idx_dD, lookup_of_mem (vis_nodup fm as) m]; rfl
        simp only [startE, List.map, List.length, List.replicate, execs, exec, ev, evs, evcs, evts, unown, unown1, List.foldl, peek, getO, getE, idx0, idx1, idx2, idx3, idx4, idxl0, idxl1, idxl2, List.cons_append, List.nil_append, List.append_nil, Option.map_some, Option.bind_some, Option.map_none, Option.bind_none, cmpF, eq_str, List.getElem?_cons_zero, List.getElem?_cons_succ, List.set_cons_zero, List.set_cons_succ, Nat.reduceSub, Nat.reduceAdd, decide_true, decide_false, fnx, frt, bindT, hx, is_oD, Option.isNone]
        cases p.2 <;> rfl, fun _ => ⟨by simp only [startE, List.map, List.length, List.replicate, execs, exec, ev, evs, evcs, evts, unown, unown1, List.foldl, peek, getO, getE, idx0, idx1, idx2, idx3, idx4, idxl0, idxl1, idxl2, List.cons_append, List.nil_append, List.append_nil, Option.map_some, Option.bind_some, Option.map_none, Option.bind_none, cmpF, eq_str, List.getElem?_cons_zero, List.getElem?_cons_succ, List.set_cons_zero, List.set_cons_succ, Nat.reduceSub, Nat.reduceAdd, decide_true, decide_false, fnx, frt, bindT], by
        have hx : ∀ S, idxS S (dD (visM fm as)) (.str p.1) = some (oD p.2) := fun S => by rw [idx_dD, lookup_of_mem (vis_nodup fm as) m]; rfl
        simp only [startE, List.map, List.length, List.replicate, execs, exec, ev, evs, evcs, evts, unown, unown1, List.foldl, peek, getO, getE, idx0, idx1, idx2, idx3, idx4, idxl0, idxl1, idxl2, List.cons_append, List.nil_append, List.append_nil, Option.map_some, Option.bind_some, Option.map_none, Option.bind_none, cmpF, eq_str, List.getElem?_cons_zero, List.getElem?_cons_succ, List.set_cons_zero, List.set_cons_succ, Nat.reduceSub, Nat.reduceAdd, decide_true, decide_false, fnx, frt, bindT, hx]⟩⟩) (filter_nodup (vis_nodup fm as)) (by have := vis_len fm as; have := z.len; unfold big; omega)
    exact (congrArg fin (execs_rt (exec_ret hdc))).trans rfl
theorem e_shown (b : B2 fs) (h18 : fs[18]? = some d_kept_choices) (h19 : fs[19]? = some d_played) (h21 : fs[21]? = some d_shown) {fm : List Fld} (z : Sz fm k) (hn : fm ≠ []) (ss : List Act) (hs : callK fs F (k + 5) 17 [formD fm, sesD ss] S = some (.non, S)) :
    callK fs F (k + 6) 21 [formD fm, sesD ss] S = some (.lst ((visM fm (plA fm ss)).map fun p => .str p.1), S) := by
  rw [callK_eq h21 rfl]
  have hp := e_played (F := F) (S := S) b h18 h19 z hn ss
  have hv := e_visible (F := F) (k := k + 2) (S := S) b ⟨fun f m => Nat.le_add_right_of_le (z.dep f m), z.len⟩ (plA fm ss)
  simp only [startE, List.map, List.length, List.replicate, execs, exec, ev, evs, evcs, evts, unown, unown1, List.foldl, peek, getO, getE, idx0, idx1, idx2, idx3, idx4, idxl0, idxl1, idxl2, List.cons_append, List.nil_append, List.append_nil, Option.map_some, Option.bind_some, Option.map_none, Option.bind_none, cmpF, eq_str, List.getElem?_cons_zero, List.getElem?_cons_succ, List.set_cons_zero, List.set_cons_succ, Nat.reduceSub, Nat.reduceAdd, decide_true, decide_false, fnx, frt, bindT, d_shown, hs, hp, hv, list_dD]
theorem e_collect (b : B2 fs) (h9 : fs[9]? = some d_collected) (h18 : fs[18]? = some d_kept_choices) (h19 : fs[19]? = some d_played) (h20 : fs[20]? = some d_collect) {fm : List Fld} (z : Sz fm k) (hn : fm ≠ []) (ss : List Act) (hs : callK fs F (k + 5) 17 [formD fm, sesD ss] S = some (.non, S)) :
    callK fs F (k + 6) 20 [formD fm, sesD ss] S = some (dD (collM fm (plA fm ss)), S) := by
  rw [callK_eq h20 rfl]
  have hp := e_played (F := F) (S := S) b h18 h19 z hn ss
  have hv := e_collected (F := F) (k := k + 1) (S := S) b h9 ⟨fun f m => Nat.le_add_right_of_le (z.dep f m), z.len⟩ (plA fm ss)
  simp only [startE, List.map, List.length, List.replicate, execs, exec, ev, evs, evcs, evts, unown, unown1, List.foldl, peek, getO, getE, idx0, idx1, idx2, idx3, idx4, idxl0, idxl1, idxl2, List.cons_append, List.nil_append, List.append_nil, Option.map_some, Option.bind_some, Option.map_none, Option.bind_none, cmpF, eq_str, List.getElem?_cons_zero, List.getElem?_cons_succ, List.set_cons_zero, List.set_cons_succ, Nat.reduceSub, Nat.reduceAdd, decide_true, decide_false, fnx, frt, bindT, d_collect, hs, hp, hv]
/-! ### last -/
def lastM (fm : List Fld) (cs : List (Option Str)) : Dic := ((fm.zip cs).filter fun p => p.2.isSome).map fun p => (p.1.name, p.2)
theorem zip_items (fm : List Fld) (cs : List (Option Str)) : itemsF .zip [formD fm, ansD cs] = some ((fm.zip cs).map fun p => .tup [p.1.d, oD p.2]) := by
  simp only [itemsF, formD, ansD, List.zipWith_map_left, List.zipWith_map_right, List.map_zip_eq_zipWith]
  rfl
theorem e_last (b : B2 fs) (h18 : fs[18]? = some d_kept_choices) (h19 : fs[19]? = some d_played) (h22 : fs[22]? = some d_last) {fm : List Fld} (z : Sz fm k) (hn : fm ≠ []) (hnd : (fm.map (·.name)).Nodup) (ss : List Act) (hs : callK fs F (k + 5) 17 [formD fm, sesD ss] S = some (.non, S)) :
    callK fs F (k + 6) 22 [formD fm, sesD ss] S = some (dD (lastM fm (plC fm ss)), S) := by
  rw [callK_eq h22 rfl]
  have hp := e_played (F := F) (S := S) b h18 h19 z hn ss
  refine (congrArg fin (execs_nx (env' := [some (.sh (formD fm)), some (.sh (sesD ss)), none, none, none]) (S' := S) ?_)).trans ?_
  · simp only [startE, List.map, List.length, List.replicate, execs, exec, ev, evs, evcs, evts, unown, unown1, List.foldl, peek, getO, getE, idx0, idx1, idx2, idx3, idx4, idxl0, idxl1, idxl2, List.cons_append, List.nil_append, List.append_nil, Option.map_some, Option.bind_some, Option.map_none, Option.bind_none, cmpF, eq_str, List.getElem?_cons_zero, List.getElem?_cons_succ, List.set_cons_zero, List.set_cons_succ, Nat.reduceSub, Nat.reduceAdd, decide_true, decide_false, fnx, frt, bindT, d_last, hs]
  · refine (congrArg fin (execs_nx (env' := [some (.sh (formD fm)), some (.sh (sesD ss)), some (.sh (ansD (plC fm ss))), none, none]) (S' := S) ?_)).trans ?_
    · simp only [startE, List.map, List.length, List.replicate, execs, exec, ev, evs, evcs, evts, unown, unown1, List.foldl, peek, getO, getE, idx0, idx1, idx2, idx3, idx4, idxl0, idxl1, idxl2, List.cons_append, List.nil_append, List.append_nil, Option.map_some, Option.bind_some, Option.map_none, Option.bind_none, cmpF, eq_str, List.getElem?_cons_zero, List.getElem?_cons_succ, List.set_cons_zero, List.set_cons_succ, Nat.reduceSub, Nat.reduceAdd, decide_true, decide_false, fnx, frt, bindT, hp]
    · have hzn : (((fm.zip (plC fm ss)).filter fun p => p.2.isSome).map fun p => p.1.name).Nodup := by
        have h1 : ((fm.zip (plC fm ss)).map fun p => p.1.name).Sublist (fm.map (·.name)) := by
          generalize plC fm ss = cs
          clear hnd hn hp hs z
          induction fm generalizing cs with
          | nil => simp
          | cons f fm ih =>
            cases cs with
            | nil => simp
            | cons c cs => simpa using ih cs
        exact (List.Sublist.trans (List.Sublist.map _ List.filter_sublist) h1).nodup hnd
      have hdc := ev_dcR (c := callK fs F (k + 5)) (own := [3, 4]) (tg := .tp [3, 4]) (ik := .zip) (its := [.var 0, .var 2]) (ifs := [.cmp .isnot (.var 4) (.con .non)]) (ke := .idx (.var 3) (.con (.int 0))) (ve := .var 4) (env := [some (.sh (formD fm)), some (.sh (sesD ss)), some (.sh (ansD (plC fm ss))), none, none]) (S := S) (S1 := S) (ds := [formD fm, ansD (plC fm ss)])
        (fun p : Fld × Option Str => D.tup [p.1.d, oD p.2]) (fun p => p.2.isSome) (fun p => p.1.name) (fun p => oD p.2) (fm.zip (plC fm ss)) (by simp only [startE, List.map, List.length, List.replicate, execs, exec, ev, evs, evcs, evts, unown, unown1, List.foldl, peek, getO, getE, idx0, idx1, idx2, idx3, idx4, idxl0, idxl1, idxl2, List.cons_append, List.nil_append, List.append_nil, Option.map_some, Option.bind_some, Option.map_none, Option.bind_none, cmpF, eq_str, List.getElem?_cons_zero, List.getElem?_cons_succ, List.set_cons_zero, List.set_cons_succ, Nat.reduceSub, Nat.reduceAdd, decide_true, decide_false, fnx, frt, bindT]) (zip_items _ _)
        (fun p m => ⟨[some (.sh (formD fm)), some (.sh (sesD ss)), some (.sh (ansD (plC fm ss))), some (.sh p.1.d), some (.sh (oD p.2))], rfl, by
          simp only [startE, List.map, List.length, List.replicate, execs, exec, ev, evs, evcs, evts, unown, unown1, List.foldl, peek, getO, getE, idx0, idx1, idx2, idx3, idx4, idxl0, idxl1, idxl2, List.cons_append, List.nil_append, List.append_nil, Option.map_some, Option.bind_some, Option.map_none, Option.bind_none, cmpF, eq_str, List.getElem?_cons_zero, List.getElem?_cons_succ, List.set_cons_zero, List.set_cons_succ, Nat.reduceSub, Nat.reduceAdd, decide_true, decide_false, fnx, frt, bindT, is_oD]
          cases p.2 <;> rfl, fun _ => ⟨by simp only [startE, List.map, List.length, List.replicate, execs, exec, ev, evs, evcs, evts, unown, unown1, List.foldl, peek, getO, getE, idx0, idx1, idx2, idx3, idx4, idxl0, idxl1, idxl2, List.cons_append, List.nil_append, List.append_nil, Option.map_some, Option.bind_some, Option.map_none, Option.bind_none, cmpF, eq_str, List.getElem?_cons_zero, List.getElem?_cons_succ, List.set_cons_zero, List.set_cons_succ, Nat.reduceSub, Nat.reduceAdd, decide_true, decide_false, fnx, frt, bindT, Fld.d], by simp only [startE, List.map, List.length, List.replicate, execs, exec, ev, evs, evcs, evts, unown, unown1, List.foldl, peek, getO, getE, idx0, idx1, idx2, idx3, idx4, idxl0, idxl1, idxl2, List.cons_append, List.nil_append, List.append_nil, Option.map_some, Option.bind_some, Option.map_none, Option.bind_none, cmpF, eq_str, List.getElem?_cons_zero, List.getElem?_cons_succ, List.set_cons_zero, List.set_cons_succ, Nat.reduceSub, Nat.reduceAdd, decide_true, decide_false, fnx, frt, bindT]⟩⟩) hzn (by have := z.len; rw [List.length_zip]; unfold big; omega)
      refine (congrArg fin (execs_rt (exec_ret hdc))).trans ?_
      simp only [fin, lastM, dD, List.map_map]
      rfl
end
end FG

namespace FG
open PySem PySem.Spec PyProof.Rows L2
theorem oD_some (w : Str) : oD (some w) = .str w := rfl
theorem oD_none : oD none = .non := rfl
theorem is_str (w : Str) : isF (.str w) .non = some false := rfl
def strM (fm : List Fld) : List (Fld × Option Str) → List Act → List (Option Str) → List Act × List (Option Str)
  | [], ss, as => (ss, as)
  | (f, some w) :: l, ss, as => if ((visM fm as).lookup f.name).isSome then strM fm l (ss ++ [.ch f.name w]) (stepM fm as (.ch f.name w)) else strM fm l ss as
  | (f, none) :: l, ss, as => strM fm l ss as
section
variable {fs : List Df} {F k : Nat} {S : Sto}
theorem str_loop (b : B2 fs) {fm : List Fld} (z : Sz fm k) (x1 : Option Ent) : ∀ (l : List (Fld × Option Str)) (ss : List Act) (as : List (Option Str)) (x4 x5 x6 : Option Ent), as.length = fm.length → l.length + ss.length < big →
    ∃ y4 y5 y6, forGo (bindT (.tp [4, 5])) (fun e S => execs (callK fs F (k + 4)) F (loopOf d_straight_for.body) e S) (l.map fun p => .tup [p.1.d, oD p.2]) [some (.sh (formD fm)), x1, some (.ow (sesD ss)), some (.sh (ansD as)), x4, x5, x6] S =
      some (.nx [some (.sh (formD fm)), x1, some (.ow (sesD (strM fm l ss as).1)), some (.sh (ansD (strM fm l ss as).2)), y4, y5, y6] S)
  | [], ss, as, x4, x5, x6, _, _ => ⟨x4, x5, x6, rfl⟩
  | (f, c) :: l, ss, as, x4, x5, x6, ha, hl => by
    simp only [List.length_cons] at hl
    have hv := e_visible (F := F) (k := k + 1) (S := S) b ⟨fun f m => Nat.le_add_right_of_le (z.dep f m), z.len⟩ as
    have hin := in_dD (visM fm as) f.name
    cases c with
    | none =>
      obtain ⟨y4, y5, y6, ih⟩ := str_loop b z x1 l ss as (some (.sh f.d)) (some (.sh (oD none))) x6 ha (by omega)
      have hs : execs (callK fs F (k + 4)) F (loopOf d_straight_for.body) [some (.sh (formD fm)), x1, some (.ow (sesD ss)), some (.sh (ansD as)), some (.sh f.d), some (.sh (oD none)), x6] S = some (.nx [some (.sh (formD fm)), x1, some (.ow (sesD ss)), some (.sh (ansD as)), some (.sh f.d), some (.sh (oD none)), x6] S) := by
        simp only [startE, List.map, List.length, List.replicate, execs, exec, ev, evs, evcs, evts, unown, unown1, List.foldl, peek, getO, getE, idx0, idx1, idx2, idx3, idx4, idxl0, idxl1, idxl2, List.cons_append, List.nil_append, List.append_nil, Option.map_some, Option.bind_some, Option.map_none, Option.bind_none, cmpF, eq_str, List.getElem?_cons_zero, List.getElem?_cons_succ, List.set_cons_zero, List.set_cons_succ, Nat.reduceSub, Nat.reduceAdd, decide_true, decide_false, fnx, frt, bindT, loopOf, d_straight_for, is_oD, Option.isNone_none, Bool.not_true]
      refine ⟨y4, y5, y6, ?_⟩
      simp only [List.map_cons, forGo, bindT, List.length_cons, List.length_nil, if_true, List.zip_cons_cons, List.zip_nil_right, List.foldl, List.set_cons_zero, List.set_cons_succ, Option.bind_some, hs]
      exact ih
    | some w =>
      cases hvis : ((visM fm as).lookup f.name).isSome with
      | false =>
        rw [hvis] at hin
        obtain ⟨y4, y5, y6, ih⟩ := str_loop b z x1 l ss as (some (.sh f.d)) (some (.sh (oD (some w)))) x6 ha (by omega)
        have hs : execs (callK fs F (k + 4)) F (loopOf d_straight_for.body) [some (.sh (formD fm)), x1, some (.ow (sesD ss)), some (.sh (ansD as)), some (.sh f.d), some (.sh (oD (some w))), x6] S = some (.nx [some (.sh (formD fm)), x1, some (.ow (sesD ss)), some (.sh (ansD as)), some (.sh f.d), some (.sh (oD (some w))), x6] S) := by
          simp only [startE, List.map, List.length, List.replicate, execs, exec, ev, evs, evcs, evts, unown, unown1, List.foldl, peek, getO, getE, idx0, idx1, idx2, idx3, idx4, idxl0, idxl1, idxl2, List.cons_append, List.nil_append, List.append_nil, Option.map_some, Option.bind_some, Option.map_none, Option.bind_none, cmpF, eq_str, List.getElem?_cons_zero, List.getElem?_cons_succ, List.set_cons_zero, List.set_cons_succ, Nat.reduceSub, Nat.reduceAdd, decide_true, decide_false, fnx, frt, bindT, loopOf, d_straight_for, is_oD, Option.isNone_some, Bool.not_false, Fld.d, hv, hin]
        refine ⟨y4, y5, y6, ?_⟩
        simp only [List.map_cons, forGo, bindT, List.length_cons, List.length_nil, if_true, List.zip_cons_cons, List.zip_nil_right, List.foldl, List.set_cons_zero, List.set_cons_succ, Option.bind_some, hs, strM, hvis, Bool.false_eq_true, if_false]
        exact ih
      | true =>
        rw [hvis] at hin
        have hst := e_stepped (F := F) (S := S) b z ha (.ch f.name w)
        obtain ⟨y4, y5, y6, ih⟩ := str_loop b z x1 l (ss ++ [.ch f.name w]) (stepM fm as (.ch f.name w)) (some (.sh f.d)) (some (.sh (oD (some w)))) (some (.sh (Act.ch f.name w).d)) (stepM_len ha _) (by simp; omega)
        have hbg : (ss.map Act.d).length < big := by simp; omega
        have hs : execs (callK fs F (k + 4)) F (loopOf d_straight_for.body) [some (.sh (formD fm)), x1, some (.ow (sesD ss)), some (.sh (ansD as)), some (.sh f.d), some (.sh (oD (some w))), x6] S = some (.nx [some (.sh (formD fm)), x1, some (.ow (sesD (ss ++ [.ch f.name w]))), some (.sh (ansD (stepM fm as (.ch f.name w)))), some (.sh f.d), some (.sh (oD (some w))), some (.sh (Act.ch f.name w).d)] S) := by
          simp only [Act.d] at hst
          simp only [startE, List.map, List.length, List.replicate, execs, exec, ev, evs, evcs, evts, unown, unown1, List.foldl, peek, getO, getE, idx0, idx1, idx2, idx3, idx4, idxl0, idxl1, idxl2, List.cons_append, List.nil_append, List.append_nil, Option.map_some, Option.bind_some, Option.map_none, Option.bind_none, cmpF, eq_str, List.getElem?_cons_zero, List.getElem?_cons_succ, List.set_cons_zero, List.set_cons_succ, Nat.reduceSub, Nat.reduceAdd, decide_true, decide_false, fnx, frt, bindT, loopOf, d_straight_for, is_oD, Option.isNone_some, Bool.not_false, Fld.d, hv, hin, sesD, hbg, if_true, oD_some, is_str, hst, Act.d, List.map_append]
        refine ⟨y4, y5, y6, ?_⟩
        simp only [List.map_cons, forGo, bindT, List.length_cons, List.length_nil, if_true, List.zip_cons_cons, List.zip_nil_right, List.foldl, List.set_cons_zero, List.set_cons_succ, Option.bind_some, hs, strM, hvis, if_true]
        exact ih
def straM (fm : List Fld) (cs : List (Option Str)) : List Act := (strM fm (fm.zip cs) [] (noneM fm)).1
theorem e_straight_for (b : B2 fs) (h23 : fs[23]? = some d_straight_for) {fm : List Fld} (z : Sz fm k) (hn : fm ≠ []) (cs : List (Option Str)) :
    callK fs F (k + 5) 23 [formD fm, ansD cs] S = some (.tup [sesD (straM fm cs), ansD (strM fm (fm.zip cs) [] (noneM fm)).2], S) := by
  rw [callK_eq h23 rfl]
  have he := e_empty (F := F) (k := k + 3) (S := S) b.h10 hn z.len
  obtain ⟨y4, y5, y6, hs⟩ := str_loop (F := F) (S := S) b z (some (.sh (ansD cs))) (fm.zip cs) [] (noneM fm) none none none (by simp [noneM]) (by have := z.len; simp [List.length_zip]; unfold big; omega)
  refine (congrArg fin (execs_nx (env' := [some (.sh (formD fm)), some (.sh (ansD cs)), some (.ow (sesD [])), some (.sh (ansD (noneM fm))), none, none, none]) (S' := S) ?_)).trans ?_
  · simp only [startE, List.map, List.length, List.replicate, execs, exec, ev, evs, evcs, evts, unown, unown1, List.foldl, peek, getO, getE, idx0, idx1, idx2, idx3, idx4, idxl0, idxl1, idxl2, List.cons_append, List.nil_append, List.append_nil, Option.map_some, Option.bind_some, Option.map_none, Option.bind_none, cmpF, eq_str, List.getElem?_cons_zero, List.getElem?_cons_succ, List.set_cons_zero, List.set_cons_succ, Nat.reduceSub, Nat.reduceAdd, decide_true, decide_false, fnx, frt, bindT, parGo, d_straight_for, he, isMut, Bool.not_true, Bool.and_false, Bool.false_and, Bool.false_eq_true, if_false, if_true, sesD]
  · refine (congrArg fin (execs_nx (exec_for (ds := [formD fm, ansD cs]) (S1 := S) ?_ (zip_items fm cs) hs))).trans ?_
    · simp only [startE, List.map, List.length, List.replicate, execs, exec, ev, evs, evcs, evts, unown, unown1, List.foldl, peek, getO, getE, idx0, idx1, idx2, idx3, idx4, idxl0, idxl1, idxl2, List.cons_append, List.nil_append, List.append_nil, Option.map_some, Option.bind_some, Option.map_none, Option.bind_none, cmpF, eq_str, List.getElem?_cons_zero, List.getElem?_cons_succ, List.set_cons_zero, List.set_cons_succ, Nat.reduceSub, Nat.reduceAdd, decide_true, decide_false, fnx, frt, bindT]
    · simp only [startE, List.map, List.length, List.replicate, execs, exec, ev, evs, evcs, evts, unown, unown1, List.foldl, peek, getO, getE, idx0, idx1, idx2, idx3, idx4, idxl0, idxl1, idxl2, List.cons_append, List.nil_append, List.append_nil, Option.map_some, Option.bind_some, Option.map_none, Option.bind_none, cmpF, eq_str, List.getElem?_cons_zero, List.getElem?_cons_succ, List.set_cons_zero, List.set_cons_succ, Nat.reduceSub, Nat.reduceAdd, decide_true, decide_false, fnx, frt, bindT]
      rfl
theorem e_straight (b : B2 fs) (h18 : fs[18]? = some d_kept_choices) (h19 : fs[19]? = some d_played) (h23 : fs[23]? = some d_straight_for) (h24 : fs[24]? = some d_straight) {fm : List Fld} (z : Sz fm k) (hn : fm ≠ []) (ss : List Act) (hs : callK fs F (k + 5) 17 [formD fm, sesD ss] S = some (.non, S)) :
    callK fs F (k + 6) 24 [formD fm, sesD ss] S = some (sesD (straM fm (plC fm ss)), S) := by
  rw [callK_eq h24 rfl]
  have hp := e_played (F := F) (S := S) b h18 h19 z hn ss
  have hf := e_straight_for (F := F) (S := S) b h23 z hn (plC fm ss)
  simp only [startE, List.map, List.length, List.replicate, execs, exec, ev, evs, evcs, evts, unown, unown1, List.foldl, peek, getO, getE, idx0, idx1, idx2, idx3, idx4, idxl0, idxl1, idxl2, List.cons_append, List.nil_append, List.append_nil, Option.map_some, Option.bind_some, Option.map_none, Option.bind_none, cmpF, eq_str, List.getElem?_cons_zero, List.getElem?_cons_succ, List.set_cons_zero, List.set_cons_succ, Nat.reduceSub, Nat.reduceAdd, decide_true, decide_false, fnx, frt, bindT, d_straight, hs, hp, hf]
end
end FG

namespace FG
open PySem PySem.Spec PyProof.Rows L2
theorem slf1 (a : D) (ds : List D) : slcF (.tup (a :: ds)) (some 1) none = some (.tup ds) := by
  have := cut_drop (a :: ds) 1
  simp only [slcF]
  rw [show (1 : Int) = ((1 : Nat) : Int) from rfl, this]
  rfl
theorem all_bls (bs : List Bool) : biF .all (.lst (bs.map .bl)) = some (.bl (bs.all id)) := by
  have : ∀ bs : List Bool, bools (bs.map D.bl) = some bs := fun bs => by
    induction bs with
    | nil => rfl
    | cons b bs ih => simp [bools, ih]
  simp only [biF, this, Option.map_some]
theorem any_bls (bs : List Bool) : biF .any (.lst (bs.map .bl)) = some (.bl (bs.any id)) := by
  have : ∀ bs : List Bool, bools (bs.map D.bl) = some bs := fun bs => by
    induction bs with
    | nil => rfl
    | cons b bs ih => simp [bools, ih]
  simp only [biF, this, Option.map_some]
section
variable {fs : List Df} {F k : Nat} {S : Sto}
/-- the parts of a condition -/
theorem lh_parts {fs : List Df} {F k : Nat} {S : Sto} {l : Dic} {kind : Str} {cs : List Cnd} (ih : ∀ c ∈ cs, callK fs F k 30 [c.d, dD l] S = some (.bl (holdsM c l), S)) (hl : cs.length ≤ big) :
    ev (callK fs F k) (.lc [3] (.nm 3) .seq [.slf (.var 0) (.con (.int 1))] [] (.call 30 [.var 3, .var 1])) [some (.sh (.tup (.str kind :: cs.map Cnd.d))), some (.sh (dD l)), none, none] S = some (.lst (cs.map fun c => .bl (holdsM c l)), S) := by
  have := ev_lcR (c := callK fs F k) (own := [3]) (tg := .nm 3) (ik := .seq) (its := [.slf (.var 0) (.con (.int 1))]) (ifs := []) (elt := .call 30 [.var 3, .var 1]) (env := [some (.sh (.tup (.str kind :: cs.map Cnd.d))), some (.sh (dD l)), none, none]) (S := S) (S1 := S) (ds := [.tup (cs.map Cnd.d)])
    Cnd.d (fun _ => true) (fun c => .bl (holdsM c l)) cs (by simp only [startE, List.map, List.length, List.replicate, execs, exec, ev, evs, evcs, evts, unown, unown1, List.foldl, peek, getO, getE, idx0, idx1, idx2, idx3, idx4, idxl0, idxl1, idxl2, List.cons_append, List.nil_append, List.append_nil, Option.map_some, Option.bind_some, Option.map_none, Option.bind_none, cmpF, eq_str, List.getElem?_cons_zero, List.getElem?_cons_succ, List.set_cons_zero, List.set_cons_succ, Nat.reduceSub, Nat.reduceAdd, decide_true, decide_false, fnx, frt, bindT, slf1]) (by decide) rfl (fun c m => ⟨[some (.sh (.tup (.str kind :: cs.map Cnd.d))), some (.sh (dD l)), none, some (.sh c.d)], rfl, rfl, fun _ => by simp only [startE, List.map, List.length, List.replicate, execs, exec, ev, evs, evcs, evts, unown, unown1, List.foldl, peek, getO, getE, idx0, idx1, idx2, idx3, idx4, idxl0, idxl1, idxl2, List.cons_append, List.nil_append, List.append_nil, Option.map_some, Option.bind_some, Option.map_none, Option.bind_none, cmpF, eq_str, List.getElem?_cons_zero, List.getElem?_cons_succ, List.set_cons_zero, List.set_cons_succ, Nat.reduceSub, Nat.reduceAdd, decide_true, decide_false, fnx, frt, bindT, ih c m]⟩) hl
  rw [this, List.filter_eq_self.mpr fun _ _ => rfl]
theorem e_lholds (h : fs[30]? = some d_law_holds) : ∀ (c : Cnd) (l : Dic) (k : Nat), c.dep ≤ k → callK fs F (k + 1) 30 [c.d, dD l] S = some (.bl (holdsM c l), S)
  | .alw, l, k, _ => by
    rw [callK_eq h rfl]
    refine (congrArg fin (execs_rt (d := .bl true) (S' := S) ?_)).trans rfl
    simp only [startE, List.map, List.length, List.replicate, execs, exec, ev, evs, evcs, evts, unown, unown1, List.foldl, peek, getO, getE, idx0, idx1, idx2, idx3, idx4, idxl0, idxl1, idxl2, List.cons_append, List.nil_append, List.append_nil, Option.map_some, Option.bind_some, Option.map_none, Option.bind_none, cmpF, eq_str, List.getElem?_cons_zero, List.getElem?_cons_succ, List.set_cons_zero, List.set_cons_succ, Nat.reduceSub, Nat.reduceAdd, decide_true, decide_false, fnx, frt, bindT, d_law_holds, Cnd.d]
  | .is n w, l, k, _ => by
    rw [callK_eq h rfl]
    refine (congrArg fin (execs_nx (env' := [some (.sh (Cnd.is n w).d), some (.sh (dD l)), none, none]) (S' := S) ?_)).trans ?_
    · simp only [startE, List.map, List.length, List.replicate, execs, exec, ev, evs, evcs, evts, unown, unown1, List.foldl, peek, getO, getE, idx0, idx1, idx2, idx3, idx4, idxl0, idxl1, idxl2, List.cons_append, List.nil_append, List.append_nil, Option.map_some, Option.bind_some, Option.map_none, Option.bind_none, cmpF, eq_str, List.getElem?_cons_zero, List.getElem?_cons_succ, List.set_cons_zero, List.set_cons_succ, Nat.reduceSub, Nat.reduceAdd, decide_true, decide_false, fnx, frt, bindT, d_law_holds, Cnd.d, sdec (show ("is" : Str) ≠ "always" by decide)]
    · refine (congrArg fin (execs_rt (d := .bl (holdsM (.is n w) l)) (S' := S) ?_)).trans rfl
      simp only [startE, List.map, List.length, List.replicate, execs, exec, ev, evs, evcs, evts, unown, unown1, List.foldl, peek, getO, getE, idx0, idx1, idx2, idx3, idx4, idxl0, idxl1, idxl2, List.cons_append, List.nil_append, List.append_nil, Option.map_some, Option.bind_some, Option.map_none, Option.bind_none, cmpF, eq_str, List.getElem?_cons_zero, List.getElem?_cons_succ, List.set_cons_zero, List.set_cons_succ, Nat.reduceSub, Nat.reduceAdd, decide_true, decide_false, fnx, frt, bindT, Cnd.d, get_dD, eq_oD, holdsM]
  | .not c, l, k + 1, hk => by
    rw [callK_eq h rfl]
    have ih := e_lholds h c l k (by simp [Cnd.dep] at hk; omega)
    have hp := lh_parts (fs := fs) (F := F) (k := k + 1) (S := S) (l := l) (kind := "not") (cs := [c]) (by simpa using ih) (by simp; unfold big; omega)
    refine (congrArg fin (execs_nx (env' := [some (.sh (Cnd.not c).d), some (.sh (dD l)), none, none]) (S' := S) ?_)).trans ?_
    · simp only [startE, List.map, List.length, List.replicate, execs, exec, ev, evs, evcs, evts, unown, unown1, List.foldl, peek, getO, getE, idx0, idx1, idx2, idx3, idx4, idxl0, idxl1, idxl2, List.cons_append, List.nil_append, List.append_nil, Option.map_some, Option.bind_some, Option.map_none, Option.bind_none, cmpF, eq_str, List.getElem?_cons_zero, List.getElem?_cons_succ, List.set_cons_zero, List.set_cons_succ, Nat.reduceSub, Nat.reduceAdd, decide_true, decide_false, fnx, frt, bindT, d_law_holds, Cnd.d, sdec (show ("not" : Str) ≠ "always" by decide)]
    · refine (congrArg fin (execs_nx (env' := [some (.sh (Cnd.not c).d), some (.sh (dD l)), none, none]) (S' := S) ?_)).trans ?_
      · simp only [startE, List.map, List.length, List.replicate, execs, exec, ev, evs, evcs, evts, unown, unown1, List.foldl, peek, getO, getE, idx0, idx1, idx2, idx3, idx4, idxl0, idxl1, idxl2, List.cons_append, List.nil_append, List.append_nil, Option.map_some, Option.bind_some, Option.map_none, Option.bind_none, cmpF, eq_str, List.getElem?_cons_zero, List.getElem?_cons_succ, List.set_cons_zero, List.set_cons_succ, Nat.reduceSub, Nat.reduceAdd, decide_true, decide_false, fnx, frt, bindT, Cnd.d, sdec (show ("not" : Str) ≠ "is" by decide)]
      · refine (congrArg fin (execs_nx (exec_asg hp))).trans ?_
        simp only [startE, List.map, List.length, List.replicate, execs, exec, ev, evs, evcs, evts, unown, unown1, List.foldl, peek, getO, getE, idx0, idx1, idx2, idx3, idx4, idxl0, idxl1, idxl2, List.cons_append, List.nil_append, List.append_nil, Option.map_some, Option.bind_some, Option.map_none, Option.bind_none, cmpF, eq_str, List.getElem?_cons_zero, List.getElem?_cons_succ, List.set_cons_zero, List.set_cons_succ, Nat.reduceSub, Nat.reduceAdd, decide_true, decide_false, fnx, frt, bindT, holdsM, Cnd.d]
  | .and a b, l, k + 1, hk => by
    rw [callK_eq h rfl]
    have ia := e_lholds h a l k (by simp [Cnd.dep] at hk; omega)
    have ib := e_lholds h b l k (by simp [Cnd.dep] at hk; omega)
    have hp := lh_parts (fs := fs) (F := F) (k := k + 1) (S := S) (l := l) (kind := "and") (cs := [a, b]) (by simpa using ⟨ia, ib⟩) (by simp; unfold big; omega)
    have ha := all_bls [holdsM a l, holdsM b l]
    simp only [List.map_cons, List.map_nil] at ha
    refine (congrArg fin (execs_nx (env' := [some (.sh (Cnd.and a b).d), some (.sh (dD l)), none, none]) (S' := S) ?_)).trans ?_
    · simp only [startE, List.map, List.length, List.replicate, execs, exec, ev, evs, evcs, evts, unown, unown1, List.foldl, peek, getO, getE, idx0, idx1, idx2, idx3, idx4, idxl0, idxl1, idxl2, List.cons_append, List.nil_append, List.append_nil, Option.map_some, Option.bind_some, Option.map_none, Option.bind_none, cmpF, eq_str, List.getElem?_cons_zero, List.getElem?_cons_succ, List.set_cons_zero, List.set_cons_succ, Nat.reduceSub, Nat.reduceAdd, decide_true, decide_false, fnx, frt, bindT, d_law_holds, Cnd.d, sdec (show ("and" : Str) ≠ "always" by decide)]
    · refine (congrArg fin (execs_nx (env' := [some (.sh (Cnd.and a b).d), some (.sh (dD l)), none, none]) (S' := S) ?_)).trans ?_
      · simp only [startE, List.map, List.length, List.replicate, execs, exec, ev, evs, evcs, evts, unown, unown1, List.foldl, peek, getO, getE, idx0, idx1, idx2, idx3, idx4, idxl0, idxl1, idxl2, List.cons_append, List.nil_append, List.append_nil, Option.map_some, Option.bind_some, Option.map_none, Option.bind_none, cmpF, eq_str, List.getElem?_cons_zero, List.getElem?_cons_succ, List.set_cons_zero, List.set_cons_succ, Nat.reduceSub, Nat.reduceAdd, decide_true, decide_false, fnx, frt, bindT, Cnd.d, sdec (show ("and" : Str) ≠ "is" by decide)]
      · refine (congrArg fin (execs_nx (exec_asg hp))).trans ?_
        simp only [startE, List.map, List.length, List.replicate, execs, exec, ev, evs, evcs, evts, unown, unown1, List.foldl, peek, getO, getE, idx0, idx1, idx2, idx3, idx4, idxl0, idxl1, idxl2, List.cons_append, List.nil_append, List.append_nil, Option.map_some, Option.bind_some, Option.map_none, Option.bind_none, cmpF, eq_str, List.getElem?_cons_zero, List.getElem?_cons_succ, List.set_cons_zero, List.set_cons_succ, Nat.reduceSub, Nat.reduceAdd, decide_true, decide_false, fnx, frt, bindT, holdsM, Cnd.d, sdec (show ("and" : Str) ≠ "not" by decide), ha, List.all_cons, List.all_nil, id, Bool.and_true]
  | .or a b, l, k + 1, hk => by
    rw [callK_eq h rfl]
    have ia := e_lholds h a l k (by simp [Cnd.dep] at hk; omega)
    have ib := e_lholds h b l k (by simp [Cnd.dep] at hk; omega)
    have hp := lh_parts (fs := fs) (F := F) (k := k + 1) (S := S) (l := l) (kind := "or") (cs := [a, b]) (by simpa using ⟨ia, ib⟩) (by simp; unfold big; omega)
    have ha := any_bls [holdsM a l, holdsM b l]
    simp only [List.map_cons, List.map_nil] at ha
    refine (congrArg fin (execs_nx (env' := [some (.sh (Cnd.or a b).d), some (.sh (dD l)), none, none]) (S' := S) ?_)).trans ?_
    · simp only [startE, List.map, List.length, List.replicate, execs, exec, ev, evs, evcs, evts, unown, unown1, List.foldl, peek, getO, getE, idx0, idx1, idx2, idx3, idx4, idxl0, idxl1, idxl2, List.cons_append, List.nil_append, List.append_nil, Option.map_some, Option.bind_some, Option.map_none, Option.bind_none, cmpF, eq_str, List.getElem?_cons_zero, List.getElem?_cons_succ, List.set_cons_zero, List.set_cons_succ, Nat.reduceSub, Nat.reduceAdd, decide_true, decide_false, fnx, frt, bindT, d_law_holds, Cnd.d, sdec (show ("or" : Str) ≠ "always" by decide)]
    · refine (congrArg fin (execs_nx (env' := [some (.sh (Cnd.or a b).d), some (.sh (dD l)), none, none]) (S' := S) ?_)).trans ?_
      · simp only [startE, List.map, List.length, List.replicate, execs, exec, ev, evs, evcs, evts, unown, unown1, List.foldl, peek, getO, getE, idx0, idx1, idx2, idx3, idx4, idxl0, idxl1, idxl2, List.cons_append, List.nil_append, List.append_nil, Option.map_some, Option.bind_some, Option.map_none, Option.bind_none, cmpF, eq_str, List.getElem?_cons_zero, List.getElem?_cons_succ, List.set_cons_zero, List.set_cons_succ, Nat.reduceSub, Nat.reduceAdd, decide_true, decide_false, fnx, frt, bindT, Cnd.d, sdec (show ("or" : Str) ≠ "is" by decide)]
      · refine (congrArg fin (execs_nx (exec_asg hp))).trans ?_
        simp only [startE, List.map, List.length, List.replicate, execs, exec, ev, evs, evcs, evts, unown, unown1, List.foldl, peek, getO, getE, idx0, idx1, idx2, idx3, idx4, idxl0, idxl1, idxl2, List.cons_append, List.nil_append, List.append_nil, Option.map_some, Option.bind_some, Option.map_none, Option.bind_none, cmpF, eq_str, List.getElem?_cons_zero, List.getElem?_cons_succ, List.set_cons_zero, List.set_cons_succ, Nat.reduceSub, Nat.reduceAdd, decide_true, decide_false, fnx, frt, bindT, holdsM, Cnd.d, sdec (show ("or" : Str) ≠ "not" by decide), sdec (show ("or" : Str) ≠ "and" by decide), ha, List.any_cons, List.any_nil, id, Bool.or_false]
  | .not c, l, 0, hk => by simp [Cnd.dep] at hk
  | .and a b, l, 0, hk => by simp [Cnd.dep] at hk
  | .or a b, l, 0, hk => by simp [Cnd.dep] at hk
/-! ### _law_seen -/
def seenM (la : Dic) : List Fld → Dic → Dic
  | [], se => se
  | f :: fm, se => seenM la fm (if holdsM f.cond se then dput se f.name (dget la f.name) else se)
theorem seen_loop (h : fs[30]? = some d_law_holds) (la : Dic) (x0 : Option Ent) : ∀ (fm : List Fld) (se : Dic) (x3 : Option Ent), (∀ f ∈ fm, f.cond.dep ≤ k) → fm.length + se.length < big →
    ∃ y3, forGo (bindT (.nm 3)) (fun e S => execs (callK fs F (k + 1)) F (loopOf d_law_seen.body) e S) (fm.map Fld.d) [x0, some (.sh (dD la)), some (.ow (dD se)), x3] S = some (.nx [x0, some (.sh (dD la)), some (.ow (dD (seenM la fm se))), y3] S)
  | [], se, x3, _, _ => ⟨x3, rfl⟩
  | f :: fm, se, x3, hd, hl => by
    simp only [List.length_cons] at hl
    have hh := e_lholds (F := F) (S := S) h f.cond se k (hd f List.mem_cons_self)
    have hset := set_dD se f.name (dget la f.name) (by omega)
    have hln : (if holdsM f.cond se then dput se f.name (dget la f.name) else se).length ≤ se.length + 1 := by
      split
      · exact dput_len _ _ _
      · omega
    obtain ⟨y3, ih⟩ := seen_loop h la x0 fm (if holdsM f.cond se then dput se f.name (dget la f.name) else se) (some (.sh f.d)) (fun g m => hd g (List.mem_cons_of_mem _ m)) (by omega)
    have hs : execs (callK fs F (k + 1)) F (loopOf d_law_seen.body) [x0, some (.sh (dD la)), some (.ow (dD se)), some (.sh f.d)] S = some (.nx [x0, some (.sh (dD la)), some (.ow (dD (if holdsM f.cond se then dput se f.name (dget la f.name) else se))), some (.sh f.d)] S) := by
      cases hb : holdsM f.cond se with
      | true =>
        rw [hb] at hh
        simp only [startE, List.map, List.length, List.replicate, execs, exec, ev, evs, evcs, evts, unown, unown1, List.foldl, peek, getO, getE, idx0, idx1, idx2, idx3, idx4, idxl0, idxl1, idxl2, List.cons_append, List.nil_append, List.append_nil, Option.map_some, Option.bind_some, Option.map_none, Option.bind_none, cmpF, eq_str, List.getElem?_cons_zero, List.getElem?_cons_succ, List.set_cons_zero, List.set_cons_succ, Nat.reduceSub, Nat.reduceAdd, decide_true, decide_false, fnx, frt, bindT, loopOf, d_law_seen, Fld.d, hh, imm, if_true, get_dD, hset]
      | false =>
        rw [hb] at hh
        simp only [startE, List.map, List.length, List.replicate, execs, exec, ev, evs, evcs, evts, unown, unown1, List.foldl, peek, getO, getE, idx0, idx1, idx2, idx3, idx4, idxl0, idxl1, idxl2, List.cons_append, List.nil_append, List.append_nil, Option.map_some, Option.bind_some, Option.map_none, Option.bind_none, cmpF, eq_str, List.getElem?_cons_zero, List.getElem?_cons_succ, List.set_cons_zero, List.set_cons_succ, Nat.reduceSub, Nat.reduceAdd, decide_true, decide_false, fnx, frt, bindT, loopOf, d_law_seen, Fld.d, hh, imm, if_true, Bool.false_eq_true, if_false]
    refine ⟨y3, ?_⟩
    simp only [List.map_cons, forGo, bindT, List.set_cons_zero, List.set_cons_succ, Option.bind_some, hs]
    exact ih
theorem e_seen (h : fs[30]? = some d_law_holds) (h31 : fs[31]? = some d_law_seen) {fm : List Fld} (z : Sz fm k) (la : Dic) : callK fs F (k + 2) 31 [formD fm, dD la] S = some (dD (seenM la fm []), S) := by
  rw [callK_eq h31 rfl]
  obtain ⟨y3, hs⟩ := seen_loop (F := F) (S := S) h la (some (.sh (formD fm))) fm [] none z.dep (by simpa using z.big)
  refine (congrArg fin (execs_nx (env' := [some (.sh (formD fm)), some (.sh (dD la)), some (.ow (dD [])), none]) (S' := S) ?_)).trans ?_
  · simp only [startE, List.map, List.length, List.replicate, execs, exec, ev, evs, evcs, evts, unown, unown1, List.foldl, peek, getO, getE, idx0, idx1, idx2, idx3, idx4, idxl0, idxl1, idxl2, List.cons_append, List.nil_append, List.append_nil, Option.map_some, Option.bind_some, Option.map_none, Option.bind_none, cmpF, eq_str, List.getElem?_cons_zero, List.getElem?_cons_succ, List.set_cons_zero, List.set_cons_succ, Nat.reduceSub, Nat.reduceAdd, decide_true, decide_false, fnx, frt, bindT, d_law_seen, isMut, if_true]
    rfl
  · refine (congrArg fin (execs_nx (exec_for (ds := [formD fm]) (S1 := S) ?_ rfl hs))).trans ?_
    · simp only [startE, List.map, List.length, List.replicate, execs, exec, ev, evs, evcs, evts, unown, unown1, List.foldl, peek, getO, getE, idx0, idx1, idx2, idx3, idx4, idxl0, idxl1, idxl2, List.cons_append, List.nil_append, List.append_nil, Option.map_some, Option.bind_some, Option.map_none, Option.bind_none, cmpF, eq_str, List.getElem?_cons_zero, List.getElem?_cons_succ, List.set_cons_zero, List.set_cons_succ, Nat.reduceSub, Nat.reduceAdd, decide_true, decide_false, fnx, frt, bindT]
    · simp only [startE, List.map, List.length, List.replicate, execs, exec, ev, evs, evcs, evts, unown, unown1, List.foldl, peek, getO, getE, idx0, idx1, idx2, idx3, idx4, idxl0, idxl1, idxl2, List.cons_append, List.nil_append, List.append_nil, Option.map_some, Option.bind_some, Option.map_none, Option.bind_none, cmpF, eq_str, List.getElem?_cons_zero, List.getElem?_cons_succ, List.set_cons_zero, List.set_cons_succ, Nat.reduceSub, Nat.reduceAdd, decide_true, decide_false, fnx, frt, bindT]
end
end FG

namespace FG
open PySem PySem.Spec PyProof.Rows L2
def fillM (f : Fld) (la se : Dic) : Dic := if (dget la f.name).isNone && f.src.isSome then dput la f.name (f.src.bind (dget se)) else la
def doneL : List Fld → Dic → Dic → Dic × Dic
  | [], la, se => (la, se)
  | f :: fm, la, se => doneL fm (if holdsM f.cond se then fillM f la se else if f.clr then dput la f.name none else la) (if holdsM f.cond se then dput se f.name (dget (fillM f la se) f.name) else se)
def doneM (fm : List Fld) (la : Dic) (a : Act) : Dic := if ((seenM la fm []).lookup a.nm).isSome then (doneL fm (dput la a.nm a.val) []).1 else la
theorem fillM_len (f : Fld) (la se : Dic) : (fillM f la se).length ≤ la.length + 1 := by
  unfold fillM
  split
  · exact dput_len _ _ _
  · omega
theorem doneL_len : ∀ (fm : List Fld) (la se : Dic), (doneL fm la se).1.length ≤ la.length + fm.length
  | [], la, se => by simp [doneL]
  | f :: fm, la, se => by
    refine Nat.le_trans (doneL_len fm _ _) ?_
    have h1 := fillM_len f la se
    have h2 := dput_len la f.name none
    simp only [List.length_cons]
    split
    · omega
    · split <;> omega
theorem doneM_len (fm : List Fld) (la : Dic) (a : Act) : (doneM fm la a).length ≤ la.length + fm.length + 1 := by
  unfold doneM
  split
  · have h1 := doneL_len fm (dput la a.nm a.val) []
    have h2 := dput_len la a.nm a.val
    omega
  · omega
theorem dict_dD (l : Dic) : biF .dict (dD l) = some (dD l) := rfl
section
variable {fs : List Df} {F k : Nat} {S : Sto}
theorem done_step (h : fs[30]? = some d_law_holds) (x0 x2 : Option Ent) (f : Fld) (la se : Dic) (x5 : Option Ent) (hd : f.cond.dep ≤ k) (h1 : la.length < big) (h2 : se.length < big) :
    execs (callK fs F (k + 1)) F (loopOf d_law_done.body) [x0, some (.ow (dD la)), x2, some (.ow (dD se)), some (.sh f.d), x5] S =
      some (.nx [x0, some (.ow (dD (if holdsM f.cond se then fillM f la se else if f.clr then dput la f.name none else la))), x2, some (.ow (dD (if holdsM f.cond se then dput se f.name (dget (fillM f la se) f.name) else se))), some (.sh f.d), some (.sh (.str f.name))] S) := by
  have hh := e_lholds (F := F) (S := S) h f.cond se k hd
  cases hb : holdsM f.cond se with
  | true =>
    rw [hb] at hh
    have hs2 := set_dD se f.name (dget (fillM f la se) f.name) h2
    have hs1 := set_dD la f.name (f.src.bind (dget se)) h1
    cases hc : ((dget la f.name).isNone && f.src.isSome) with
    | true =>
      have hfill : fillM f la se = dput la f.name (f.src.bind (dget se)) := by unfold fillM; rw [hc]; rfl
      rw [hfill] at hs2 ⊢
      simp only [Bool.and_eq_true] at hc
      have hn : f.src.isNone = false := by cases hx : f.src with
        | none => rw [hx] at hc; simp at hc
        | some _ => rfl
      simp only [startE, List.map, List.length, List.replicate, execs, exec, ev, evs, evcs, evts, unown, unown1, List.foldl, peek, getO, getE, idx0, idx1, idx2, idx3, idx4, idxl0, idxl1, idxl2, List.cons_append, List.nil_append, List.append_nil, Option.map_some, Option.bind_some, Option.map_none, Option.bind_none, cmpF, eq_str, List.getElem?_cons_zero, List.getElem?_cons_succ, List.set_cons_zero, List.set_cons_succ, Nat.reduceSub, Nat.reduceAdd, decide_true, decide_false, fnx, frt, bindT, loopOf, d_law_done, Fld.d, hh, imm, if_true, get_dD, get_dDo, is_oD, hc.1, hn, Bool.not_false, hs1, hs2]
    | false =>
      have hfill : fillM f la se = la := by unfold fillM; rw [hc]; rfl
      rw [hfill] at hs2 ⊢
      cases ha : (dget la f.name).isNone with
      | false => simp only [startE, List.map, List.length, List.replicate, execs, exec, ev, evs, evcs, evts, unown, unown1, List.foldl, peek, getO, getE, idx0, idx1, idx2, idx3, idx4, idxl0, idxl1, idxl2, List.cons_append, List.nil_append, List.append_nil, Option.map_some, Option.bind_some, Option.map_none, Option.bind_none, cmpF, eq_str, List.getElem?_cons_zero, List.getElem?_cons_succ, List.set_cons_zero, List.set_cons_succ, Nat.reduceSub, Nat.reduceAdd, decide_true, decide_false, fnx, frt, bindT, loopOf, d_law_done, Fld.d, hh, imm, if_true, get_dD, get_dDo, is_oD, ha, hs2]
      | true =>
        rw [ha, Bool.true_and] at hc
        have hn : f.src.isNone = true := by cases hx : f.src with
          | none => rfl
          | some _ => rw [hx] at hc; simp at hc
        simp only [startE, List.map, List.length, List.replicate, execs, exec, ev, evs, evcs, evts, unown, unown1, List.foldl, peek, getO, getE, idx0, idx1, idx2, idx3, idx4, idxl0, idxl1, idxl2, List.cons_append, List.nil_append, List.append_nil, Option.map_some, Option.bind_some, Option.map_none, Option.bind_none, cmpF, eq_str, List.getElem?_cons_zero, List.getElem?_cons_succ, List.set_cons_zero, List.set_cons_succ, Nat.reduceSub, Nat.reduceAdd, decide_true, decide_false, fnx, frt, bindT, loopOf, d_law_done, Fld.d, hh, imm, if_true, get_dD, get_dDo, is_oD, ha, hn, Bool.not_true, hs2]
  | false =>
    rw [hb] at hh
    have hs1 := set_dD la f.name none h1
    cases hc : f.clr with
    | true =>
      have hp := pol_eq f
      rw [hc] at hp
      simp only [startE, List.map, List.length, List.replicate, execs, exec, ev, evs, evcs, evts, unown, unown1, List.foldl, peek, getO, getE, idx0, idx1, idx2, idx3, idx4, idxl0, idxl1, idxl2, List.cons_append, List.nil_append, List.append_nil, Option.map_some, Option.bind_some, Option.map_none, Option.bind_none, cmpF, eq_str, List.getElem?_cons_zero, List.getElem?_cons_succ, List.set_cons_zero, List.set_cons_succ, Nat.reduceSub, Nat.reduceAdd, decide_true, decide_false, fnx, frt, bindT, loopOf, d_law_done, Fld.d, hh, imm, if_true, hc, oD_none] at hs1 ⊢
      rw [hs1]
      simp only [Bool.false_eq_true, if_false, Option.map_some, Option.bind_some]
    | false =>
      simp only [startE, List.map, List.length, List.replicate, execs, exec, ev, evs, evcs, evts, unown, unown1, List.foldl, peek, getO, getE, idx0, idx1, idx2, idx3, idx4, idxl0, idxl1, idxl2, List.cons_append, List.nil_append, List.append_nil, Option.map_some, Option.bind_some, Option.map_none, Option.bind_none, cmpF, eq_str, List.getElem?_cons_zero, List.getElem?_cons_succ, List.set_cons_zero, List.set_cons_succ, Nat.reduceSub, Nat.reduceAdd, decide_true, decide_false, fnx, frt, bindT, loopOf, d_law_done, Fld.d, hh, imm, if_true, hc, Bool.false_eq_true, if_false, sdec (show ("keep" : Str) ≠ "clear" by decide)]
theorem done_loop (h : fs[30]? = some d_law_holds) (x0 x2 : Option Ent) : ∀ (fm : List Fld) (la se : Dic) (x4 x5 : Option Ent), (∀ f ∈ fm, f.cond.dep ≤ k) → fm.length + la.length < big → fm.length + se.length < big →
    ∃ y4 y5, forGo (bindT (.nm 4)) (fun e S => execs (callK fs F (k + 1)) F (loopOf d_law_done.body) e S) (fm.map Fld.d) [x0, some (.ow (dD la)), x2, some (.ow (dD se)), x4, x5] S =
      some (.nx [x0, some (.ow (dD (doneL fm la se).1)), x2, some (.ow (dD (doneL fm la se).2)), y4, y5] S)
  | [], la, se, x4, x5, _, _, _ => ⟨x4, x5, rfl⟩
  | f :: fm, la, se, x4, x5, hd, h1, h2 => by
    simp only [List.length_cons] at h1 h2
    have hs := done_step (F := F) (S := S) h x0 x2 f la se x5 (hd f List.mem_cons_self) (by omega) (by omega)
    have l1 := fillM_len f la se
    have l2 := dput_len la f.name none
    have l3 := dput_len se f.name (dget (fillM f la se) f.name)
    obtain ⟨y4, y5, ih⟩ := done_loop h x0 x2 fm (if holdsM f.cond se then fillM f la se else if f.clr then dput la f.name none else la) (if holdsM f.cond se then dput se f.name (dget (fillM f la se) f.name) else se) (some (.sh f.d)) (some (.sh (.str f.name))) (fun g m => hd g (List.mem_cons_of_mem _ m))
      (by split <;> (try split) <;> omega) (by split <;> omega)
    refine ⟨y4, y5, ?_⟩
    simp only [List.map_cons, forGo, bindT, List.set_cons_zero, List.set_cons_succ, Option.bind_some, hs]
    exact ih
theorem e_done (h : fs[30]? = some d_law_holds) (h31 : fs[31]? = some d_law_seen) (h32 : fs[32]? = some d_law_done) {fm : List Fld} (z : Sz fm k) (la : Dic) (a : Act) (hl : la.length ≤ 8000000) : callK fs F (k + 3) 32 [formD fm, dD la, a.d] S = some (dD (doneM fm la a), S) := by
  rw [callK_eq h32 rfl]
  have hzl := z.len
  have hsn := e_seen (F := F) (S := S) h h31 z la
  have hin := in_dD (seenM la fm []) a.nm
  have hdl := dput_len la a.nm a.val
  refine (congrArg fin (execs_nx (env' := [some (.sh (formD fm)), some (.ow (dD la)), some (.sh a.d), none, none, none]) (S' := S) ?_)).trans ?_
  · simp only [startE, List.map, List.length, List.replicate, execs, exec, ev, evs, evcs, evts, unown, unown1, List.foldl, peek, getO, getE, idx0, idx1, idx2, idx3, idx4, idxl0, idxl1, idxl2, List.cons_append, List.nil_append, List.append_nil, Option.map_some, Option.bind_some, Option.map_none, Option.bind_none, cmpF, eq_str, List.getElem?_cons_zero, List.getElem?_cons_succ, List.set_cons_zero, List.set_cons_succ, Nat.reduceSub, Nat.reduceAdd, decide_true, decide_false, fnx, frt, bindT, d_law_done, dict_dD]
    rfl
  · unfold doneM
    cases hs : ((seenM la fm []).lookup a.nm).isSome with
    | false =>
      rw [hs] at hin
      refine (congrArg fin (execs_rt (d := dD la) (S' := S) ?_)).trans rfl
      simp only [startE, List.map, List.length, List.replicate, execs, exec, ev, evs, evcs, evts, unown, unown1, List.foldl, peek, getO, getE, idx0, idx1, idx2, idx3, idx4, idxl0, idxl1, idxl2, List.cons_append, List.nil_append, List.append_nil, Option.map_some, Option.bind_some, Option.map_none, Option.bind_none, cmpF, eq_str, List.getElem?_cons_zero, List.getElem?_cons_succ, List.set_cons_zero, List.set_cons_succ, Nat.reduceSub, Nat.reduceAdd, decide_true, decide_false, fnx, frt, bindT, act_nm, hsn, hin, Bool.not_false, imm, if_true]
    | true =>
      rw [hs] at hin
      refine (congrArg fin (execs_nx (env' := [some (.sh (formD fm)), some (.ow (dD la)), some (.sh a.d), none, none, none]) (S' := S) ?_)).trans ?_
      · simp only [startE, List.map, List.length, List.replicate, execs, exec, ev, evs, evcs, evts, unown, unown1, List.foldl, peek, getO, getE, idx0, idx1, idx2, idx3, idx4, idxl0, idxl1, idxl2, List.cons_append, List.nil_append, List.append_nil, Option.map_some, Option.bind_some, Option.map_none, Option.bind_none, cmpF, eq_str, List.getElem?_cons_zero, List.getElem?_cons_succ, List.set_cons_zero, List.set_cons_succ, Nat.reduceSub, Nat.reduceAdd, decide_true, decide_false, fnx, frt, bindT, act_nm, hsn, hin, Bool.not_true, imm, if_true]
      · have hval := ev_aval (c := callK fs F (k + 2)) (S := S) (env := [some (.sh (formD fm)), some (.ow (dD la)), some (.sh a.d), none, none, none]) (i := 2) (a := a) rfl
        have hset := set_dD la a.nm a.val (by unfold big; omega)
        have hk : ev (callK fs F (k + 2)) (.idx (.var 2) (.con (.int 1))) [some (.sh (formD fm)), some (.ow (dD la)), some (.sh a.d), none, none, none] S = some (.str a.nm, S) := by simp only [startE, List.map, List.length, List.replicate, execs, exec, ev, evs, evcs, evts, unown, unown1, List.foldl, peek, getO, getE, idx0, idx1, idx2, idx3, idx4, idxl0, idxl1, idxl2, List.cons_append, List.nil_append, List.append_nil, Option.map_some, Option.bind_some, Option.map_none, Option.bind_none, cmpF, eq_str, List.getElem?_cons_zero, List.getElem?_cons_succ, List.set_cons_zero, List.set_cons_succ, Nat.reduceSub, Nat.reduceAdd, decide_true, decide_false, fnx, frt, bindT, act_nm]
        refine (congrArg fin (execs_nx (env' := [some (.sh (formD fm)), some (.ow (dD (dput la a.nm a.val))), some (.sh a.d), none, none, none]) (S' := S) ?_)).trans ?_
        · simp only [exec, hval, Option.bind_some, List.getElem?_cons_succ, List.getElem?_cons_zero, hk, hset, Option.map_some, List.set_cons_zero, List.set_cons_succ]
        · refine (congrArg fin (execs_nx (env' := [some (.sh (formD fm)), some (.ow (dD (dput la a.nm a.val))), some (.sh a.d), some (.ow (dD [])), none, none]) (S' := S) ?_)).trans ?_
          · simp only [startE, List.map, List.length, List.replicate, execs, exec, ev, evs, evcs, evts, unown, unown1, List.foldl, peek, getO, getE, idx0, idx1, idx2, idx3, idx4, idxl0, idxl1, idxl2, List.cons_append, List.nil_append, List.append_nil, Option.map_some, Option.bind_some, Option.map_none, Option.bind_none, cmpF, eq_str, List.getElem?_cons_zero, List.getElem?_cons_succ, List.set_cons_zero, List.set_cons_succ, Nat.reduceSub, Nat.reduceAdd, decide_true, decide_false, fnx, frt, bindT, isMut, if_true]
            rfl
          · obtain ⟨y4, y5, hlp⟩ := done_loop (F := F) (k := k + 1) (S := S) h (some (.sh (formD fm))) (some (.sh a.d)) fm (dput la a.nm a.val) [] none none (fun f m => Nat.le_succ_of_le (z.dep f m)) (by unfold big; omega) (by simpa using z.big)
            refine (congrArg fin (execs_nx (exec_for (ds := [formD fm]) (S1 := S) ?_ rfl hlp))).trans ?_
            · simp only [startE, List.map, List.length, List.replicate, execs, exec, ev, evs, evcs, evts, unown, unown1, List.foldl, peek, getO, getE, idx0, idx1, idx2, idx3, idx4, idxl0, idxl1, idxl2, List.cons_append, List.nil_append, List.append_nil, Option.map_some, Option.bind_some, Option.map_none, Option.bind_none, cmpF, eq_str, List.getElem?_cons_zero, List.getElem?_cons_succ, List.set_cons_zero, List.set_cons_succ, Nat.reduceSub, Nat.reduceAdd, decide_true, decide_false, fnx, frt, bindT]
            · simp only [startE, List.map, List.length, List.replicate, execs, exec, ev, evs, evcs, evts, unown, unown1, List.foldl, peek, getO, getE, idx0, idx1, idx2, idx3, idx4, idxl0, idxl1, idxl2, List.cons_append, List.nil_append, List.append_nil, Option.map_some, Option.bind_some, Option.map_none, Option.bind_none, cmpF, eq_str, List.getElem?_cons_zero, List.getElem?_cons_succ, List.set_cons_zero, List.set_cons_succ, Nat.reduceSub, Nat.reduceAdd, decide_true, decide_false, fnx, frt, bindT]
              rfl
end
end FG

namespace FG
open PySem PySem.Spec PyProof.Rows L2
theorem ev_lcK {α : Type} {c : Calls} {own : List Nat} {tg : Tg} {its ifs : List E} {elt : E} {env : En} {S S1 : Sto} {ds : List D} (enc : α → D) (p : α → Bool) (f : α → D) (xs : List α) (h1 : evs c its env S = some (ds, S1)) (h2 : itemsF .keys ds = some (xs.map enc))
    (hs : ∀ x ∈ xs, ∃ e, bindT tg (enc x) (wipeE env own) = some e ∧ evts c ifs e S1 = some (p x, S1) ∧ (p x = true → ev c elt e S1 = some (f x, S1))) (hl : xs.length ≤ big) : ev c (.lc own tg .keys its ifs elt) env S = some (.lst ((xs.filter p).map f), S1) := by
  have e := lc_run enc (fun d => bindT tg d (wipeE env own)) (fun e S => evts c ifs e S) (fun e S => ev c elt e S) p f S1 xs [] hs (by simpa using hl)
  rw [List.nil_append] at e
  simp only [ev, h1, Option.bind_some, h2, e, Option.map_some]
theorem pairs_dD : ∀ (l acc : Dic), ((acc ++ l).map (·.1)).Nodup → dPairs (l.map fun p => .tup [.str p.1, oD p.2]) (acc.map fun p => .text p.1) (acc.map fun p => oD p.2) = some ((acc ++ l).map (fun p => NestedKey.text p.1), (acc ++ l).map fun p => oD p.2)
  | [], acc, _ => by simp [dPairs]
  | p :: l, acc, h => by
    have hx : NestedKey.text p.1 ∉ acc.map fun p => NestedKey.text p.1 := by
      intro z
      obtain ⟨y, hy, ey⟩ := List.mem_map.mp z
      simp only [NestedKey.text.injEq] at ey
      rw [List.map_append, List.nodup_append] at h
      exact h.2.2 y.1 (List.mem_map_of_mem hy) p.1 (by simp) ey
    simp only [List.map_cons, dPairs, dPut_new hx]
    have ih := pairs_dD l (acc ++ [p]) (by simpa using h)
    simp only [List.map_append, List.map_cons, List.map_nil, List.append_assoc, List.cons_append, List.nil_append] at ih ⊢
    exact ih
theorem dict_pairs {l : Dic} (h : (l.map (·.1)).Nodup) (hl : l.length ≤ 1000) : biF .dict (.lst (l.map fun p => .tup [.str p.1, oD p.2])) = some (dD l) := by
  have := pairs_dD l [] (by simpa using h)
  simp only [List.map_nil, List.nil_append] at this
  simp only [biF, List.length_map, hl, if_true, this, Option.map_some, dD]
def someM (l : Dic) : Dic := l.filter fun p => p.2.isSome
theorem someM_nodup {l : Dic} (h : (l.map (·.1)).Nodup) : ((someM l).map (·.1)).Nodup := filter_nodup h
theorem someM_len (l : Dic) : (someM l).length ≤ l.length := List.length_filter_le _ _
/-- [(name, d[name]) for name in d if d[name] is not None], d and name in slots i, 7 -/
theorem ev_somes {c : Calls} {env : En} {i : Nat} {l : Dic} {S : Sto} (hl : env.length = 8) (hi : env[i]? = some (some (.sh (dD l)))) (hi7 : i < 7) (hn : (l.map (·.1)).Nodup) (hlen : l.length ≤ big) :
    ev c (.lc [7] (.nm 7) .keys [.var i] [.cmp .isnot (.idx (.var i) (.var 7)) (.con .non)] (.tup [.var 7, .idx (.var i) (.var 7)])) env S = some (.lst ((someM l).map fun p => .tup [.str p.1, oD p.2]), S) := by
  refine ev_lcK (ds := [dD l]) (fun p : Str × Option Str => D.str p.1) (fun p => p.2.isSome) (fun p => .tup [.str p.1, oD p.2]) l (by simp only [startE, List.map, List.length, List.replicate, execs, exec, ev, evs, evcs, evts, unown, unown1, List.foldl, peek, getO, getE, idx0, idx1, idx2, idx3, idx4, idxl0, idxl1, idxl2, List.cons_append, List.nil_append, List.append_nil, Option.map_some, Option.bind_some, Option.map_none, Option.bind_none, cmpF, eq_str, List.getElem?_cons_zero, List.getElem?_cons_succ, List.set_cons_zero, List.set_cons_succ, Nat.reduceSub, Nat.reduceAdd, decide_true, decide_false, fnx, frt, bindT, hi]) (keys_dD l) (fun p m => ⟨(env.set 7 none).set 7 (some (.sh (.str p.1))), rfl, ?_, fun _ => ?_⟩) hlen
  · have hx : ∀ S, idxS S (dD l) (.str p.1) = some (oD p.2) := fun S => by rw [idx_dD, lookup_of_mem hn m]; rfl
    have e1 : ((env.set 7 none).set 7 (some (.sh (.str p.1))))[i]? = some (some (.sh (dD l))) := by
      rw [List.getElem?_set_ne (by omega), List.getElem?_set_ne (by omega)]; exact hi
    have e2 : ((env.set 7 none).set 7 (some (.sh (.str p.1))))[7]? = some (some (.sh (.str p.1))) := by
      rw [List.getElem?_set_self (by simp [hl])]
    simp only [evts, ev, peek, getO, getE, e1, e2, Option.map_some, Option.bind_some, hx, cmpF, is_oD]
    cases p.2 <;> rfl
  · have hx : ∀ S, idxS S (dD l) (.str p.1) = some (oD p.2) := fun S => by rw [idx_dD, lookup_of_mem hn m]; rfl
    have e1 : ((env.set 7 none).set 7 (some (.sh (.str p.1))))[i]? = some (some (.sh (dD l))) := by
      rw [List.getElem?_set_ne (by omega), List.getElem?_set_ne (by omega)]; exact hi
    have e2 : ((env.set 7 none).set 7 (some (.sh (.str p.1))))[7]? = some (some (.sh (.str p.1))) := by
      rw [List.getElem?_set_self (by simp [hl])]
    simp only [ev, evs, peek, getO, getE, e1, e2, Option.map_some, Option.bind_some, hx]
def runL (fm : List Fld) : List Act → Dic → Dic → Dic × Dic
  | [], la, ch => (la, ch)
  | a :: ss, la, ch => runL fm ss (doneM fm la a) (if ((seenM la fm []).lookup a.nm).isSome then dput ch a.nm a.val else ch)
theorem seenM_nodup (la : Dic) : ∀ (fm : List Fld) (se : Dic), (se.map (·.1)).Nodup → ((seenM la fm se).map (·.1)).Nodup
  | [], se, h => h
  | f :: fm, se, h => seenM_nodup la fm _ (by split; exact dput_nodup h; exact h)
theorem seenM_len (la : Dic) : ∀ (fm : List Fld) (se : Dic), (seenM la fm se).length ≤ se.length + fm.length
  | [], se => by simp [seenM]
  | f :: fm, se => by
    refine Nat.le_trans (seenM_len la fm _) ?_
    have := dput_len se f.name (dget la f.name)
    simp only [List.length_cons]
    split <;> omega
theorem runL_nodup (fm : List Fld) : ∀ (ss : List Act) (la ch : Dic), (ch.map (·.1)).Nodup → ((runL fm ss la ch).2.map (·.1)).Nodup
  | [], la, ch, h => h
  | a :: ss, la, ch, h => runL_nodup fm ss _ _ (by split; exact dput_nodup h; exact h)
theorem runL_len2 (fm : List Fld) : ∀ (ss : List Act) (la ch : Dic), (runL fm ss la ch).2.length ≤ ch.length + ss.length
  | [], la, ch => by simp [runL]
  | a :: ss, la, ch => by
    refine Nat.le_trans (runL_len2 fm ss _ _) ?_
    have := dput_len ch a.nm a.val
    simp only [List.length_cons]
    split <;> omega
theorem seenM_keys (la : Dic) : ∀ (fm : List Fld) (se : Dic), ∀ x ∈ (seenM la fm se).map (·.1), x ∈ se.map (·.1) ∨ x ∈ fm.map (·.name)
  | [], se, x, h => .inl h
  | f :: fm, se, x, h => by
    rcases seenM_keys la fm _ x h with h | h
    · split at h
      · rcases dput_keys _ _ _ x h with h | h
        · exact .inl h
        · right; simp [h]
      · exact .inl h
    · right
      simp only [List.map_cons, List.mem_cons]
      exact .inr h
/-- a dict over the names of the form -/
structure KeyIn (fm : List Fld) (l : Dic) : Prop where
  nd : (l.map (·.1)).Nodup
  sub : ∀ k ∈ l.map (·.1), k ∈ fm.map (·.name)
theorem KeyIn.nil (fm : List Fld) : KeyIn fm [] := ⟨List.nodup_nil, fun k m => by cases m⟩
theorem KeyIn.len {fm : List Fld} {l : Dic} (h : KeyIn fm l) : l.length ≤ fm.length := by
  have := List.Nodup.length_le_of_subset h.nd (fun k m => h.sub k m)
  simpa using this
theorem KeyIn.put {fm : List Fld} {l : Dic} (h : KeyIn fm l) {n : Str} (hn : n ∈ fm.map (·.name)) (v : Option Str) : KeyIn fm (dput l n v) := by
  refine ⟨dput_nodup h.nd, fun k m => ?_⟩
  rcases dput_keys _ _ _ k m with m | m
  · exact h.sub k m
  · rw [m]; exact hn
theorem KeyIn.done {gm : List Fld} : ∀ (fm : List Fld) (la se : Dic), (∀ f ∈ fm, f ∈ gm) → KeyIn gm la → KeyIn gm (doneL fm la se).1
  | [], la, se, _, h => h
  | f :: fm, la, se, hs, h => by
    have hn : f.name ∈ gm.map (·.name) := List.mem_map_of_mem (hs f List.mem_cons_self)
    rw [doneL]
    refine KeyIn.done fm _ _ (fun g m => hs g (List.mem_cons_of_mem _ m)) ?_
    unfold fillM
    split
    · split
      · exact h.put hn _
      · exact h
    · split
      · exact h.put hn _
      · exact h
theorem seen_name {fm : List Fld} {la : Dic} {n : Str} (h : ((seenM la fm []).lookup n).isSome = true) : n ∈ fm.map (·.name) := by
  rcases seenM_keys la fm [] n (lookup_mem h) with h | h
  · cases h
  · exact h
theorem KeyIn.doneM {fm : List Fld} {la : Dic} (h : KeyIn fm la) (a : Act) : KeyIn fm (FG.doneM fm la a) := by
  unfold FG.doneM
  split
  · rename_i hs
    exact KeyIn.done fm _ [] (fun _ m => m) (h.put (seen_name hs) _)
  · exact h
theorem KeyIn.run {fm : List Fld} : ∀ (ss : List Act) (la ch : Dic), KeyIn fm la → KeyIn fm ch → KeyIn fm (runL fm ss la ch).1 ∧ KeyIn fm (runL fm ss la ch).2
  | [], la, ch, h1, h2 => ⟨h1, h2⟩
  | a :: ss, la, ch, h1, h2 => by
    rw [runL]
    refine KeyIn.run ss _ _ (h1.doneM a) ?_
    split
    · rename_i hs
      exact h2.put (seen_name hs) _
    · exact h2
section
variable {fs : List Df} {F k : Nat} {S : Sto}
theorem run_loop (h : fs[30]? = some d_law_holds) (h31 : fs[31]? = some d_law_seen) (h32 : fs[32]? = some d_law_done) {fm : List Fld} (z : Sz fm k) (x1 x3 x4 x7 : Option Ent) : ∀ (ss : List Act) (la ch : Dic) (x2 : Option Ent), KeyIn fm la → KeyIn fm ch →
    ∃ y2, forGo (bindT (.nm 2)) (fun e S => execs (callK fs F (k + 3)) F (loopOf d_law_run.body) e S) (ss.map Act.d) [some (.sh (formD fm)), x1, x2, x3, x4, some (.sh (dD la)), some (.ow (dD ch)), x7] S =
      some (.nx [some (.sh (formD fm)), x1, y2, x3, x4, some (.sh (dD (runL fm ss la ch).1)), some (.ow (dD (runL fm ss la ch).2)), x7] S)
  | [], la, ch, x2, _, _ => ⟨x2, rfl⟩
  | a :: ss, la, ch, x2, h1, h2 => by
    have hzl := z.len
    have g1 := h1.len
    have g2 := h2.len
    have hbg : big = 16777216 := rfl
    have hsn := e_seen (F := F) (k := k + 1) (S := S) h h31 ⟨fun f m => Nat.le_succ_of_le (z.dep f m), z.len⟩ la
    have hin := in_dD (seenM la fm []) a.nm
    have hdn := e_done (F := F) (S := S) h h31 h32 z la a (by omega)
    have hdl := doneM_len fm la a
    have hcl := dput_len ch a.nm a.val
    obtain ⟨y2, ih⟩ := run_loop h h31 h32 z x1 x3 x4 x7 ss (doneM fm la a) (if ((seenM la fm []).lookup a.nm).isSome then dput ch a.nm a.val else ch) (some (.sh a.d)) (h1.doneM a) (by
      split
      · rename_i hs
        exact h2.put (seen_name hs) _
      · exact h2)
    have hval := ev_aval (c := callK fs F (k + 3)) (S := S) (env := [some (.sh (formD fm)), x1, some (.sh a.d), x3, x4, some (.sh (dD la)), some (.ow (dD ch)), x7]) (i := 2) (a := a) rfl
    have hk : ev (callK fs F (k + 3)) (.idx (.var 2) (.con (.int 1))) [some (.sh (formD fm)), x1, some (.sh a.d), x3, x4, some (.sh (dD la)), some (.ow (dD ch)), x7] S = some (.str a.nm, S) := by simp only [startE, List.map, List.length, List.replicate, execs, exec, ev, evs, evcs, evts, unown, unown1, List.foldl, peek, getO, getE, idx0, idx1, idx2, idx3, idx4, idxl0, idxl1, idxl2, List.cons_append, List.nil_append, List.append_nil, Option.map_some, Option.bind_some, Option.map_none, Option.bind_none, cmpF, eq_str, List.getElem?_cons_zero, List.getElem?_cons_succ, List.set_cons_zero, List.set_cons_succ, Nat.reduceSub, Nat.reduceAdd, decide_true, decide_false, fnx, frt, bindT, act_nm]
    have hset := set_dD ch a.nm a.val (by omega)
    have htest : ev (callK fs F (k + 3)) (.cmp .isin (.idx (.var 2) (.con (.int 1))) (.call 31 [.var 0, .var 5])) [some (.sh (formD fm)), x1, some (.sh a.d), x3, x4, some (.sh (dD la)), some (.ow (dD ch)), x7] S = some (.bl ((seenM la fm []).lookup a.nm).isSome, S) := by
      simp only [startE, List.map, List.length, List.replicate, execs, exec, ev, evs, evcs, evts, unown, unown1, List.foldl, peek, getO, getE, idx0, idx1, idx2, idx3, idx4, idxl0, idxl1, idxl2, List.cons_append, List.nil_append, List.append_nil, Option.map_some, Option.bind_some, Option.map_none, Option.bind_none, cmpF, eq_str, List.getElem?_cons_zero, List.getElem?_cons_succ, List.set_cons_zero, List.set_cons_succ, Nat.reduceSub, Nat.reduceAdd, decide_true, decide_false, fnx, frt, bindT, act_nm, hsn, hin]
    have hs : execs (callK fs F (k + 3)) F (loopOf d_law_run.body) [some (.sh (formD fm)), x1, some (.sh a.d), x3, x4, some (.sh (dD la)), some (.ow (dD ch)), x7] S =
        some (.nx [some (.sh (formD fm)), x1, some (.sh a.d), x3, x4, some (.sh (dD (doneM fm la a))), some (.ow (dD (if ((seenM la fm []).lookup a.nm).isSome then dput ch a.nm a.val else ch))), x7] S) := by
      cases hvis : ((seenM la fm []).lookup a.nm).isSome with
      | true =>
        rw [hvis] at htest
        refine (execs_nx (env' := [some (.sh (formD fm)), x1, some (.sh a.d), x3, x4, some (.sh (dD la)), some (.ow (dD (dput ch a.nm a.val))), x7]) (S' := S) ?_).trans ?_
        · refine (exec_ite htest).trans ?_
          refine (execs_nx (env' := [some (.sh (formD fm)), x1, some (.sh a.d), x3, x4, some (.sh (dD la)), some (.ow (dD (dput ch a.nm a.val))), x7]) (S' := S) ?_).trans rfl
          simp only [exec, hval, Option.bind_some, List.getElem?_cons_succ, List.getElem?_cons_zero, hk, hset, Option.map_some, List.set_cons_zero, List.set_cons_succ]
        · simp only [startE, List.map, List.length, List.replicate, execs, exec, ev, evs, evcs, evts, unown, unown1, List.foldl, peek, getO, getE, idx0, idx1, idx2, idx3, idx4, idxl0, idxl1, idxl2, List.cons_append, List.nil_append, List.append_nil, Option.map_some, Option.bind_some, Option.map_none, Option.bind_none, cmpF, eq_str, List.getElem?_cons_zero, List.getElem?_cons_succ, List.set_cons_zero, List.set_cons_succ, Nat.reduceSub, Nat.reduceAdd, decide_true, decide_false, fnx, frt, bindT, hdn, if_true]
      | false =>
        rw [hvis] at htest
        refine (execs_nx (env' := [some (.sh (formD fm)), x1, some (.sh a.d), x3, x4, some (.sh (dD la)), some (.ow (dD ch)), x7]) (S' := S) ?_).trans ?_
        · exact (exec_ite htest).trans rfl
        · simp only [startE, List.map, List.length, List.replicate, execs, exec, ev, evs, evcs, evts, unown, unown1, List.foldl, peek, getO, getE, idx0, idx1, idx2, idx3, idx4, idxl0, idxl1, idxl2, List.cons_append, List.nil_append, List.append_nil, Option.map_some, Option.bind_some, Option.map_none, Option.bind_none, cmpF, eq_str, List.getElem?_cons_zero, List.getElem?_cons_succ, List.set_cons_zero, List.set_cons_succ, Nat.reduceSub, Nat.reduceAdd, decide_true, decide_false, fnx, frt, bindT, hdn, Bool.false_eq_true, if_false]
    refine ⟨y2, ?_⟩
    simp only [List.map_cons, forGo, bindT, List.set_cons_zero, List.set_cons_succ, Option.bind_some, hs]
    exact ih
def rSeen (fm : List Fld) (ss : List Act) : Dic := seenM (runL fm ss [] []).1 fm []
def rChos (fm : List Fld) (ss : List Act) : Dic := someM (runL fm ss [] []).2
theorem e_run (h : fs[30]? = some d_law_holds) (h31 : fs[31]? = some d_law_seen) (h32 : fs[32]? = some d_law_done) (h33 : fs[33]? = some d_law_run) {fm : List Fld} (z : Sz fm k) (ss : List Act) :
    callK fs F (k + 4) 33 [formD fm, sesD ss] S = some (.tup [dD (someM (rSeen fm ss)), dD (rChos fm ss), .lst ((rSeen fm ss).map fun p => .str p.1)], S) := by
  rw [callK_eq h33 rfl]
  have hzl := z.len
  obtain ⟨y2, hlp⟩ := run_loop (F := F) (S := S) h h31 h32 z (some (.sh (sesD ss))) none none none ss [] [] none (.nil fm) (.nil fm)
  have hsn := e_seen (F := F) (k := k + 1) (S := S) h h31 ⟨fun f m => Nat.le_succ_of_le (z.dep f m), z.len⟩ (runL fm ss [] []).1
  have n1 : ((rSeen fm ss).map (·.1)).Nodup := seenM_nodup _ fm [] List.nodup_nil
  have l1 : (rSeen fm ss).length ≤ 1000 := by have := seenM_len (runL fm ss [] []).1 fm []; simp at this; unfold rSeen; omega
  have n2 : ((runL fm ss [] []).2.map (·.1)).Nodup := runL_nodup fm ss [] [] List.nodup_nil
  have l2 : (runL fm ss [] []).2.length ≤ 1000 := by have := (KeyIn.run ss [] [] (.nil fm) (.nil fm)).2.len; omega
  refine (congrArg fin (execs_nx (env' := [some (.sh (formD fm)), some (.sh (sesD ss)), none, none, none, some (.sh (dD [])), some (.ow (dD [])), none]) (S' := S) ?_)).trans ?_
  · simp only [startE, List.map, List.length, List.replicate, execs, exec, ev, evs, evcs, evts, unown, unown1, List.foldl, peek, getO, getE, idx0, idx1, idx2, idx3, idx4, idxl0, idxl1, idxl2, List.cons_append, List.nil_append, List.append_nil, Option.map_some, Option.bind_some, Option.map_none, Option.bind_none, cmpF, eq_str, List.getElem?_cons_zero, List.getElem?_cons_succ, List.set_cons_zero, List.set_cons_succ, Nat.reduceSub, Nat.reduceAdd, decide_true, decide_false, fnx, frt, bindT, d_law_run, parGo, isMut, Bool.not_true, Bool.and_false, Bool.false_and, Bool.false_eq_true, if_false, if_true]
    rfl
  refine (congrArg fin (execs_nx (exec_for (ds := [sesD ss]) (S1 := S) (by simp only [startE, List.map, List.length, List.replicate, execs, exec, ev, evs, evcs, evts, unown, unown1, List.foldl, peek, getO, getE, idx0, idx1, idx2, idx3, idx4, idxl0, idxl1, idxl2, List.cons_append, List.nil_append, List.append_nil, Option.map_some, Option.bind_some, Option.map_none, Option.bind_none, cmpF, eq_str, List.getElem?_cons_zero, List.getElem?_cons_succ, List.set_cons_zero, List.set_cons_succ, Nat.reduceSub, Nat.reduceAdd, decide_true, decide_false, fnx, frt, bindT]) rfl hlp))).trans ?_
  refine (congrArg fin (execs_nx (env' := [some (.sh (formD fm)), some (.sh (sesD ss)), y2, some (.sh (dD (rSeen fm ss))), none, some (.sh (dD (runL fm ss [] []).1)), some (.ow (dD (runL fm ss [] []).2)), none]) (S' := S) ?_)).trans ?_
  · simp only [startE, List.map, List.length, List.replicate, execs, exec, ev, evs, evcs, evts, unown, unown1, List.foldl, peek, getO, getE, idx0, idx1, idx2, idx3, idx4, idxl0, idxl1, idxl2, List.cons_append, List.nil_append, List.append_nil, Option.map_some, Option.bind_some, Option.map_none, Option.bind_none, cmpF, eq_str, List.getElem?_cons_zero, List.getElem?_cons_succ, List.set_cons_zero, List.set_cons_succ, Nat.reduceSub, Nat.reduceAdd, decide_true, decide_false, fnx, frt, bindT, hsn]
    rfl
  have hf := ev_somes (c := callK fs F (k + 3)) (env := [some (.sh (formD fm)), some (.sh (sesD ss)), y2, some (.sh (dD (rSeen fm ss))), none, some (.sh (dD (runL fm ss [] []).1)), some (.ow (dD (runL fm ss [] []).2)), none]) (i := 3) (l := rSeen fm ss) (S := S) rfl rfl (by decide) n1 (by unfold big; omega)
  have hdp := dict_pairs (someM_nodup n1) (Nat.le_trans (someM_len _) l1)
  refine (congrArg fin (execs_nx (env' := [some (.sh (formD fm)), some (.sh (sesD ss)), y2, some (.sh (dD (rSeen fm ss))), some (.sh (dD (someM (rSeen fm ss)))), some (.sh (dD (runL fm ss [] []).1)), some (.ow (dD (runL fm ss [] []).2)), none]) (S' := S) ?_)).trans ?_
  · refine (exec_asg (d := dD (someM (rSeen fm ss))) (S1 := S) ?_).trans rfl
    generalize hE : E.lc [7] (.nm 7) .keys [.var 3] [.cmp .isnot (.idx (.var 3) (.var 7)) (.con .non)] (.tup [.var 7, .idx (.var 3) (.var 7)]) = e at hf ⊢
    have hp : ∀ env, peek env e = none := fun env => by rw [← hE]; rfl
    simp only [ev, hp, unown, List.foldl, hf, Option.bind_some, hdp, Option.map_some]
  · have hf2 := ev_somes (c := callK fs F (k + 3)) (env := [some (.sh (formD fm)), some (.sh (sesD ss)), y2, some (.sh (dD (rSeen fm ss))), some (.sh (dD (someM (rSeen fm ss)))), some (.sh (dD (runL fm ss [] []).1)), some (.sh (dD (runL fm ss [] []).2)), none]) (i := 6) (l := (runL fm ss [] []).2) (S := S) rfl rfl (by decide) n2 (by unfold big; omega)
    have hdp2 := dict_pairs (someM_nodup n2) (Nat.le_trans (someM_len _) l2)
    refine (congrArg fin (execs_rt (exec_ret (d := .tup [dD (someM (rSeen fm ss)), dD (rChos fm ss), .lst ((rSeen fm ss).map fun p => .str p.1)]) (S1 := S) ?_))).trans rfl
    generalize hE : E.lc [7] (.nm 7) .keys [.var 6] [.cmp .isnot (.idx (.var 6) (.var 7)) (.con .non)] (.tup [.var 7, .idx (.var 6) (.var 7)]) = e at hf2 ⊢
    have hp : ∀ env, peek env e = none := fun env => by rw [← hE]; rfl
    have hun : unown [some (.sh (formD fm)), some (.sh (sesD ss)), y2, some (.sh (dD (rSeen fm ss))), some (.sh (dD (someM (rSeen fm ss)))), some (.sh (dD (runL fm ss [] []).1)), some (.ow (dD (runL fm ss [] []).2)), none] [6] = [some (.sh (formD fm)), some (.sh (sesD ss)), y2, some (.sh (dD (rSeen fm ss))), some (.sh (dD (someM (rSeen fm ss)))), some (.sh (dD (runL fm ss [] []).1)), some (.sh (dD (runL fm ss [] []).2)), none] := rfl
    rw [hun]
    have hb : ev (callK fs F (k + 3)) (.bi .dict e) [some (.sh (formD fm)), some (.sh (sesD ss)), y2, some (.sh (dD (rSeen fm ss))), some (.sh (dD (someM (rSeen fm ss)))), some (.sh (dD (runL fm ss [] []).1)), some (.sh (dD (runL fm ss [] []).2)), none] S = some (dD (rChos fm ss), S) := by
      simp only [ev, hp, hf2, Option.bind_some, hdp2, Option.map_some]
      rfl
    generalize E.bi .dict e = e2 at hb ⊢
    simp only [startE, List.map, List.length, List.replicate, execs, exec, ev, evs, evcs, evts, unown, unown1, List.foldl, peek, getO, getE, idx0, idx1, idx2, idx3, idx4, idxl0, idxl1, idxl2, List.cons_append, List.nil_append, List.append_nil, Option.map_some, Option.bind_some, Option.map_none, Option.bind_none, cmpF, eq_str, List.getElem?_cons_zero, List.getElem?_cons_succ, List.set_cons_zero, List.set_cons_succ, Nat.reduceSub, Nat.reduceAdd, decide_true, decide_false, fnx, frt, bindT, hb, list_dD]
end
end FG

namespace FG
open PySem PySem.Spec PyProof.Rows L2
theorem pyOks_str (n : Nat) : ∀ l : List Str, (∀ x ∈ l, PyData.strOk x = true) → pyOks n (l.map .str) = true
  | [], _ => by simp [pyOks]
  | x :: l, h => by
    have h1 := h x List.mem_cons_self
    simp only [List.map_cons, pyOks, pyOk, h1, Bool.true_and]
    exact pyOks_str n l fun y m => h y (List.mem_cons_of_mem _ m)
theorem eqD_str (a b : Str) : eqD (.str a) (.str b) = decide (a = b) := by
  have := eq_str a b
  simp only [eqF, scalD, Bool.true_or, if_true, Option.some.injEq] at this
  exact this
theorem in_strs {n : Str} {l : List Str} (hn : PyData.strOk n = true) (h : ∀ x ∈ l, PyData.strOk x = true) : inF (.str n) (.lst (l.map .str)) = some (decide (n ∈ l)) := by
  have h1 : pyOk 60 (.lst (l.map .str)) = true := pyOks_str 59 l h
  have h2 : pyOk 60 (.str n) = true := hn
  simp only [inF, h1, h2, Bool.and_self, if_true, List.any_map, Option.some.injEq]
  rw [Bool.eq_iff_iff]
  simp only [List.any_eq_true, Function.comp, eqD_str, decide_eq_true_eq]
  exact ⟨fun ⟨x, m, e⟩ => e ▸ m, fun m => ⟨n, m, rfl⟩⟩
structure NmOk (fm : List Fld) : Prop where
  nm : ∀ f ∈ fm, PyData.strOk f.name = true
  wd : ∀ f ∈ fm, ∀ w ∈ f.words, PyData.strOk w = true
theorem rSeen_ok {fm : List Fld} (n : NmOk fm) (ss : List Act) : ∀ x ∈ (rSeen fm ss).map (·.1), PyData.strOk x = true := fun x h => by
  rcases seenM_keys _ fm [] x h with h | h
  · simp at h
  · obtain ⟨f, m, rfl⟩ := List.mem_map.mp h
    exact n.nm f m
def lstrL (fm : List Fld) (ch : Dic) : List Fld → List Act → List Act
  | [], ss => ss
  | f :: l, ss => lstrL fm ch l (match ch.lookup f.name with
    | some (some w) => if f.name ∈ (rSeen fm ss).map (·.1) then ss ++ [.ch f.name w] else ss
    | _ => ss)
theorem lookup_some {l : Dic} (h : ∀ p ∈ l, p.2.isSome = true) {k : Str} {v : Option Str} (e : l.lookup k = some v) : v.isSome = true := by
  induction l with
  | nil => simp [List.lookup] at e
  | cons p l ih =>
    obtain ⟨a, b⟩ := p
    by_cases hk : k = a
    · subst hk
      simp [List.lookup] at e
      subst e
      exact h (k, b) List.mem_cons_self
    · have h' : (k == a) = false := by simpa using hk
      simp only [List.lookup, h'] at e
      exact ih (fun p m => h p (List.mem_cons_of_mem _ m)) e
section
variable {fs : List Df} {F k : Nat} {S : Sto}
structure BL (fs : List Df) : Prop where
  h30 : fs[30]? = some d_law_holds
  h31 : fs[31]? = some d_law_seen
  h32 : fs[32]? = some d_law_done
  h33 : fs[33]? = some d_law_run
theorem lstr_loop (b : BL fs) {fm : List Fld} (z : Sz fm k) (n : NmOk fm) {ch : Dic} (hch : ∀ p ∈ ch, p.2.isSome = true) : ∀ (l : List Fld) (ss : List Act) (x3 : Option Ent), (∀ f ∈ l, PyData.strOk f.name = true) → l.length + ss.length ≤ 1000 →
    ∃ y3, forGo (bindT (.nm 3)) (fun e S => execs (callK fs F (k + 4)) F (loopOf d_law_straight.body) e S) (l.map Fld.d) [some (.sh (formD fm)), some (.sh (dD ch)), some (.ow (sesD ss)), x3] S = some (.nx [some (.sh (formD fm)), some (.sh (dD ch)), some (.ow (sesD (lstrL fm ch l ss))), y3] S)
  | [], ss, x3, _, _ => ⟨x3, rfl⟩
  | f :: l, ss, x3, hn, hl => by
    simp only [List.length_cons] at hl
    have hr := e_run (F := F) (S := S) b.h30 b.h31 b.h32 b.h33 z ss
    have hin := in_strs (hn f List.mem_cons_self) (rSeen_ok n ss)
    rw [List.map_map] at hin
    have hin' : inF (.str f.name) (.lst ((rSeen fm ss).map fun p => .str p.1)) = some (decide (f.name ∈ (rSeen fm ss).map (·.1))) := hin
    have hic := in_dD ch f.name
    have hix := fun S => idx_dD S ch f.name
    have hbg : (ss.map Act.d).length < big := by simp; unfold big; omega
    have hs : execs (callK fs F (k + 4)) F (loopOf d_law_straight.body) [some (.sh (formD fm)), some (.sh (dD ch)), some (.ow (sesD ss)), some (.sh f.d)] S = some (.nx [some (.sh (formD fm)), some (.sh (dD ch)), some (.ow (sesD (match ch.lookup f.name with
        | some (some w) => if f.name ∈ (rSeen fm ss).map (·.1) then ss ++ [.ch f.name w] else ss
        | _ => ss))), some (.sh f.d)] S) := by
      cases hc : ch.lookup f.name with
      | none =>
        rw [hc] at hic
        simp only [startE, List.map, List.length, List.replicate, execs, exec, ev, evs, evcs, evts, unown, unown1, List.foldl, peek, getO, getE, idx0, idx1, idx2, idx3, idx4, idxl0, idxl1, idxl2, List.cons_append, List.nil_append, List.append_nil, Option.map_some, Option.bind_some, Option.map_none, Option.bind_none, cmpF, eq_str, List.getElem?_cons_zero, List.getElem?_cons_succ, List.set_cons_zero, List.set_cons_succ, Nat.reduceSub, Nat.reduceAdd, decide_true, decide_false, fnx, frt, bindT, loopOf, d_law_straight, Fld.d, hic, Option.isSome_none]
      | some v =>
        rw [hc] at hic
        have hv := lookup_some hch hc
        cases v with
        | none => cases hv
        | some w =>
          have hix' : ∀ S, idxS S (dD ch) (.str f.name) = some (.str w) := fun S => by rw [hix, hc]; rfl
          cases hm : decide (f.name ∈ (rSeen fm ss).map (·.1)) with
          | true =>
            rw [hm] at hin'
            have hm' : f.name ∈ (rSeen fm ss).map (·.1) := of_decide_eq_true hm
            simp only [startE, List.map, List.length, List.replicate, execs, exec, ev, evs, evcs, evts, unown, unown1, List.foldl, peek, getO, getE, idx0, idx1, idx2, idx3, idx4, idxl0, idxl1, idxl2, List.cons_append, List.nil_append, List.append_nil, Option.map_some, Option.bind_some, Option.map_none, Option.bind_none, cmpF, eq_str, List.getElem?_cons_zero, List.getElem?_cons_succ, List.set_cons_zero, List.set_cons_succ, Nat.reduceSub, Nat.reduceAdd, decide_true, decide_false, fnx, frt, bindT, loopOf, d_law_straight, Fld.d, hic, Option.isSome_some, sesD] at hr ⊢
            simp only [startE, List.map, List.length, List.replicate, execs, exec, ev, evs, evcs, evts, unown, unown1, List.foldl, peek, getO, getE, idx0, idx1, idx2, idx3, idx4, idxl0, idxl1, idxl2, List.cons_append, List.nil_append, List.append_nil, Option.map_some, Option.bind_some, Option.map_none, Option.bind_none, cmpF, eq_str, List.getElem?_cons_zero, List.getElem?_cons_succ, List.set_cons_zero, List.set_cons_succ, Nat.reduceSub, Nat.reduceAdd, decide_true, decide_false, fnx, frt, bindT, hr, hin', imm, if_true, hix', hbg, hm', List.map_append, Act.d]
          | false =>
            rw [hm] at hin'
            have hm' : f.name ∉ (rSeen fm ss).map (·.1) := of_decide_eq_false hm
            simp only [startE, List.map, List.length, List.replicate, execs, exec, ev, evs, evcs, evts, unown, unown1, List.foldl, peek, getO, getE, idx0, idx1, idx2, idx3, idx4, idxl0, idxl1, idxl2, List.cons_append, List.nil_append, List.append_nil, Option.map_some, Option.bind_some, Option.map_none, Option.bind_none, cmpF, eq_str, List.getElem?_cons_zero, List.getElem?_cons_succ, List.set_cons_zero, List.set_cons_succ, Nat.reduceSub, Nat.reduceAdd, decide_true, decide_false, fnx, frt, bindT, loopOf, d_law_straight, Fld.d, hic, Option.isSome_some, sesD] at hr ⊢
            simp only [startE, List.map, List.length, List.replicate, execs, exec, ev, evs, evcs, evts, unown, unown1, List.foldl, peek, getO, getE, idx0, idx1, idx2, idx3, idx4, idxl0, idxl1, idxl2, List.cons_append, List.nil_append, List.append_nil, Option.map_some, Option.bind_some, Option.map_none, Option.bind_none, cmpF, eq_str, List.getElem?_cons_zero, List.getElem?_cons_succ, List.set_cons_zero, List.set_cons_succ, Nat.reduceSub, Nat.reduceAdd, decide_true, decide_false, fnx, frt, bindT, hr, hin', imm, if_true, hm', if_false]
    obtain ⟨y3, ih⟩ := lstr_loop b z n hch l (match ch.lookup f.name with
        | some (some w) => if f.name ∈ (rSeen fm ss).map (·.1) then ss ++ [.ch f.name w] else ss
        | _ => ss) (some (.sh f.d)) (fun g m => hn g (List.mem_cons_of_mem _ m)) (by
        split
        · split
          · simp; omega
          · omega
        · omega)
    refine ⟨y3, ?_⟩
    simp only [List.map_cons, forGo, bindT, List.set_cons_zero, List.set_cons_succ, Option.bind_some, hs]
    exact ih
theorem e_lstraight (b : BL fs) (h34 : fs[34]? = some d_law_straight) {fm : List Fld} (z : Sz fm k) (n : NmOk fm) {ch : Dic} (hch : ∀ p ∈ ch, p.2.isSome = true) : callK fs F (k + 5) 34 [formD fm, dD ch] S = some (sesD (lstrL fm ch fm []), S) := by
  rw [callK_eq h34 rfl]
  obtain ⟨y3, hlp⟩ := lstr_loop (F := F) (S := S) b z n hch fm [] none n.nm (by simpa using z.len)
  refine (congrArg fin (execs_nx (env' := [some (.sh (formD fm)), some (.sh (dD ch)), some (.ow (sesD [])), none]) (S' := S) ?_)).trans ?_
  · simp only [startE, List.map, List.length, List.replicate, execs, exec, ev, evs, evcs, evts, unown, unown1, List.foldl, peek, getO, getE, idx0, idx1, idx2, idx3, idx4, idxl0, idxl1, idxl2, List.cons_append, List.nil_append, List.append_nil, Option.map_some, Option.bind_some, Option.map_none, Option.bind_none, cmpF, eq_str, List.getElem?_cons_zero, List.getElem?_cons_succ, List.set_cons_zero, List.set_cons_succ, Nat.reduceSub, Nat.reduceAdd, decide_true, decide_false, fnx, frt, bindT, d_law_straight, isMut, if_true]
    rfl
  · refine (congrArg fin (execs_nx (exec_for (ds := [formD fm]) (S1 := S) (by simp only [startE, List.map, List.length, List.replicate, execs, exec, ev, evs, evcs, evts, unown, unown1, List.foldl, peek, getO, getE, idx0, idx1, idx2, idx3, idx4, idxl0, idxl1, idxl2, List.cons_append, List.nil_append, List.append_nil, Option.map_some, Option.bind_some, Option.map_none, Option.bind_none, cmpF, eq_str, List.getElem?_cons_zero, List.getElem?_cons_succ, List.set_cons_zero, List.set_cons_succ, Nat.reduceSub, Nat.reduceAdd, decide_true, decide_false, fnx, frt, bindT]) rfl hlp))).trans ?_
    simp only [startE, List.map, List.length, List.replicate, execs, exec, ev, evs, evcs, evts, unown, unown1, List.foldl, peek, getO, getE, idx0, idx1, idx2, idx3, idx4, idxl0, idxl1, idxl2, List.cons_append, List.nil_append, List.append_nil, Option.map_some, Option.bind_some, Option.map_none, Option.bind_none, cmpF, eq_str, List.getElem?_cons_zero, List.getElem?_cons_succ, List.set_cons_zero, List.set_cons_succ, Nat.reduceSub, Nat.reduceAdd, decide_true, decide_false, fnx, frt, bindT]
end
end FG

namespace FG
open PySem PySem.Spec PyProof.Rows L2
def movF (f : Fld) : List Act := f.words.map (.ch f.name) ++ [.cl f.name]
def movesM : List Fld → List Act → List Act
  | [], acc => acc
  | f :: fm, acc => movesM fm (acc ++ movF f)
theorem ev_binR {c : Calls} {op : BOp} {a b : E} {env : En} {S S1 S2 : Sto} {x y d : D} (pa : peek env a = none) (pb : peek env b = none) (ha : ev c a env S = some (x, S1)) (hb : ev c b env S1 = some (y, S2)) (h : binF op x y = some d) : ev c (.bin op a b) env S = some (d, S2) := by
  simp only [ev, pa, pb, ha, hb, h, Option.bind_some, Option.map_some]
theorem ev_biR {c : Calls} {f : Bi} {a : E} {env : En} {S S1 : Sto} {x d : D} (pa : peek env a = none) (ha : ev c a env S = some (x, S1)) (h : biF f x = some d) : ev c (.bi f a) env S = some (d, S1) := by
  simp only [ev, pa, ha, h, Option.bind_some, Option.map_some]
theorem exec_ext {c : Calls} {F i : Nat} {e : E} {env : En} {S S1 : Sto} {ds es : List D} (h0 : env[i]? = some (some (.ow (.lst ds)))) (hp : peek env e = none) (h : ev c e env S = some (.lst es, S1)) (hz : ds.length + es.length ≤ big) : exec c F (.ext i e) env S = some (.nx (env.set i (some (.ow (.lst (ds ++ es))))) S1) := by
  simp only [exec, h0, hp, h, Option.bind_some, hz, if_true]
section
variable {fs : List Df} {F k : Nat} {S : Sto}
theorem mv_lc {c : Calls} (f : Fld) (x0 x1 x3 : Option Ent) (hl : f.words.length ≤ 3) : ev c (.lc [3] (.nm 3) .seq [.idx (.var 2) (.con (.int 1))] [] (.tup [.con (.str "choose"), .idx (.var 2) (.con (.int 0)), .var 3])) [x0, x1, some (.sh f.d), x3] S = some (.lst ((f.words.map (Act.ch f.name)).map Act.d), S) := by
  have := ev_lcR (c := c) (own := [3]) (tg := .nm 3) (ik := .seq) (its := [.idx (.var 2) (.con (.int 1))]) (ifs := []) (elt := .tup [.con (.str "choose"), .idx (.var 2) (.con (.int 0)), .var 3]) (env := [x0, x1, some (.sh f.d), x3]) (S := S) (S1 := S) (ds := [.tup (f.words.map .str)])
    D.str (fun _ => true) (fun w => .tup [.str "choose", .str f.name, .str w]) f.words (by simp only [startE, List.map, List.length, List.replicate, execs, exec, ev, evs, evcs, evts, unown, unown1, List.foldl, peek, getO, getE, idx0, idx1, idx2, idx3, idx4, idxl0, idxl1, idxl2, List.cons_append, List.nil_append, List.append_nil, Option.map_some, Option.bind_some, Option.map_none, Option.bind_none, cmpF, eq_str, List.getElem?_cons_zero, List.getElem?_cons_succ, List.set_cons_zero, List.set_cons_succ, Nat.reduceSub, Nat.reduceAdd, decide_true, decide_false, fnx, frt, bindT, Fld.d]) (by decide) rfl (fun w m => ⟨[x0, x1, some (.sh f.d), some (.sh (.str w))], rfl, rfl, fun _ => by simp only [startE, List.map, List.length, List.replicate, execs, exec, ev, evs, evcs, evts, unown, unown1, List.foldl, peek, getO, getE, idx0, idx1, idx2, idx3, idx4, idxl0, idxl1, idxl2, List.cons_append, List.nil_append, List.append_nil, Option.map_some, Option.bind_some, Option.map_none, Option.bind_none, cmpF, eq_str, List.getElem?_cons_zero, List.getElem?_cons_succ, List.set_cons_zero, List.set_cons_succ, Nat.reduceSub, Nat.reduceAdd, decide_true, decide_false, fnx, frt, bindT, Fld.d]⟩) (by unfold big; omega)
  rw [this, List.filter_eq_self.mpr fun _ _ => rfl, List.map_map]
  rfl
theorem moves_loop (x0 : Option Ent) : ∀ (fm : List Fld) (acc : List Act) (x2 x3 : Option Ent), (∀ f ∈ fm, f.words.length ≤ 3) → fm.length * 4 + acc.length ≤ 1000000 →
    ∃ y2, forGo (bindT (.nm 2)) (fun e S => execs (callK fs F k) F (loopOf d_law_moves.body) e S) (fm.map Fld.d) [x0, some (.ow (sesD acc)), x2, x3] S = some (.nx [x0, some (.ow (sesD (movesM fm acc))), y2, x3] S)
  | [], acc, x2, x3, _, _ => ⟨x2, rfl⟩
  | f :: fm, acc, x2, x3, hw, hl => by
    simp only [List.length_cons] at hl
    have hwl := hw f List.mem_cons_self
    have hlc := mv_lc (c := callK fs F k) (S := S) f x0 (some (.ow (sesD acc))) x3 hwl
    have hml : (movF f).length = f.words.length + 1 := by simp [movF]
    obtain ⟨y2, ih⟩ := moves_loop x0 fm (acc ++ movF f) (some (.sh f.d)) x3 (fun g m => hw g (List.mem_cons_of_mem _ m)) (by rw [List.length_append, hml]; omega)
    have hs : execs (callK fs F k) F (loopOf d_law_moves.body) [x0, some (.ow (sesD acc)), some (.sh f.d), x3] S = some (.nx [x0, some (.ow (sesD (acc ++ movF f))), some (.sh f.d), x3] S) := by
      have hb1 : ((f.words.map (Act.ch f.name)).map Act.d).length + 1 ≤ big := by simp; unfold big; omega
      have hb2 : (acc.map Act.d).length + ((f.words.map (Act.ch f.name)).map Act.d ++ [D.tup [.str "clear", .str f.name]]).length ≤ big := by simp; unfold big; omega
      have hl2 : ev (callK fs F k) (.lst [.tup [.con (.str "clear"), .idx (.var 2) (.con (.int 0))]]) [x0, some (.ow (sesD acc)), some (.sh f.d), x3] S = some (.lst [.tup [.str "clear", .str f.name]], S) := by simp only [startE, List.map, List.length, List.replicate, execs, exec, ev, evs, evcs, evts, unown, unown1, List.foldl, peek, getO, getE, idx0, idx1, idx2, idx3, idx4, idxl0, idxl1, idxl2, List.cons_append, List.nil_append, List.append_nil, Option.map_some, Option.bind_some, Option.map_none, Option.bind_none, cmpF, eq_str, List.getElem?_cons_zero, List.getElem?_cons_succ, List.set_cons_zero, List.set_cons_succ, Nat.reduceSub, Nat.reduceAdd, decide_true, decide_false, fnx, frt, bindT, Fld.d]
      have hadd := ev_binR (op := .add) (d := .lst ((f.words.map (Act.ch f.name)).map Act.d ++ [D.tup [.str "clear", .str f.name]])) rfl rfl hlc hl2 (by simp only [binF, List.length_singleton, hb1, if_true])
      refine (execs_nx (exec_ext (i := 1) (ds := acc.map Act.d) rfl rfl hadd hb2)).trans ?_
      simp only [execs, movF, sesD, List.map_append, List.map_cons, List.map_nil, Act.d, List.set_cons_zero, List.set_cons_succ]
    refine ⟨y2, ?_⟩
    simp only [List.map_cons, forGo, bindT, List.set_cons_zero, List.set_cons_succ, Option.bind_some, hs]
    exact ih
theorem e_moves (h : fs[29]? = some d_law_moves) {fm : List Fld} (hw : ∀ f ∈ fm, f.words.length ≤ 3) (hl : fm.length ≤ 1000) : callK fs F (k + 1) 29 [formD fm] S = some (sesD (movesM fm []), S) := by
  rw [callK_eq h rfl]
  obtain ⟨y2, hlp⟩ := moves_loop (fs := fs) (F := F) (k := k) (S := S) (some (.sh (formD fm))) fm [] none none hw (by simp; omega)
  refine (congrArg fin (execs_nx (env' := [some (.sh (formD fm)), some (.ow (sesD [])), none, none]) (S' := S) ?_)).trans ?_
  · simp only [startE, List.map, List.length, List.replicate, execs, exec, ev, evs, evcs, evts, unown, unown1, List.foldl, peek, getO, getE, idx0, idx1, idx2, idx3, idx4, idxl0, idxl1, idxl2, List.cons_append, List.nil_append, List.append_nil, Option.map_some, Option.bind_some, Option.map_none, Option.bind_none, cmpF, eq_str, List.getElem?_cons_zero, List.getElem?_cons_succ, List.set_cons_zero, List.set_cons_succ, Nat.reduceSub, Nat.reduceAdd, decide_true, decide_false, fnx, frt, bindT, d_law_moves, isMut, if_true]
    rfl
  · refine (congrArg fin (execs_nx (exec_for (ds := [formD fm]) (S1 := S) (by simp only [startE, List.map, List.length, List.replicate, execs, exec, ev, evs, evcs, evts, unown, unown1, List.foldl, peek, getO, getE, idx0, idx1, idx2, idx3, idx4, idxl0, idxl1, idxl2, List.cons_append, List.nil_append, List.append_nil, Option.map_some, Option.bind_some, Option.map_none, Option.bind_none, cmpF, eq_str, List.getElem?_cons_zero, List.getElem?_cons_succ, List.set_cons_zero, List.set_cons_succ, Nat.reduceSub, Nat.reduceAdd, decide_true, decide_false, fnx, frt, bindT]) rfl hlp))).trans ?_
    simp only [startE, List.map, List.length, List.replicate, execs, exec, ev, evs, evcs, evts, unown, unown1, List.foldl, peek, getO, getE, idx0, idx1, idx2, idx3, idx4, idxl0, idxl1, idxl2, List.cons_append, List.nil_append, List.append_nil, Option.map_some, Option.bind_some, Option.map_none, Option.bind_none, cmpF, eq_str, List.getElem?_cons_zero, List.getElem?_cons_succ, List.set_cons_zero, List.set_cons_succ, Nat.reduceSub, Nat.reduceAdd, decide_true, decide_false, fnx, frt, bindT]
theorem ac_lc {c : Calls} (f : Fld) (x0 x1 x4 x5 x6 x7 : Option Ent) (hl : f.words.length ≤ 3) : ev c (.lc [7] (.nm 7) .seq [.var 3] [] (.tup [.con (.str "choose"), .var 2, .var 7])) [x0, x1, some (.sh (.str f.name)), some (.sh (.tup (f.words.map .str))), x4, x5, x6, x7] S = some (.lst ((f.words.map (Act.ch f.name)).map Act.d), S) := by
  have := ev_lcR (c := c) (own := [7]) (tg := .nm 7) (ik := .seq) (its := [.var 3]) (ifs := []) (elt := .tup [.con (.str "choose"), .var 2, .var 7]) (env := [x0, x1, some (.sh (.str f.name)), some (.sh (.tup (f.words.map .str))), x4, x5, x6, x7]) (S := S) (S1 := S) (ds := [.tup (f.words.map .str)])
    D.str (fun _ => true) (fun w => .tup [.str "choose", .str f.name, .str w]) f.words (by simp only [startE, List.map, List.length, List.replicate, execs, exec, ev, evs, evcs, evts, unown, unown1, List.foldl, peek, getO, getE, idx0, idx1, idx2, idx3, idx4, idxl0, idxl1, idxl2, List.cons_append, List.nil_append, List.append_nil, Option.map_some, Option.bind_some, Option.map_none, Option.bind_none, cmpF, eq_str, List.getElem?_cons_zero, List.getElem?_cons_succ, List.set_cons_zero, List.set_cons_succ, Nat.reduceSub, Nat.reduceAdd, decide_true, decide_false, fnx, frt, bindT]) (by decide) rfl (fun w m => ⟨[x0, x1, some (.sh (.str f.name)), some (.sh (.tup (f.words.map .str))), x4, x5, x6, some (.sh (.str w))], rfl, rfl, fun _ => by simp only [startE, List.map, List.length, List.replicate, execs, exec, ev, evs, evcs, evts, unown, unown1, List.foldl, peek, getO, getE, idx0, idx1, idx2, idx3, idx4, idxl0, idxl1, idxl2, List.cons_append, List.nil_append, List.append_nil, Option.map_some, Option.bind_some, Option.map_none, Option.bind_none, cmpF, eq_str, List.getElem?_cons_zero, List.getElem?_cons_succ, List.set_cons_zero, List.set_cons_succ, Nat.reduceSub, Nat.reduceAdd, decide_true, decide_false, fnx, frt, bindT]⟩) (by unfold big; omega)
  rw [this, List.filter_eq_self.mpr fun _ _ => rfl, List.map_map]
  rfl
theorem acts_loop (x0 : Option Ent) : ∀ (fm : List Fld) (acc : List Act) (x2 x3 x4 x5 x6 x7 : Option Ent), (∀ f ∈ fm, f.words.length ≤ 3) → fm.length * 4 + acc.length ≤ 1000000 →
    ∃ y2 y3 y4 y5 y6, forGo (bindT (.tp [2, 3, 4, 5, 6])) (fun e S => execs (callK fs F k) F (loopOf d_actions_of.body) e S) (fm.map Fld.d) [x0, some (.ow (sesD acc)), x2, x3, x4, x5, x6, x7] S = some (.nx [x0, some (.ow (sesD (movesM fm acc))), y2, y3, y4, y5, y6, x7] S)
  | [], acc, x2, x3, x4, x5, x6, x7, _, _ => ⟨x2, x3, x4, x5, x6, rfl⟩
  | f :: fm, acc, x2, x3, x4, x5, x6, x7, hw, hl => by
    simp only [List.length_cons] at hl
    have hwl := hw f List.mem_cons_self
    have hlc := ac_lc (c := callK fs F k) (S := S) f x0 (some (.ow (sesD acc))) (some (.sh f.cond.d)) (some (.sh (.str (if f.clr then "clear" else "keep")))) (some (.sh (oD f.src))) x7 hwl
    have hml : (movF f).length = f.words.length + 1 := by simp [movF]
    obtain ⟨y2, y3, y4, y5, y6, ih⟩ := acts_loop x0 fm (acc ++ movF f) (some (.sh (.str f.name))) (some (.sh (.tup (f.words.map .str)))) (some (.sh f.cond.d)) (some (.sh (.str (if f.clr then "clear" else "keep")))) (some (.sh (oD f.src))) x7 (fun g m => hw g (List.mem_cons_of_mem _ m)) (by rw [List.length_append, hml]; omega)
    have hs : execs (callK fs F k) F (loopOf d_actions_of.body) [x0, some (.ow (sesD acc)), some (.sh (.str f.name)), some (.sh (.tup (f.words.map .str))), some (.sh f.cond.d), some (.sh (.str (if f.clr then "clear" else "keep"))), some (.sh (oD f.src)), x7] S = some (.nx [x0, some (.ow (sesD (acc ++ movF f))), some (.sh (.str f.name)), some (.sh (.tup (f.words.map .str))), some (.sh f.cond.d), some (.sh (.str (if f.clr then "clear" else "keep"))), some (.sh (oD f.src)), x7] S) := by
      have hb1 : ((f.words.map (Act.ch f.name)).map Act.d).length + 1 ≤ big := by simp; unfold big; omega
      have hb2 : (acc.map Act.d).length + ((f.words.map (Act.ch f.name)).map Act.d ++ [D.tup [.str "clear", .str f.name]]).length ≤ big := by simp; unfold big; omega
      have hl2 : ev (callK fs F k) (.lst [.tup [.con (.str "clear"), .var 2]]) [x0, some (.ow (sesD acc)), some (.sh (.str f.name)), some (.sh (.tup (f.words.map .str))), some (.sh f.cond.d), some (.sh (.str (if f.clr then "clear" else "keep"))), some (.sh (oD f.src)), x7] S = some (.lst [.tup [.str "clear", .str f.name]], S) := by simp only [startE, List.map, List.length, List.replicate, execs, exec, ev, evs, evcs, evts, unown, unown1, List.foldl, peek, getO, getE, idx0, idx1, idx2, idx3, idx4, idxl0, idxl1, idxl2, List.cons_append, List.nil_append, List.append_nil, Option.map_some, Option.bind_some, Option.map_none, Option.bind_none, cmpF, eq_str, List.getElem?_cons_zero, List.getElem?_cons_succ, List.set_cons_zero, List.set_cons_succ, Nat.reduceSub, Nat.reduceAdd, decide_true, decide_false, fnx, frt, bindT]
      have hadd := ev_binR (op := .add) (d := .lst ((f.words.map (Act.ch f.name)).map Act.d ++ [D.tup [.str "clear", .str f.name]])) rfl rfl hlc hl2 (by simp only [binF, List.length_singleton, hb1, if_true])
      refine (execs_nx (exec_ext (i := 1) (ds := acc.map Act.d) rfl rfl hadd hb2)).trans ?_
      simp only [execs, movF, sesD, List.map_append, List.map_cons, List.map_nil, Act.d, List.set_cons_zero, List.set_cons_succ]
    refine ⟨y2, y3, y4, y5, y6, ?_⟩
    simp only [List.map_cons, forGo, bindT, Fld.d, List.length_cons, List.length_nil, if_true, List.zip_cons_cons, List.zip_nil_right, List.foldl, List.set_cons_zero, List.set_cons_succ, Option.bind_some, hs]
    exact ih
theorem e_actions (h : fs[14]? = some d_actions_of) {fm : List Fld} (hw : ∀ f ∈ fm, f.words.length ≤ 3) (hl : fm.length ≤ 1000) : callK fs F (k + 1) 14 [formD fm] S = some (sesD (movesM fm []), S) := by
  rw [callK_eq h rfl]
  obtain ⟨y2, y3, y4, y5, y6, hlp⟩ := acts_loop (fs := fs) (F := F) (k := k) (S := S) (some (.sh (formD fm))) fm [] none none none none none none hw (by simp; omega)
  refine (congrArg fin (execs_nx (env' := [some (.sh (formD fm)), some (.ow (sesD [])), none, none, none, none, none, none]) (S' := S) ?_)).trans ?_
  · simp only [startE, List.map, List.length, List.replicate, execs, exec, ev, evs, evcs, evts, unown, unown1, List.foldl, peek, getO, getE, idx0, idx1, idx2, idx3, idx4, idxl0, idxl1, idxl2, List.cons_append, List.nil_append, List.append_nil, Option.map_some, Option.bind_some, Option.map_none, Option.bind_none, cmpF, eq_str, List.getElem?_cons_zero, List.getElem?_cons_succ, List.set_cons_zero, List.set_cons_succ, Nat.reduceSub, Nat.reduceAdd, decide_true, decide_false, fnx, frt, bindT, d_actions_of, isMut, if_true]
    rfl
  · refine (congrArg fin (execs_nx (exec_for (ds := [formD fm]) (S1 := S) (by simp only [startE, List.map, List.length, List.replicate, execs, exec, ev, evs, evcs, evts, unown, unown1, List.foldl, peek, getO, getE, idx0, idx1, idx2, idx3, idx4, idxl0, idxl1, idxl2, List.cons_append, List.nil_append, List.append_nil, Option.map_some, Option.bind_some, Option.map_none, Option.bind_none, cmpF, eq_str, List.getElem?_cons_zero, List.getElem?_cons_succ, List.set_cons_zero, List.set_cons_succ, Nat.reduceSub, Nat.reduceAdd, decide_true, decide_false, fnx, frt, bindT]) rfl hlp))).trans ?_
    simp only [startE, List.map, List.length, List.replicate, execs, exec, ev, evs, evcs, evts, unown, unown1, List.foldl, peek, getO, getE, idx0, idx1, idx2, idx3, idx4, idxl0, idxl1, idxl2, List.cons_append, List.nil_append, List.append_nil, Option.map_some, Option.bind_some, Option.map_none, Option.bind_none, cmpF, eq_str, List.getElem?_cons_zero, List.getElem?_cons_succ, List.set_cons_zero, List.set_cons_succ, Nat.reduceSub, Nat.reduceAdd, decide_true, decide_false, fnx, frt, bindT]
end
end FG

namespace FG
open PySem PySem.Spec PyProof.Rows L2
def letters : Str := "abcdefghijklmnopqrstuvwxyz"
structure W1 (s : Str) : Prop where
  lo : 1 ≤ s.length
  hi : s.length ≤ 4
  let_ : ∀ c ∈ s.cps.toList, c ∈ letters.cps.toList
def w1B (s : Str) : Bool := decide (1 ≤ s.length) && decide (s.length ≤ 4) && s.cps.toList.all fun c => decide (c ∈ letters.cps.toList)
theorem w1_of {s : Str} (h : w1B s = true) : W1 s := by
  simp only [w1B, Bool.and_eq_true, decide_eq_true_eq, List.all_eq_true] at h
  exact ⟨h.1.1, h.1.2, h.2⟩
theorem all_trues {α : Type} (xs : List α) : biF .all (.lst (xs.map fun _ => .bl true)) = some (.bl true) := by
  have := all_bls (xs.map fun _ => true)
  rw [List.map_map] at this
  rw [show (D.bl ∘ fun (_ : α) => true) = fun _ => D.bl true from rfl] at this
  rw [this]
  simp
section
variable {fs : List Df} {F k : Nat} {S : Sto}
theorem e_is_word (h : fs[0]? = some d_is_word) {s : Str} (w : W1 s) : callK fs F (k + 1) 0 [.str s] S = some (.bl true, S) := by
  rw [callK_eq h rfl]
  have hlen : biF .len (.str s) = some (.int (s.length : Nat)) := by
    simp only [biF]
    rw [if_pos (by have := w.hi; unfold big; omega)]
  have hlc := ev_lcR (c := callK fs F k) (own := [1]) (tg := .nm 1) (ik := .seq) (its := [.var 0]) (ifs := []) (elt := .cmp .isin (.var 1) (.glob "LETTERS" (.str "abcdefghijklmnopqrstuvwxyz"))) (env := [some (.sh (.str s)), none]) (S := S) (S1 := S) (ds := [.str s])
    (fun c => D.str ⟨#[c]⟩) (fun _ => true) (fun _ => .bl true) s.cps.toList (by simp only [startE, List.map, List.length, List.replicate, execs, exec, ev, evs, evcs, evts, unown, unown1, List.foldl, peek, getO, getE, idx0, idx1, idx2, idx3, idx4, idxl0, idxl1, idxl2, List.cons_append, List.nil_append, List.append_nil, Option.map_some, Option.bind_some, Option.map_none, Option.bind_none, cmpF, eq_str, List.getElem?_cons_zero, List.getElem?_cons_succ, List.set_cons_zero, List.set_cons_succ, Nat.reduceSub, Nat.reduceAdd, decide_true, decide_false, fnx, frt, bindT]) (by decide) rfl (fun c m => ⟨[some (.sh (.str s)), some (.sh (.str ⟨#[c]⟩))], rfl, rfl, fun _ => by
      have : inF (.str ⟨#[c]⟩) (.str letters) = some true := by
        show (if (#[c] : Array _).size = 1 then some (decide ((#[c] : Array _).getD 0 0 ∈ letters.cps.toList)) else none) = _
        rw [if_pos (show (#[c] : Array _).size = 1 from rfl)]
        exact congrArg some (decide_eq_true (w.let_ c m))
      have hl : (D.str "abcdefghijklmnopqrstuvwxyz") = .str letters := rfl
      simp only [startE, List.map, List.length, List.replicate, execs, exec, ev, evs, evcs, evts, unown, unown1, List.foldl, peek, getO, getE, idx0, idx1, idx2, idx3, idx4, idxl0, idxl1, idxl2, List.cons_append, List.nil_append, List.append_nil, Option.map_some, Option.bind_some, Option.map_none, Option.bind_none, cmpF, eq_str, List.getElem?_cons_zero, List.getElem?_cons_succ, List.set_cons_zero, List.set_cons_succ, Nat.reduceSub, Nat.reduceAdd, decide_true, decide_false, fnx, frt, bindT, hl, this]⟩) (by
        have h1 : s.cps.toList.length = s.length := by simp [Str.length]
        rw [h1]; have := w.hi; unfold big; omega)
  rw [List.filter_eq_self.mpr fun _ _ => rfl] at hlc
  have hall := ev_biR (f := .all) rfl hlc (all_trues s.cps.toList)
  have hlo : (1 : Int) ≤ (s.length : Nat) := by have := w.lo; omega
  have hhi : ((s.length : Nat) : Int) ≤ 4 := by have := w.hi; omega
  have hb : d_is_word.body = [.ret [] (.and (.bi (.isi "str") (.var 0)) (.and (.chain (.con (.int 1)) (.bi .len (.var 0)) (.con (.int 4))) (.bi .all (.lc [1] (.nm 1) .seq [.var 0] [] (.cmp .isin (.var 1) (.glob "LETTERS" (.str "abcdefghijklmnopqrstuvwxyz")))))))] := rfl
  rw [hb]
  generalize E.bi .all (.lc [1] (.nm 1) .seq [.var 0] [] (.cmp .isin (.var 1) (.glob "LETTERS" (.str "abcdefghijklmnopqrstuvwxyz")))) = e at hall ⊢
  have hisi : biF (.isi "str") (.str s) = some (.bl true) := rfl
  simp only [startE, List.map, List.length, List.replicate, execs, exec, ev, evs, evcs, evts, unown, unown1, List.foldl, peek, getO, getE, idx0, idx1, idx2, idx3, idx4, idxl0, idxl1, idxl2, List.cons_append, List.nil_append, List.append_nil, Option.map_some, Option.bind_some, Option.map_none, Option.bind_none, cmpF, eq_str, List.getElem?_cons_zero, List.getElem?_cons_succ, List.set_cons_zero, List.set_cons_succ, Nat.reduceSub, Nat.reduceAdd, decide_true, decide_false, fnx, frt, bindT, d_is_word, hisi, hlen, hlo, hhi, if_true, hall]
/-! ### are_choices -/
structure WsOk (ws : List Str) : Prop where
  lo : 1 ≤ ws.length
  hi : ws.length ≤ 3
  w : ∀ x ∈ ws, W1 x
  nd : ws.Nodup
def wD (ws : List Str) : D := .tup (ws.map .str)
theorem txts_map (ws : List Str) : txts (ws.map .str) = some ws := by
  induction ws with
  | nil => rfl
  | cons w ws ih => simp [txts, ih]
theorem dups_nodup : ∀ {l : List Str}, l.Nodup → l.eraseDups = l
  | [], _ => rfl
  | x :: l, h => by
    simp only [List.nodup_cons] at h
    rw [List.eraseDups_cons]
    have : l.filter (fun b => !b == x) = l := List.filter_eq_self.mpr fun y m => by
      have : y ≠ x := fun z => h.1 (z ▸ m)
      simpa using this
    rw [this, dups_nodup h.2]
theorem e_are_choices (h0 : fs[0]? = some d_is_word) (h : fs[2]? = some d_are_choices) {ws : List Str} (w : WsOk ws) : callK fs F (k + 2) 2 [wD ws] S = some (.bl true, S) := by
  rw [callK_eq h rfl]
  have hlen := map_len D.str ws
  have hlc := ev_lcR (c := callK fs F (k + 1)) (own := [1]) (tg := .nm 1) (ik := .seq) (its := [.var 0]) (ifs := []) (elt := .call 0 [.var 1]) (env := [some (.sh (wD ws)), none]) (S := S) (S1 := S) (ds := [wD ws])
    D.str (fun _ => true) (fun _ => .bl true) ws (by simp only [startE, List.map, List.length, List.replicate, execs, exec, ev, evs, evcs, evts, unown, unown1, List.foldl, peek, getO, getE, idx0, idx1, idx2, idx3, idx4, idxl0, idxl1, idxl2, List.cons_append, List.nil_append, List.append_nil, Option.map_some, Option.bind_some, Option.map_none, Option.bind_none, cmpF, eq_str, List.getElem?_cons_zero, List.getElem?_cons_succ, List.set_cons_zero, List.set_cons_succ, Nat.reduceSub, Nat.reduceAdd, decide_true, decide_false, fnx, frt, bindT]) (by decide) rfl (fun x m => ⟨[some (.sh (wD ws)), some (.sh (.str x))], rfl, rfl, fun _ => by
      have := e_is_word (F := F) (k := k) (S := S) h0 (w.w x m)
      simp only [startE, List.map, List.length, List.replicate, execs, exec, ev, evs, evcs, evts, unown, unown1, List.foldl, peek, getO, getE, idx0, idx1, idx2, idx3, idx4, idxl0, idxl1, idxl2, List.cons_append, List.nil_append, List.append_nil, Option.map_some, Option.bind_some, Option.map_none, Option.bind_none, cmpF, eq_str, List.getElem?_cons_zero, List.getElem?_cons_succ, List.set_cons_zero, List.set_cons_succ, Nat.reduceSub, Nat.reduceAdd, decide_true, decide_false, fnx, frt, bindT, this]⟩) (by have := w.hi; unfold big; omega)
  rw [List.filter_eq_self.mpr fun _ _ => rfl] at hlc
  have hall := ev_biR (f := .all) rfl hlc (all_trues ws)
  have hlo : (1 : Int) ≤ (ws.length : Nat) := by have := w.lo; omega
  have hhi : ((ws.length : Nat) : Int) ≤ 3 := by have := w.hi; omega
  have hset : biF .lenset (wD ws) = some (.int (ws.length : Nat)) := by
    simp only [biF, wD, txts_map, Option.bind_some, dups_nodup w.nd]
    rw [if_pos (by have := w.hi; simp; omega)]
  have hb : d_are_choices.body = [.ite (.or (.not (.bi (.isi "tuple") (.var 0))) (.or (.not (.chain (.con (.int 1)) (.bi .len (.var 0)) (.glob "CHOICES" (.int 3)))) (.not (.bi .all (.lc [1] (.nm 1) .seq [.var 0] [] (.call 0 [.var 1])))))) [.ret [] (.con (.bl false))] [], .ret [] (.cmp .eq (.bi .len (.var 0)) (.bi .lenset (.var 0)))] := rfl
  rw [hb]
  generalize E.bi .all (.lc [1] (.nm 1) .seq [.var 0] [] (.call 0 [.var 1])) = e at hall ⊢
  have hisi : biF (.isi "tuple") (wD ws) = some (.bl true) := rfl
  have hlen' : biF .len (wD ws) = some (.int (ws.length : Nat)) := hlen
  have heq : eqF (.int (ws.length : Nat)) (.int (ws.length : Nat)) = some true := by
    simp only [eqF, scalD, Bool.true_or, if_true, Option.some.injEq, eqD, toPy, PyData.eqv, beq_self_eq_true]
  simp only [startE, List.map, List.length, List.replicate, execs, exec, ev, evs, evcs, evts, unown, unown1, List.foldl, peek, getO, getE, idx0, idx1, idx2, idx3, idx4, idxl0, idxl1, idxl2, List.cons_append, List.nil_append, List.append_nil, Option.map_some, Option.bind_some, Option.map_none, Option.bind_none, cmpF, eq_str, List.getElem?_cons_zero, List.getElem?_cons_succ, List.set_cons_zero, List.set_cons_succ, Nat.reduceSub, Nat.reduceAdd, decide_true, decide_false, fnx, frt, bindT, d_are_choices, hisi, hlen', hlo, hhi, if_true, hall, Bool.not_true, hset, heq]
/-! ### is_condition -/
abbrev Ear := List (Str × List Str)
def eD (e : Ear) : D := .dct (e.map fun p => .text p.1) (e.map fun p => wD p.2)
theorem look_eD : ∀ (l : Ear) (k : Str), dLook (l.map fun p => .text p.1) (l.map fun p => wD p.2) (.text k) = (l.lookup k).map wD
  | [], k => rfl
  | p :: l, k => by
    obtain ⟨a, b⟩ := p
    simp only [List.map_cons, dLook, NestedKey.text.injEq]
    by_cases h : a = k
    · subst h
      simp [List.lookup]
    · have h' : (k == a) = false := by simpa using fun z : k = a => h z.symm
      rw [if_neg h, look_eD l k]
      simp [List.lookup, h']
inductive CndOk (e : Ear) : Cnd → Prop
  | alw : CndOk e .alw
  | is {n w : Str} {ws : List Str} : W1 n → e.lookup n = some ws → w ∈ ws → PyData.strOk n = true → PyData.strOk w = true → CndOk e (.is n w)
  | not {c : Cnd} : CndOk e c → CndOk e (.not c)
  | and {a b : Cnd} : CndOk e a → CndOk e b → CndOk e (.and a b)
  | or {a b : Cnd} : CndOk e a → CndOk e b → CndOk e (.or a b)
theorem sok_is : PyData.strOk ("is" : Str) = true := by decide +kernel
theorem sok_not : PyData.strOk ("not" : Str) = true := by decide +kernel
theorem sok_and : PyData.strOk ("and" : Str) = true := by decide +kernel
theorem sok_or : PyData.strOk ("or" : Str) = true := by decide +kernel
theorem sok_alw : PyData.strOk ("always" : Str) = true := by decide +kernel
theorem sok_ch : PyData.strOk ("choose" : Str) = true := by decide +kernel
theorem sok_cl : PyData.strOk ("clear" : Str) = true := by decide +kernel
theorem pyOk_cnd {e : Ear} {c : Cnd} (h : CndOk e c) : ∀ n : Nat, c.dep < n → pyOk n c.d = true := by
  induction h with
  | alw => intro n hn; cases n with | zero => cases hn | succ n => simp only [Cnd.d, pyOk, pyOks, sok_alw, Bool.and_true]
  | is w1 l m o1 o2 =>
    intro n hn
    cases n with
    | zero => cases hn
    | succ n =>
      simp only [Cnd.d, pyOk, pyOks, o1, o2, sok_is, Bool.and_true]
  | not _ ih =>
    intro n hn
    cases n with
    | zero => cases hn
    | succ n =>
      simp only [Cnd.dep] at hn
      simp only [Cnd.d, pyOk, pyOks, ih n (by omega), sok_not, Bool.and_true]
  | and _ _ ia ib =>
    intro n hn
    cases n with
    | zero => cases hn
    | succ n =>
      simp only [Cnd.dep] at hn
      simp only [Cnd.d, pyOk, pyOks, ia n (by omega), ib n (by omega), sok_and, sok_or, Bool.and_true]
  | or _ _ ia ib =>
    intro n hn
    cases n with
    | zero => cases hn
    | succ n =>
      simp only [Cnd.dep] at hn
      simp only [Cnd.d, pyOk, pyOks, ia n (by omega), ib n (by omega), sok_and, sok_or, Bool.and_true]
theorem eq_tup0 {a : D} {ds : List D} (h : pyOk 60 (.tup (a :: ds)) = true) : eqF (.tup (a :: ds)) (.tup []) = some false := by
  have e : eqF (.tup (a :: ds)) (.tup []) = if scalD (.tup (a :: ds)) (.tup []) || (pyOk 60 (.tup (a :: ds)) && pyOk 60 (.tup [])) then some (eqD (.tup (a :: ds)) (.tup [])) else none := rfl
  rw [e, h]
  rfl
theorem in_wD {w : Str} {ws : List Str} (m : w ∈ ws) : inF (.str w) (wD ws) = some true := by
  have h1 : (ws.map D.str).all atomD = true := by simp [atomD]
  simp only [inF, wD, atomD, h1, Bool.and_self, if_true, Option.some.injEq, List.any_map, List.any_eq_true, Function.comp, eqD_str, decide_eq_true_eq]
  exact ⟨w, m, rfl⟩
theorem eq_int (a b : Int) : eqF (.int a) (.int b) = some (decide (a = b)) := by
  simp only [eqF, scalD, Bool.true_or, if_true, Option.some.injEq, eqD, toPy, PyData.eqv]
  rw [Bool.eq_iff_iff]
  simp
theorem len1T (a : D) : biF .len (.tup [a]) = some (.int 1) := rfl
theorem len2T (a b : D) : biF .len (.tup [a, b]) = some (.int 2) := rfl
theorem len3T (a b c : D) : biF .len (.tup [a, b, c]) = some (.int 3) := rfl
theorem isiT (ds : List D) : biF (.isi "tuple") (.tup ds) = some (.bl true) := rfl
theorem isiS (s : Str) : biF (.isi "str") (.str s) = some (.bl true) := rfl
theorem in_kinds (s : Str) (h : s = "not" ∨ s = "and" ∨ s = "or") : inF (.str s) (.tup [.str "not", .str "and", .str "or"]) = some true := in_wD (ws := ["not", "and", "or"]) (by simpa using h)
theorem getd_eD {e : Ear} {n : Str} {ws : List Str} (h : e.lookup n = some ws) : getF (eD e) (.str n) (.tup []) = some (wD ws) := by
  simp only [getF, eD, look_eD, h, Option.map_some, Option.getD_some]
theorem cond_parts {fs : List Df} {F k : Nat} {S : Sto} {e : Ear} {kind : Str} {cs : List Cnd} {dp : Nat} (x3 : Option Ent) (ih : ∀ c ∈ cs, callK fs F k 1 [c.d, eD e, .int (dp : Nat)] S = some (.bl true, S)) (hl : cs.length ≤ big) :
    ev (callK fs F k) (.bi .all (.lc [4] (.nm 4) .seq [.slf (.var 0) (.con (.int 1))] [] (.call 1 [.var 4, .var 1, .bin .sub (.var 2) (.con (.int 1))]))) [some (.sh (.tup (.str kind :: cs.map Cnd.d))), some (.sh (eD e)), some (.sh (.int ((dp + 1 : Nat) : Int))), x3, none] S = some (.bl true, S) := by
  have hsub : binF .sub (.int ((dp + 1 : Nat) : Int)) (.int 1) = some (.int (dp : Nat)) := by
    show some (D.int (((dp + 1 : Nat) : Int) - 1)) = _
    congr 2
    omega
  have := ev_lcR (c := callK fs F k) (own := [4]) (tg := .nm 4) (ik := .seq) (its := [.slf (.var 0) (.con (.int 1))]) (ifs := []) (elt := .call 1 [.var 4, .var 1, .bin .sub (.var 2) (.con (.int 1))]) (env := [some (.sh (.tup (.str kind :: cs.map Cnd.d))), some (.sh (eD e)), some (.sh (.int ((dp + 1 : Nat) : Int))), x3, none]) (S := S) (S1 := S) (ds := [.tup (cs.map Cnd.d)])
    Cnd.d (fun _ => true) (fun _ => .bl true) cs (by simp only [startE, List.map, List.length, List.replicate, execs, exec, ev, evs, evcs, evts, unown, unown1, List.foldl, peek, getO, getE, idx0, idx1, idx2, idx3, idx4, idxl0, idxl1, idxl2, List.cons_append, List.nil_append, List.append_nil, Option.map_some, Option.bind_some, Option.map_none, Option.bind_none, cmpF, eq_str, List.getElem?_cons_zero, List.getElem?_cons_succ, List.set_cons_zero, List.set_cons_succ, Nat.reduceSub, Nat.reduceAdd, decide_true, decide_false, fnx, frt, bindT, slf1]) (by decide) rfl (fun c m => ⟨[some (.sh (.tup (.str kind :: cs.map Cnd.d))), some (.sh (eD e)), some (.sh (.int ((dp + 1 : Nat) : Int))), x3, some (.sh c.d)], rfl, rfl, fun _ => by simp only [startE, List.map, List.length, List.replicate, execs, exec, ev, evs, evcs, evts, unown, unown1, List.foldl, peek, getO, getE, idx0, idx1, idx2, idx3, idx4, idxl0, idxl1, idxl2, List.cons_append, List.nil_append, List.append_nil, Option.map_some, Option.bind_some, Option.map_none, Option.bind_none, cmpF, eq_str, List.getElem?_cons_zero, List.getElem?_cons_succ, List.set_cons_zero, List.set_cons_succ, Nat.reduceSub, Nat.reduceAdd, decide_true, decide_false, fnx, frt, bindT, hsub, ih c m]⟩) hl
  rw [List.filter_eq_self.mpr fun _ _ => rfl] at this
  exact ev_biR rfl this (all_trues cs)
end
end FG

namespace FG
open PySem PySem.Spec PyProof.Rows L2
section
variable {fs : List Df} {F k : Nat} {S : Sto}
theorem dec_ne {a b : Str} (h : a ≠ b) : decide (a = b) = false := decide_eq_false h
theorem cond_s1 {c : Calls} {kind : Str} {ds : List D} (x1 x2 x3 x4 : Option Ent) (hp : pyOk 60 (.tup (.str kind :: ds)) = true) :
    exec c F (.ite (.or (.not (.bi (.isi "tuple") (.var 0))) (.or (.cmp .eq (.var 0) (.tup [])) (.not (.bi (.isi "str") (.idx (.var 0) (.con (.int 0))))))) [.ret [] (.con (.bl false))] []) [some (.sh (.tup (.str kind :: ds))), x1, x2, x3, x4] S = some (.nx [some (.sh (.tup (.str kind :: ds))), x1, x2, x3, x4] S) := by
  simp only [startE, List.map, List.length, List.replicate, execs, exec, ev, evs, evcs, evts, unown, unown1, List.foldl, peek, getO, getE, idx0, idx1, idx2, idx3, idx4, idxl0, idxl1, idxl2, List.cons_append, List.nil_append, List.append_nil, Option.map_some, Option.bind_some, Option.map_none, Option.bind_none, cmpF, eq_str, List.getElem?_cons_zero, List.getElem?_cons_succ, List.set_cons_zero, List.set_cons_succ, Nat.reduceSub, Nat.reduceAdd, decide_true, decide_false, fnx, frt, bindT, isiT, isiS, Bool.not_true, eq_tup0 hp]
theorem e_is_cond (h0 : fs[0]? = some d_is_word) (h : fs[1]? = some d_is_condition) {e : Ear} : ∀ {c : Cnd}, CndOk e c → ∀ (k dp : Nat), c.dep ≤ k → c.dep ≤ dp → c.dep < 50 → callK fs F (k + 2) 1 [c.d, eD e, .int (dp : Nat)] S = some (.bl true, S) := by
  intro c hc
  induction hc with
  | alw =>
    intro k dp _ _ _
    rw [callK_eq h rfl]
    have hp : pyOk 60 (.tup (.str "always" :: [])) = true := pyOk_cnd (e := e) .alw 60 (by decide)
    refine (congrArg fin (execs_nx (cond_s1 _ _ none none hp))).trans ?_
    simp only [startE, List.map, List.length, List.replicate, execs, exec, ev, evs, evcs, evts, unown, unown1, List.foldl, peek, getO, getE, idx0, idx1, idx2, idx3, idx4, idxl0, idxl1, idxl2, List.cons_append, List.nil_append, List.append_nil, Option.map_some, Option.bind_some, Option.map_none, Option.bind_none, cmpF, eq_str, List.getElem?_cons_zero, List.getElem?_cons_succ, List.set_cons_zero, List.set_cons_succ, Nat.reduceSub, Nat.reduceAdd, decide_true, decide_false, fnx, frt, bindT, Cnd.d, dec_ne (show ("always" : Str) ≠ "is" by decide), len1T, eq_int]
  | @is n w ws w1 l m o1 o2 =>
    intro k dp _ _ _
    rw [callK_eq h rfl]
    have hp : pyOk 60 (.tup (.str "is" :: [.str n, .str w])) = true := pyOk_cnd (e := e) (.is w1 l m o1 o2) 60 (by simp only [Cnd.dep]; omega)
    have hw := e_is_word (F := F) (k := k) (S := S) h0 w1
    have hg := getd_eD l
    have hi := in_wD m
    refine (congrArg fin (execs_nx (cond_s1 _ _ none none hp))).trans ?_
    simp only [startE, List.map, List.length, List.replicate, execs, exec, ev, evs, evcs, evts, unown, unown1, List.foldl, peek, getO, getE, idx0, idx1, idx2, idx3, idx4, idxl0, idxl1, idxl2, List.cons_append, List.nil_append, List.append_nil, Option.map_some, Option.bind_some, Option.map_none, Option.bind_none, cmpF, eq_str, List.getElem?_cons_zero, List.getElem?_cons_succ, List.set_cons_zero, List.set_cons_succ, Nat.reduceSub, Nat.reduceAdd, decide_true, decide_false, fnx, frt, bindT, Cnd.d, len3T, eq_int, hw, hg, hi]
  | not hc ih =>
    intro k dp h1 h2 h3
    rename_i c
    simp only [Cnd.dep] at h1 h2 h3
    obtain ⟨k, rfl⟩ : ∃ j, k = j + 1 := ⟨k - 1, by omega⟩
    obtain ⟨dp, rfl⟩ : ∃ j, dp = j + 1 := ⟨dp - 1, by omega⟩
    rw [callK_eq h rfl]
    have hp : pyOk 60 (.tup (.str "not" :: [c.d])) = true := pyOk_cnd (CndOk.not hc) 60 (by simp only [Cnd.dep]; omega)
    have hall := cond_parts (fs := fs) (F := F) (k := k + 2) (S := S) (e := e) (kind := "not") (cs := [c]) (dp := dp) (some (.sh (.str "not"))) (by simpa using ih k dp (by omega) (by omega) (by omega)) (by simp; unfold big; omega)
    refine (congrArg fin (execs_nx (cond_s1 _ _ none none hp))).trans ?_
    refine (congrArg fin (execs_nx (env' := [some (.sh (Cnd.not c).d), some (.sh (eD e)), some (.sh (.int ((dp + 1 : Nat) : Int))), some (.sh (.str "not")), none]) (S' := S) (by simp only [startE, List.map, List.length, List.replicate, execs, exec, ev, evs, evcs, evts, unown, unown1, List.foldl, peek, getO, getE, idx0, idx1, idx2, idx3, idx4, idxl0, idxl1, idxl2, List.cons_append, List.nil_append, List.append_nil, Option.map_some, Option.bind_some, Option.map_none, Option.bind_none, cmpF, eq_str, List.getElem?_cons_zero, List.getElem?_cons_succ, List.set_cons_zero, List.set_cons_succ, Nat.reduceSub, Nat.reduceAdd, decide_true, decide_false, fnx, frt, bindT, Cnd.d]))).trans ?_
    refine (congrArg fin (execs_nx (env' := [some (.sh (Cnd.not c).d), some (.sh (eD e)), some (.sh (.int ((dp + 1 : Nat) : Int))), some (.sh (.str "not")), none]) (S' := S) (by simp only [startE, List.map, List.length, List.replicate, execs, exec, ev, evs, evcs, evts, unown, unown1, List.foldl, peek, getO, getE, idx0, idx1, idx2, idx3, idx4, idxl0, idxl1, idxl2, List.cons_append, List.nil_append, List.append_nil, Option.map_some, Option.bind_some, Option.map_none, Option.bind_none, cmpF, eq_str, List.getElem?_cons_zero, List.getElem?_cons_succ, List.set_cons_zero, List.set_cons_succ, Nat.reduceSub, Nat.reduceAdd, decide_true, decide_false, fnx, frt, bindT, Cnd.d, dec_ne (show ("not" : Str) ≠ "is" by decide)]))).trans ?_
    refine (congrArg fin (execs_nx (env' := [some (.sh (Cnd.not c).d), some (.sh (eD e)), some (.sh (.int ((dp + 1 : Nat) : Int))), some (.sh (.str "not")), none]) (S' := S) (by simp only [startE, List.map, List.length, List.replicate, execs, exec, ev, evs, evcs, evts, unown, unown1, List.foldl, peek, getO, getE, idx0, idx1, idx2, idx3, idx4, idxl0, idxl1, idxl2, List.cons_append, List.nil_append, List.append_nil, Option.map_some, Option.bind_some, Option.map_none, Option.bind_none, cmpF, eq_str, List.getElem?_cons_zero, List.getElem?_cons_succ, List.set_cons_zero, List.set_cons_succ, Nat.reduceSub, Nat.reduceAdd, decide_true, decide_false, fnx, frt, bindT, Cnd.d, dec_ne (show ("not" : Str) ≠ "always" by decide)]))).trans ?_
    have hz : decide (((dp + 1 : Nat) : Int) = 0) = false := decide_eq_false (by omega)
    refine (congrArg fin (execs_nx (env' := [some (.sh (Cnd.not c).d), some (.sh (eD e)), some (.sh (.int ((dp + 1 : Nat) : Int))), some (.sh (.str "not")), none]) (S' := S) (by simp only [startE, List.map, List.length, List.replicate, execs, exec, ev, evs, evcs, evts, unown, unown1, List.foldl, peek, getO, getE, idx0, idx1, idx2, idx3, idx4, idxl0, idxl1, idxl2, List.cons_append, List.nil_append, List.append_nil, Option.map_some, Option.bind_some, Option.map_none, Option.bind_none, cmpF, eq_str, List.getElem?_cons_zero, List.getElem?_cons_succ, List.set_cons_zero, List.set_cons_succ, Nat.reduceSub, Nat.reduceAdd, decide_true, decide_false, fnx, frt, bindT, Cnd.d, in_kinds "not" (by decide), Bool.not_true, len2T, eq_int, hz]))).trans ?_
    exact (congrArg fin (execs_rt (exec_ret hall))).trans rfl
  | and ha hb iha ihb =>
    intro k dp h1 h2 h3
    rename_i a b
    simp only [Cnd.dep] at h1 h2 h3
    obtain ⟨k, rfl⟩ : ∃ j, k = j + 1 := ⟨k - 1, by omega⟩
    obtain ⟨dp, rfl⟩ : ∃ j, dp = j + 1 := ⟨dp - 1, by omega⟩
    rw [callK_eq h rfl]
    have hp : pyOk 60 (.tup (.str "and" :: [a.d, b.d])) = true := pyOk_cnd (CndOk.and ha hb) 60 (by simp only [Cnd.dep]; omega)
    have hall := cond_parts (fs := fs) (F := F) (k := k + 2) (S := S) (e := e) (kind := "and") (cs := [a, b]) (dp := dp) (some (.sh (.str "and"))) (by simpa using ⟨iha k dp (by omega) (by omega) (by omega), ihb k dp (by omega) (by omega) (by omega)⟩) (by simp; unfold big; omega)
    refine (congrArg fin (execs_nx (cond_s1 _ _ none none hp))).trans ?_
    refine (congrArg fin (execs_nx (env' := [some (.sh (Cnd.and a b).d), some (.sh (eD e)), some (.sh (.int ((dp + 1 : Nat) : Int))), some (.sh (.str "and")), none]) (S' := S) (by simp only [startE, List.map, List.length, List.replicate, execs, exec, ev, evs, evcs, evts, unown, unown1, List.foldl, peek, getO, getE, idx0, idx1, idx2, idx3, idx4, idxl0, idxl1, idxl2, List.cons_append, List.nil_append, List.append_nil, Option.map_some, Option.bind_some, Option.map_none, Option.bind_none, cmpF, eq_str, List.getElem?_cons_zero, List.getElem?_cons_succ, List.set_cons_zero, List.set_cons_succ, Nat.reduceSub, Nat.reduceAdd, decide_true, decide_false, fnx, frt, bindT, Cnd.d]))).trans ?_
    refine (congrArg fin (execs_nx (env' := [some (.sh (Cnd.and a b).d), some (.sh (eD e)), some (.sh (.int ((dp + 1 : Nat) : Int))), some (.sh (.str "and")), none]) (S' := S) (by simp only [startE, List.map, List.length, List.replicate, execs, exec, ev, evs, evcs, evts, unown, unown1, List.foldl, peek, getO, getE, idx0, idx1, idx2, idx3, idx4, idxl0, idxl1, idxl2, List.cons_append, List.nil_append, List.append_nil, Option.map_some, Option.bind_some, Option.map_none, Option.bind_none, cmpF, eq_str, List.getElem?_cons_zero, List.getElem?_cons_succ, List.set_cons_zero, List.set_cons_succ, Nat.reduceSub, Nat.reduceAdd, decide_true, decide_false, fnx, frt, bindT, Cnd.d, dec_ne (show ("and" : Str) ≠ "is" by decide)]))).trans ?_
    refine (congrArg fin (execs_nx (env' := [some (.sh (Cnd.and a b).d), some (.sh (eD e)), some (.sh (.int ((dp + 1 : Nat) : Int))), some (.sh (.str "and")), none]) (S' := S) (by simp only [startE, List.map, List.length, List.replicate, execs, exec, ev, evs, evcs, evts, unown, unown1, List.foldl, peek, getO, getE, idx0, idx1, idx2, idx3, idx4, idxl0, idxl1, idxl2, List.cons_append, List.nil_append, List.append_nil, Option.map_some, Option.bind_some, Option.map_none, Option.bind_none, cmpF, eq_str, List.getElem?_cons_zero, List.getElem?_cons_succ, List.set_cons_zero, List.set_cons_succ, Nat.reduceSub, Nat.reduceAdd, decide_true, decide_false, fnx, frt, bindT, Cnd.d, dec_ne (show ("and" : Str) ≠ "always" by decide)]))).trans ?_
    have hz : decide (((dp + 1 : Nat) : Int) = 0) = false := decide_eq_false (by omega)
    refine (congrArg fin (execs_nx (env' := [some (.sh (Cnd.and a b).d), some (.sh (eD e)), some (.sh (.int ((dp + 1 : Nat) : Int))), some (.sh (.str "and")), none]) (S' := S) (by simp only [startE, List.map, List.length, List.replicate, execs, exec, ev, evs, evcs, evts, unown, unown1, List.foldl, peek, getO, getE, idx0, idx1, idx2, idx3, idx4, idxl0, idxl1, idxl2, List.cons_append, List.nil_append, List.append_nil, Option.map_some, Option.bind_some, Option.map_none, Option.bind_none, cmpF, eq_str, List.getElem?_cons_zero, List.getElem?_cons_succ, List.set_cons_zero, List.set_cons_succ, Nat.reduceSub, Nat.reduceAdd, decide_true, decide_false, fnx, frt, bindT, Cnd.d, in_kinds "and" (by decide), Bool.not_true, len3T, eq_int, dec_ne (show ("and" : Str) ≠ "not" by decide), hz]))).trans ?_
    exact (congrArg fin (execs_rt (exec_ret hall))).trans rfl
  | or ha hb iha ihb =>
    intro k dp h1 h2 h3
    rename_i a b
    simp only [Cnd.dep] at h1 h2 h3
    obtain ⟨k, rfl⟩ : ∃ j, k = j + 1 := ⟨k - 1, by omega⟩
    obtain ⟨dp, rfl⟩ : ∃ j, dp = j + 1 := ⟨dp - 1, by omega⟩
    rw [callK_eq h rfl]
    have hp : pyOk 60 (.tup (.str "or" :: [a.d, b.d])) = true := pyOk_cnd (CndOk.or ha hb) 60 (by simp only [Cnd.dep]; omega)
    have hall := cond_parts (fs := fs) (F := F) (k := k + 2) (S := S) (e := e) (kind := "or") (cs := [a, b]) (dp := dp) (some (.sh (.str "or"))) (by simpa using ⟨iha k dp (by omega) (by omega) (by omega), ihb k dp (by omega) (by omega) (by omega)⟩) (by simp; unfold big; omega)
    refine (congrArg fin (execs_nx (cond_s1 _ _ none none hp))).trans ?_
    refine (congrArg fin (execs_nx (env' := [some (.sh (Cnd.or a b).d), some (.sh (eD e)), some (.sh (.int ((dp + 1 : Nat) : Int))), some (.sh (.str "or")), none]) (S' := S) (by simp only [startE, List.map, List.length, List.replicate, execs, exec, ev, evs, evcs, evts, unown, unown1, List.foldl, peek, getO, getE, idx0, idx1, idx2, idx3, idx4, idxl0, idxl1, idxl2, List.cons_append, List.nil_append, List.append_nil, Option.map_some, Option.bind_some, Option.map_none, Option.bind_none, cmpF, eq_str, List.getElem?_cons_zero, List.getElem?_cons_succ, List.set_cons_zero, List.set_cons_succ, Nat.reduceSub, Nat.reduceAdd, decide_true, decide_false, fnx, frt, bindT, Cnd.d]))).trans ?_
    refine (congrArg fin (execs_nx (env' := [some (.sh (Cnd.or a b).d), some (.sh (eD e)), some (.sh (.int ((dp + 1 : Nat) : Int))), some (.sh (.str "or")), none]) (S' := S) (by simp only [startE, List.map, List.length, List.replicate, execs, exec, ev, evs, evcs, evts, unown, unown1, List.foldl, peek, getO, getE, idx0, idx1, idx2, idx3, idx4, idxl0, idxl1, idxl2, List.cons_append, List.nil_append, List.append_nil, Option.map_some, Option.bind_some, Option.map_none, Option.bind_none, cmpF, eq_str, List.getElem?_cons_zero, List.getElem?_cons_succ, List.set_cons_zero, List.set_cons_succ, Nat.reduceSub, Nat.reduceAdd, decide_true, decide_false, fnx, frt, bindT, Cnd.d, dec_ne (show ("or" : Str) ≠ "is" by decide)]))).trans ?_
    refine (congrArg fin (execs_nx (env' := [some (.sh (Cnd.or a b).d), some (.sh (eD e)), some (.sh (.int ((dp + 1 : Nat) : Int))), some (.sh (.str "or")), none]) (S' := S) (by simp only [startE, List.map, List.length, List.replicate, execs, exec, ev, evs, evcs, evts, unown, unown1, List.foldl, peek, getO, getE, idx0, idx1, idx2, idx3, idx4, idxl0, idxl1, idxl2, List.cons_append, List.nil_append, List.append_nil, Option.map_some, Option.bind_some, Option.map_none, Option.bind_none, cmpF, eq_str, List.getElem?_cons_zero, List.getElem?_cons_succ, List.set_cons_zero, List.set_cons_succ, Nat.reduceSub, Nat.reduceAdd, decide_true, decide_false, fnx, frt, bindT, Cnd.d, dec_ne (show ("or" : Str) ≠ "always" by decide)]))).trans ?_
    have hz : decide (((dp + 1 : Nat) : Int) = 0) = false := decide_eq_false (by omega)
    refine (congrArg fin (execs_nx (env' := [some (.sh (Cnd.or a b).d), some (.sh (eD e)), some (.sh (.int ((dp + 1 : Nat) : Int))), some (.sh (.str "or")), none]) (S' := S) (by simp only [startE, List.map, List.length, List.replicate, execs, exec, ev, evs, evcs, evts, unown, unown1, List.foldl, peek, getO, getE, idx0, idx1, idx2, idx3, idx4, idxl0, idxl1, idxl2, List.cons_append, List.nil_append, List.append_nil, Option.map_some, Option.bind_some, Option.map_none, Option.bind_none, cmpF, eq_str, List.getElem?_cons_zero, List.getElem?_cons_succ, List.set_cons_zero, List.set_cons_succ, Nat.reduceSub, Nat.reduceAdd, decide_true, decide_false, fnx, frt, bindT, Cnd.d, in_kinds "or" (by decide), Bool.not_true, len3T, eq_int, dec_ne (show ("or" : Str) ≠ "not" by decide), hz]))).trans ?_
    exact (congrArg fin (execs_rt (exec_ret hall))).trans rfl
end
end FG

namespace FG
open PySem PySem.Spec PyProof.Rows L2
structure FldOk (e : Ear) (f : Fld) : Prop where
  nm : W1 f.name
  sok : PyData.strOk f.name = true
  new : f.name ∉ e.map (·.1)
  ws : WsOk f.words
  wok : ∀ w ∈ f.words, PyData.strOk w = true
  cnd : CndOk e f.cond
  dep : f.cond.dep ≤ 3
  src : ∀ s, f.src = some s → W1 s ∧ e.lookup s = some f.words
inductive FmOk : Ear → List Fld → Prop
  | nil {e : Ear} : FmOk e []
  | cons {e : Ear} {f : Fld} {fm : List Fld} : FldOk e f → FmOk (e ++ [(f.name, f.words)]) fm → FmOk e (f :: fm)
theorem eqD_refl_strs : ∀ ws : List Str, PyData.eqvAll (toPys (ws.map .str)) (toPys (ws.map .str)) = true
  | [] => rfl
  | w :: ws => by
    simp only [List.map_cons, toPys, toPy, PyData.eqvAll, eqD_refl_strs ws, Bool.and_true, PyData.eqv, beq_self_eq_true]
theorem eq_wD {ws : List Str} (h : ∀ w ∈ ws, PyData.strOk w = true) : eqF (wD ws) (wD ws) = some true := by
  have h1 : pyOk 60 (wD ws) = true := pyOks_str 59 ws h
  have e : eqF (wD ws) (wD ws) = if scalD (wD ws) (wD ws) || (pyOk 60 (wD ws) && pyOk 60 (wD ws)) then some (eqD (wD ws) (wD ws)) else none := rfl
  rw [e, h1]
  show some (PyData.eqvAll (toPys (ws.map .str)) (toPys (ws.map .str))) = _
  rw [eqD_refl_strs]
theorem lookup_none {l : Ear} {k : Str} (h : k ∉ l.map (·.1)) : l.lookup k = none := by
  induction l with
  | nil => rfl
  | cons p l ih =>
    obtain ⟨a, b⟩ := p
    simp only [List.map_cons, List.mem_cons, not_or] at h
    have h' : (k == a) = false := by simpa using h.1
    simp only [List.lookup, h']
    exact ih h.2
theorem in_eD {e : Ear} {n : Str} (h : n ∉ e.map (·.1)) : inF (.str n) (eD e) = some false := by
  simp only [inF, eD, txtKey, Option.map_some, look_eD, lookup_none h, Option.map_none]
  rfl
theorem get_eD {e : Ear} {n : Str} {ws : List Str} (h : e.lookup n = some ws) : getF (eD e) (.str n) .non = some (wD ws) := by
  simp only [getF, eD, look_eD, h, Option.map_some, Option.getD_some]
theorem set_eD {e : Ear} {n : Str} {ws : List Str} (h : n ∉ e.map (·.1)) (hl : e.length < big) : setF (eD e) (.str n) (wD ws) = some (eD (e ++ [(n, ws)])) := by
  have hx : NestedKey.text n ∉ e.map fun p => NestedKey.text p.1 := by simpa using h
  simp only [setF, eD, List.length_map, hl, if_true, dPut_new hx, List.map_append, List.map_cons, List.map_nil]
section
variable {fs : List Df} {F k : Nat} {S : Sto}
structure B1 (fs : List Df) : Prop where
  h0 : fs[0]? = some d_is_word
  h1 : fs[1]? = some d_is_condition
  h2 : fs[2]? = some d_are_choices
  h3 : fs[3]? = some d_is_field
  h4 : fs[4]? = some d_is_form
theorem pol_str (f : Fld) : inF (.str (if f.clr then ("clear" : Str) else "keep")) (.tup [.str "clear", .str "keep"]) = some true := in_wD (ws := ["clear", "keep"]) (by cases f.clr <;> simp)
theorem e_is_field (b : B1 fs) {e : Ear} {f : Fld} (o : FldOk e f) (hk : f.cond.dep ≤ k) : callK fs F (k + 3) 3 [f.d, eD e] S = some (.bl true, S) := by
  rw [callK_eq b.h3 rfl]
  have hw := e_is_word (F := F) (k := k + 1) (S := S) b.h0 o.nm
  have hcs := e_are_choices (F := F) (k := k) (S := S) b.h0 b.h2 o.ws
  have hcd := e_is_cond (F := F) (S := S) b.h0 b.h1 o.cnd k 3 hk o.dep (by have := o.dep; omega)
  have hin := in_eD o.new
  have hpol := pol_str f
  have h5 : ∀ a b c d e : D, biF .len (.tup [a, b, c, d, e]) = some (.int 5) := fun _ _ _ _ _ => rfl
  have hcs' : callK fs F (k + 2) 2 [D.tup (f.words.map .str)] S = some (.bl true, S) := hcs
  have hcd' : callK fs F (k + 2) 1 [f.cond.d, eD e, .int 3] S = some (.bl true, S) := hcd
  cases hs : f.src with
  | none =>
    simp only [startE, List.map, List.length, List.replicate, execs, exec, ev, evs, evcs, evts, unown, unown1, List.foldl, peek, getO, getE, idx0, idx1, idx2, idx3, idx4, idxl0, idxl1, idxl2, List.cons_append, List.nil_append, List.append_nil, Option.map_some, Option.bind_some, Option.map_none, Option.bind_none, cmpF, eq_str, List.getElem?_cons_zero, List.getElem?_cons_succ, List.set_cons_zero, List.set_cons_succ, Nat.reduceSub, Nat.reduceAdd, decide_true, decide_false, fnx, frt, bindT, d_is_field, Fld.d, hs, isiT, isiS, Bool.not_true, h5, eq_int, hw, hin, hcs', hcd', hpol, oD_none, isF, isN]
  | some s =>
    obtain ⟨ws1, hl⟩ := o.src s hs
    have hw2 := e_is_word (F := F) (k := k + 1) (S := S) b.h0 ws1
    have hg := get_eD hl
    have he : eqF (wD f.words) (.tup (f.words.map .str)) = some true := eq_wD o.wok
    simp only [startE, List.map, List.length, List.replicate, execs, exec, ev, evs, evcs, evts, unown, unown1, List.foldl, peek, getO, getE, idx0, idx1, idx2, idx3, idx4, idxl0, idxl1, idxl2, List.cons_append, List.nil_append, List.append_nil, Option.map_some, Option.bind_some, Option.map_none, Option.bind_none, cmpF, eq_str, List.getElem?_cons_zero, List.getElem?_cons_succ, List.set_cons_zero, List.set_cons_succ, Nat.reduceSub, Nat.reduceAdd, decide_true, decide_false, fnx, frt, bindT, d_is_field, Fld.d, hs, isiT, isiS, Bool.not_true, h5, eq_int, hw, hin, hcs', hcd', hpol, oD_some, is_str, hw2, hg, he]
theorem form_loop (b : B1 fs) (x0 : Option Ent) : ∀ {fm : List Fld} {e : Ear}, FmOk e fm → (∀ f ∈ fm, f.cond.dep ≤ k) → fm.length + e.length < big → ∀ x2 : Option Ent,
    ∃ e' y2, forGo (bindT (.nm 2)) (fun e S => execs (callK fs F (k + 3)) F (loopOf d_is_form.body) e S) (fm.map Fld.d) [x0, some (.ow (eD e)), x2] S = some (.nx [x0, some (.ow (eD e')), y2] S)
  | [], e, _, _, _, x2 => ⟨e, x2, rfl⟩
  | f :: fm, e, .cons o r, hd, hl, x2 => by
    simp only [List.length_cons] at hl
    have hf := e_is_field (F := F) (S := S) b o (hd f List.mem_cons_self)
    have hset := set_eD (ws := f.words) o.new (by omega)
    obtain ⟨e', y2, ih⟩ := form_loop b x0 r (fun g m => hd g (List.mem_cons_of_mem _ m)) (by simp; omega) (some (.sh f.d))
    have hs : execs (callK fs F (k + 3)) F (loopOf d_is_form.body) [x0, some (.ow (eD e)), some (.sh f.d)] S = some (.nx [x0, some (.ow (eD (e ++ [(f.name, f.words)]))), some (.sh f.d)] S) := by
      have hset' : setF (eD e) (.str f.name) (.tup (f.words.map .str)) = some (eD (e ++ [(f.name, f.words)])) := hset
      simp only [Fld.d] at hf
      simp only [startE, List.map, List.length, List.replicate, execs, exec, ev, evs, evcs, evts, unown, unown1, List.foldl, peek, getO, getE, idx0, idx1, idx2, idx3, idx4, idxl0, idxl1, idxl2, List.cons_append, List.nil_append, List.append_nil, Option.map_some, Option.bind_some, Option.map_none, Option.bind_none, cmpF, eq_str, List.getElem?_cons_zero, List.getElem?_cons_succ, List.set_cons_zero, List.set_cons_succ, Nat.reduceSub, Nat.reduceAdd, decide_true, decide_false, fnx, frt, bindT, loopOf, d_is_form, Fld.d, hf, imm, if_true, Bool.not_true, hset']
    refine ⟨e', y2, ?_⟩
    simp only [List.map_cons, forGo, bindT, List.set_cons_zero, List.set_cons_succ, Option.bind_some, hs]
    exact ih
theorem e_is_form (b : B1 fs) {fm : List Fld} (o : FmOk [] fm) (hd : ∀ f ∈ fm, f.cond.dep ≤ k) (hn : fm ≠ []) (hl : fm.length ≤ 4) : callK fs F (k + 4) 4 [formD fm] S = some (.bl true, S) := by
  rw [callK_eq b.h4 rfl]
  obtain ⟨e', y2, hlp⟩ := form_loop (F := F) (S := S) b (some (.sh (formD fm))) o hd (by simp; unfold big; omega) none
  have hlen : biF .len (formD fm) = some (.int (fm.length : Nat)) := map_len Fld.d fm
  have hisi : biF (.isi "tuple") (formD fm) = some (.bl true) := rfl
  have hlo : (1 : Int) ≤ (fm.length : Nat) := by cases fm with | nil => exact absurd rfl hn | cons _ _ => simp; omega
  have hhi : ((fm.length : Nat) : Int) ≤ 4 := by omega
  refine (congrArg fin (execs_nx (env' := [some (.sh (formD fm)), none, none]) (S' := S) ?_)).trans ?_
  · simp only [startE, List.map, List.length, List.replicate, execs, exec, ev, evs, evcs, evts, unown, unown1, List.foldl, peek, getO, getE, idx0, idx1, idx2, idx3, idx4, idxl0, idxl1, idxl2, List.cons_append, List.nil_append, List.append_nil, Option.map_some, Option.bind_some, Option.map_none, Option.bind_none, cmpF, eq_str, List.getElem?_cons_zero, List.getElem?_cons_succ, List.set_cons_zero, List.set_cons_succ, Nat.reduceSub, Nat.reduceAdd, decide_true, decide_false, fnx, frt, bindT, d_is_form, hisi, hlen, hlo, hhi, if_true, decide_true, Bool.not_true]
  refine (congrArg fin (execs_nx (env' := [some (.sh (formD fm)), some (.ow (eD [])), none]) (S' := S) ?_)).trans ?_
  · simp only [startE, List.map, List.length, List.replicate, execs, exec, ev, evs, evcs, evts, unown, unown1, List.foldl, peek, getO, getE, idx0, idx1, idx2, idx3, idx4, idxl0, idxl1, idxl2, List.cons_append, List.nil_append, List.append_nil, Option.map_some, Option.bind_some, Option.map_none, Option.bind_none, cmpF, eq_str, List.getElem?_cons_zero, List.getElem?_cons_succ, List.set_cons_zero, List.set_cons_succ, Nat.reduceSub, Nat.reduceAdd, decide_true, decide_false, fnx, frt, bindT, isMut, if_true]
    rfl
  refine (congrArg fin (execs_nx (exec_for (ds := [formD fm]) (S1 := S) (by simp only [startE, List.map, List.length, List.replicate, execs, exec, ev, evs, evcs, evts, unown, unown1, List.foldl, peek, getO, getE, idx0, idx1, idx2, idx3, idx4, idxl0, idxl1, idxl2, List.cons_append, List.nil_append, List.append_nil, Option.map_some, Option.bind_some, Option.map_none, Option.bind_none, cmpF, eq_str, List.getElem?_cons_zero, List.getElem?_cons_succ, List.set_cons_zero, List.set_cons_succ, Nat.reduceSub, Nat.reduceAdd, decide_true, decide_false, fnx, frt, bindT]) rfl hlp))).trans ?_
  simp only [startE, List.map, List.length, List.replicate, execs, exec, ev, evs, evcs, evts, unown, unown1, List.foldl, peek, getO, getE, idx0, idx1, idx2, idx3, idx4, idxl0, idxl1, idxl2, List.cons_append, List.nil_append, List.append_nil, Option.map_some, Option.bind_some, Option.map_none, Option.bind_none, cmpF, eq_str, List.getElem?_cons_zero, List.getElem?_cons_succ, List.set_cons_zero, List.set_cons_succ, Nat.reduceSub, Nat.reduceAdd, decide_true, decide_false, fnx, frt, bindT]
theorem e_need_form (b : B1 fs) (h5 : fs[5]? = some d_need_form) {fm : List Fld} (o : FmOk [] fm) (hd : ∀ f ∈ fm, f.cond.dep ≤ k) (hn : fm ≠ []) (hl : fm.length ≤ 4) : callK fs F (k + 5) 5 [formD fm] S = some (.non, S) := by
  rw [callK_eq h5 rfl]
  have h := e_is_form (F := F) (S := S) b o hd hn hl
  simp only [startE, List.map, List.length, List.replicate, execs, exec, ev, evs, evcs, evts, unown, unown1, List.foldl, peek, getO, getE, idx0, idx1, idx2, idx3, idx4, idxl0, idxl1, idxl2, List.cons_append, List.nil_append, List.append_nil, Option.map_some, Option.bind_some, Option.map_none, Option.bind_none, cmpF, eq_str, List.getElem?_cons_zero, List.getElem?_cons_succ, List.set_cons_zero, List.set_cons_succ, Nat.reduceSub, Nat.reduceAdd, decide_true, decide_false, fnx, frt, bindT, d_need_form, h, Bool.not_true]
end
end FG

namespace FG
open PySem PySem.Spec PyProof.Rows L2
structure ActOk (a : Act) : Prop where
  nm : PyData.strOk a.nm = true
  wd : ∀ w, a.val = some w → PyData.strOk w = true
theorem pyOk_act {a : Act} (o : ActOk a) (n : Nat) : pyOk (n + 1) a.d = true := by
  cases a with
  | ch x w =>
    have h1 : PyData.strOk x = true := o.nm
    have h2 : PyData.strOk w = true := o.wd w rfl
    simp only [Act.d, pyOk, pyOks, sok_ch, h1, h2, Bool.and_true]
  | cl x =>
    have h1 : PyData.strOk x = true := o.nm
    simp only [Act.d, pyOk, pyOks, sok_cl, h1, Bool.and_true]
theorem pyOks_act (n : Nat) : ∀ l : List Act, (∀ x ∈ l, ActOk x) → pyOks (n + 1) (l.map Act.d) = true
  | [], _ => by simp [pyOks]
  | x :: l, h => by
    simp only [List.map_cons, pyOks, pyOk_act (h x List.mem_cons_self) n, Bool.true_and]
    exact pyOks_act n l fun y m => h y (List.mem_cons_of_mem _ m)
theorem eqD_act (a b : Act) : eqD a.d b.d = decide (a = b) := by
  have hcc : (("choose" : Str) == "clear") = false := by decide
  have hcc' : (("clear" : Str) == "choose") = false := by decide
  cases a with
  | ch x w =>
    cases b with
    | ch y v =>
      simp only [eqD, Act.d, toPy, toPys, PyData.eqv, PyData.eqvAll, beq_self_eq_true, Bool.true_and, Bool.and_true, Act.ch.injEq]
      rw [Bool.eq_iff_iff]
      simp
    | cl y =>
      simp only [eqD, Act.d, toPy, toPys, PyData.eqv, PyData.eqvAll, hcc, Bool.false_and]
      exact (decide_eq_false (fun z => by cases z)).symm
  | cl x =>
    cases b with
    | ch y v =>
      simp only [eqD, Act.d, toPy, toPys, PyData.eqv, PyData.eqvAll, hcc', Bool.false_and]
      exact (decide_eq_false (fun z => by cases z)).symm
    | cl y =>
      simp only [eqD, Act.d, toPy, toPys, PyData.eqv, PyData.eqvAll, beq_self_eq_true, Bool.true_and, Bool.and_true, Act.cl.injEq]
      rw [Bool.eq_iff_iff]
      simp
theorem in_acts {a : Act} {l : List Act} (o : ActOk a) (h : ∀ x ∈ l, ActOk x) : inF a.d (sesD l) = some (decide (a ∈ l)) := by
  have h1 : pyOk 60 (.lst (l.map Act.d)) = true := pyOks_act 58 l h
  have h2 : pyOk 60 a.d = true := pyOk_act o 59
  have e : inF a.d (sesD l) = if pyOk 60 a.d && pyOk 60 (.lst (l.map Act.d)) then some ((l.map Act.d).any fun y => eqD y a.d) else none := by cases a <;> rfl
  rw [e, h1, h2, if_pos (show (true && true) = true from rfl), List.any_map]
  congr 1
  rw [Bool.eq_iff_iff]
  simp only [List.any_eq_true, Function.comp, eqD_act, decide_eq_true_eq]
  exact ⟨fun ⟨x, m, e⟩ => e ▸ m, fun m => ⟨a, m, rfl⟩⟩
theorem movesM_app : ∀ (fm : List Fld) (acc : List Act), movesM fm acc = acc ++ fm.flatMap movF
  | [], acc => by simp [movesM]
  | f :: fm, acc => by rw [movesM, movesM_app fm, List.flatMap_cons, List.append_assoc]
theorem movF_ok {f : Fld} (h1 : PyData.strOk f.name = true) (h2 : ∀ w ∈ f.words, PyData.strOk w = true) : ∀ a ∈ movF f, ActOk a := fun a m => by
  simp only [movF, List.mem_append, List.mem_map, List.mem_singleton] at m
  rcases m with ⟨w, hw, rfl⟩ | rfl
  · exact ⟨h1, fun v e => by cases e; exact h2 w hw⟩
  · exact ⟨h1, fun v e => by cases e⟩
theorem moves_ok {fm : List Fld} (n : NmOk fm) : ∀ a ∈ movesM fm [], ActOk a := fun a m => by
  rw [movesM_app, List.nil_append, List.mem_flatMap] at m
  obtain ⟨f, hf, m⟩ := m
  exact movF_ok (n.nm f hf) (n.wd f hf) a m
section
variable {fs : List Df} {F k : Nat} {S : Sto}
theorem e_is_action (h14 : fs[14]? = some d_actions_of) (h15 : fs[15]? = some d_is_action) {fm : List Fld} (n : NmOk fm) (hw : ∀ f ∈ fm, f.words.length ≤ 3) (hl : fm.length ≤ 1000) {a : Act} (m : a ∈ movesM fm []) : callK fs F (k + 2) 15 [formD fm, a.d] S = some (.bl true, S) := by
  rw [callK_eq h15 rfl]
  have hac := e_actions (F := F) (k := k) (S := S) h14 hw hl
  have hin := in_acts (moves_ok n a m) (moves_ok n)
  rw [decide_eq_true m] at hin
  have hisi : biF (.isi "tuple") a.d = some (.bl true) := by cases a <;> rfl
  have hall : ev (callK fs F (k + 1)) (.bi .all (.lc [2] (.nm 2) .seq [.var 1] [] (.bi (.isi "str") (.var 2)))) [some (.sh (formD fm)), some (.sh a.d), none] S = some (.bl true, S) := by
    have hlc : ∀ xs : List Str, a.d = .tup (xs.map .str) → xs.length ≤ 3 → ev (callK fs F (k + 1)) (.bi .all (.lc [2] (.nm 2) .seq [.var 1] [] (.bi (.isi "str") (.var 2)))) [some (.sh (formD fm)), some (.sh a.d), none] S = some (.bl true, S) := fun xs ha hxl => by
      have := ev_lcR (c := callK fs F (k + 1)) (own := [2]) (tg := .nm 2) (ik := .seq) (its := [.var 1]) (ifs := []) (elt := .bi (.isi "str") (.var 2)) (env := [some (.sh (formD fm)), some (.sh a.d), none]) (S := S) (S1 := S) (ds := [a.d])
        D.str (fun _ => true) (fun _ => .bl true) xs (by simp only [startE, List.map, List.length, List.replicate, execs, exec, ev, evs, evcs, evts, unown, unown1, List.foldl, peek, getO, getE, idx0, idx1, idx2, idx3, idx4, idxl0, idxl1, idxl2, List.cons_append, List.nil_append, List.append_nil, Option.map_some, Option.bind_some, Option.map_none, Option.bind_none, cmpF, eq_str, List.getElem?_cons_zero, List.getElem?_cons_succ, List.set_cons_zero, List.set_cons_succ, Nat.reduceSub, Nat.reduceAdd, decide_true, decide_false, fnx, frt, bindT]) (by decide) (by rw [ha]; rfl) (fun x m => ⟨[some (.sh (formD fm)), some (.sh a.d), some (.sh (.str x))], rfl, rfl, fun _ => by simp only [startE, List.map, List.length, List.replicate, execs, exec, ev, evs, evcs, evts, unown, unown1, List.foldl, peek, getO, getE, idx0, idx1, idx2, idx3, idx4, idxl0, idxl1, idxl2, List.cons_append, List.nil_append, List.append_nil, Option.map_some, Option.bind_some, Option.map_none, Option.bind_none, cmpF, eq_str, List.getElem?_cons_zero, List.getElem?_cons_succ, List.set_cons_zero, List.set_cons_succ, Nat.reduceSub, Nat.reduceAdd, decide_true, decide_false, fnx, frt, bindT, isiS]⟩) (by unfold big; omega)
      rw [List.filter_eq_self.mpr fun _ _ => rfl] at this
      exact ev_biR rfl this (all_trues xs)
    cases a with
    | ch x w => exact hlc ["choose", x, w] rfl (by simp)
    | cl x => exact hlc ["clear", x] rfl (by simp)
  have hb : d_is_action.body = [.ite (.or (.not (.bi (.isi "tuple") (.var 1))) (.not (.bi .all (.lc [2] (.nm 2) .seq [.var 1] [] (.bi (.isi "str") (.var 2)))))) [.ret [] (.con (.bl false))] [], .ret [] (.cmp .isin (.var 1) (.call 14 [.var 0]))] := rfl
  rw [hb]
  generalize E.bi .all (.lc [2] (.nm 2) .seq [.var 1] [] (.bi (.isi "str") (.var 2))) = e at hall ⊢
  simp only [startE, List.map, List.length, List.replicate, execs, exec, ev, evs, evcs, evts, unown, unown1, List.foldl, peek, getO, getE, idx0, idx1, idx2, idx3, idx4, idxl0, idxl1, idxl2, List.cons_append, List.nil_append, List.append_nil, Option.map_some, Option.bind_some, Option.map_none, Option.bind_none, cmpF, eq_str, List.getElem?_cons_zero, List.getElem?_cons_succ, List.set_cons_zero, List.set_cons_succ, Nat.reduceSub, Nat.reduceAdd, decide_true, decide_false, fnx, frt, bindT, d_is_action, hisi, hall, Bool.not_true, hac, hin]
structure BS (fs : List Df) : Prop where
  h5 : fs[5]? = some d_need_form
  h14 : fs[14]? = some d_actions_of
  h15 : fs[15]? = some d_is_action
  h16 : fs[16]? = some d_is_session
  h17 : fs[17]? = some d_need_session
/-- a form as the laws make it -/
structure FG1 (fm : List Fld) (k : Nat) : Prop where
  ok : FmOk [] fm
  nm : NmOk fm
  wl : ∀ f ∈ fm, f.words.length ≤ 3
  dep : ∀ f ∈ fm, f.cond.dep ≤ k
  ne : fm ≠ []
  le : fm.length ≤ 4
theorem e_is_session (b : B1 fs) (s : BS fs) {fm : List Fld} (o : FG1 fm k) {ss : List Act} (hm : ∀ a ∈ ss, a ∈ movesM fm []) (hl : ss.length ≤ 12) : callK fs F (k + 6) 16 [formD fm, sesD ss] S = some (.bl true, S) := by
  rw [callK_eq s.h16 rfl]
  have hnf := e_need_form (F := F) (S := S) b s.h5 o.ok o.dep o.ne o.le
  have hlc := ev_lcR (c := callK fs F (k + 5)) (own := [2]) (tg := .nm 2) (ik := .seq) (its := [.var 1]) (ifs := []) (elt := .call 15 [.var 0, .var 2]) (env := [some (.sh (formD fm)), some (.sh (sesD ss)), none]) (S := S) (S1 := S) (ds := [sesD ss])
    Act.d (fun _ => true) (fun _ => .bl true) ss (by simp only [startE, List.map, List.length, List.replicate, execs, exec, ev, evs, evcs, evts, unown, unown1, List.foldl, peek, getO, getE, idx0, idx1, idx2, idx3, idx4, idxl0, idxl1, idxl2, List.cons_append, List.nil_append, List.append_nil, Option.map_some, Option.bind_some, Option.map_none, Option.bind_none, cmpF, eq_str, List.getElem?_cons_zero, List.getElem?_cons_succ, List.set_cons_zero, List.set_cons_succ, Nat.reduceSub, Nat.reduceAdd, decide_true, decide_false, fnx, frt, bindT]) (by decide) rfl (fun a m => ⟨[some (.sh (formD fm)), some (.sh (sesD ss)), some (.sh a.d)], rfl, rfl, fun _ => by
      have := e_is_action (F := F) (k := k + 3) (S := S) s.h14 s.h15 o.nm o.wl (by have := o.le; omega) (hm a m)
      simp only [startE, List.map, List.length, List.replicate, execs, exec, ev, evs, evcs, evts, unown, unown1, List.foldl, peek, getO, getE, idx0, idx1, idx2, idx3, idx4, idxl0, idxl1, idxl2, List.cons_append, List.nil_append, List.append_nil, Option.map_some, Option.bind_some, Option.map_none, Option.bind_none, cmpF, eq_str, List.getElem?_cons_zero, List.getElem?_cons_succ, List.set_cons_zero, List.set_cons_succ, Nat.reduceSub, Nat.reduceAdd, decide_true, decide_false, fnx, frt, bindT, this]⟩) (by unfold big; omega)
  rw [List.filter_eq_self.mpr fun _ _ => rfl] at hlc
  have hall := ev_biR (f := .all) rfl hlc (all_trues ss)
  have hlen : biF .len (sesD ss) = some (.int (ss.length : Nat)) := by simp [biF, sesD]
  have hle : decide (((ss.length : Nat) : Int) ≤ 12) = true := decide_eq_true (by omega)
  have hisi : biF (.isi "list") (sesD ss) = some (.bl true) := rfl
  have hb : d_is_session.body = [.exp [] (.call 5 [.var 0]), .ret [] (.and (.bi (.isi "list") (.var 1)) (.and (.cmp .le (.bi .len (.var 1)) (.glob "ACTIONS" (.int 12))) (.bi .all (.lc [2] (.nm 2) .seq [.var 1] [] (.call 15 [.var 0, .var 2])))))] := rfl
  rw [hb]
  generalize E.bi .all (.lc [2] (.nm 2) .seq [.var 1] [] (.call 15 [.var 0, .var 2])) = e at hall ⊢
  simp only [startE, List.map, List.length, List.replicate, execs, exec, ev, evs, evcs, evts, unown, unown1, List.foldl, peek, getO, getE, idx0, idx1, idx2, idx3, idx4, idxl0, idxl1, idxl2, List.cons_append, List.nil_append, List.append_nil, Option.map_some, Option.bind_some, Option.map_none, Option.bind_none, cmpF, eq_str, List.getElem?_cons_zero, List.getElem?_cons_succ, List.set_cons_zero, List.set_cons_succ, Nat.reduceSub, Nat.reduceAdd, decide_true, decide_false, fnx, frt, bindT, d_is_session, hnf, hisi, hlen, hle, hall]
theorem e_need_session (b : B1 fs) (s : BS fs) {fm : List Fld} (o : FG1 fm k) {ss : List Act} (hm : ∀ a ∈ ss, a ∈ movesM fm []) (hl : ss.length ≤ 12) : callK fs F (k + 7) 17 [formD fm, sesD ss] S = some (.non, S) := by
  rw [callK_eq s.h17 rfl]
  have h := e_is_session (F := F) (S := S) b s o hm hl
  simp only [startE, List.map, List.length, List.replicate, execs, exec, ev, evs, evcs, evts, unown, unown1, List.foldl, peek, getO, getE, idx0, idx1, idx2, idx3, idx4, idxl0, idxl1, idxl2, List.cons_append, List.nil_append, List.append_nil, Option.map_some, Option.bind_some, Option.map_none, Option.bind_none, cmpF, eq_str, List.getElem?_cons_zero, List.getElem?_cons_succ, List.set_cons_zero, List.set_cons_succ, Nat.reduceSub, Nat.reduceAdd, decide_true, decide_false, fnx, frt, bindT, d_need_session, h, Bool.not_true]
end
end FG

namespace FG
open PySem PySem.Spec PyProof.Rows L2
/-- the store while a law draws -/
def town (a t : Nat) : Sto := [.lst [.int (a : Int), .int (t : Int)]]
theorem tw0 (a t : Nat) : idxS (town a t) (.obj 0) (.int 0) = some (.int (a : Int)) := atI_nat [D.int (a : Int), .int (t : Int)] 0
theorem tw1 (a t : Nat) : idxS (town a t) (.obj 0) (.int 1) = some (.int (t : Int)) := atI_nat [D.int (a : Int), .int (t : Int)] 1
theorem tget (a t : Nat) : (town a t)[0]? = some (.lst [.int (a : Int), .int (t : Int)]) := rfl
theorem tset1 (a t u : Nat) : setF (.lst [.int (a : Int), .int (t : Int)]) (.int 1) (.int (u : Int)) = some (.lst [.int (a : Int), .int (u : Int)]) := by
  have : ixN [D.int (a : Int), .int (t : Int)].length 1 = some 1 := rfl
  simp only [setF, this, Option.map_some]
  rfl
theorem mod_ok (i : Int) (m : Nat) (h : 1 ≤ m) : binF .mod (.int i) (.int (m : Int)) = some (.int ((i % (m : Int)).toNat : Nat)) := by
  have h1 : decide ((0 : Int) < (m : Int)) = true := decide_eq_true (by omega)
  simp only [binF, h1, if_true]
  congr 2
  have := Int.emod_nonneg i (show (m : Int) ≠ 0 by omega)
  omega
theorem mod_lt (i : Int) (m : Nat) (h : 1 ≤ m) : (i % (m : Int)).toNat < m := by
  have h1 := Int.emod_nonneg i (show (m : Int) ≠ 0 by omega)
  have h2 := Int.emod_lt_of_pos i (show (0 : Int) < (m : Int) by omega)
  omega
theorem fdiv_ok (i : Int) (m : Nat) (h : 1 ≤ m) (h2 : m ≤ 1000) : binF .fdiv (.int i) (.int (m : Int)) = some (.int (i / (m : Int))) := by
  have h1 : (decide ((0 : Int) < (m : Int)) && decide ((m : Int) < 1073741824)) = true := by simp; omega
  simp only [binF, h1, if_true]
theorem eq_scr (ns : List Int) : eqF (.scr ns) (.lst []) = some (decide (ns = [])) := by
  cases ns with
  | nil => rfl
  | cons n ns => rfl
theorem idx_scr (S : Sto) (ns : List Int) (i : Nat) (h : i < ns.length) : idxS S (.scr ns) (.int (i : Int)) = some (.int (ns.getD i 0)) := by
  show (atI ns (i : Int)).map D.int = _
  rw [atI_nat, List.getElem?_eq_getElem h, List.getD_eq_getElem?_getD, List.getElem?_eq_getElem h]
  rfl
theorem p18 : binF .pow (.int 10) (.int 18) = some (.int (10 ^ 18)) := rfl
theorem p60 : binF .pow (.int 10) (.int 60) = some (.int (10 ^ 60)) := rfl
theorem p120 : binF .mul (.int (10 ^ 60)) (.int (10 ^ 60)) = some (.int ((10 ^ 120 : Nat) : Int)) := by
  have h1 : (smallI (10 ^ 60) || smallI (10 ^ 60) || (wideI (10 ^ 60) && wideI (10 ^ 60))) = true := by decide +kernel
  simp only [binF, h1, if_true]
  congr 2
theorem aug0 {c : Calls} {F : Nat} (x0 x2 x3 x4 x5 : Option Ent) (a t : Nat) : exec c F (.augC 1 (.con (.int 0)) (.con (.int 1))) [x0, some (.sh (.obj 0)), x2, x3, x4, x5] (town a t) = some (.nx [x0, some (.sh (.obj 0)), x2, x3, x4, x5] (town (a + 1) t)) := by
  simp only [startE, List.map, List.length, List.replicate, execs, exec, ev, evs, evcs, evts, unown, unown1, List.foldl, peek, getO, getE, idx0, idx1, idx2, idx3, idx4, idxl0, idxl1, idxl2, List.cons_append, List.nil_append, List.append_nil, Option.map_some, Option.bind_some, Option.map_none, Option.bind_none, cmpF, eq_str, List.getElem?_cons_zero, List.getElem?_cons_succ, List.set_cons_zero, List.set_cons_succ, Nat.reduceSub, Nat.reduceAdd, decide_true, decide_false, fnx, frt, bindT, tget, Int.le_refl, if_true, Int.toNat_zero]
  have : (0 : Int) < (([D.int (a : Int), .int (t : Int)].length : Nat) : Int) := by simp
  rfl
section
variable {fs : List Df} {F k : Nat}
theorem draw_tail (ns : List Int) (a m : Nat) (h1 : 1 ≤ m) (h2 : m ≤ 1000) : ∃ r a' t', r < m ∧ fin (execs (callK fs F k) F (d_law_draw.body.drop 3) [some (.sh (.scr ns)), some (.sh (.obj 0)), some (.sh (.int (m : Int))), some (.sh (.int (a : Int))), none, none] (town (a + 1) 0)) = some (.int (r : Nat), town a' t') := by
  by_cases hn : ns = []
  · subst hn
    have hm := mod_ok (a : Int) m h1
    refine ⟨_, a + 1, 0, mod_lt (a : Int) m h1, ?_⟩
    simp only [startE, List.map, List.length, List.replicate, execs, exec, ev, evs, evcs, evts, unown, unown1, List.foldl, peek, getO, getE, idx0, idx1, idx2, idx3, idx4, idxl0, idxl1, idxl2, List.cons_append, List.nil_append, List.append_nil, Option.map_some, Option.bind_some, Option.map_none, Option.bind_none, cmpF, eq_str, List.getElem?_cons_zero, List.getElem?_cons_succ, List.set_cons_zero, List.set_cons_succ, Nat.reduceSub, Nat.reduceAdd, decide_true, decide_false, fnx, frt, bindT, d_law_draw, List.drop, eq_scr, hm]
  · have he : decide (ns = []) = false := decide_eq_false hn
    have hlen : biF .len (.scr ns) = some (.int (ns.length : Nat)) := rfl
    have hpos : 0 < ns.length := List.length_pos_iff.mpr hn
    by_cases hb : a < ns.length ∧ (10 ^ 18 : Int) ≤ ns.getD a 0
    · have hx := fun S => idx_scr S ns a hb.1
      have hl : decide ((a : Int) < (ns.length : Nat)) = true := decide_eq_true (by omega)
      have hg : decide ((10 ^ 18 : Int) ≤ ns.getD a 0) = true := decide_eq_true hb.2
      have hm := mod_ok (ns.getD a 0) m h1
      have hf := fdiv_ok (ns.getD a 0) m h1 h2
      have hm2 := mod_ok (ns.getD a 0 / (m : Int)) (10 ^ 120) (Nat.pos_of_ne_zero (by decide))
      refine ⟨_, a + 1, (ns.getD a 0 / (m : Int) % ((10 ^ 120 : Nat) : Int)).toNat, mod_lt (ns.getD a 0) m h1, ?_⟩
      simp only [startE, List.map, List.length, List.replicate, execs, exec, ev, evs, evcs, evts, unown, unown1, List.foldl, peek, getO, getE, idx0, idx1, idx2, idx3, idx4, idxl0, idxl1, idxl2, List.cons_append, List.nil_append, List.append_nil, Option.map_some, Option.bind_some, Option.map_none, Option.bind_none, cmpF, eq_str, List.getElem?_cons_zero, List.getElem?_cons_succ, List.set_cons_zero, List.set_cons_succ, Nat.reduceSub, Nat.reduceAdd, decide_true, decide_false, fnx, frt, bindT, d_law_draw, List.drop, eq_scr, he, hlen, hl, hx, p18, hg, hf, p60, p120, hm2, tget, imm, if_true, tset1, hm]
      rfl
    · have hand : ev (callK fs F k) (.and (.cmp .lt (.var 3) (.bi .len (.var 0))) (.cmp .ge (.idx (.var 0) (.var 3)) (.bin .pow (.con (.int 10)) (.con (.int 18))))) [some (.sh (.scr ns)), some (.sh (.obj 0)), some (.sh (.int (m : Int))), some (.sh (.int (a : Int))), none, none] (town (a + 1) 0) = some (.bl false, town (a + 1) 0) := by
        by_cases hl : a < ns.length
        · have hl' : decide ((a : Int) < (ns.length : Nat)) = true := decide_eq_true (by omega)
          have hg : decide ((10 ^ 18 : Int) ≤ ns.getD a 0) = false := decide_eq_false fun z => hb ⟨hl, z⟩
          have hx := fun S => idx_scr S ns a hl
          simp only [startE, List.map, List.length, List.replicate, execs, exec, ev, evs, evcs, evts, unown, unown1, List.foldl, peek, getO, getE, idx0, idx1, idx2, idx3, idx4, idxl0, idxl1, idxl2, List.cons_append, List.nil_append, List.append_nil, Option.map_some, Option.bind_some, Option.map_none, Option.bind_none, cmpF, eq_str, List.getElem?_cons_zero, List.getElem?_cons_succ, List.set_cons_zero, List.set_cons_succ, Nat.reduceSub, Nat.reduceAdd, decide_true, decide_false, fnx, frt, bindT, hlen, hl', hx, p18, hg]
        · have hl' : decide ((a : Int) < (ns.length : Nat)) = false := decide_eq_false (by omega)
          simp only [startE, List.map, List.length, List.replicate, execs, exec, ev, evs, evcs, evts, unown, unown1, List.foldl, peek, getO, getE, idx0, idx1, idx2, idx3, idx4, idxl0, idxl1, idxl2, List.cons_append, List.nil_append, List.append_nil, Option.map_some, Option.bind_some, Option.map_none, Option.bind_none, cmpF, eq_str, List.getElem?_cons_zero, List.getElem?_cons_succ, List.set_cons_zero, List.set_cons_succ, Nat.reduceSub, Nat.reduceAdd, decide_true, decide_false, fnx, frt, bindT, hlen, hl']
      have hm0 := mod_ok (a : Int) ns.length hpos
      have hx := fun S => idx_scr S ns ((a : Int) % (ns.length : Int)).toNat (mod_lt (a : Int) ns.length hpos)
      generalize hi : ((a : Int) % (ns.length : Int)).toNat = ix at hm0 hx
      have hmul1 : binF .mul (.int (ns.getD ix 0)) (.int 1103515245) = some (.int (ns.getD ix 0 * 1103515245)) := by
        have : smallI 1103515245 = true := by decide
        simp only [binF, this, Bool.or_true, Bool.true_or, if_true]
      have hmul2 : binF .mul (.int 7919) (.int (a : Int)) = some (.int (7919 * (a : Int))) := by
        have : smallI 7919 = true := by decide
        simp only [binF, this, Bool.true_or, if_true]
      have hadd : ∀ x y : Int, binF .add (.int x) (.int y) = some (.int (x + y)) := fun _ _ => rfl
      have hmx := mod_ok (ns.getD ix 0 * 1103515245 + 7919 * (a : Int) + 12345) 2147483647 (by decide)
      have hlt := mod_lt (ns.getD ix 0 * 1103515245 + 7919 * (a : Int) + 12345) 2147483647 (by decide)
      generalize hmi : ((ns.getD ix 0 * 1103515245 + 7919 * (a : Int) + 12345) % ((2147483647 : Nat) : Int)).toNat = mx at hmx hlt
      have hpow : binF .pow (.int (mx : Int)) (.int 5) = some (.int ((mx : Int) ^ 5)) := by
        have h1 : (decide ((0 : Int) ≤ 5) && decide ((5 : Int) ≤ 1000000) && decide ((mx : Int).natAbs < 2 ^ 64)) = true := by
          simp only [Bool.and_eq_true, decide_eq_true_eq, Int.natAbs_natCast]
          omega
        simp only [binF, h1, if_true]
        rfl
      have hp1 := mod_ok ((mx : Int) ^ 5) 2147483647 (by decide)
      generalize (((mx : Int) ^ 5) % ((2147483647 : Nat) : Int)).toNat = p1 at hp1
      have hp2 := mod_ok (p1 : Int) 999983 (by decide)
      generalize ((p1 : Int) % ((999983 : Nat) : Int)).toNat = p2 at hp2
      have hp3 := mod_ok (p2 : Int) m h1
      refine ⟨_, a + 1, 0, mod_lt (p2 : Int) m h1, ?_⟩
      have hmx' : binF .mod (.int (ns.getD ix 0 * 1103515245 + 7919 * (a : Int) + 12345)) (.int 2147483647) = some (.int (mx : Int)) := hmx
      have hp1' : binF .mod (.int ((mx : Int) ^ 5)) (.int 2147483647) = some (.int (p1 : Int)) := hp1
      have hp2' : binF .mod (.int (p1 : Int)) (.int 999983) = some (.int (p2 : Int)) := hp2
      refine (congrArg fin (execs_nx (env' := [some (.sh (.scr ns)), some (.sh (.obj 0)), some (.sh (.int (m : Int))), some (.sh (.int (a : Int))), none, none]) (S' := town (a + 1) 0) ?_)).trans ?_
      · simp only [startE, List.map, List.length, List.replicate, execs, exec, ev, evs, evcs, evts, unown, unown1, List.foldl, peek, getO, getE, idx0, idx1, idx2, idx3, idx4, idxl0, idxl1, idxl2, List.cons_append, List.nil_append, List.append_nil, Option.map_some, Option.bind_some, Option.map_none, Option.bind_none, cmpF, eq_str, List.getElem?_cons_zero, List.getElem?_cons_succ, List.set_cons_zero, List.set_cons_succ, Nat.reduceSub, Nat.reduceAdd, decide_true, decide_false, fnx, frt, bindT, eq_scr, he]
      refine (congrArg fin (execs_nx (env' := [some (.sh (.scr ns)), some (.sh (.obj 0)), some (.sh (.int (m : Int))), some (.sh (.int (a : Int))), none, none]) (S' := town (a + 1) 0) ((exec_ite hand).trans rfl))).trans ?_
      refine (congrArg fin (execs_nx (env' := [some (.sh (.scr ns)), some (.sh (.obj 0)), some (.sh (.int (m : Int))), some (.sh (.int (a : Int))), some (.sh (.int (mx : Int))), none]) (S' := town (a + 1) 0) ?_)).trans ?_
      · simp only [startE, List.map, List.length, List.replicate, execs, exec, ev, evs, evcs, evts, unown, unown1, List.foldl, peek, getO, getE, idx0, idx1, idx2, idx3, idx4, idxl0, idxl1, idxl2, List.cons_append, List.nil_append, List.append_nil, Option.map_some, Option.bind_some, Option.map_none, Option.bind_none, cmpF, eq_str, List.getElem?_cons_zero, List.getElem?_cons_succ, List.set_cons_zero, List.set_cons_succ, Nat.reduceSub, Nat.reduceAdd, decide_true, decide_false, fnx, frt, bindT, hlen, hm0, hx, hmul1, hmul2, hadd, hmx']
      simp only [startE, List.map, List.length, List.replicate, execs, exec, ev, evs, evcs, evts, unown, unown1, List.foldl, peek, getO, getE, idx0, idx1, idx2, idx3, idx4, idxl0, idxl1, idxl2, List.cons_append, List.nil_append, List.append_nil, Option.map_some, Option.bind_some, Option.map_none, Option.bind_none, cmpF, eq_str, List.getElem?_cons_zero, List.getElem?_cons_succ, List.set_cons_zero, List.set_cons_succ, Nat.reduceSub, Nat.reduceAdd, decide_true, decide_false, fnx, frt, bindT, hpow, hp1', hp2', hp3]
theorem e_draw (h : fs[25]? = some d_law_draw) (ns : List Int) (a t m : Nat) (h1 : 1 ≤ m) (h2 : m ≤ 1000) : ∃ r a' t', r < m ∧ callK fs F (k + 1) 25 [.scr ns, .obj 0, .int (m : Int)] (town a t) = some (.int (r : Nat), town a' t') := by
  rw [callK_eq h rfl]
  by_cases ht : 0 < t
  · have hd : decide ((0 : Int) < (t : Int)) = true := decide_eq_true (by omega)
    have hm := mod_ok (t : Int) m h1
    have hf : binF .fdiv (.int (t : Int)) (.int (m : Int)) = some (.int ((t / m : Nat) : Int)) := by rw [fdiv_ok _ m h1 h2]; rfl
    refine ⟨((t : Int) % (m : Int)).toNat, a, t / m, mod_lt _ m h1, ?_⟩
    simp only [startE, List.map, List.length, List.replicate, execs, exec, ev, evs, evcs, evts, unown, unown1, List.foldl, peek, getO, getE, idx0, idx1, idx2, idx3, idx4, idxl0, idxl1, idxl2, List.cons_append, List.nil_append, List.append_nil, Option.map_some, Option.bind_some, Option.map_none, Option.bind_none, cmpF, eq_str, List.getElem?_cons_zero, List.getElem?_cons_succ, List.set_cons_zero, List.set_cons_succ, Nat.reduceSub, Nat.reduceAdd, decide_true, decide_false, fnx, frt, bindT, d_law_draw, tw1, hd, hm, hf, tget, imm, if_true, tset1]
    rfl
  · have hd : decide ((0 : Int) < (t : Int)) = false := decide_eq_false (by omega)
    have ht0 : t = 0 := by omega
    subst ht0
    obtain ⟨r, a', t', hr, e⟩ := draw_tail (fs := fs) (F := F) (k := k) ns a m h1 h2
    refine ⟨r, a', t', hr, ?_⟩
    refine (congrArg fin (execs_nx (env' := [some (.sh (.scr ns)), some (.sh (.obj 0)), some (.sh (.int (m : Int))), none, none, none]) (S' := town a 0) ?_)).trans ?_
    · simp only [startE, List.map, List.length, List.replicate, execs, exec, ev, evs, evcs, evts, unown, unown1, List.foldl, peek, getO, getE, idx0, idx1, idx2, idx3, idx4, idxl0, idxl1, idxl2, List.cons_append, List.nil_append, List.append_nil, Option.map_some, Option.bind_some, Option.map_none, Option.bind_none, cmpF, eq_str, List.getElem?_cons_zero, List.getElem?_cons_succ, List.set_cons_zero, List.set_cons_succ, Nat.reduceSub, Nat.reduceAdd, decide_true, decide_false, fnx, frt, bindT, d_law_draw, tw1, hd]
    refine (congrArg fin (execs_nx (env' := [some (.sh (.scr ns)), some (.sh (.obj 0)), some (.sh (.int (m : Int))), some (.sh (.int (a : Int))), none, none]) (S' := town a 0) ?_)).trans ?_
    · simp only [startE, List.map, List.length, List.replicate, execs, exec, ev, evs, evcs, evts, unown, unown1, List.foldl, peek, getO, getE, idx0, idx1, idx2, idx3, idx4, idxl0, idxl1, idxl2, List.cons_append, List.nil_append, List.append_nil, Option.map_some, Option.bind_some, Option.map_none, Option.bind_none, cmpF, eq_str, List.getElem?_cons_zero, List.getElem?_cons_succ, List.set_cons_zero, List.set_cons_succ, Nat.reduceSub, Nat.reduceAdd, decide_true, decide_false, fnx, frt, bindT, tw0]
    refine (congrArg fin (execs_nx (aug0 _ _ _ _ _ a 0))).trans ?_
    exact e
end
end FG

namespace FG
open PySem PySem.Spec PyProof.Rows L2
section
variable {fs : List Df} {F k : Nat}
structure BD (fs : List Df) : Prop where
  h25 : fs[25]? = some d_law_draw
  h26 : fs[26]? = some d_law_pick
  h27 : fs[27]? = some d_law_condition
  h28 : fs[28]? = some d_law_form
theorem e_pick (b : BD fs) (ns : List Int) (a t : Nat) (ds : List D) (h1 : ds ≠ []) (h2 : ds.length ≤ 1000) : ∃ d a' t', d ∈ ds ∧ callK fs F (k + 2) 26 [.scr ns, .obj 0, .lst ds] (town a t) = some (d, town a' t') := by
  have hp : 1 ≤ ds.length := List.length_pos_iff.mpr h1
  obtain ⟨r, a', t', hr, e⟩ := e_draw (F := F) (k := k) b.h25 ns a t ds.length hp h2
  refine ⟨ds[r], a', t', List.getElem_mem hr, ?_⟩
  rw [callK_eq b.h26 rfl]
  have hl : biF .len (.lst ds) = some (.int (ds.length : Nat)) := rfl
  have hx : ∀ S, idxS S (.lst ds) (.int (r : Nat)) = some ds[r] := fun S => by rw [idxL, List.getElem?_eq_getElem hr]
  simp only [startE, List.map, List.length, List.replicate, execs, exec, ev, evs, evcs, evts, unown, unown1, List.foldl, peek, getO, getE, idx0, idx1, idx2, idx3, idx4, idxl0, idxl1, idxl2, List.cons_append, List.nil_append, List.append_nil, Option.map_some, Option.bind_some, Option.map_none, Option.bind_none, cmpF, eq_str, List.getElem?_cons_zero, List.getElem?_cons_succ, List.set_cons_zero, List.set_cons_succ, Nat.reduceSub, Nat.reduceAdd, decide_true, decide_false, fnx, frt, bindT, d_law_pick, hl, e, hx]
theorem e_pickT (b : BD fs) (ns : List Int) (a t : Nat) (ds : List D) (h1 : ds ≠ []) (h2 : ds.length ≤ 1000) : ∃ d a' t', d ∈ ds ∧ callK fs F (k + 2) 26 [.scr ns, .obj 0, .tup ds] (town a t) = some (d, town a' t') := by
  have hp : 1 ≤ ds.length := List.length_pos_iff.mpr h1
  obtain ⟨r, a', t', hr, e⟩ := e_draw (F := F) (k := k) b.h25 ns a t ds.length hp h2
  refine ⟨ds[r], a', t', List.getElem_mem hr, ?_⟩
  rw [callK_eq b.h26 rfl]
  have hl : biF .len (.tup ds) = some (.int (ds.length : Nat)) := rfl
  have hx : ∀ S, idxS S (.tup ds) (.int (r : Nat)) = some ds[r] := fun S => by rw [idxT, List.getElem?_eq_getElem hr]
  simp only [startE, List.map, List.length, List.replicate, execs, exec, ev, evs, evcs, evts, unown, unown1, List.foldl, peek, getO, getE, idx0, idx1, idx2, idx3, idx4, idxl0, idxl1, idxl2, List.cons_append, List.nil_append, List.append_nil, Option.map_some, Option.bind_some, Option.map_none, Option.bind_none, cmpF, eq_str, List.getElem?_cons_zero, List.getElem?_cons_succ, List.set_cons_zero, List.set_cons_succ, Nat.reduceSub, Nat.reduceAdd, decide_true, decide_false, fnx, frt, bindT, d_law_pick, hl, e, hx]
/-! ### conditions -/
structure EarOk (e : Ear) : Prop where
  nd : (e.map (·.1)).Nodup
  nm : ∀ p ∈ e, W1 p.1 ∧ PyData.strOk p.1 = true
  ws : ∀ p ∈ e, p.2 ≠ [] ∧ p.2.length ≤ 3 ∧ ∀ w ∈ p.2, PyData.strOk w = true
  len : e.length ≤ 100
def pairD (p : Str × List Str) : D := .tup [.str p.1, wD p.2]
def earD (e : Ear) : D := .lst (e.map pairD)
theorem lookup_ear {l : Ear} (h : (l.map (·.1)).Nodup) {p : Str × List Str} (m : p ∈ l) : l.lookup p.1 = some p.2 := by
  induction l with
  | nil => cases m
  | cons q l ih =>
    obtain ⟨a, b⟩ := q
    simp only [List.map_cons, List.nodup_cons] at h
    rcases List.mem_cons.mp m with e | m
    · subst e; simp [List.lookup]
    · have hk : (p.1 == a) = false := by
        simp only [beq_eq_false_iff_ne]
        exact fun z => h.1 (z ▸ List.mem_map_of_mem m)
      simp only [List.lookup, hk]
      exact ih h.2 m
theorem pyOk_ear {e : Ear} (o : EarOk e) : pyOk 60 (earD e) = true := by
  have : ∀ l : Ear, (∀ p ∈ l, p ∈ e) → pyOks 59 (l.map pairD) = true := fun l => by
    induction l with
    | nil => intro _; simp [pyOks]
    | cons p l ih =>
      intro h
      have h1 := (o.nm p (h p List.mem_cons_self)).2
      have h2 := (o.ws p (h p List.mem_cons_self)).2.2
      have h3 := pyOks_str 57 p.2 h2
      simp only [List.map_cons, pyOks, pairD, pyOk, wD, h1, h3, Bool.true_and, Bool.and_true]
      exact ih fun q m => h q (List.mem_cons_of_mem _ m)
  exact this e fun _ m => m
def kinds : List Str := ["always", "is", "is", "is", "not", "and", "or"]
theorem kinds_d : [D.str "always", .str "is", .str "is", .str "is", .str "not", .str "and", .str "or"] = kinds.map .str := rfl
theorem eq_ear {e : Ear} (o : EarOk e) : eqF (earD e) (.lst []) = some e.isEmpty := by
  have h := eq_nil (e.map pairD) (pyOk_ear o)
  rw [show earD e = .lst (e.map pairD) from rfl, h]
  cases e <;> rfl
theorem lcond_is (b : BD fs) (ns : List Int) {e : Ear} (o : EarOk e) (he : e ≠ []) (x3 x4 x5 : Option Ent) (a t : Nat) : ∃ c a' t', CndOk e c ∧ c.dep = 0 ∧ execs (callK fs F (k + 2)) F [.unp [] [6, 7] (.call 26 [.var 0, .var 1, .var 2]), .ret [] (.tup [.con (.str "is"), .var 6, .call 26 [.var 0, .var 1, .var 7]])] [some (.sh (.scr ns)), some (.sh (.obj 0)), some (.sh (earD e)), x3, x4, x5, none, none] (town a t) = some (.rt c.d (town a' t')) := by
  obtain ⟨d, a1, t1, hd, h1⟩ := e_pick (F := F) (k := k) b ns a t (e.map pairD) (by simpa using he) (by have := o.len; simp; omega)
  obtain ⟨p, hp, rfl⟩ := List.mem_map.mp hd
  obtain ⟨d, a2, t2, hd2, h2⟩ := e_pickT (F := F) (k := k) b ns a1 t1 (p.2.map .str) (by simpa using (o.ws p hp).1) (by have := (o.ws p hp).2.1; simp; omega)
  obtain ⟨w, hw, rfl⟩ := List.mem_map.mp hd2
  refine ⟨.is p.1 w, a2, t2, .is (o.nm p hp).1 (lookup_ear o.nd hp) hw (o.nm p hp).2 ((o.ws p hp).2.2 w hw), rfl, ?_⟩
  have h1' : callK fs F (k + 2) 26 [.scr ns, .obj 0, earD e] (town a t) = some (.tup [.str p.1, wD p.2], town a1 t1) := h1
  have h2' : callK fs F (k + 2) 26 [.scr ns, .obj 0, wD p.2] (town a1 t1) = some (.str w, town a2 t2) := h2
  simp only [startE, List.map, List.length, List.replicate, execs, exec, ev, evs, evcs, evts, unown, unown1, List.foldl, peek, getO, getE, idx0, idx1, idx2, idx3, idx4, idxl0, idxl1, idxl2, List.cons_append, List.nil_append, List.append_nil, Option.map_some, Option.bind_some, Option.map_none, Option.bind_none, cmpF, eq_str, List.getElem?_cons_zero, List.getElem?_cons_succ, List.set_cons_zero, List.set_cons_succ, Nat.reduceSub, Nat.reduceAdd, decide_true, decide_false, fnx, frt, bindT, h1', h2', List.length_cons, List.length_nil, if_true, List.zip_cons_cons, List.zip_nil_right, Cnd.d]
theorem lcond_step (b : BD fs) (ns : List Int) {e : Ear} (o : EarOk e) (dp : Nat) (hr : ∀ q, dp = q + 1 → ∀ a t : Nat, ∃ c a' t', CndOk e c ∧ c.dep ≤ q ∧ callK fs F (k + 2) 27 [.scr ns, .obj 0, earD e, .int (q : Nat)] (town a t) = some (c.d, town a' t')) (a t : Nat) :
    ∃ c a' t', CndOk e c ∧ c.dep ≤ dp ∧ callK fs F (k + 3) 27 [.scr ns, .obj 0, earD e, .int (dp : Nat)] (town a t) = some (c.d, town a' t') := by
  rw [callK_eq b.h27 rfl]
  obtain ⟨d, a1, t1, hd, h1⟩ := e_pick (F := F) (k := k) b ns a t (kinds.map .str) (by decide) (by decide)
  obtain ⟨kd, hk, rfl⟩ := List.mem_map.mp hd
  have h1' : callK fs F (k + 2) 26 [.scr ns, .obj 0, .lst [D.str "always", .str "is", .str "is", .str "is", .str "not", .str "and", .str "or"]] (town a t) = some (.str kd, town a1 t1) := h1
  have s0 : exec (callK fs F (k + 2)) F (.asg [] 4 (.call 26 [.var 0, .var 1, .lst [.con (.str "always"), .con (.str "is"), .con (.str "is"), .con (.str "is"), .con (.str "not"), .con (.str "and"), .con (.str "or")]])) [some (.sh (.scr ns)), some (.sh (.obj 0)), some (.sh (earD e)), some (.sh (.int (dp : Nat))), none, none, none, none] (town a t) = some (.nx [some (.sh (.scr ns)), some (.sh (.obj 0)), some (.sh (earD e)), some (.sh (.int (dp : Nat))), some (.sh (.str kd)), none, none, none] (town a1 t1)) := by
    simp only [startE, List.map, List.length, List.replicate, execs, exec, ev, evs, evcs, evts, unown, unown1, List.foldl, peek, getO, getE, idx0, idx1, idx2, idx3, idx4, idxl0, idxl1, idxl2, List.cons_append, List.nil_append, List.append_nil, Option.map_some, Option.bind_some, Option.map_none, Option.bind_none, cmpF, eq_str, List.getElem?_cons_zero, List.getElem?_cons_succ, List.set_cons_zero, List.set_cons_succ, Nat.reduceSub, Nat.reduceAdd, decide_true, decide_false, fnx, frt, bindT, h1']
  have hnil := eq_ear o
  by_cases hz : e = [] ∨ kd = "always"
  · refine ⟨.alw, a1, t1, .alw, Nat.zero_le _, (congrArg fin (execs_nx s0)).trans ?_⟩
    rcases hz with hz | hz
    · have hnil' : eqF (earD e) (.lst []) = some true := by rw [hnil, hz]; rfl
      simp only [startE, List.map, List.length, List.replicate, execs, exec, ev, evs, evcs, evts, unown, unown1, List.foldl, peek, getO, getE, idx0, idx1, idx2, idx3, idx4, idxl0, idxl1, idxl2, List.cons_append, List.nil_append, List.append_nil, Option.map_some, Option.bind_some, Option.map_none, Option.bind_none, cmpF, eq_str, List.getElem?_cons_zero, List.getElem?_cons_succ, List.set_cons_zero, List.set_cons_succ, Nat.reduceSub, Nat.reduceAdd, decide_true, decide_false, fnx, frt, bindT, d_law_condition, hnil', Cnd.d]
    · subst hz
      cases he : e.isEmpty <;> (rw [he] at hnil; simp only [startE, List.map, List.length, List.replicate, execs, exec, ev, evs, evcs, evts, unown, unown1, List.foldl, peek, getO, getE, idx0, idx1, idx2, idx3, idx4, idxl0, idxl1, idxl2, List.cons_append, List.nil_append, List.append_nil, Option.map_some, Option.bind_some, Option.map_none, Option.bind_none, cmpF, eq_str, List.getElem?_cons_zero, List.getElem?_cons_succ, List.set_cons_zero, List.set_cons_succ, Nat.reduceSub, Nat.reduceAdd, decide_true, decide_false, fnx, frt, bindT, d_law_condition, hnil, Cnd.d])
  · simp only [not_or] at hz
    have hnil' : eqF (earD e) (.lst []) = some false := by rw [hnil]; cases e with | nil => exact absurd rfl hz.1 | cons _ _ => rfl
    have s1 : ∀ tl, execs (callK fs F (k + 2)) F (.ite (.or (.cmp .eq (.var 2) (.lst [])) (.cmp .eq (.var 4) (.con (.str "always")))) [.ret [] (.tup [.con (.str "always")])] [] :: tl) [some (.sh (.scr ns)), some (.sh (.obj 0)), some (.sh (earD e)), some (.sh (.int (dp : Nat))), some (.sh (.str kd)), none, none, none] (town a1 t1) = execs (callK fs F (k + 2)) F tl [some (.sh (.scr ns)), some (.sh (.obj 0)), some (.sh (earD e)), some (.sh (.int (dp : Nat))), some (.sh (.str kd)), none, none, none] (town a1 t1) := fun tl => by
      refine execs_nx ?_
      simp only [startE, List.map, List.length, List.replicate, execs, exec, ev, evs, evcs, evts, unown, unown1, List.foldl, peek, getO, getE, idx0, idx1, idx2, idx3, idx4, idxl0, idxl1, idxl2, List.cons_append, List.nil_append, List.append_nil, Option.map_some, Option.bind_some, Option.map_none, Option.bind_none, cmpF, eq_str, List.getElem?_cons_zero, List.getElem?_cons_succ, List.set_cons_zero, List.set_cons_succ, Nat.reduceSub, Nat.reduceAdd, decide_true, decide_false, fnx, frt, bindT, hnil', dec_ne hz.2]
    by_cases hi : kd = "is" ∨ dp = 0
    · obtain ⟨c, a2, t2, hc, h0, e2⟩ := lcond_is (F := F) (k := k) b ns o hz.1 (some (.sh (.int (dp : Nat)))) (some (.sh (.str kd))) none a1 t1
      refine ⟨c, a2, t2, hc, by omega, (congrArg fin ((execs_nx s0).trans (s1 _))).trans ?_⟩
      have hor : ev (callK fs F (k + 2)) (.or (.cmp .eq (.var 4) (.con (.str "is"))) (.cmp .eq (.var 3) (.con (.int 0)))) [some (.sh (.scr ns)), some (.sh (.obj 0)), some (.sh (earD e)), some (.sh (.int (dp : Nat))), some (.sh (.str kd)), none, none, none] (town a1 t1) = some (.bl true, town a1 t1) := by
        by_cases hk' : kd = "is"
        · subst hk'; simp only [startE, List.map, List.length, List.replicate, execs, exec, ev, evs, evcs, evts, unown, unown1, List.foldl, peek, getO, getE, idx0, idx1, idx2, idx3, idx4, idxl0, idxl1, idxl2, List.cons_append, List.nil_append, List.append_nil, Option.map_some, Option.bind_some, Option.map_none, Option.bind_none, cmpF, eq_str, List.getElem?_cons_zero, List.getElem?_cons_succ, List.set_cons_zero, List.set_cons_succ, Nat.reduceSub, Nat.reduceAdd, decide_true, decide_false, fnx, frt, bindT]
        · have h0 : decide (((dp : Nat) : Int) = 0) = true := decide_eq_true (by rcases hi with h | h; exact absurd h hk'; omega)
          simp only [startE, List.map, List.length, List.replicate, execs, exec, ev, evs, evcs, evts, unown, unown1, List.foldl, peek, getO, getE, idx0, idx1, idx2, idx3, idx4, idxl0, idxl1, idxl2, List.cons_append, List.nil_append, List.append_nil, Option.map_some, Option.bind_some, Option.map_none, Option.bind_none, cmpF, eq_str, List.getElem?_cons_zero, List.getElem?_cons_succ, List.set_cons_zero, List.set_cons_succ, Nat.reduceSub, Nat.reduceAdd, decide_true, decide_false, fnx, frt, bindT, dec_ne hk', eq_int, h0]
      refine (congrArg fin (execs_rt ((exec_ite hor).trans e2))).trans rfl
    · simp only [not_or] at hi
      have s2 : ∀ tl, execs (callK fs F (k + 2)) F (.ite (.or (.cmp .eq (.var 4) (.con (.str "is"))) (.cmp .eq (.var 3) (.con (.int 0)))) [.unp [] [6, 7] (.call 26 [.var 0, .var 1, .var 2]), .ret [] (.tup [.con (.str "is"), .var 6, .call 26 [.var 0, .var 1, .var 7]])] [] :: tl) [some (.sh (.scr ns)), some (.sh (.obj 0)), some (.sh (earD e)), some (.sh (.int (dp : Nat))), some (.sh (.str kd)), none, none, none] (town a1 t1) = execs (callK fs F (k + 2)) F tl [some (.sh (.scr ns)), some (.sh (.obj 0)), some (.sh (earD e)), some (.sh (.int (dp : Nat))), some (.sh (.str kd)), none, none, none] (town a1 t1) := fun tl => by
        have h0 : decide (((dp : Nat) : Int) = 0) = false := decide_eq_false (by omega)
        refine execs_nx ?_
        simp only [startE, List.map, List.length, List.replicate, execs, exec, ev, evs, evcs, evts, unown, unown1, List.foldl, peek, getO, getE, idx0, idx1, idx2, idx3, idx4, idxl0, idxl1, idxl2, List.cons_append, List.nil_append, List.append_nil, Option.map_some, Option.bind_some, Option.map_none, Option.bind_none, cmpF, eq_str, List.getElem?_cons_zero, List.getElem?_cons_succ, List.set_cons_zero, List.set_cons_succ, Nat.reduceSub, Nat.reduceAdd, decide_true, decide_false, fnx, frt, bindT, dec_ne hi.1, eq_int, h0]
      obtain ⟨q, rfl⟩ : ∃ q, dp = q + 1 := ⟨dp - 1, by omega⟩
      have hsub : binF .sub (.int ((q + 1 : Nat) : Int)) (.int 1) = some (.int (q : Nat)) := by
        show some (D.int (((q + 1 : Nat) : Int) - 1)) = _
        congr 2
        omega
      obtain ⟨c1, a2, t2, hc1, hd1, e1⟩ := hr q rfl a1 t1
      have s3 : ∀ tl, execs (callK fs F (k + 2)) F (.asg [] 5 (.call 27 [.var 0, .var 1, .var 2, .bin .sub (.var 3) (.con (.int 1))]) :: tl) [some (.sh (.scr ns)), some (.sh (.obj 0)), some (.sh (earD e)), some (.sh (.int ((q + 1 : Nat) : Int))), some (.sh (.str kd)), none, none, none] (town a1 t1) = execs (callK fs F (k + 2)) F tl [some (.sh (.scr ns)), some (.sh (.obj 0)), some (.sh (earD e)), some (.sh (.int ((q + 1 : Nat) : Int))), some (.sh (.str kd)), some (.sh c1.d), none, none] (town a2 t2) := fun tl => by
        refine execs_nx ?_
        simp only [startE, List.map, List.length, List.replicate, execs, exec, ev, evs, evcs, evts, unown, unown1, List.foldl, peek, getO, getE, idx0, idx1, idx2, idx3, idx4, idxl0, idxl1, idxl2, List.cons_append, List.nil_append, List.append_nil, Option.map_some, Option.bind_some, Option.map_none, Option.bind_none, cmpF, eq_str, List.getElem?_cons_zero, List.getElem?_cons_succ, List.set_cons_zero, List.set_cons_succ, Nat.reduceSub, Nat.reduceAdd, decide_true, decide_false, fnx, frt, bindT, hsub, e1]
      by_cases hn : kd = "not"
      · refine ⟨.not c1, a2, t2, .not hc1, by simp only [Cnd.dep]; omega, (congrArg fin ((execs_nx s0).trans ((s1 _).trans ((s2 _).trans (s3 _))))).trans ?_⟩
        subst hn
        simp only [startE, List.map, List.length, List.replicate, execs, exec, ev, evs, evcs, evts, unown, unown1, List.foldl, peek, getO, getE, idx0, idx1, idx2, idx3, idx4, idxl0, idxl1, idxl2, List.cons_append, List.nil_append, List.append_nil, Option.map_some, Option.bind_some, Option.map_none, Option.bind_none, cmpF, eq_str, List.getElem?_cons_zero, List.getElem?_cons_succ, List.set_cons_zero, List.set_cons_succ, Nat.reduceSub, Nat.reduceAdd, decide_true, decide_false, fnx, frt, bindT, Cnd.d]
      · obtain ⟨c2, a3, t3, hc2, hd2, e2⟩ := hr q rfl a2 t2
        have hk' : kd = "and" ∨ kd = "or" := by
          simp only [kinds, List.mem_cons, List.not_mem_nil, or_false] at hk
          rcases hk with h | h | h | h | h | h | h
          · exact absurd h hz.2
          · exact absurd h hi.1
          · exact absurd h hi.1
          · exact absurd h hi.1
          · exact absurd h hn
          · exact .inl h
          · exact .inr h
        rcases hk' with h | h
        · refine ⟨.and c1 c2, a3, t3, .and hc1 hc2, by simp only [Cnd.dep]; omega, (congrArg fin ((execs_nx s0).trans ((s1 _).trans ((s2 _).trans (s3 _))))).trans ?_⟩
          subst h
          simp only [startE, List.map, List.length, List.replicate, execs, exec, ev, evs, evcs, evts, unown, unown1, List.foldl, peek, getO, getE, idx0, idx1, idx2, idx3, idx4, idxl0, idxl1, idxl2, List.cons_append, List.nil_append, List.append_nil, Option.map_some, Option.bind_some, Option.map_none, Option.bind_none, cmpF, eq_str, List.getElem?_cons_zero, List.getElem?_cons_succ, List.set_cons_zero, List.set_cons_succ, Nat.reduceSub, Nat.reduceAdd, decide_true, decide_false, fnx, frt, bindT, Cnd.d, dec_ne (show ("and" : Str) ≠ "not" by decide), hsub, e2]
        · refine ⟨.or c1 c2, a3, t3, .or hc1 hc2, by simp only [Cnd.dep]; omega, (congrArg fin ((execs_nx s0).trans ((s1 _).trans ((s2 _).trans (s3 _))))).trans ?_⟩
          subst h
          simp only [startE, List.map, List.length, List.replicate, execs, exec, ev, evs, evcs, evts, unown, unown1, List.foldl, peek, getO, getE, idx0, idx1, idx2, idx3, idx4, idxl0, idxl1, idxl2, List.cons_append, List.nil_append, List.append_nil, Option.map_some, Option.bind_some, Option.map_none, Option.bind_none, cmpF, eq_str, List.getElem?_cons_zero, List.getElem?_cons_succ, List.set_cons_zero, List.set_cons_succ, Nat.reduceSub, Nat.reduceAdd, decide_true, decide_false, fnx, frt, bindT, Cnd.d, dec_ne (show ("or" : Str) ≠ "not" by decide), hsub, e2]
theorem e_lcond (b : BD fs) (ns : List Int) {e : Ear} (o : EarOk e) : ∀ (dp k : Nat) (a t : Nat), ∃ c a' t', CndOk e c ∧ c.dep ≤ dp ∧ callK fs F (k + dp + 3) 27 [.scr ns, .obj 0, earD e, .int (dp : Nat)] (town a t) = some (c.d, town a' t') := by
  intro dp
  induction dp with
  | zero => exact fun k a t => lcond_step (k := k) b ns o 0 (fun q h => by omega) a t
  | succ dp ih => exact fun k a t => lcond_step (k := k + dp + 1) b ns o (dp + 1) (fun q h a t => by
      obtain rfl : q = dp := by omega
      exact ih k a t) a t
end
end FG

namespace FG
open PySem PySem.Spec PyProof.Rows L2
def allN : List Str := ["a", "bc", "d", "e"]
def wordsL : List (List Str) := [["x", "y"], ["x", "y"], ["x", "y", "z"], ["w"]]
theorem allN_w1 : ∀ s ∈ allN, W1 s ∧ PyData.strOk s = true := fun s m => by
  have h : allN.all (fun s => w1B s && PyData.strOk s) = true := by decide +kernel
  have := List.all_eq_true.mp h s m
  simp only [Bool.and_eq_true] at this
  exact ⟨w1_of this.1, this.2⟩
theorem allN_nd : allN.Nodup := by decide
theorem wordsL_ok : ∀ ws ∈ wordsL, WsOk ws ∧ ∀ w ∈ ws, PyData.strOk w = true := fun ws m => by
  have h : wordsL.all (fun ws => decide (1 ≤ ws.length) && decide (ws.length ≤ 3) && ws.all (fun w => w1B w && PyData.strOk w) && decide ws.Nodup) = true := by decide +kernel
  have := List.all_eq_true.mp h ws m
  simp only [Bool.and_eq_true, decide_eq_true_eq, List.all_eq_true] at this
  exact ⟨⟨this.1.1.1, this.1.1.2, fun w m => w1_of (this.1.2 w m).1, this.2⟩, fun w m => (this.1.2 w m).2⟩
def nw (f : Fld) : Str × List Str := (f.name, f.words)
/-- a form as the laws draw it -/
structure LF (fm : List Fld) : Prop where
  nm : fm.map (·.name) = allN.take fm.length
  ws : ∀ f ∈ fm, f.words ∈ wordsL
  ok : FmOk [] fm
  dep : ∀ f ∈ fm, f.cond.dep ≤ 2
theorem FmOk.snoc {e : Ear} {fm : List Fld} {f : Fld} (h : FmOk e fm) (o : FldOk (e ++ fm.map nw) f) : FmOk e (fm ++ [f]) := by
  induction h with
  | nil => exact .cons (by simpa using o) .nil
  | cons o' _ ih => exact .cons o' (ih (by simpa [nw] using o))
theorem LF.len {fm : List Fld} (h : LF fm) : fm.length ≤ 4 := by
  have := congrArg List.length h.nm
  rw [List.length_map, List.length_take] at this
  have h4 : allN.length = 4 := rfl
  omega
theorem LF.nd {fm : List Fld} (h : LF fm) : (fm.map (·.name)).Nodup := by
  rw [h.nm]
  exact (List.take_sublist _ _).nodup allN_nd
theorem LF.mem {fm : List Fld} (h : LF fm) {f : Fld} (m : f ∈ fm) : f.name ∈ allN := by
  have : f.name ∈ fm.map (·.name) := List.mem_map_of_mem m
  rw [h.nm] at this
  exact List.mem_of_mem_take this
theorem nw_fst (fm : List Fld) : (fm.map nw).map (·.1) = fm.map (·.name) := by rw [List.map_map]; rfl
theorem LF.ear {fm : List Fld} (h : LF fm) : EarOk (fm.map nw) := by
  refine ⟨by rw [nw_fst]; exact h.nd, fun p m => ?_, fun p m => ?_, by have := h.len; simp; omega⟩
  · obtain ⟨f, hf, rfl⟩ := List.mem_map.mp m
    exact allN_w1 _ (h.mem hf)
  · obtain ⟨f, hf, rfl⟩ := List.mem_map.mp m
    have := wordsL_ok _ (h.ws f hf)
    exact ⟨fun z => by have := this.1.lo; rw [show f.words = [] from z] at this; simp at this, this.1.hi, this.2⟩
theorem LF.fg1 {fm : List Fld} (h : LF fm) (hn : fm ≠ []) : FG1 fm 2 :=
  ⟨h.ok, ⟨fun f m => (allN_w1 _ (h.mem m)).2, fun f m => (wordsL_ok _ (h.ws f m)).2⟩, fun f m => (wordsL_ok _ (h.ws f m)).1.hi, h.dep, hn, h.len⟩
theorem imm_cnd (c : Cnd) : imm c.d = true := by
  induction c with
  | alw => rfl
  | is n w => rfl
  | not c ih => simp [Cnd.d, imm, imms, ih]
  | and a b ia ib => simp [Cnd.d, imm, imms, ia, ib]
  | or a b ia ib => simp [Cnd.d, imm, imms, ia, ib]
theorem eqv_strs : ∀ (xs ys : List Str), PyData.eqvAll (toPys (xs.map .str)) (toPys (ys.map .str)) = decide (xs = ys)
  | [], [] => rfl
  | [], y :: ys => rfl
  | x :: xs, [] => rfl
  | x :: xs, y :: ys => by
    have h1 : PyData.eqv (.str x) (.str y) = decide (x = y) := eqD_str x y
    simp only [List.map_cons, toPys, toPy, PyData.eqvAll, eqv_strs xs ys, h1]
    rw [Bool.eq_iff_iff]
    simp
theorem eq_wDs {xs ys : List Str} (h : ∀ w ∈ xs, PyData.strOk w = true) (h' : ∀ w ∈ ys, PyData.strOk w = true) : eqF (wD xs) (wD ys) = some (decide (xs = ys)) := by
  have h1 : pyOk 60 (wD xs) = true := pyOks_str 59 xs h
  have h2 : pyOk 60 (wD ys) = true := pyOks_str 59 ys h'
  have e : eqF (wD xs) (wD ys) = if scalD (wD xs) (wD ys) || (pyOk 60 (wD xs) && pyOk 60 (wD ys)) then some (eqD (wD xs) (wD ys)) else none := rfl
  rw [e, h1, h2]
  show some (PyData.eqvAll (toPys (xs.map .str)) (toPys (ys.map .str))) = _
  rw [eqv_strs]
section
variable {fs : List Df} {F k : Nat}
theorem srcs_lc {c : Calls} {S : Sto} {e : Ear} (o : EarOk e) {ws : List Str} (hw : ∀ w ∈ ws, PyData.strOk w = true) (x0 x1 x2 x3 x5 x7 x8 x9 x10 : Option Ent) :
    ev c (.lc [11, 12] (.tp [11, 12]) .seq [.var 4] [.cmp .eq (.var 12) (.var 6)] (.var 11)) [x0, x1, x2, x3, some (.ow (earD e)), x5, some (.sh (wD ws)), x7, x8, x9, x10, none, none] S = some (.lst ((e.filter fun p => decide (p.2 = ws)).map fun p => .str p.1), S) :=
  ev_lcR (S1 := S) (ds := [earD e]) pairD (fun p => decide (p.2 = ws)) (fun p => .str p.1) e (by simp only [startE, List.map, List.length, List.replicate, execs, exec, ev, evs, evcs, evts, unown, unown1, List.foldl, peek, getO, getE, idx0, idx1, idx2, idx3, idx4, idxl0, idxl1, idxl2, List.cons_append, List.nil_append, List.append_nil, Option.map_some, Option.bind_some, Option.map_none, Option.bind_none, cmpF, eq_str, List.getElem?_cons_zero, List.getElem?_cons_succ, List.set_cons_zero, List.set_cons_succ, Nat.reduceSub, Nat.reduceAdd, decide_true, decide_false, fnx, frt, bindT]) (by decide) rfl (fun p m => ⟨[x0, x1, x2, x3, some (.ow (earD e)), x5, some (.sh (wD ws)), x7, x8, x9, x10, some (.sh (.str p.1)), some (.sh (wD p.2))], rfl, by
    have h := eq_wDs (o.ws p m).2.2 hw
    simp only [startE, List.map, List.length, List.replicate, execs, exec, ev, evs, evcs, evts, unown, unown1, List.foldl, peek, getO, getE, idx0, idx1, idx2, idx3, idx4, idxl0, idxl1, idxl2, List.cons_append, List.nil_append, List.append_nil, Option.map_some, Option.bind_some, Option.map_none, Option.bind_none, cmpF, eq_str, List.getElem?_cons_zero, List.getElem?_cons_succ, List.set_cons_zero, List.set_cons_succ, Nat.reduceSub, Nat.reduceAdd, decide_true, decide_false, fnx, frt, bindT, h], fun _ => by simp only [startE, List.map, List.length, List.replicate, execs, exec, ev, evs, evcs, evts, unown, unown1, List.foldl, peek, getO, getE, idx0, idx1, idx2, idx3, idx4, idxl0, idxl1, idxl2, List.cons_append, List.nil_append, List.append_nil, Option.map_some, Option.bind_some, Option.map_none, Option.bind_none, cmpF, eq_str, List.getElem?_cons_zero, List.getElem?_cons_succ, List.set_cons_zero, List.set_cons_succ, Nat.reduceSub, Nat.reduceAdd, decide_true, decide_false, fnx, frt, bindT]⟩) (by have := o.len; unfold big; omega)
theorem mul2 (xs : List D) (h : xs.length ≤ 1000) : binF .mul (.lst xs) (.int 2) = some (.lst (xs ++ xs)) := by
  have h1 : (decide ((0 : Int) ≤ 2) && decide ((2 : Int) ≤ 1000) && decide (xs.length * (2 : Int).toNat ≤ big)) = true := by
    have : (2 : Int).toNat = 2 := rfl
    rw [this]
    simp
    unfold big
    omega
  simp only [binF, h1, if_true]
  congr 2
  show (List.replicate 2 xs).flatten = _
  simp [List.replicate]
theorem e_words (b : BD fs) (ns : List Int) (a t : Nat) : ∃ ws a' t', ws ∈ wordsL ∧ callK fs F (k + 2) 26 [.scr ns, .obj 0, .lst [.tup [.str "x", .str "y"], .tup [.str "x", .str "y"], .tup [.str "x", .str "y", .str "z"], .tup [.str "w"]]] (town a t) = some (wD ws, town a' t') := by
  obtain ⟨d, a', t', hd, h⟩ := e_pick (F := F) (k := k) b ns a t (wordsL.map wD) (by decide) (by decide)
  obtain ⟨ws, hw, rfl⟩ := List.mem_map.mp hd
  exact ⟨ws, a', t', hw, h⟩
theorem lform_loop (b : BD fs) (ns : List Int) (x2 : Option Ent) : ∀ (rest : List Str) (fm : List Fld) (a t : Nat) (x3 x6 x7 x8 x9 x10 : Option Ent), LF fm → fm.map (·.name) ++ rest = allN.take (fm.length + rest.length) →
    ∃ fm' y3 y6 y7 y8 y9 y10 a' t', LF fm' ∧ fm'.length = fm.length + rest.length ∧ forGo (bindT (.nm 3)) (fun e S => execs (callK fs F (k + 5)) F (loopOf (d_law_form.body.drop 1)) e S) (rest.map .str) [some (.sh (.scr ns)), some (.sh (.obj 0)), x2, x3, some (.ow (earD (fm.map nw))), some (.ow (.lst (fm.map Fld.d))), x6, x7, x8, x9, x10, none, none] (town a t) =
      some (.nx [some (.sh (.scr ns)), some (.sh (.obj 0)), x2, y3, some (.ow (earD (fm'.map nw))), some (.ow (.lst (fm'.map Fld.d))), y6, y7, y8, y9, y10, none, none] (town a' t'))
  | [], fm, a, t, x3, x6, x7, x8, x9, x10, lf, hn => ⟨fm, x3, x6, x7, x8, x9, x10, a, t, lf, rfl, rfl⟩
  | n :: rest, fm, a, t, x3, x6, x7, x8, x9, x10, lf, hn => by
    obtain ⟨ws, a1, t1, hws, h1⟩ := e_words (F := F) (k := k + 3) b ns a t
    obtain ⟨c, a2, t2, hc, hd, h2⟩ := e_lcond (F := F) b ns lf.ear 2 k a1 t1
    have wok := wordsL_ok ws hws
    have hlen := lf.len
    let src := ((fm.map nw).filter fun p => decide (p.2 = ws)).map (·.1)
    have hsl : src.length ≤ 4 := by
      refine Nat.le_trans ?_ hlen
      show (((fm.map nw).filter _).map _).length ≤ _
      rw [List.length_map]
      exact Nat.le_trans (List.length_filter_le _ _) (by simp)
    obtain ⟨dp, a3, t3, hp, h3⟩ := e_pick (F := F) (k := k + 3) b ns a2 t2 [.str "keep", .str "clear"] (by decide) (by decide)
    obtain ⟨clr, rfl⟩ : ∃ clr : Bool, dp = .str (if clr then "clear" else "keep") := by
      simp only [List.mem_cons, List.not_mem_nil, or_false] at hp
      rcases hp with h | h
      · exact ⟨false, h⟩
      · exact ⟨true, h⟩
    obtain ⟨dsr, a4, t4, hs, h4⟩ := e_pick (F := F) (k := k + 3) b ns a3 t3 (.non :: (src.map .str ++ src.map .str)) (by simp) (by simp; omega)
    obtain ⟨so, rfl, hso⟩ : ∃ so : Option Str, dsr = oD so ∧ ∀ s, so = some s → s ∈ src := by
      rcases List.mem_cons.mp hs with h | h
      · exact ⟨none, h, fun s e => by cases e⟩
      · rcases List.mem_append.mp h with h | h
        · obtain ⟨s, m, rfl⟩ := List.mem_map.mp h
          exact ⟨some s, rfl, fun s' e => by cases e; exact m⟩
        · obtain ⟨s, m, rfl⟩ := List.mem_map.mp h
          exact ⟨some s, rfl, fun s' e => by cases e; exact m⟩
    let f : Fld := ⟨n, ws, c, clr, so⟩
    have htk : fm.map (·.name) ++ [n] = allN.take (fm.length + 1) := by
      have := congrArg (List.take (fm.length + 1)) hn
      rw [List.take_take, Nat.min_eq_left (by simp), List.take_append, List.take_of_length_le (by simp)] at this
      simpa using this
    have hnin : n ∈ allN := by
      have : n ∈ fm.map (·.name) ++ [n] := by simp
      rw [htk] at this
      exact List.mem_of_mem_take this
    have hnew : n ∉ fm.map (·.name) := fun z => by
      have h5 : (fm.map (·.name) ++ [n]).Nodup := by rw [htk]; exact (List.take_sublist _ _).nodup allN_nd
      rw [List.nodup_append] at h5
      exact h5.2.2 n z n (by simp) rfl
    have hf : FldOk ([] ++ fm.map nw) f := by
      rw [List.nil_append]
      refine ⟨(allN_w1 n hnin).1, (allN_w1 n hnin).2, by rw [nw_fst]; exact hnew, wok.1, wok.2, hc, Nat.le_trans hd (by omega), fun s e => ?_⟩
      obtain ⟨p, hm, rfl⟩ := List.mem_map.mp (hso s e)
      obtain ⟨hm, hq⟩ := List.mem_filter.mp hm
      have hq : p.2 = ws := of_decide_eq_true hq
      refine ⟨(lf.ear.nm p hm).1, ?_⟩
      have := lookup_ear lf.ear.nd hm
      rw [hq] at this
      exact this
    have lf' : LF (fm ++ [f]) := by
      refine ⟨by rw [List.map_append, List.length_append]; exact htk, fun g m => ?_, lf.ok.snoc hf, fun g m => ?_⟩
      · rcases List.mem_append.mp m with m | m
        · exact lf.ws g m
        · rw [List.mem_singleton.mp m]; exact hws
      · rcases List.mem_append.mp m with m | m
        · exact lf.dep g m
        · rw [List.mem_singleton.mp m]; exact hd
    obtain ⟨fm', y3, y6, y7, y8, y9, y10, a', t', lf2, hl2, ih⟩ := lform_loop b ns x2 rest (fm ++ [f]) a4 t4 (some (.sh (.str n))) (some (.sh (wD ws))) (some (.sh c.d)) (some (.sh (.lst (.non :: (src.map .str ++ src.map .str))))) (some (.sh (.str (if clr then "clear" else "keep")))) (some (.sh (oD so))) lf' (by
      rw [List.map_append, List.append_assoc, List.length_append]
      have : fm.length + [f].length + rest.length = fm.length + (n :: rest).length := by simp; omega
      rw [this]
      exact hn)
    refine ⟨fm', y3, y6, y7, y8, y9, y10, a', t', lf2, by rw [hl2]; simp; omega, ?_⟩
    have q0 : ∀ tl, execs (callK fs F (k + 5)) F (.asg [] 6 (.call 26 [.var 0, .var 1, .lst [.tup [.con (.str "x"), .con (.str "y")], .tup [.con (.str "x"), .con (.str "y")], .tup [.con (.str "x"), .con (.str "y"), .con (.str "z")], .tup [.con (.str "w")]]]) :: .asg [] 7 (.lend [4] (.call 27 [.var 0, .var 1, .var 4, .con (.int 2)])) :: tl) [some (.sh (.scr ns)), some (.sh (.obj 0)), x2, some (.sh (.str n)), some (.ow (earD (fm.map nw))), some (.ow (.lst (fm.map Fld.d))), x6, x7, x8, x9, x10, none, none] (town a t) =
        execs (callK fs F (k + 5)) F tl [some (.sh (.scr ns)), some (.sh (.obj 0)), x2, some (.sh (.str n)), some (.ow (earD (fm.map nw))), some (.ow (.lst (fm.map Fld.d))), some (.sh (wD ws)), some (.sh c.d), x8, x9, x10, none, none] (town a2 t2) := fun tl => by
      have h2' : callK fs F (k + 5) 27 [.scr ns, .obj 0, earD (fm.map nw), .int 2] (town a1 t1) = some (c.d, town a2 t2) := h2
      refine (execs_nx (env' := [some (.sh (.scr ns)), some (.sh (.obj 0)), x2, some (.sh (.str n)), some (.ow (earD (fm.map nw))), some (.ow (.lst (fm.map Fld.d))), some (.sh (wD ws)), x7, x8, x9, x10, none, none]) (S' := town a1 t1) ?_).trans (execs_nx ?_)
      · simp only [startE, List.map, List.length, List.replicate, execs, exec, ev, evs, evcs, evts, unown, unown1, List.foldl, peek, getO, getE, idx0, idx1, idx2, idx3, idx4, idxl0, idxl1, idxl2, List.cons_append, List.nil_append, List.append_nil, Option.map_some, Option.bind_some, Option.map_none, Option.bind_none, cmpF, eq_str, List.getElem?_cons_zero, List.getElem?_cons_succ, List.set_cons_zero, List.set_cons_succ, Nat.reduceSub, Nat.reduceAdd, decide_true, decide_false, fnx, frt, bindT, h1]
      · simp only [startE, List.map, List.length, List.replicate, execs, exec, ev, evs, evcs, evts, unown, unown1, List.foldl, peek, getO, getE, idx0, idx1, idx2, idx3, idx4, idxl0, idxl1, idxl2, List.cons_append, List.nil_append, List.append_nil, Option.map_some, Option.bind_some, Option.map_none, Option.bind_none, cmpF, eq_str, List.getElem?_cons_zero, List.getElem?_cons_succ, List.set_cons_zero, List.set_cons_succ, Nat.reduceSub, Nat.reduceAdd, decide_true, decide_false, fnx, frt, bindT, h2', imm_cnd, if_true]
    have q1 : ∀ tl, execs (callK fs F (k + 5)) F (.asg [] 8 (.bin .add (.lst [.con (.non)]) (.bin .mul (.lc [11, 12] (.tp [11, 12]) .seq [.var 4] [.cmp .eq (.var 12) (.var 6)] (.var 11)) (.con (.int 2)))) :: tl) [some (.sh (.scr ns)), some (.sh (.obj 0)), x2, some (.sh (.str n)), some (.ow (earD (fm.map nw))), some (.ow (.lst (fm.map Fld.d))), some (.sh (wD ws)), some (.sh c.d), x8, x9, x10, none, none] (town a2 t2) =
        execs (callK fs F (k + 5)) F tl [some (.sh (.scr ns)), some (.sh (.obj 0)), x2, some (.sh (.str n)), some (.ow (earD (fm.map nw))), some (.ow (.lst (fm.map Fld.d))), some (.sh (wD ws)), some (.sh c.d), some (.sh (.lst (.non :: (src.map .str ++ src.map .str)))), x9, x10, none, none] (town a2 t2) := fun tl => by
      have hlc := srcs_lc (c := callK fs F (k + 5)) (S := town a2 t2) lf.ear wok.2 (some (.sh (.scr ns))) (some (.sh (.obj 0))) x2 (some (.sh (.str n))) (some (.ow (.lst (fm.map Fld.d)))) (some (.sh c.d)) x8 x9 x10
      have e0 : (((fm.map nw).filter fun p => decide (p.2 = ws)).map fun p => D.str p.1) = src.map .str := by simp only [src, List.map_map]; rfl
      rw [e0] at hlc
      have hm := mul2 (src.map .str) (by simp; omega)
      have hml := ev_binR (op := .mul) (b := .con (.int 2)) rfl rfl hlc rfl hm
      have ha : binF .add (.lst [.non]) (.lst (src.map .str ++ src.map .str)) = some (.lst (.non :: (src.map .str ++ src.map .str))) := by
        simp only [binF, List.length_append, List.length_map, List.length_singleton]
        rw [if_pos (by unfold big; omega)]
        rfl
      exact execs_nx (exec_asg (ev_binR (op := .add) rfl rfl (by simp only [startE, List.map, List.length, List.replicate, execs, exec, ev, evs, evcs, evts, unown, unown1, List.foldl, peek, getO, getE, idx0, idx1, idx2, idx3, idx4, idxl0, idxl1, idxl2, List.cons_append, List.nil_append, List.append_nil, Option.map_some, Option.bind_some, Option.map_none, Option.bind_none, cmpF, eq_str, List.getElem?_cons_zero, List.getElem?_cons_succ, List.set_cons_zero, List.set_cons_succ, Nat.reduceSub, Nat.reduceAdd, decide_true, decide_false, fnx, frt, bindT]) hml ha))
    have q2 : execs (callK fs F (k + 5)) F [.par [9, 10] [.call 26 [.var 0, .var 1, .lst [.con (.str "keep"), .con (.str "clear")]], .call 26 [.var 0, .var 1, .var 8]] [false, false], .app 5 (.tup [.var 3, .var 6, .var 7, .var 9, .var 10]), .app 4 (.tup [.var 3, .var 6])] [some (.sh (.scr ns)), some (.sh (.obj 0)), x2, some (.sh (.str n)), some (.ow (earD (fm.map nw))), some (.ow (.lst (fm.map Fld.d))), some (.sh (wD ws)), some (.sh c.d), some (.sh (.lst (.non :: (src.map .str ++ src.map .str)))), x9, x10, none, none] (town a2 t2) =
        some (.nx [some (.sh (.scr ns)), some (.sh (.obj 0)), x2, some (.sh (.str n)), some (.ow (earD ((fm ++ [f]).map nw))), some (.ow (.lst ((fm ++ [f]).map Fld.d))), some (.sh (wD ws)), some (.sh c.d), some (.sh (.lst (.non :: (src.map .str ++ src.map .str)))), some (.sh (.str (if clr then "clear" else "keep"))), some (.sh (oD so)), none, none] (town a4 t4)) := by
      have hb1 : (fm.map Fld.d).length < big := by simp; unfold big; omega
      have hb2 : ((fm.map nw).map pairD).length < big := by simp; unfold big; omega
      refine (execs_nx (env' := [some (.sh (.scr ns)), some (.sh (.obj 0)), x2, some (.sh (.str n)), some (.ow (earD (fm.map nw))), some (.ow (.lst (fm.map Fld.d))), some (.sh (wD ws)), some (.sh c.d), some (.sh (.lst (.non :: (src.map .str ++ src.map .str)))), some (.sh (.str (if clr then "clear" else "keep"))), some (.sh (oD so)), none, none]) (S' := town a4 t4) ?_).trans ?_
      · simp only [startE, List.map, List.length, List.replicate, execs, exec, ev, evs, evcs, evts, unown, unown1, List.foldl, peek, getO, getE, idx0, idx1, idx2, idx3, idx4, idxl0, idxl1, idxl2, List.cons_append, List.nil_append, List.append_nil, Option.map_some, Option.bind_some, Option.map_none, Option.bind_none, cmpF, eq_str, List.getElem?_cons_zero, List.getElem?_cons_succ, List.set_cons_zero, List.set_cons_succ, Nat.reduceSub, Nat.reduceAdd, decide_true, decide_false, fnx, frt, bindT, parGo, h3, h4, Bool.false_and, Bool.false_eq_true, if_false]
      · simp only [startE, List.map, List.length, List.replicate, execs, exec, ev, evs, evcs, evts, unown, unown1, List.foldl, peek, getO, getE, idx0, idx1, idx2, idx3, idx4, idxl0, idxl1, idxl2, List.cons_append, List.nil_append, List.append_nil, Option.map_some, Option.bind_some, Option.map_none, Option.bind_none, cmpF, eq_str, List.getElem?_cons_zero, List.getElem?_cons_succ, List.set_cons_zero, List.set_cons_succ, Nat.reduceSub, Nat.reduceAdd, decide_true, decide_false, fnx, frt, bindT, hb1, if_true, earD, hb2, List.map_append, nw, f]
        rfl
    have hs2 : execs (callK fs F (k + 5)) F (loopOf (d_law_form.body.drop 1)) [some (.sh (.scr ns)), some (.sh (.obj 0)), x2, some (.sh (.str n)), some (.ow (earD (fm.map nw))), some (.ow (.lst (fm.map Fld.d))), x6, x7, x8, x9, x10, none, none] (town a t) = _ := (q0 _).trans ((q1 _).trans q2)
    simp only [List.map_cons, forGo, bindT, List.set_cons_zero, List.set_cons_succ, Option.bind_some, hs2]
    exact ih
theorem e_lform (b : BD fs) (ns : List Int) (a t m : Nat) (h1 : 1 ≤ m) (h2 : m ≤ 4) : ∃ fm a' t', LF fm ∧ fm ≠ [] ∧ fm.length ≤ m ∧ callK fs F (k + 6) 28 [.scr ns, .obj 0, .int (m : Nat)] (town a t) = some (formD fm, town a' t') := by
  rw [callK_eq b.h28 rfl]
  obtain ⟨r, a1, t1, hr, h⟩ := e_draw (F := F) (k := k + 4) b.h25 ns a t m h1 (by omega)
  have hlen : (allN.take (r + 1)).length = r + 1 := by rw [List.length_take, show allN.length = 4 from rfl]; omega
  obtain ⟨fm, y3, y6, y7, y8, y9, y10, a', t', lf, hl, hlp⟩ := lform_loop (F := F) (k := k) b ns (some (.sh (.int (m : Nat)))) (allN.take (r + 1)) [] a1 t1 none none none none none none ⟨rfl, (fun f m => by cases m), .nil, (fun f m => by cases m)⟩ (by simp [show allN.length = 4 from rfl])
  refine ⟨fm, a', t', lf, fun z => ?_, ?_, ?_⟩
  · rw [z, hlen] at hl; simp at hl
  · rw [hlen] at hl; simp at hl; omega
  · have hadd : binF .add (.int 1) (.int (r : Nat)) = some (.int ((r + 1 : Nat) : Int)) := by
      show some (D.int (1 + (r : Int))) = _
      congr 2
      omega
    have hcut := cut_take [D.str "a", .str "bc", .str "d", .str "e"] (r + 1)
    refine (congrArg fin (execs_nx (env' := [some (.sh (.scr ns)), some (.sh (.obj 0)), some (.sh (.int (m : Nat))), none, some (.ow (earD [])), some (.ow (.lst [])), none, none, none, none, none, none, none]) (S' := town a t) ?_)).trans ?_
    · simp only [startE, List.map, List.length, List.replicate, execs, exec, ev, evs, evcs, evts, unown, unown1, List.foldl, peek, getO, getE, idx0, idx1, idx2, idx3, idx4, idxl0, idxl1, idxl2, List.cons_append, List.nil_append, List.append_nil, Option.map_some, Option.bind_some, Option.map_none, Option.bind_none, cmpF, eq_str, List.getElem?_cons_zero, List.getElem?_cons_succ, List.set_cons_zero, List.set_cons_succ, Nat.reduceSub, Nat.reduceAdd, decide_true, decide_false, fnx, frt, bindT, d_law_form, parGo, isMut, Bool.not_true, Bool.and_false, Bool.false_eq_true, if_false, if_true]
      rfl
    · refine (congrArg fin (execs_nx (exec_for (ds := [.lst ([D.str "a", .str "bc", .str "d", .str "e"].take (r + 1))]) (S1 := town a1 t1) (by simp only [startE, List.map, List.length, List.replicate, execs, exec, ev, evs, evcs, evts, unown, unown1, List.foldl, peek, getO, getE, idx0, idx1, idx2, idx3, idx4, idxl0, idxl1, idxl2, List.cons_append, List.nil_append, List.append_nil, Option.map_some, Option.bind_some, Option.map_none, Option.bind_none, cmpF, eq_str, List.getElem?_cons_zero, List.getElem?_cons_succ, List.set_cons_zero, List.set_cons_succ, Nat.reduceSub, Nat.reduceAdd, decide_true, decide_false, fnx, frt, bindT, h, hadd, slcF, hcut]) (by simp only [itemsF]; exact congrArg some (List.map_take (f := D.str) (l := allN) (i := r + 1)).symm) hlp))).trans ?_
      have ht : biF .tuple (.lst (fm.map Fld.d)) = some (formD fm) := rfl
      simp only [startE, List.map, List.length, List.replicate, execs, exec, ev, evs, evcs, evts, unown, unown1, List.foldl, peek, getO, getE, idx0, idx1, idx2, idx3, idx4, idxl0, idxl1, idxl2, List.cons_append, List.nil_append, List.append_nil, Option.map_some, Option.bind_some, Option.map_none, Option.bind_none, cmpF, eq_str, List.getElem?_cons_zero, List.getElem?_cons_succ, List.set_cons_zero, List.set_cons_succ, Nat.reduceSub, Nat.reduceAdd, decide_true, decide_false, fnx, frt, bindT, ht]
end
end FG

namespace FG
open PySem PySem.Spec PyProof.Rows L2
/-! ### the plain law of sessions -/
abbrev Row := List (Option Str)
def headM (f : Fld) (a : Option Str) (vis : Dic) : Option Str := if holdsM f.cond vis then valM f a vis else if f.clr then none else a
def nextM (f : Fld) (a : Option Str) (vis : Dic) : Dic := if holdsM f.cond vis then dput vis f.name (valM f a vis) else vis
def ref1 : List Fld → Row → Dic → Row
  | f :: fm, a :: as, vis => headM f a vis :: ref1 fm as (nextM f a vis)
  | _, _, _ => []
def ref2 : List Fld → Row → Dic → Dic
  | f :: fm, a :: as, vis => ref2 fm as (nextM f a vis)
  | _, _, vis => vis
theorem refM_eq : ∀ (fm : List Fld) (as res : Row) (vis : Dic), refM fm as res vis = (res ++ ref1 fm as vis, ref2 fm as vis)
  | [], as, res, vis => by
    have : refM [] as res vis = (res, vis) := by cases as <;> rfl
    rw [this]
    cases as <;> simp [ref1, ref2]
  | f :: fm, [], res, vis => by simp [refM, ref1, ref2]
  | f :: fm, a :: as, res, vis => by
    rw [refM_cons, refM_eq fm as _ _]
    simp [ref1, ref2, headM, nextM]
theorem visM_eq (fm : List Fld) (as : Row) : visM fm as = ref2 fm as [] := by unfold visM; rw [refM_eq]
theorem ansM_eq (fm : List Fld) (as : Row) : ansM fm as = ref1 fm as [] := by unfold ansM; rw [refM_eq]; simp
theorem valM_idem (f : Fld) (a : Option Str) (vis : Dic) : valM f (valM f a vis) vis = valM f a vis := by
  cases a with
  | some x => rfl
  | none =>
    show valM f (f.src.bind (dget vis)) vis = f.src.bind (dget vis)
    cases h : f.src.bind (dget vis) with
    | none => exact h
    | some x => rfl
theorem head_idem (f : Fld) (a : Option Str) (vis : Dic) : headM f (headM f a vis) vis = headM f a vis := by
  unfold headM
  split
  · exact valM_idem f a vis
  · split <;> rfl
theorem next_idem (f : Fld) (a : Option Str) (vis : Dic) : nextM f (headM f a vis) vis = nextM f a vis := by
  unfold nextM headM
  split
  · rw [valM_idem]
  · rfl
theorem ref_idem : ∀ (fm : List Fld) (as : Row) (vis : Dic), ref1 fm (ref1 fm as vis) vis = ref1 fm as vis ∧ ref2 fm (ref1 fm as vis) vis = ref2 fm as vis
  | [], as, vis => by cases as <;> simp [ref1, ref2]
  | f :: fm, [], vis => by simp [ref1, ref2]
  | f :: fm, a :: as, vis => by
    have ih := ref_idem fm as (nextM f a vis)
    simp only [ref1, ref2, head_idem, next_idem, ih, and_self]
/-- brought up to date -/
def Upd (fm : List Fld) (as : Row) : Prop := ansM fm as = as
theorem upd_ans (fm : List Fld) (as : Row) : Upd fm (ansM fm as) := by
  unfold Upd
  rw [ansM_eq, ansM_eq]
  exact (ref_idem fm as []).1
theorem look_map_ne (k k' : Str) (v : Option Str) (h : k' ≠ k) : ∀ l : Dic, (l.map fun p => if p.1 = k then (p.1, v) else p).lookup k' = l.lookup k'
  | [] => rfl
  | (a, b) :: l => by
    have ih := look_map_ne k k' v h l
    by_cases ha : a = k
    · subst ha
      have hb : (k' == a) = false := by simpa using h
      simp only [List.map_cons, if_true, List.lookup, hb]
      exact ih
    · simp only [List.map_cons, ha, if_false, List.lookup]
      cases k' == a
      · exact ih
      · rfl
theorem look_put (l : Dic) (k k' : Str) (v : Option Str) : (dput l k v).lookup k' = if k' = k then some v else l.lookup k' := by
  split
  · rename_i h
    subst h
    exact lookup_dput l k' v
  · rename_i h
    unfold dput
    split
    · exact look_map_ne k k' v h l
    · have hb : (k' == k) = false := by simpa using h
      rw [List.lookup_append]
      simp [List.lookup, hb]
theorem dget_put (l : Dic) (k k' : Str) (v : Option Str) : dget (dput l k v) k' = if k' = k then v else dget l k' := by
  unfold dget
  rw [look_put]
  split <;> rfl
theorem upd_none : ∀ (fm : List Fld) (vis : Dic), (∀ k, dget vis k = none) → ref1 fm (List.replicate fm.length none) vis = List.replicate fm.length none
  | [], vis, _ => rfl
  | f :: fm, vis, h => by
    have hv : valM f none vis = none := by
      show f.src.bind (dget vis) = none
      cases f.src with
      | none => rfl
      | some s => exact h s
    have hh : headM f none vis = none := by unfold headM; rw [hv]; split <;> (try split) <;> rfl
    have hd : ∀ k, dget (nextM f none vis) k = none := by
      intro k
      unfold nextM
      rw [hv]
      split
      · rw [dget_put, h k]
        split <;> rfl
      · exact h k
    simp only [List.length_cons, List.replicate_succ, ref1, hh]
    rw [upd_none fm _ hd]
theorem upd_noneM (fm : List Fld) : Upd fm (noneM fm) := by
  unfold Upd
  rw [ansM_eq]
  exact upd_none fm [] fun _ => rfl
/-! rows and dicts -/
def rowM (fm : List Fld) (la : Dic) : Row := fm.map fun f => dget la f.name
theorem row_nil (fm : List Fld) : rowM fm [] = noneM fm := by
  unfold rowM noneM
  induction fm with
  | nil => rfl
  | cons f fm ih => simp only [List.map_cons, ih, List.length_cons, List.replicate_succ]; rfl
theorem row_len (fm : List Fld) (la : Dic) : (rowM fm la).length = fm.length := by simp [rowM]
theorem row_congr {fm : List Fld} {la lb : Dic} (h : ∀ f ∈ fm, dget la f.name = dget lb f.name) : rowM fm la = rowM fm lb := List.map_congr_left h
theorem seen_of : ∀ (fm : List Fld) (la vis : Dic), ref1 fm (rowM fm la) vis = rowM fm la → ref2 fm (rowM fm la) vis = seenM la fm vis
  | [], la, vis, _ => rfl
  | f :: fm, la, vis, h => by
    simp only [rowM, List.map_cons, ref1, List.cons.injEq] at h
    obtain ⟨h1, h2⟩ := h
    show ref2 fm (rowM fm la) (nextM f (dget la f.name) vis) = seenM la fm (if holdsM f.cond vis then dput vis f.name (dget la f.name) else vis)
    have e : nextM f (dget la f.name) vis = if holdsM f.cond vis then dput vis f.name (dget la f.name) else vis := by
      unfold nextM
      unfold headM at h1
      split
      · rename_i hb
        rw [if_pos hb] at h1
        rw [h1]
      · rfl
    rw [← e]
    exact seen_of fm la _ h2
theorem vis_seen {fm : List Fld} {la : Dic} (h : Upd fm (rowM fm la)) : visM fm (rowM fm la) = seenM la fm [] := by
  rw [visM_eq]
  unfold Upd at h
  rw [ansM_eq] at h
  exact seen_of fm la [] h
def stepL (f : Fld) (la se : Dic) : Dic := if holdsM f.cond se then fillM f la se else if f.clr then dput la f.name none else la
theorem stepL_other (f : Fld) (la se : Dic) {k : Str} (h : k ≠ f.name) : dget (stepL f la se) k = dget la k := by
  unfold stepL fillM
  split
  · split
    · rw [dget_put, if_neg h]
    · rfl
  · split
    · rw [dget_put, if_neg h]
    · rfl
theorem fill_self (f : Fld) (la se : Dic) : dget (fillM f la se) f.name = valM f (dget la f.name) se := by
  unfold fillM
  cases ha : dget la f.name with
  | some x => simp [valM, ha]
  | none =>
    cases hs : f.src with
    | none => simp [valM, ha, hs]
    | some s => simp [valM, hs, dget_put]
theorem stepL_self (f : Fld) (la se : Dic) : dget (stepL f la se) f.name = headM f (dget la f.name) se := by
  unfold stepL headM
  split
  · exact fill_self f la se
  · split
    · rw [dget_put, if_pos rfl]
    · rfl
theorem done_of : ∀ (fm : List Fld) (la se : Dic), (fm.map (·.name)).Nodup → rowM fm (doneL fm la se).1 = ref1 fm (rowM fm la) se ∧ ∀ k, k ∉ fm.map (·.name) → dget (doneL fm la se).1 k = dget la k
  | [], la, se, _ => ⟨rfl, fun k _ => rfl⟩
  | f :: fm, la, se, hn => by
    simp only [List.map_cons, List.nodup_cons] at hn
    have e : doneL (f :: fm) la se = doneL fm (stepL f la se) (nextM f (dget la f.name) se) := by
      rw [doneL]
      congr 1
      unfold nextM
      rw [fill_self]
    obtain ⟨h1, h2⟩ := done_of fm (stepL f la se) (nextM f (dget la f.name) se) hn.2
    have hr : rowM fm (stepL f la se) = rowM fm la := row_congr fun g m => stepL_other f la se fun z => hn.1 (z ▸ List.mem_map_of_mem m)
    rw [e]
    refine ⟨?_, fun k hk => ?_⟩
    · show dget _ f.name :: rowM fm _ = headM f (dget la f.name) se :: ref1 fm (rowM fm la) _
      rw [h2 f.name hn.1, stepL_self, h1, hr]
    · simp only [List.map_cons, List.mem_cons, not_or] at hk
      rw [h2 k hk.2, stepL_other f la se hk.1]
/-! the place of a name -/
theorem at_get {fm : List Fld} {n : Str} (h : n ∈ fm.map (·.name)) : ∃ f, fm[atM fm n]? = some f ∧ f.name = n := by
  have e := place_at h
  unfold headD at e
  cases hp : placeM fm n with
  | nil => rw [hp] at e; cases e
  | cons i l =>
    have hi : i ∈ placeM fm n := by rw [hp]; exact List.mem_cons_self
    obtain ⟨⟨f, j⟩, hm, rfl⟩ := List.mem_map.mp hi
    obtain ⟨hm, hq⟩ := List.mem_filter.mp hm
    rw [List.mem_zipIdx_iff_getElem?] at hm
    refine ⟨f, ?_, of_decide_eq_true hq⟩
    unfold atM
    rw [hp]
    exact hm
theorem nd_inj {fm : List Fld} (hn : (fm.map (·.name)).Nodup) {i j : Nat} {f g : Fld} (hi : fm[i]? = some f) (hj : fm[j]? = some g) (e : f.name = g.name) : i = j := by
  have li := (List.getElem?_eq_some_iff.mp hi).1
  refine (List.getElem?_inj (l := fm.map (·.name)) (by simpa using li) hn).mp ?_
  rw [List.getElem?_map, List.getElem?_map, hi, hj]
  exact congrArg some e
theorem replM_set {as : Row} {i : Nat} (v : Option Str) (h : i < as.length) : replM as i v = as.set i v := by
  rw [List.set_eq_take_append_cons_drop, if_pos h]
  unfold replM
  simp
theorem row_put {fm : List Fld} (hn : (fm.map (·.name)).Nodup) (la : Dic) {n : Str} (h : n ∈ fm.map (·.name)) (v : Option Str) : rowM fm (dput la n v) = replM (rowM fm la) (atM fm n) v := by
  obtain ⟨f, hf, rfl⟩ := at_get h
  have hlt := atM_lt h
  rw [replM_set v (by rw [row_len]; exact hlt)]
  refine List.ext_getElem? fun j => ?_
  rw [List.getElem?_set]
  unfold rowM
  rw [List.getElem?_map, List.getElem?_map, List.length_map]
  by_cases hj : atM fm f.name = j
  · subst hj
    rw [if_pos rfl, if_pos hlt, hf]
    simp [dget_put]
  · rw [if_neg hj]
    cases hg : fm[j]? with
    | none => rfl
    | some g =>
      simp only [Option.map_some, Option.some.injEq, dget_put]
      rw [if_neg]
      exact fun z => hj (nd_inj hn hf hg z.symm)
theorem step_row {fm : List Fld} (hn : (fm.map (·.name)).Nodup) {la : Dic} (u : Upd fm (rowM fm la)) (a : Act) : rowM fm (doneM fm la a) = stepM fm (rowM fm la) a := by
  unfold doneM stepM
  rw [vis_seen u]
  split
  · rename_i hs
    have hm : a.nm ∈ fm.map (·.name) := by rw [← vis_seen u] at hs; exact vis_names hs
    rw [(done_of fm _ [] hn).1, row_put hn la hm, ansM_eq]
  · rfl
theorem upd_step {fm : List Fld} {as : Row} (u : Upd fm as) (a : Act) : Upd fm (stepM fm as a) := by
  unfold stepM
  split
  · exact upd_ans fm _
  · exact u
theorem kept_row {fm : List Fld} (hn : (fm.map (·.name)).Nodup) {la : Dic} (u : Upd fm (rowM fm la)) (ch : Dic) (a : Act) : rowM fm (if ((seenM la fm []).lookup a.nm).isSome then dput ch a.nm a.val else ch) = keptM fm (rowM fm la) (rowM fm ch) a := by
  unfold keptM
  rw [vis_seen u]
  split
  · rename_i hs
    have hm : a.nm ∈ fm.map (·.name) := by rw [← vis_seen u] at hs; exact vis_names hs
    rw [row_put hn ch hm]
  · rfl
theorem run_row {fm : List Fld} (hn : (fm.map (·.name)).Nodup) : ∀ (ss : List Act) (la ch : Dic), Upd fm (rowM fm la) → playM fm ss (rowM fm la) (rowM fm ch) = (rowM fm (runL fm ss la ch).1, rowM fm (runL fm ss la ch).2) ∧ Upd fm (rowM fm (runL fm ss la ch).1)
  | [], la, ch, u => ⟨rfl, u⟩
  | a :: ss, la, ch, u => by
    rw [playM, runL, ← step_row hn u, ← kept_row hn u]
    exact run_row hn ss _ _ (by rw [step_row hn u]; exact upd_step u a)
theorem play_run {fm : List Fld} (hn : (fm.map (·.name)).Nodup) (ss : List Act) : plA fm ss = rowM fm (runL fm ss [] []).1 ∧ plC fm ss = rowM fm (runL fm ss [] []).2 ∧ Upd fm (plA fm ss) := by
  have h := run_row hn ss [] [] (by rw [row_nil]; exact upd_noneM fm)
  rw [row_nil] at h
  unfold plA plC
  rw [h.1]
  exact ⟨rfl, rfl, h.2⟩
theorem seen_vis {fm : List Fld} (hn : (fm.map (·.name)).Nodup) (ss : List Act) : rSeen fm ss = visM fm (plA fm ss) := by
  obtain ⟨h1, h2, h3⟩ := play_run hn ss
  rw [h1] at h3 ⊢
  exact (vis_seen h3).symm
end FG

namespace FG
open PySem PySem.Spec PyProof.Rows L2
/-! ### comparisons that come out true -/
theorem eqD_oD (a : Option Str) : eqD (oD a) (oD a) = true := by
  cases a with
  | none => rfl
  | some x => exact (eqD_str x x).trans (decide_eq_true rfl)
theorem hits_mem {l' : Dic} : ∀ l : Dic, (∀ p ∈ l, l'.lookup p.1 = some p.2) → dHits (l'.map fun p => .text p.1) (l'.map fun p => oD p.2) (l.map fun p => .text p.1) (l.map fun p => oD p.2) = true
  | [], _ => rfl
  | p :: l, h => by
    simp only [List.map_cons, dHits, look_dD, h p List.mem_cons_self, Option.map_some, eqD_oD, Bool.true_and]
    exact hits_mem l fun q m => h q (List.mem_cons_of_mem _ m)
theorem atoms_dD (l : Dic) : (l.map fun p => oD p.2).all atomD = true := by
  rw [List.all_map]
  exact List.all_eq_true.mpr fun p _ => by show atomD (oD p.2) = true; cases p.2 <;> rfl
theorem nodup_keys {l : Dic} (h : (l.map (·.1)).Nodup) : l.Nodup := by
  induction l with
  | nil => exact List.nodup_nil
  | cons p l ih =>
    simp only [List.map_cons, List.nodup_cons] at h
    exact List.nodup_cons.mpr ⟨fun m => h.1 (List.mem_map_of_mem m), ih h.2⟩
theorem eq_dD {l l' : Dic} (h : (l.map (·.1)).Nodup) (h' : (l'.map (·.1)).Nodup) (e : ∀ p, p ∈ l ↔ p ∈ l') : eqF (dD l) (dD l') = some true := by
  have hp := (List.perm_ext_iff_of_nodup (nodup_keys h) (nodup_keys h')).mpr e
  simp only [eqF, dD, atoms_dD, Bool.and_self, if_true, dSame, List.length_map, hp.length_eq, decide_true, Bool.true_and, Option.some.injEq]
  exact hits_mem l fun p m => lookup_of_mem h' ((e p).mp m)
theorem eqv_refl_acts : ∀ l l' : List Act, PyData.eqvAll (toPys (l.map Act.d)) (toPys (l'.map Act.d)) = decide (l = l')
  | [], [] => rfl
  | [], y :: ys => rfl
  | x :: xs, [] => rfl
  | x :: xs, y :: ys => by
    have h1 : PyData.eqv (toPy x.d) (toPy y.d) = decide (x = y) := eqD_act x y
    simp only [List.map_cons, toPys, PyData.eqvAll, eqv_refl_acts xs ys, h1]
    rw [Bool.eq_iff_iff]
    simp
theorem eq_ses {l l' : List Act} (h : ∀ x ∈ l, ActOk x) (h' : ∀ x ∈ l', ActOk x) : eqF (sesD l) (sesD l') = some (decide (l = l')) := by
  have h1 : pyOk 60 (sesD l) = true := pyOks_act 58 l h
  have h2 : pyOk 60 (sesD l') = true := pyOks_act 58 l' h'
  have e : eqF (sesD l) (sesD l') = if scalD (sesD l) (sesD l') || (pyOk 60 (sesD l) && pyOk 60 (sesD l')) then some (eqD (sesD l) (sesD l')) else none := rfl
  rw [e, h1, h2]
  show some (PyData.eqvAll (toPys (l.map Act.d)) (toPys (l'.map Act.d))) = _
  rw [eqv_refl_acts]
theorem eqv_lstrs : ∀ (xs ys : List Str), PyData.eqvAll (toPys (xs.map .str)) (toPys (ys.map .str)) = decide (xs = ys)
  | [], [] => rfl
  | [], y :: ys => rfl
  | x :: xs, [] => rfl
  | x :: xs, y :: ys => by
    have h1 : PyData.eqv (.str x) (.str y) = decide (x = y) := eqD_str x y
    simp only [List.map_cons, toPys, toPy, PyData.eqvAll, eqv_lstrs xs ys, h1]
    rw [Bool.eq_iff_iff]
    simp
theorem eq_lstrs {l l' : List Str} (h : ∀ x ∈ l, PyData.strOk x = true) (h' : ∀ x ∈ l', PyData.strOk x = true) : eqF (.lst (l.map .str)) (.lst (l'.map .str)) = some (decide (l = l')) := by
  have h1 : pyOk 60 (.lst (l.map .str)) = true := pyOks_str 59 l h
  have h2 : pyOk 60 (.lst (l'.map .str)) = true := pyOks_str 59 l' h'
  have e : eqF (.lst (l.map .str)) (.lst (l'.map .str)) = if scalD (.lst (l.map .str)) (.lst (l'.map .str)) || (pyOk 60 (.lst (l.map .str)) && pyOk 60 (.lst (l'.map .str))) then some (eqD (.lst (l.map .str)) (.lst (l'.map .str))) else none := rfl
  rw [e, h1, h2]
  show some (PyData.eqvAll (toPys (l.map .str)) (toPys (l'.map .str))) = _
  rw [eqv_lstrs]
/-! ### the last choices -/
theorem runL_keys {fm : List Fld} (hn : (fm.map (·.name)).Nodup) : ∀ (ss : List Act) (la ch : Dic), Upd fm (rowM fm la) → (∀ k ∈ ch.map (·.1), k ∈ fm.map (·.name)) → ∀ k ∈ (runL fm ss la ch).2.map (·.1), k ∈ fm.map (·.name)
  | [], la, ch, u, h => h
  | a :: ss, la, ch, u, h => by
    rw [runL]
    refine runL_keys hn ss _ _ (by rw [step_row hn u]; exact upd_step u a) ?_
    split
    · rename_i hs
      have hm : a.nm ∈ fm.map (·.name) := by rw [← vis_seen u] at hs; exact vis_names hs
      intro k hk
      rcases dput_keys _ _ _ k hk with h1 | h1
      · exact h k h1
      · rw [h1]; exact hm
    · exact h
theorem zip_map (fm : List Fld) (g : Fld → Option Str) : fm.zip (fm.map g) = fm.map fun f => (f, g f) := by
  induction fm with
  | nil => rfl
  | cons f fm ih => simp [ih]
theorem mem_last {fm : List Fld} {ch : Dic} (hc : (ch.map (·.1)).Nodup) (hk : ∀ k ∈ ch.map (·.1), k ∈ fm.map (·.name)) (p : Str × Option Str) : p ∈ lastM fm (rowM fm ch) ↔ p ∈ someM ch := by
  unfold lastM rowM
  rw [zip_map]
  simp only [List.mem_map, List.mem_filter, someM]
  constructor
  · rintro ⟨q, ⟨⟨f, hf, rfl⟩, hs⟩, rfl⟩
    simp only at hs ⊢
    refine ⟨?_, hs⟩
    unfold dget at hs ⊢
    cases hl : ch.lookup f.name with
    | none => rw [hl] at hs; cases hs
    | some v =>
      cases v with
      | none => rw [hl] at hs; cases hs
      | some w =>
        obtain ⟨l1, l2, e, _⟩ := List.lookup_eq_some_iff.mp hl
        rw [e]
        simp
  · rintro ⟨hm, hs⟩
    obtain ⟨f, hf, e⟩ := List.mem_map.mp (hk p.1 (List.mem_map_of_mem hm))
    have hl : dget ch p.1 = p.2 := by unfold dget; rw [lookup_of_mem hc hm]; rfl
    exact ⟨(f, dget ch f.name), ⟨⟨f, hf, rfl⟩, by simp only; rw [e, hl]; exact hs⟩, by simp only; rw [e, hl]⟩
theorem runL_nd (fm : List Fld) (ss : List Act) : ((runL fm ss [] []).2.map (·.1)).Nodup := runL_nodup fm ss [] [] List.nodup_nil
theorem last_names {fm : List Fld} (hn : (fm.map (·.name)).Nodup) (g : Fld → Option Str) : ((lastM fm (fm.map g)).map (·.1)).Nodup := by
  unfold lastM
  rw [zip_map, List.map_map]
  have e : ((fun p : Str × Option Str => p.1) ∘ fun p : Fld × Option Str => (p.1.name, p.2)) = fun p => p.1.name := rfl
  rw [e]
  have h1 : (((fm.map fun f => (f, g f)).filter fun p => p.2.isSome).map fun p => p.1.name).Sublist ((fm.map fun f => (f, g f)).map fun p => p.1.name) := List.Sublist.map _ List.filter_sublist
  rw [List.map_map] at h1
  exact h1.nodup hn
theorem last_eq {fm : List Fld} (hn : (fm.map (·.name)).Nodup) (ss : List Act) : eqF (dD (lastM fm (plC fm ss))) (dD (rChos fm ss)) = some true := by
  rw [(play_run hn ss).2.1]
  refine eq_dD (last_names hn _) (someM_nodup (runL_nd fm ss)) fun p => ?_
  exact mem_last (runL_nd fm ss) (runL_keys hn ss [] [] (by rw [row_nil]; exact upd_noneM fm) (by simp)) p
/-! ### the straight session -/
theorem play_app (fm : List Fld) : ∀ (ss : List Act) (a : Act) (as cs : Row), (playM fm (ss ++ [a]) as cs).1 = stepM fm (playM fm ss as cs).1 a
  | [], a, as, cs => rfl
  | b :: ss, a, as, cs => play_app fm ss a _ _
theorem plA_app (fm : List Fld) (ss : List Act) (a : Act) : plA fm (ss ++ [a]) = stepM fm (plA fm ss) a := play_app fm ss a _ _
theorem look_somes (l : Dic) (hn : (l.map (·.1)).Nodup) (k : Str) : (someM l).lookup k = match dget l k with | some w => some (some w) | none => none := by
  induction l with
  | nil => rfl
  | cons p l ih =>
    obtain ⟨a, b⟩ := p
    simp only [List.map_cons, List.nodup_cons] at hn
    have ih := ih hn.2
    by_cases hk : k = a
    · subst hk
      cases b with
      | some w => simp [someM, dget, List.lookup]
      | none =>
        have h1 : dget ((k, none) :: l) k = none := by simp [dget, List.lookup]
        have h2 : someM ((k, none) :: l) = someM l := by simp [someM]
        rw [h1, h2, ih]
        have : l.lookup k = none := by
          cases hl : l.lookup k with
          | none => rfl
          | some v =>
            obtain ⟨l1, l2, e, _⟩ := List.lookup_eq_some_iff.mp hl
            exact absurd (by rw [e]; simp) hn.1
        simp [dget, this]
    · have h' : (k == a) = false := by simpa using hk
      have h1 : dget ((a, b) :: l) k = dget l k := by simp [dget, List.lookup, h']
      rw [h1, ← ih]
      cases b with
      | some w => simp [someM, List.lookup, h']
      | none => simp [someM]
theorem str_eq {fm : List Fld} (hn : (fm.map (·.name)).Nodup) {ch : Dic} (hc : (ch.map (·.1)).Nodup) : ∀ (l : List Fld) (ss : List Act), (strM fm (l.zip (rowM l ch)) ss (plA fm ss)).1 = lstrL fm (someM ch) l ss
  | [], ss => rfl
  | f :: l, ss => by
    have e : (f :: l).zip (rowM (f :: l) ch) = (f, dget ch f.name) :: l.zip (rowM l ch) := rfl
    rw [e, lstrL, look_somes ch hc]
    cases hd : dget ch f.name with
    | none =>
      rw [strM]
      exact str_eq hn hc l ss
    | some w =>
      rw [strM, seen_vis hn ss]
      have hi : ((visM fm (plA fm ss)).lookup f.name).isSome = true ↔ f.name ∈ (visM fm (plA fm ss)).map (·.1) := by
        constructor
        · exact lookup_mem
        · intro m
          obtain ⟨p, hp, e⟩ := List.mem_map.mp m
          rw [← e, lookup_of_mem (vis_nodup fm _) hp]
          rfl
      by_cases hv : f.name ∈ (visM fm (plA fm ss)).map (·.1)
      · rw [if_pos (hi.mpr hv)]
        simp only [hv, if_true]
        rw [← plA_app]
        exact str_eq hn hc l _
      · rw [if_neg (fun z => hv (hi.mp z))]
        simp only [hv, if_false]
        exact str_eq hn hc l ss
theorem straight_eq {fm : List Fld} (hn : (fm.map (·.name)).Nodup) (ss : List Act) : straM fm (plC fm ss) = lstrL fm (rChos fm ss) fm [] := by
  unfold straM
  rw [(play_run hn ss).2.1]
  exact str_eq hn (runL_nd fm ss) fm []
end FG

namespace FG
/-! ### a search by levels, in plain terms -/
section
variable {α β : Type} [DecidableEq α]
abbrev Src (α β : Type) := List (α × Option (α × β))
def keysS (src : Src α β) : List α := src.map (·.1)
def runS (step : α → β → α) (x : α) (ss : List β) : α := ss.foldl step x
def pushA (step : α → β → α) (x : α) : List β → Src α β → List α → Src α β × List α
  | [], src, lv => (src, lv)
  | a :: as, src, lv => if step x a ∈ keysS src then pushA step x as src lv else pushA step x as (src ++ [(step x a, some (x, a))]) (lv ++ [step x a])
inductive PathTo (src : Src α β) : α → List β → Prop
  | root {x : α} : src.lookup x = some none → PathTo src x []
  | step {x y : α} {a : β} {ss : List β} : src.lookup y = some (some (x, a)) → PathTo src x ss → PathTo src y (ss ++ [a])
/-- the search so far: p are done, the one at p has its actions in hand -/
structure BI (step : α → β → α) (acts : List β) (start : α) (univ : List α) (src : Src α β) (ds : List Nat) (p : Nat) : Prop where
  nd : (keysS src).Nodup
  hd : src[0]? = some (start, none)
  hd0 : ds[0]? = some 0
  len : ds.length = src.length
  uni : ∀ x ∈ keysS src, x ∈ univ
  par : ∀ (i : Nat) (x : α) (q : Option (α × β)), 0 < i → src[i]? = some (x, q) → ∃ (j : Nat) (y : α) (a : β) (dj : Nat), q = some (y, a) ∧ j < i ∧ (keysS src)[j]? = some y ∧ a ∈ acts ∧ step y a = x ∧ ds[j]? = some dj ∧ ds[i]? = some (dj + 1)
  mono : ∀ (i j a b : Nat), i ≤ j → ds[i]? = some a → ds[j]? = some b → a ≤ b
  top : ∀ (i a b : Nat), ds[p]? = some a → ds[i]? = some b → b ≤ a + 1
  clo : ∀ (j : Nat) (y : α) (dj : Nat), j < p → (keysS src)[j]? = some y → ds[j]? = some dj → ∀ a ∈ acts, ∃ (i di : Nat), (keysS src)[i]? = some (step y a) ∧ ds[i]? = some di ∧ di ≤ dj + 1
variable {step : α → β → α} {acts : List β} {start : α} {univ : List α} {src : Src α β} {ds : List Nat} {p : Nat}
theorem keysS_app (src : Src α β) (x : α) (q : Option (α × β)) : keysS (src ++ [(x, q)]) = keysS src ++ [x] := by simp [keysS]
theorem lookup_src : ∀ {src : Src α β} {i : Nat} {x : α} {q : Option (α × β)}, (keysS src).Nodup → src[i]? = some (x, q) → src.lookup x = some q
  | [], i, x, q, _, h => by simp at h
  | (y, r) :: src, 0, x, q, _, h => by simp at h; obtain ⟨rfl, rfl⟩ := h; simp [List.lookup]
  | (y, r) :: src, i + 1, x, q, n, h => by
    simp only [keysS, List.map_cons, List.nodup_cons] at n
    simp only [List.getElem?_cons_succ] at h
    have hk : (x == y) = false := by
      simp only [beq_eq_false_iff_ne]
      exact fun z => n.1 (z ▸ List.mem_map_of_mem (f := (·.1)) (List.mem_of_getElem? h))
    simp only [List.lookup, hk]
    exact lookup_src n.2 h
theorem BI.size (b : BI step acts start univ src ds p) : src.length ≤ univ.length := by
  have := List.Nodup.length_le_of_subset b.nd (fun x m => b.uni x m)
  simpa [keysS] using this
/-- the way to each -/
theorem BI.path (b : BI step acts start univ src ds p) : ∀ (i : Nat) (x : α), (keysS src)[i]? = some x → ∃ ss, PathTo src x ss ∧ ds[i]? = some ss.length ∧ (∀ a ∈ ss, a ∈ acts) ∧ runS step start ss = x := by
  intro i
  induction i using Nat.strongRecOn with
  | _ i ih =>
    intro x hx
    obtain ⟨⟨x', q⟩, hq, e⟩ : ∃ e, src[i]? = some e ∧ e.1 = x := by
      unfold keysS at hx
      rw [List.getElem?_map] at hx
      exact Option.map_eq_some_iff.mp hx
    subst e
    cases i with
    | zero =>
      have h0 := b.hd
      rw [hq] at h0
      cases h0
      exact ⟨[], .root (lookup_src b.nd hq), b.hd0, (fun a m => by cases m), rfl⟩
    | succ i =>
      obtain ⟨j, y, a, dj, rfl, hj, ky, ha, hs, d1, d2⟩ := b.par (i + 1) x' q (Nat.succ_pos i) hq
      obtain ⟨ss, h1, h2, h3, h4⟩ := ih j hj y ky
      rw [d1] at h2
      cases h2
      refine ⟨ss ++ [a], .step (lookup_src b.nd hq) h1, by rw [d2]; simp, fun c m => ?_, ?_⟩
      · rcases List.mem_append.mp m with m | m
        · exact h3 c m
        · rw [List.mem_singleton.mp m]; exact ha
      · unfold runS at h4 ⊢
        rw [List.foldl_append, h4]
        exact hs
/-- what was not done lies no nearer -/
theorem BI.near (b : BI step acts start univ src ds p) {dp : Nat} (hp : ∀ (i d : Nat), p ≤ i → ds[i]? = some d → dp ≤ d) (ss : List β) (ha : ∀ a ∈ ss, a ∈ acts) : (∃ (i d : Nat), i < p ∧ (keysS src)[i]? = some (runS step start ss) ∧ ds[i]? = some d ∧ d ≤ ss.length) ∨ dp ≤ ss.length := by
  obtain ⟨n, hl⟩ : ∃ n, ss.length = n := ⟨_, rfl⟩
  induction n generalizing ss with
  | zero =>
    obtain rfl : ss = [] := List.length_eq_zero_iff.mp hl
    have k0 : (keysS src)[0]? = some start := by unfold keysS; rw [List.getElem?_map, b.hd]; rfl
    by_cases h : 0 < p
    · exact .inl ⟨0, 0, h, k0, b.hd0, Nat.le_refl _⟩
    · exact .inr (hp 0 0 (by omega) b.hd0)
  | succ n ih =>
    obtain ⟨ts, a, rfl⟩ : ∃ ts a, ss = ts ++ [a] := ⟨ss.dropLast, ss.getLast (by intro z; rw [z] at hl; simp at hl), (List.dropLast_concat_getLast _).symm⟩
    have hl' : ts.length = n := by simpa using hl
    have e : runS step start (ts ++ [a]) = step (runS step start ts) a := by unfold runS; rw [List.foldl_append]; rfl
    rw [e, List.length_append, List.length_singleton]
    rcases ih ts (fun c m => ha c (List.mem_append_left _ m)) hl' with ⟨i, d, hi, hk, hd, hle⟩ | h
    · obtain ⟨i', d', hk', hd', hle'⟩ := b.clo i _ d hi hk hd a (ha a (by simp))
      by_cases hlt : i' < p
      · exact .inl ⟨i', d', hlt, hk', hd', by omega⟩
      · exact .inr (by have := hp i' d' (by omega) hd'; omega)
    · exact .inr (by omega)
theorem BI.all (b : BI step acts start univ src ds src.length) (ss : List β) (ha : ∀ a ∈ ss, a ∈ acts) : ∃ (i d : Nat), (keysS src)[i]? = some (runS step start ss) ∧ ds[i]? = some d ∧ d ≤ ss.length := by
  rcases b.near (dp := ss.length + 1) (fun i d h e => by have := (List.getElem?_eq_some_iff.mp e).1; rw [b.len] at this; omega) ss ha with ⟨i, d, _, h⟩ | h
  · exact ⟨i, d, h⟩
  · omega
theorem get_app {γ : Type} {l : List γ} {y : γ} {i : Nat} {x : γ} (h : l[i]? = some x) : (l ++ [y])[i]? = some x := by
  rw [List.getElem?_append_left (List.getElem?_eq_some_iff.mp h).1]
  exact h
theorem app_get {γ : Type} {l : List γ} {y : γ} {i : Nat} {x : γ} (h : (l ++ [y])[i]? = some x) : l[i]? = some x ∨ (i = l.length ∧ x = y) := by
  by_cases hi : i < l.length
  · rw [List.getElem?_append_left hi] at h
    exact .inl h
  · rw [List.getElem?_append_right (by omega)] at h
    have : i - l.length = 0 := by
      cases hj : i - l.length with
      | zero => rfl
      | succ j => rw [hj] at h; simp at h
    rw [this] at h
    simp at h
    exact .inr ⟨by omega, h.symm⟩
/-- one more found -/
theorem BI.add (b : BI step acts start univ src ds p) {x : α} {a : β} {dp : Nat} (hx : (keysS src)[p]? = some x) (hd : ds[p]? = some dp) (ha : a ∈ acts) (hn : step x a ∉ keysS src) (hu : step x a ∈ univ) : BI step acts start univ (src ++ [(step x a, some (x, a))]) (ds ++ [dp + 1]) p := by
  have hk := keysS_app src (step x a) (some (x, a))
  have hlk : (keysS src).length = src.length := by simp [keysS]
  have hpl : p < src.length := by rw [← hlk]; exact (List.getElem?_eq_some_iff.mp hx).1
  refine ⟨?_, get_app b.hd, get_app b.hd0, by simp [b.len], fun y m => ?_, fun i y q h0 hi => ?_, fun i j c d hij hi hj => ?_, fun i c d hc hi => ?_, fun j y dj hj hy hdj c hc => ?_⟩
  · rw [hk, List.nodup_append]
    exact ⟨b.nd, by simp, fun y hy z hz => by rw [List.mem_singleton.mp hz]; exact fun w => hn (w ▸ hy)⟩
  · rw [hk] at m
    rcases List.mem_append.mp m with m | m
    · exact b.uni y m
    · rw [List.mem_singleton.mp m]; exact hu
  · rw [hk]
    rcases app_get hi with hi | ⟨rfl, e⟩
    · obtain ⟨j, z, c, dj, h1, h2, h3, h4, h5, h6, h7⟩ := b.par i y q h0 hi
      exact ⟨j, z, c, dj, h1, h2, get_app h3, h4, h5, get_app h6, get_app h7⟩
    · cases e
      refine ⟨p, x, a, dp, rfl, hpl, get_app hx, ha, rfl, get_app hd, ?_⟩
      rw [← b.len, List.getElem?_append_right (Nat.le_refl _)]
      simp
  · rcases app_get hi with hi | ⟨hi, rfl⟩
    · rcases app_get hj with hj | ⟨hj, rfl⟩
      · exact b.mono i j c d hij hi hj
      · exact b.top i dp c hd hi
    · rcases app_get hj with hj | ⟨hj, rfl⟩
      · have := (List.getElem?_eq_some_iff.mp hj).1
        omega
      · exact Nat.le_refl _
  · rcases app_get hc with hc | ⟨hc, rfl⟩
    · rw [hd] at hc
      cases hc
      rcases app_get hi with hi | ⟨_, rfl⟩
      · exact b.top i dp d hd hi
      · exact Nat.le_refl _
    · rename_i hcp
      have hl := b.len
      omega
  · rw [hk] at hy
    have hj1 : (keysS src)[j]? = some y := by
      rcases app_get hy with h | ⟨h, _⟩
      · exact h
      · rw [hlk] at h; omega
    have hj2 : ds[j]? = some dj := by
      rcases app_get hdj with h | ⟨h, _⟩
      · exact h
      · rw [b.len] at h; omega
    obtain ⟨i, di, h1, h2, h3⟩ := b.clo j y dj hj hj1 hj2 c hc
    exact ⟨i, di, by rw [hk]; exact get_app h1, get_app h2, h3⟩
/-- the actions of the one in hand -/
theorem BI.push {x : α} (hu : ∀ y ∈ univ, ∀ a ∈ acts, step y a ∈ univ) : ∀ (as : List β) (src : Src α β) (ds : List Nat) (lv : List α), BI step acts start univ src ds p → (keysS src)[p]? = some x → lv = (keysS src).drop (p + 1) → (∀ a ∈ as, a ∈ acts) →
    ∃ ds', BI step acts start univ (pushA step x as src lv).1 ds' p ∧ (∃ t, (pushA step x as src lv).1 = src ++ t) ∧ (pushA step x as src lv).2 = (keysS (pushA step x as src lv).1).drop (p + 1) ∧ ∀ a ∈ as, ∃ (i di dp : Nat), (keysS (pushA step x as src lv).1)[i]? = some (step x a) ∧ ds'[i]? = some di ∧ ds'[p]? = some dp ∧ di ≤ dp + 1
  | [], src, ds, lv, b, hx, hl, ha => ⟨ds, b, ⟨[], by simp [pushA]⟩, hl, fun a m => by cases m⟩
  | a :: as, src, ds, lv, b, hx, hl, ha => by
    have hlk : (keysS src).length = src.length := by simp [keysS]
    have hpl : p < src.length := by rw [← hlk]; exact (List.getElem?_eq_some_iff.mp hx).1
    obtain ⟨dp, hd⟩ : ∃ dp, ds[p]? = some dp := ⟨_, List.getElem?_eq_getElem (by rw [b.len]; exact hpl)⟩
    have key : ∀ (src' : Src α β) (ds' : List Nat), BI step acts start univ src' ds' p → step x a ∈ keysS src' → ∃ (i di dp : Nat), (keysS src')[i]? = some (step x a) ∧ ds'[i]? = some di ∧ ds'[p]? = some dp ∧ di ≤ dp + 1 ∧ True ∨ ¬ p < src'.length := fun src' ds' b' m => by
      by_cases hp' : p < src'.length
      · obtain ⟨i, hi⟩ := List.getElem?_of_mem m
        have hil : i < src'.length := by have := (List.getElem?_eq_some_iff.mp hi).1; simpa [keysS] using this
        obtain ⟨e1', e1⟩ : ∃ e, ds'[i]? = some e := ⟨_, List.getElem?_eq_getElem (by rw [b'.len]; exact hil)⟩
        obtain ⟨e2', e2⟩ : ∃ e, ds'[p]? = some e := ⟨_, List.getElem?_eq_getElem (by rw [b'.len]; exact hp')⟩
        exact ⟨i, _, _, .inl ⟨hi, e1, e2, b'.top i _ _ e2 e1, trivial⟩⟩
      · exact ⟨0, 0, 0, .inr hp'⟩
    have fin : ∀ (src1 : Src α β) (ds1 : List Nat) (lv1 : List α), BI step acts start univ src1 ds1 p → (∃ t, src1 = src ++ t) → lv1 = (keysS src1).drop (p + 1) → step x a ∈ keysS src1 → ∃ ds', BI step acts start univ (pushA step x as src1 lv1).1 ds' p ∧ (∃ t, (pushA step x as src1 lv1).1 = src ++ t) ∧ (pushA step x as src1 lv1).2 = (keysS (pushA step x as src1 lv1).1).drop (p + 1) ∧ ∀ c ∈ a :: as, ∃ (i di dp : Nat), (keysS (pushA step x as src1 lv1).1)[i]? = some (step x c) ∧ ds'[i]? = some di ∧ ds'[p]? = some dp ∧ di ≤ dp + 1 := by
      intro src1 ds1 lv1 b1 ⟨t, ht⟩ hl1 hm
      have hx1 : (keysS src1)[p]? = some x := by
        rw [ht]
        unfold keysS at hx ⊢
        rw [List.map_append, List.getElem?_append_left (List.getElem?_eq_some_iff.mp hx).1]
        exact hx
      obtain ⟨ds', b', ⟨t', ht'⟩, hl', hc'⟩ := BI.push hu as src1 ds1 lv1 b1 hx1 hl1 (fun c m => ha c (List.mem_cons_of_mem _ m))
      refine ⟨ds', b', ⟨t ++ t', by rw [ht', ht, List.append_assoc]⟩, hl', fun c m => ?_⟩
      rcases List.mem_cons.mp m with rfl | m
      · have hm' : step x c ∈ keysS (pushA step x as src1 lv1).1 := by
          rw [ht']
          unfold keysS at hm ⊢
          rw [List.map_append]
          exact List.mem_append_left _ hm
        have hp' : p < (pushA step x as src1 lv1).1.length := by rw [ht', ht]; simp; omega
        obtain ⟨i, di, dp, h⟩ := key _ _ b' hm'
        rcases h with ⟨h1, h2, h3, h4, _⟩ | h
        · exact ⟨i, di, dp, h1, h2, h3, h4⟩
        · exact absurd hp' h
      · exact hc' c m
    unfold pushA
    split
    · rename_i hm
      exact fin src ds lv b ⟨[], by simp⟩ hl hm
    · rename_i hm
      refine fin _ (ds ++ [dp + 1]) _ (b.add hx hd (ha a List.mem_cons_self) hm (hu x (b.uni x (List.mem_of_getElem? hx)) a (ha a List.mem_cons_self))) ⟨_, rfl⟩ ?_ ?_
      · rw [keysS_app, hl, List.drop_append_of_le_length (by rw [hlk]; omega)]
      · rw [keysS_app]; simp
theorem pushA_ext (step : α → β → α) (x : α) : ∀ (as : List β) (src : Src α β) (lv : List α), ∃ t, (pushA step x as src lv).1 = src ++ t
  | [], src, lv => ⟨[], by simp [pushA]⟩
  | a :: as, src, lv => by
    unfold pushA
    split
    · exact pushA_ext step x as src lv
    · obtain ⟨t, h⟩ := pushA_ext step x as (src ++ [(step x a, some (x, a))]) (lv ++ [step x a])
      exact ⟨_, h.trans (List.append_assoc _ _ _)⟩
/-- a depth is at most the place -/
theorem BI.deep (b : BI step acts start univ src ds p) : ∀ (i d : Nat), ds[i]? = some d → d ≤ i := by
  intro i
  induction i using Nat.strongRecOn with
  | _ i ih =>
    intro d hd
    cases i with
    | zero => rw [b.hd0] at hd; cases hd; exact Nat.le_refl _
    | succ i =>
      have hl : i + 1 < src.length := by rw [← b.len]; exact (List.getElem?_eq_some_iff.mp hd).1
      obtain ⟨j, y, a, dj, _, hj, _, _, _, d1, d2⟩ := b.par (i + 1) _ _ (Nat.succ_pos i) (List.getElem?_eq_getElem hl)
      rw [hd] at d2
      cases d2
      have := ih j hj dj d1
      omega
/-- the next one -/
theorem BI.next {x : α} {lv : List α} (hu : ∀ y ∈ univ, ∀ a ∈ acts, step y a ∈ univ) (b : BI step acts start univ src ds p) (hl : x :: lv = (keysS src).drop p) :
    ∃ ds', BI step acts start univ (pushA step x acts src lv).1 ds' (p + 1) ∧ (pushA step x acts src lv).2 = (keysS (pushA step x acts src lv).1).drop (p + 1) := by
  have hx : (keysS src)[p]? = some x := by
    have := congrArg (fun l => l[0]?) hl
    simp only [List.getElem?_cons_zero, List.getElem?_drop, Nat.add_zero] at this
    exact this.symm
  have hlv : lv = (keysS src).drop (p + 1) := by
    have := congrArg List.tail hl
    simpa using this
  obtain ⟨ds', b', hext, hl', hc⟩ := BI.push (x := x) hu acts src ds lv b hx hlv (fun a m => m)
  refine ⟨ds', ⟨b'.nd, b'.hd, b'.hd0, b'.len, b'.uni, b'.par, b'.mono, fun i c d hc' hi => ?_, fun j y dj hj hy hdj a ha => ?_⟩, hl'⟩
  · have hlk : p < ds'.length := by have := (List.getElem?_eq_some_iff.mp hc').1; omega
    have e2 : ds'[p]? = some ds'[p] := List.getElem?_eq_getElem hlk
    have h1 := b'.top i _ d e2 hi
    have h2 := b'.mono p (p + 1) _ c (by omega) e2 hc'
    omega
  · by_cases hjp : j < p
    · exact b'.clo j y dj hjp hy hdj a ha
    · obtain rfl : j = p := by omega
      have ey : y = x := by
        obtain ⟨t, ht⟩ := hext
        have : (keysS (pushA step x acts src lv).1)[j]? = some x := by
          rw [ht]
          unfold keysS at hx ⊢
          rw [List.map_append, List.getElem?_append_left (List.getElem?_eq_some_iff.mp hx).1]
          exact hx
        rw [hy] at this
        exact Option.some.inj this
      subst ey
      obtain ⟨i, di, dp, h1, h2, h3, h4⟩ := hc a ha
      rw [hdj] at h3
      cases h3
      exact ⟨i, di, h1, h2, h4⟩
theorem bi_start (h : start ∈ univ) : BI step acts start univ [(start, none)] [0] 0 := by
  refine ⟨by simp [keysS], rfl, rfl, rfl, fun x m => ?_, fun i x q h0 hi => ?_, fun i j a b _ hi hj => ?_, fun i a b ha hb => ?_, fun j y dj hj => by omega⟩
  · simp [keysS] at m; rw [m]; exact h
  · cases i with
    | zero => omega
    | succ i => simp at hi
  · cases i with
    | zero =>
      simp at hi
      omega
    | succ i => simp at hi
  · cases i with
    | zero =>
      simp at hb
      omega
    | succ i => simp at hb
/-! the search itself -/
def bfsGo (step : α → β → α) (acts : List β) (bad : α → Bool) : Nat → Src α β → List α → Option (Option α × Src α β)
  | 0, _, _ => none
  | n + 1, src, [] => some (none, src)
  | n + 1, src, x :: lv => if bad x then some (some x, src) else bfsGo step acts bad n (pushA step x acts src lv).1 (pushA step x acts src lv).2
/-- what the search gives -/
def Found (step : α → β → α) (acts : List β) (start : α) (univ : List α) (bad : α → Bool) : Option α × Src α β → Prop
  | (none, src) => ∃ ds, BI step acts start univ src ds src.length ∧ ∀ x ∈ keysS src, bad x = false
  | (some x, src) => bad x = true ∧ ∃ ds p, BI step acts start univ src ds p ∧ (keysS src)[p]? = some x ∧ ∀ i y, i < p → (keysS src)[i]? = some y → bad y = false
theorem bfs_found {bad : α → Bool} (hu : ∀ y ∈ univ, ∀ a ∈ acts, step y a ∈ univ) : ∀ (n : Nat) (src : Src α β) (ds : List Nat) (p : Nat) (lv : List α), BI step acts start univ src ds p → p ≤ src.length → lv = (keysS src).drop p → (∀ i y, i < p → (keysS src)[i]? = some y → bad y = false) → univ.length < n + p →
    ∃ r, bfsGo step acts bad n src lv = some r ∧ Found step acts start univ bad r
  | 0, src, ds, p, lv, b, hp, hl, hb, hn => by have := b.size; omega
  | n + 1, src, ds, p, [], b, hp, hl, hb, hn => by
    have hlk : (keysS src).length = src.length := by simp [keysS]
    have : p = src.length := by
      have := congrArg List.length hl
      rw [List.length_drop, hlk] at this
      simp at this
      omega
    subst this
    refine ⟨_, rfl, ds, b, fun x m => ?_⟩
    obtain ⟨i, hi⟩ := List.getElem?_of_mem m
    exact hb i x (by rw [← hlk]; exact (List.getElem?_eq_some_iff.mp hi).1) hi
  | n + 1, src, ds, p, x :: lv, b, hp, hl, hb, hn => by
    have hx : (keysS src)[p]? = some x := by
      have := congrArg (fun l => l[0]?) hl
      simp only [List.getElem?_cons_zero, List.getElem?_drop, Nat.add_zero] at this
      exact this.symm
    rw [bfsGo]
    cases hbx : bad x with
    | true => exact ⟨_, rfl, hbx, ds, p, b, hx, hb⟩
    | false =>
      obtain ⟨ds', b', hl'⟩ := b.next hu hl
      have hpl : p < src.length := by have := (List.getElem?_eq_some_iff.mp hx).1; simpa [keysS] using this
      obtain ⟨t, ht⟩ := pushA_ext step x acts src lv
      refine bfs_found hu n _ ds' (p + 1) _ b' (by rw [ht]; simp; omega) hl' (fun i y hi hy => ?_) (by omega)
      have hy' : (keysS src)[i]? = some y := by
        rw [ht] at hy
        unfold keysS at hy ⊢
        rw [List.map_append, List.getElem?_append_left (by simp; omega)] at hy
        exact hy
      by_cases hip : i < p
      · exact hb i y hip hy'
      · obtain rfl : i = p := by omega
        rw [hx] at hy'
        cases hy'
        exact hbx
/-- none found -/
theorem found_none {bad : α → Bool} {src : Src α β} (h : Found step acts start univ bad (none, src)) (ss : List β) (ha : ∀ a ∈ ss, a ∈ acts) : bad (runS step start ss) = false := by
  obtain ⟨ds, b, hb⟩ := h
  obtain ⟨i, d, h1, _⟩ := b.all ss ha
  exact hb _ (List.mem_of_getElem? h1)
theorem found_some {bad : α → Bool} {src : Src α β} {x : α} (h : Found step acts start univ bad (some x, src)) : ∃ ss, PathTo src x ss ∧ (∀ a ∈ ss, a ∈ acts) ∧ runS step start ss = x ∧ bad x = true ∧ ss.length ≤ univ.length ∧ ∀ ts, (∀ a ∈ ts, a ∈ acts) → bad (runS step start ts) = true → ss.length ≤ ts.length := by
  obtain ⟨hbx, ds, p, b, hx, hb⟩ := h
  obtain ⟨ss, h1, h2, h3, h4⟩ := b.path p x hx
  refine ⟨ss, h1, h3, h4, hbx, ?_, fun ts ht hbt => ?_⟩
  · exact Nat.le_trans (b.deep p _ h2) (Nat.le_trans (Nat.le_of_lt (by have := (List.getElem?_eq_some_iff.mp h2).1; rw [b.len] at this; exact this)) b.size)
  · rcases b.near (dp := ss.length) (fun i d hi e => b.mono p i _ d hi h2 e) ts ht with ⟨i, d, hi, hk, _⟩ | h
    · rw [hb i _ hi hk] at hbt
      cases hbt
    · exact h
end
end FG

namespace FG
open PySem PySem.Spec PyProof.Rows L2
/-! ### rows of answers of a form -/
def RowOk : List Fld → Row → Prop
  | [], [] => True
  | f :: fm, o :: r => (∀ w, o = some w → w ∈ f.words) ∧ RowOk fm r
  | _, _ => False
theorem RowOk.len : ∀ {fm : List Fld} {r : Row}, RowOk fm r → r.length = fm.length
  | [], [], _ => rfl
  | f :: fm, o :: r, h => by simp [RowOk.len h.2]
  | [], _ :: _, h => h.elim
  | _ :: _, [], h => h.elim
theorem rowOk_none : ∀ fm : List Fld, RowOk fm (noneM fm)
  | [] => trivial
  | f :: fm => ⟨(fun w e => by cases e), rowOk_none fm⟩
def allRows : List Fld → List Row
  | [] => [[]]
  | f :: fm => (none :: f.words.map some).flatMap fun o => (allRows fm).map (o :: ·)
theorem mem_allRows : ∀ {fm : List Fld} {r : Row}, RowOk fm r → r ∈ allRows fm
  | [], [], _ => by simp [allRows]
  | f :: fm, o :: r, h => by
    simp only [allRows, List.mem_flatMap, List.mem_map]
    refine ⟨o, ?_, r, mem_allRows h.2, rfl⟩
    cases o with
    | none => simp
    | some w => simp [h.1 w rfl]
  | [], _ :: _, h => h.elim
  | _ :: _, [], h => h.elim
theorem of_allRows : ∀ {fm : List Fld} {r : Row}, r ∈ allRows fm → RowOk fm r
  | [], r, h => by simp [allRows] at h; subst h; trivial
  | f :: fm, r, h => by
    simp only [allRows, List.mem_flatMap, List.mem_map] at h
    obtain ⟨o, ho, r', hr, rfl⟩ := h
    refine ⟨fun w e => ?_, of_allRows hr⟩
    subst e
    simpa using ho
theorem len_flat {γ δ : Type} (l : List γ) (f : γ → List δ) (n : Nat) (h : ∀ x ∈ l, (f x).length = n) : (l.flatMap f).length = l.length * n := by
  induction l with
  | nil => simp
  | cons x l ih =>
    rw [List.flatMap_cons, List.length_append, h x List.mem_cons_self, ih fun y m => h y (List.mem_cons_of_mem _ m), List.length_cons, Nat.add_mul, Nat.one_mul, Nat.add_comm]
theorem allRows_len : ∀ fm : List Fld, (∀ f ∈ fm, f.words.length ≤ 3) → (allRows fm).length ≤ 4 ^ fm.length
  | [], _ => by simp [allRows]
  | f :: fm, h => by
    have ih := allRows_len fm fun g m => h g (List.mem_cons_of_mem _ m)
    have hf := h f List.mem_cons_self
    rw [allRows, len_flat _ _ (allRows fm).length (fun o _ => by simp)]
    simp only [List.length_cons, List.length_map, Nat.pow_succ]
    rw [Nat.mul_comm]
    exact Nat.mul_le_mul ih (by omega)
/-! what is seen -/
def VisOk (e : Ear) (vis : Dic) : Prop := ∀ n v, dget vis n = some v → ∃ ws, e.lookup n = some ws ∧ v ∈ ws
theorem ear_app (e : Ear) {n : Str} {ws : List Str} (m : Str) (vs : List Str) (h : e.lookup n = some ws) : (e ++ [(m, vs)]).lookup n = some ws := by
  rw [List.lookup_append, h]
  rfl
theorem VisOk.val {e : Ear} {vis : Dic} {f : Fld} {a : Option Str} (h : VisOk e vis) (o : FldOk e f) (ha : ∀ w, a = some w → w ∈ f.words) : ∀ w, valM f a vis = some w → w ∈ f.words := by
  intro w hw
  cases a with
  | some x => exact ha w hw
  | none =>
    have hw' : f.src.bind (dget vis) = some w := hw
    cases hs : f.src with
    | none => rw [hs] at hw'; cases hw'
    | some s =>
      rw [hs] at hw'
      obtain ⟨ws, h1, h2⟩ := h s w hw'
      rw [(o.src s hs).2] at h1
      cases h1
      exact h2
theorem VisOk.next {e : Ear} {vis : Dic} {f : Fld} {a : Option Str} (h : VisOk e vis) (o : FldOk e f) (ha : ∀ w, a = some w → w ∈ f.words) : VisOk (e ++ [(f.name, f.words)]) (nextM f a vis) := by
  intro n v hv
  unfold nextM at hv
  split at hv
  · rw [dget_put] at hv
    split at hv
    · rename_i hn
      subst hn
      refine ⟨f.words, ?_, h.val o ha v hv⟩
      rw [List.lookup_append, lookup_none o.new]
      simp [List.lookup]
    · obtain ⟨ws, h1, h2⟩ := h n v hv
      exact ⟨ws, ear_app e _ _ h1, h2⟩
  · obtain ⟨ws, h1, h2⟩ := h n v hv
    exact ⟨ws, ear_app e _ _ h1, h2⟩
theorem ref1_ok : ∀ {fm : List Fld} {e : Ear} {r : Row} {vis : Dic}, FmOk e fm → VisOk e vis → RowOk fm r → RowOk fm (ref1 fm r vis) ∧ VisOk (e ++ fm.map fun f => (f.name, f.words)) (ref2 fm r vis)
  | [], e, [], vis, _, hv, _ => ⟨trivial, by simpa [ref2] using hv⟩
  | f :: fm, e, a :: r, vis, .cons o k, hv, h => by
    obtain ⟨h1, h2⟩ := ref1_ok k (hv.next o h.1) h.2
    refine ⟨⟨fun w hw => ?_, h1⟩, by simpa [ref2] using h2⟩
    unfold headM at hw
    split at hw
    · exact hv.val o h.1 w hw
    · split at hw
      · cases hw
      · exact h.1 w hw
  | [], e, _ :: _, _, _, _, h => h.elim
  | _ :: _, e, [], _, _, _, h => h.elim
theorem rowOk_set : ∀ {fm : List Fld} {r : Row} {i : Nat} {f : Fld} {v : Option Str}, RowOk fm r → fm[i]? = some f → (∀ w, v = some w → w ∈ f.words) → RowOk fm (r.set i v)
  | [], [], i, f, v, _, h, _ => by simp at h
  | g :: fm, o :: r, 0, f, v, h, hi, hv => by simp at hi; subst hi; exact ⟨hv, h.2⟩
  | g :: fm, o :: r, i + 1, f, v, h, hi, hv => ⟨h.1, rowOk_set h.2 (by simpa using hi) hv⟩
  | [], _ :: _, _, _, _, h, _, _ => h.elim
  | _ :: _, [], _, _, _, h, _, _ => h.elim
/-- an action of the form -/
theorem act_word {fm : List Fld} (hn : (fm.map (·.name)).Nodup) {a : Act} (m : a ∈ movesM fm []) : ∃ f, fm[atM fm a.nm]? = some f ∧ f.name = a.nm ∧ ∀ w, a.val = some w → w ∈ f.words := by
  rw [movesM_app, List.nil_append, List.mem_flatMap] at m
  obtain ⟨g, hg, m⟩ := m
  have hnm : g.name = a.nm ∧ ∀ w, a.val = some w → w ∈ g.words := by
    simp only [movF, List.mem_append, List.mem_map, List.mem_singleton] at m
    rcases m with ⟨w, hw, rfl⟩ | rfl
    · exact ⟨rfl, fun v e => by cases e; exact hw⟩
    · exact ⟨rfl, fun v e => by cases e⟩
  obtain ⟨f, hf, e⟩ := at_get (fm := fm) (n := a.nm) (by rw [← hnm.1]; exact List.mem_map_of_mem hg)
  obtain ⟨i, hi⟩ := List.getElem?_of_mem hg
  have : atM fm a.nm = i := nd_inj hn hf hi (e.trans hnm.1.symm)
  rw [this] at hf ⊢
  rw [hi] at hf
  cases hf
  exact ⟨g, hi, hnm.1, hnm.2⟩
theorem step_ok {fm : List Fld} (ok : FmOk [] fm) (hn : (fm.map (·.name)).Nodup) {r : Row} (h : RowOk fm r) {a : Act} (m : a ∈ movesM fm []) : RowOk fm (stepM fm r a) := by
  unfold stepM
  split
  · obtain ⟨f, hf, _, hw⟩ := act_word hn m
    have hlt : atM fm a.nm < r.length := by rw [h.len]; exact (List.getElem?_eq_some_iff.mp hf).1
    rw [ansM_eq, replM_set _ hlt]
    exact (ref1_ok ok (fun n v z => by cases z) (rowOk_set h hf hw)).1
  · exact h
theorem kept_ok {fm : List Fld} (hn : (fm.map (·.name)).Nodup) {r c : Row} (h : RowOk fm c) {a : Act} (m : a ∈ movesM fm []) : RowOk fm (keptM fm r c a) := by
  unfold keptM
  split
  · obtain ⟨f, hf, _, hw⟩ := act_word hn m
    have hlt : atM fm a.nm < c.length := by rw [h.len]; exact (List.getElem?_eq_some_iff.mp hf).1
    rw [replM_set _ hlt]
    exact rowOk_set h hf hw
  · exact h
/-! pairs of rows -/
def allPairs (fm gm : List Fld) : List (Row × Row) := (allRows fm).flatMap fun a => (allRows gm).map fun b => (a, b)
theorem mem_pairs {fm gm : List Fld} {p : Row × Row} : p ∈ allPairs fm gm ↔ RowOk fm p.1 ∧ RowOk gm p.2 := by
  obtain ⟨a, b⟩ := p
  simp only [allPairs, List.mem_flatMap, List.mem_map, Prod.mk.injEq]
  constructor
  · rintro ⟨x, hx, y, hy, rfl, rfl⟩
    exact ⟨of_allRows hx, of_allRows hy⟩
  · rintro ⟨h1, h2⟩
    exact ⟨a, mem_allRows h1, b, mem_allRows h2, rfl, rfl⟩
theorem allRows_small {fm : List Fld} (hw : ∀ f ∈ fm, f.words.length ≤ 3) (hl : fm.length ≤ 4) : (allRows fm).length ≤ 256 := by
  refine Nat.le_trans (allRows_len fm hw) ?_
  have : 4 ^ fm.length ≤ 4 ^ 4 := Nat.pow_le_pow_right (by decide) hl
  exact this
theorem pairs_small {fm gm : List Fld} (hw : ∀ f ∈ fm, f.words.length ≤ 3) (hl : fm.length ≤ 4) (gw : ∀ f ∈ gm, f.words.length ≤ 3) (gl : gm.length ≤ 4) : (allPairs fm gm).length ≤ 65536 := by
  unfold allPairs
  rw [len_flat _ _ (allRows gm).length (fun o _ => by simp)]
  exact Nat.mul_le_mul (allRows_small hw hl) (allRows_small gw gl)
end FG

namespace FG
open PySem PySem.Spec PyProof.Rows L2
/-- the defs of the program that sessions need -/
structure BA (fs : List Df) : Prop where
  b1 : B1 fs
  b2 : B2 fs
  bs : BS fs
  h9 : fs[9]? = some d_collected
  h18 : fs[18]? = some d_kept_choices
  h19 : fs[19]? = some d_played
  h20 : fs[20]? = some d_collect
  h21 : fs[21]? = some d_shown
  h22 : fs[22]? = some d_last
  h23 : fs[23]? = some d_straight_for
  h24 : fs[24]? = some d_straight
/-- the law's helpers that draw -/
structure BE (fs : List Df) : Prop where
  bd : BD fs
  h29 : fs[29]? = some d_law_moves
/-- the law's own sessions -/
structure BF (fs : List Df) : Prop where
  bl : BL fs
  h34 : fs[34]? = some d_law_straight
theorem FG1.mono {fm : List Fld} {k j : Nat} (h : FG1 fm k) (l : k ≤ j) : FG1 fm j := ⟨h.ok, h.nm, h.wl, fun f m => Nat.le_trans (h.dep f m) l, h.ne, h.le⟩
theorem FG1.sz {fm : List Fld} {k : Nat} (h : FG1 fm k) : Sz fm k := ⟨h.dep, by have := h.le; omega⟩
theorem fmok_names : ∀ {e : Ear} {fm : List Fld}, FmOk e fm → (e.map (·.1)).Nodup → (e.map (·.1) ++ fm.map (·.name)).Nodup
  | e, _, .nil, h => by simpa using h
  | e, f :: fm, .cons o r, h => by
    have h1 : ((e ++ [(f.name, f.words)]).map (·.1)).Nodup := by
      rw [List.map_append, List.nodup_append]
      exact ⟨h, by simp, fun a ha b hb => by
        simp only [List.map_cons, List.map_nil, List.mem_singleton] at hb
        subst hb
        exact fun z => o.new (z ▸ ha)⟩
    have := fmok_names r h1
    simpa using this
theorem FG1.nd {fm : List Fld} {k : Nat} (h : FG1 fm k) : (fm.map (·.name)).Nodup := by simpa using fmok_names h.ok (by simp)
section
variable {fs : List Df} {F k : Nat} {S : Sto}
theorem c_is_form (b : BA fs) {fm : List Fld} (o : FG1 fm 3) : callK fs F (k + 12) 4 [formD fm] S = some (.bl true, S) :=
  e_is_form (k := k + 8) b.b1 o.ok (fun f m => Nat.le_trans (o.dep f m) (by omega)) o.ne o.le
theorem c_need_form (b : BA fs) {fm : List Fld} (o : FG1 fm 3) : callK fs F (k + 12) 5 [formD fm] S = some (.non, S) :=
  e_need_form (k := k + 7) b.b1 b.bs.h5 o.ok (fun f m => Nat.le_trans (o.dep f m) (by omega)) o.ne o.le
theorem c_is_session (b : BA fs) {fm : List Fld} (o : FG1 fm 3) {ss : List Act} (hm : ∀ a ∈ ss, a ∈ movesM fm []) (hl : ss.length ≤ 12) : callK fs F (k + 12) 16 [formD fm, sesD ss] S = some (.bl true, S) :=
  e_is_session (k := k + 6) b.b1 b.bs (o.mono (by omega)) hm hl
theorem c_collect (b : BA fs) {fm : List Fld} (o : FG1 fm 3) {ss : List Act} (hm : ∀ a ∈ ss, a ∈ movesM fm []) (hl : ss.length ≤ 12) : callK fs F (k + 12) 20 [formD fm, sesD ss] S = some (dD (collM fm (plA fm ss)), S) :=
  e_collect (k := k + 6) b.b2 b.h9 b.h18 b.h19 b.h20 (o.mono (by omega)).sz o.ne ss (e_need_session (k := k + 4) b.b1 b.bs (o.mono (by omega)) hm hl)
theorem c_shown (b : BA fs) {fm : List Fld} (o : FG1 fm 3) {ss : List Act} (hm : ∀ a ∈ ss, a ∈ movesM fm []) (hl : ss.length ≤ 12) : callK fs F (k + 12) 21 [formD fm, sesD ss] S = some (.lst ((visM fm (plA fm ss)).map fun p => .str p.1), S) :=
  e_shown (k := k + 6) b.b2 b.h18 b.h19 b.h21 (o.mono (by omega)).sz o.ne ss (e_need_session (k := k + 4) b.b1 b.bs (o.mono (by omega)) hm hl)
theorem c_last (b : BA fs) {fm : List Fld} (o : FG1 fm 3) {ss : List Act} (hm : ∀ a ∈ ss, a ∈ movesM fm []) (hl : ss.length ≤ 12) : callK fs F (k + 12) 22 [formD fm, sesD ss] S = some (dD (lastM fm (plC fm ss)), S) :=
  e_last (k := k + 6) b.b2 b.h18 b.h19 b.h22 (o.mono (by omega)).sz o.ne o.nd ss (e_need_session (k := k + 4) b.b1 b.bs (o.mono (by omega)) hm hl)
theorem c_straight (b : BA fs) {fm : List Fld} (o : FG1 fm 3) {ss : List Act} (hm : ∀ a ∈ ss, a ∈ movesM fm []) (hl : ss.length ≤ 12) : callK fs F (k + 12) 24 [formD fm, sesD ss] S = some (sesD (straM fm (plC fm ss)), S) :=
  e_straight (k := k + 6) b.b2 b.h18 b.h19 b.h23 b.h24 (o.mono (by omega)).sz o.ne ss (e_need_session (k := k + 4) b.b1 b.bs (o.mono (by omega)) hm hl)
theorem c_run (b : BF fs) {fm : List Fld} (o : FG1 fm 3) (ss : List Act) : callK fs F (k + 12) 33 [formD fm, sesD ss] S = some (.tup [dD (someM (rSeen fm ss)), dD (rChos fm ss), .lst ((rSeen fm ss).map fun p => .str p.1)], S) :=
  e_run (k := k + 8) b.bl.h30 b.bl.h31 b.bl.h32 b.bl.h33 (o.mono (by omega)).sz ss
theorem c_lstraight (b : BF fs) {fm : List Fld} (o : FG1 fm 3) (ss : List Act) : callK fs F (k + 12) 34 [formD fm, dD (rChos fm ss)] S = some (sesD (lstrL fm (rChos fm ss) fm []), S) :=
  e_lstraight (k := k + 7) b.bl b.h34 (o.mono (by omega)).sz o.nm fun p m => by
    unfold rChos someM at m
    exact (List.mem_filter.mp m).2
theorem c_moves (b : BE fs) {fm : List Fld} (o : FG1 fm 3) : callK fs F (k + 12) 29 [formD fm] S = some (sesD (movesM fm []), S) :=
  e_moves (k := k + 11) b.h29 o.wl (by have := o.le; omega)
theorem moves_ne {fm : List Fld} (h : fm ≠ []) : movesM fm [] ≠ [] := by
  rw [movesM_app, List.nil_append]
  cases fm with
  | nil => exact absurd rfl h
  | cons f fm => simp [movF]
theorem moves_len {fm : List Fld} (o : FG1 fm 3) : (movesM fm []).length ≤ 16 := by
  rw [movesM_app, List.nil_append]
  have : ∀ l : List Fld, (∀ f ∈ l, f.words.length ≤ 3) → (l.flatMap movF).length ≤ l.length * 4 := by
    intro l
    induction l with
    | nil => intro _; simp
    | cons f l ih =>
      intro h
      have h1 := h f List.mem_cons_self
      have h2 := ih fun g m => h g (List.mem_cons_of_mem _ m)
      simp only [List.flatMap_cons, List.length_append, movF, List.length_map, List.length_cons, List.length_nil]
      omega
  have h1 := this fm o.wl
  have h2 := o.le
  omega
/-! ### sessions that a law draws -/
theorem lc_draw {P : D → Prop} {bind : D → Option En} {test : En → Sto → Option (Bool × Sto)} {elt : En → Sto → Option (D × Sto)} (hb : ∀ d, ∃ e, bind d = some e ∧ (∀ a t, test e (town a t) = some (true, town a t)) ∧ ∀ a t, ∃ d a' t', P d ∧ elt e (town a t) = some (d, town a' t')) :
    ∀ (xs acc : List D) (a t : Nat), acc.length + xs.length ≤ big → (∀ d ∈ acc, P d) → ∃ ds a' t', lcGo bind test elt xs (town a t) acc = some (ds, town a' t') ∧ (∀ d ∈ ds, P d) ∧ ds.length = acc.length + xs.length
  | [], acc, a, t, _, h => ⟨acc, a, t, rfl, h, rfl⟩
  | x :: xs, acc, a, t, hl, h => by
    simp only [List.length_cons] at hl
    obtain ⟨e, h1, h2, h3⟩ := hb x
    obtain ⟨d, a1, t1, hp, h4⟩ := h3 a t
    obtain ⟨ds, a', t', h5, h6, h7⟩ := lc_draw hb xs (acc ++ [d]) a1 t1 (by simp; omega) (fun y m => by
      rcases List.mem_append.mp m with m | m
      · exact h y m
      · rw [List.mem_singleton.mp m]; exact hp)
    refine ⟨ds, a', t', ?_, h6, by rw [h7]; simp; omega⟩
    simp only [lcGo, h1, h2, h4, Option.bind_some, if_true]
    rw [if_pos (by omega)]
    exact h5
theorem ev_lcG {c : Calls} {own : List Nat} {tg : Tg} {ik : IK} {its ifs : List E} {elt : E} {env : En} {S S1 S2 : Sto} {ds items es : List D} (h1 : evcs c its env S = some (ds, S1)) (h0 : ik ≠ .keys) (h2 : itemsF ik ds = some items)
    (h3 : lcGo (fun d => bindT tg d (wipeE env own)) (fun e S => evts c ifs e S) (fun e S => ev c elt e S) items S1 [] = some (es, S2)) : ev c (.lc own tg ik its ifs elt) env S = some (.lst es, S2) := by
  cases ik with
  | keys => exact absurd rfl h0
  | _ => simp only [ev, h1, Option.bind_some, h2, h3, Option.map_some]
theorem acts_of : ∀ (ds : List D) (l : List Act), (∀ d ∈ ds, d ∈ l.map Act.d) → ∃ ss : List Act, ds = ss.map Act.d ∧ ∀ a ∈ ss, a ∈ l
  | [], l, _ => ⟨[], rfl, fun a m => by cases m⟩
  | d :: ds, l, h => by
    obtain ⟨ss, e, hs⟩ := acts_of ds l fun x m => h x (List.mem_cons_of_mem _ m)
    obtain ⟨a, ha, e'⟩ := List.mem_map.mp (h d List.mem_cons_self)
    exact ⟨a :: ss, by rw [e, ← e']; rfl, fun b m => by
      rcases List.mem_cons.mp m with m | m
      · rw [m]; exact ha
      · exact hs b m⟩
theorem range_items (n : Nat) (h : n ≤ 1000) : itemsF .range [.int (n : Nat)] = some ((List.range n).map fun (i : Nat) => D.int i) := by
  simp only [itemsF]
  rw [if_pos (by simp; omega)]
  simp
end
end FG

namespace FG
open PySem PySem.Spec PyProof.Rows L2
/-! ### states as keys -/
structure Enc (α : Type) where
  d : α → D
  k : α → NK
  key : ∀ x, keyT (d x) = some (k x)
  inj : ∀ x y, k x = k y → x = y
def oK : Option Str → NK
  | none => .none
  | some s => .text s
theorem oK_inj : ∀ a b : Option Str, oK a = oK b → a = b
  | none, none, _ => rfl
  | some x, some y, h => by cases h; rfl
  | none, some _, h => by cases h
  | some _, none, h => by cases h
theorem key_oD (a : Option Str) : keyOf (oD a) = some (oK a) := by cases a <;> rfl
theorem keys_row : ∀ as : Row, keysOf (as.map oD) = some (as.map oK)
  | [] => rfl
  | a :: as => by simp only [List.map_cons, keysOf, key_oD, keys_row as]
theorem depth_row : ∀ as : Row, NestedKey.depthAll (as.map oK) = 0
  | [] => rfl
  | a :: as => by
    have : (oK a).depth = 0 := by cases a <;> rfl
    simp only [List.map_cons, NestedKey.depthAll, this, depth_row as, Nat.max_self]
theorem row_inj : ∀ as bs : Row, as.map oK = bs.map oK → as = bs
  | [], [], _ => rfl
  | a :: as, b :: bs, h => by
    simp only [List.map_cons, List.cons.injEq] at h
    rw [oK_inj a b h.1, row_inj as bs h.2]
  | [], _ :: _, h => by cases h
  | _ :: _, [], h => by cases h
def encRow : Enc Row where
  d := ansD
  k := fun as => .tup (as.map oK)
  key := fun as => by simp only [keyT, ansD, keys_row, Option.bind_some, NestedKey.depth, depth_row]; rfl
  inj := fun as bs h => row_inj as bs (NestedKey.tup.inj h)
def encPair : Enc (Row × Row) where
  d := fun p => .tup [ansD p.1, ansD p.2]
  k := fun p => .tup [.tup (p.1.map oK), .tup (p.2.map oK)]
  key := fun p => by
    have h1 : keyOf (ansD p.1) = some (.tup (p.1.map oK)) := by simp only [ansD, keyOf, keys_row, Option.map_some]
    have h2 : keyOf (ansD p.2) = some (.tup (p.2.map oK)) := by simp only [ansD, keyOf, keys_row, Option.map_some]
    simp only [keyT, keysOf, h1, h2, Option.bind_some, NestedKey.depth, NestedKey.depthAll, depth_row]
    rfl
  inj := fun p q h => by
    simp only [NestedKey.tup.injEq, List.cons.injEq, and_true] at h
    exact Prod.ext (row_inj _ _ h.1) (row_inj _ _ h.2)
section
variable {α : Type} [DecidableEq α] (E : Enc α)
def parD : Option (α × Act) → D
  | none => .non
  | some (y, a) => .tup [E.d y, a.d]
def srcD (src : Src α Act) : D := .ndc (src.map fun e => E.k e.1) (src.map fun e => parD E e.2)
theorem look_src : ∀ (src : Src α Act) (x : α), dLook (src.map fun e => E.k e.1) (src.map fun e => parD E e.2) (E.k x) = (src.lookup x).map (parD E)
  | [], x => rfl
  | (y, q) :: src, x => by
    simp only [List.map_cons, dLook]
    by_cases h : y = x
    · subst h
      simp [List.lookup]
    · have h' : ¬ E.k y = E.k x := fun z => h (E.inj y x z)
      have h2 : (x == y) = false := by simpa using fun z : x = y => h z.symm
      rw [if_neg h', look_src src x]
      simp [List.lookup, h2]
theorem look_isSome_src (src : Src α Act) (x : α) : (src.lookup x).isSome = decide (x ∈ keysS src) := by
  induction src with
  | nil => rfl
  | cons e src ih =>
    obtain ⟨y, q⟩ := e
    by_cases h : x = y
    · subst h; simp [List.lookup, keysS]
    · have h2 : (x == y) = false := by simpa using h
      have e : x ∈ keysS ((y, q) :: src) ↔ x ∈ keysS src := by simp [keysS, h]
      simp only [List.lookup, h2, ih]
      exact decide_eq_decide.mpr e.symm
theorem in_src (src : Src α Act) (x : α) : inF (E.d x) (srcD E src) = some (decide (x ∈ keysS src)) := by
  have e : inF (E.d x) (srcD E src) = (keyT (E.d x)).map fun nk => (dLook (src.map fun e => E.k e.1) (src.map fun e => parD E e.2) nk).isSome := by
    unfold srcD
    cases hd : E.d x <;> rfl
  rw [e, E.key, Option.map_some, look_src, Option.isSome_map, look_isSome_src]
theorem in_srcT {src : Src α Act} {x : α} (h : x ∈ keysS src) : inF (E.d x) (srcD E src) = some true := by rw [in_src, decide_eq_true h]
theorem in_srcF {src : Src α Act} {x : α} (h : x ∉ keysS src) : inF (E.d x) (srcD E src) = some false := by rw [in_src, decide_eq_false h]
theorem idx_src (S : Sto) (src : Src α Act) (x : α) : idxS S (srcD E src) (E.d x) = (src.lookup x).map (parD E) := by
  have e : idxS S (srcD E src) (E.d x) = (keyT (E.d x)).bind fun nk => dLook (src.map fun e => E.k e.1) (src.map fun e => parD E e.2) nk := rfl
  rw [e, E.key, Option.bind_some, look_src]
theorem set_src {src : Src α Act} {x : α} (q : Option (α × Act)) (hn : x ∉ keysS src) (hl : src.length < big) : setF (srcD E src) (E.d x) (parD E q) = some (srcD E (src ++ [(x, q)])) := by
  have e : setF (srcD E src) (E.d x) (parD E q) = (keyT (E.d x)).bind fun nk => if (src.map fun e => E.k e.1).length < big then (let z := dPut (src.map fun e => E.k e.1) (src.map fun e => parD E e.2) nk (parD E q); some (.ndc z.1 z.2)) else none := rfl
  have hx : E.k x ∉ src.map fun e => E.k e.1 := fun z => by
    obtain ⟨e, he, h⟩ := List.mem_map.mp z
    exact hn (List.mem_map.mpr ⟨e, he, E.inj _ _ h⟩)
  rw [e, E.key, Option.bind_some, List.length_map, if_pos hl, dPut_new hx]
  simp only [srcD, List.map_append, List.map_cons, List.map_nil]
/-! ### session_to -/
variable {E} {fs : List Df} {F k : Nat} {S : Sto}
def whlOf : List FG.S → FG.E × List FG.S
  | .whl c b :: _ => (c, b)
  | _ => (.con .non, [])
theorem par_isnot (q : Option (α × Act)) : isF (parD E q) .non = some q.isNone := by
  cases q with
  | none => rfl
  | some p => rfl
theorem to_loop {src : Src α Act} {c : Calls} {x : α} {ss : List Act} (h : PathTo src x ss) : ∀ (n : Nat) (acc : List Act) (x3 : Option Ent), ss.length < n → ss.length + acc.length ≤ 1000000 →
    ∃ y1 y3, whlGo (fun e S => ev c (whlOf (d_session_to.body.drop 1)).1 e S) (fun e S => execs c F (whlOf (d_session_to.body.drop 1)).2 e S) n [some (.sh (srcD E src)), some (.sh (E.d x)), some (.ow (sesD acc)), x3] S = some (.nx [some (.sh (srcD E src)), y1, some (.ow (sesD (acc ++ ss.reverse))), y3] S) := by
  induction h with
  | @root x hx =>
    intro n acc x3 hn hl
    cases n with
    | zero => omega
    | succ n =>
      have hi := idx_src E S src x
      rw [hx] at hi
      refine ⟨some (.sh (E.d x)), x3, ?_⟩
      have ht : ev c (whlOf (d_session_to.body.drop 1)).1 [some (.sh (srcD E src)), some (.sh (E.d x)), some (.ow (sesD acc)), x3] S = some (.bl false, S) := by
        have hi' : idxS S (srcD E src) (E.d x) = some .non := hi
        have hf : isF .non .non = some true := rfl
        simp only [startE, List.map, List.length, List.replicate, execs, exec, ev, evs, evcs, evts, unown, unown1, List.foldl, peek, getO, getE, idx0, idx1, idx2, idx3, idx4, idxl0, idxl1, idxl2, List.cons_append, List.nil_append, List.append_nil, Option.map_some, Option.bind_some, Option.map_none, Option.bind_none, cmpF, eq_str, List.getElem?_cons_zero, List.getElem?_cons_succ, List.set_cons_zero, List.set_cons_succ, Nat.reduceSub, Nat.reduceAdd, decide_true, decide_false, fnx, frt, bindT, whlOf, d_session_to, List.drop, hi', hf, Bool.not_true]
      simp only [whlGo, ht, Option.bind_some, List.reverse_nil, List.append_nil]
  | @step x y a ss hy _ ih =>
    intro n acc x3 hn hl
    simp only [List.length_append, List.length_singleton] at hn hl
    cases n with
    | zero => omega
    | succ n =>
      have hi := idx_src E S src y
      rw [hy] at hi
      have hi' : idxS S (srcD E src) (E.d y) = some (.tup [E.d x, a.d]) := hi
      have ht : ev c (whlOf (d_session_to.body.drop 1)).1 [some (.sh (srcD E src)), some (.sh (E.d y)), some (.ow (sesD acc)), x3] S = some (.bl true, S) := by
        have hf : isF (.tup [E.d x, a.d]) .non = some false := rfl
        simp only [startE, List.map, List.length, List.replicate, execs, exec, ev, evs, evcs, evts, unown, unown1, List.foldl, peek, getO, getE, idx0, idx1, idx2, idx3, idx4, idxl0, idxl1, idxl2, List.cons_append, List.nil_append, List.append_nil, Option.map_some, Option.bind_some, Option.map_none, Option.bind_none, cmpF, eq_str, List.getElem?_cons_zero, List.getElem?_cons_succ, List.set_cons_zero, List.set_cons_succ, Nat.reduceSub, Nat.reduceAdd, decide_true, decide_false, fnx, frt, bindT, whlOf, d_session_to, List.drop, hi', hf, Bool.not_false]
      have hb : execs c F (whlOf (d_session_to.body.drop 1)).2 [some (.sh (srcD E src)), some (.sh (E.d y)), some (.ow (sesD acc)), x3] S = some (.nx [some (.sh (srcD E src)), some (.sh (E.d x)), some (.ow (sesD (acc ++ [a]))), some (.sh a.d)] S) := by
        have hbg : (acc.map Act.d).length < big := by simp; unfold big; omega
        simp only [startE, List.map, List.length, List.replicate, execs, exec, ev, evs, evcs, evts, unown, unown1, List.foldl, peek, getO, getE, idx0, idx1, idx2, idx3, idx4, idxl0, idxl1, idxl2, List.cons_append, List.nil_append, List.append_nil, Option.map_some, Option.bind_some, Option.map_none, Option.bind_none, cmpF, eq_str, List.getElem?_cons_zero, List.getElem?_cons_succ, List.set_cons_zero, List.set_cons_succ, Nat.reduceSub, Nat.reduceAdd, decide_true, decide_false, fnx, frt, bindT, whlOf, d_session_to, List.drop, hi', List.length_cons, List.length_nil, if_true, List.zip_cons_cons, List.zip_nil_right, sesD, hbg, List.map_append, List.map_cons, List.map_nil]
      obtain ⟨y1, y3, ih⟩ := ih n (acc ++ [a]) (some (.sh a.d)) (by omega) (by simp; omega)
      refine ⟨y1, y3, ?_⟩
      simp only [whlGo, ht, hb, Option.bind_some]
      rw [ih]
      simp
theorem e_session_to (h : fs[37]? = some d_session_to) {src : Src α Act} {x : α} {ss : List Act} (hp : PathTo src x ss) (hF : ss.length < F) (hl : ss.length ≤ 1000000) : callK fs F (k + 1) 37 [srcD E src, E.d x] S = some (sesD ss, S) := by
  rw [callK_eq h rfl]
  obtain ⟨y1, y3, hw⟩ := to_loop (E := E) (F := F) (S := S) (c := callK fs F k) hp F [] none hF (by simpa using hl)
  refine (congrArg fin (execs_nx (env' := [some (.sh (srcD E src)), some (.sh (E.d x)), some (.ow (sesD [])), none]) (S' := S) ?_)).trans ?_
  · simp only [startE, List.map, List.length, List.replicate, execs, exec, ev, evs, evcs, evts, unown, unown1, List.foldl, peek, getO, getE, idx0, idx1, idx2, idx3, idx4, idxl0, idxl1, idxl2, List.cons_append, List.nil_append, List.append_nil, Option.map_some, Option.bind_some, Option.map_none, Option.bind_none, cmpF, eq_str, List.getElem?_cons_zero, List.getElem?_cons_succ, List.set_cons_zero, List.set_cons_succ, Nat.reduceSub, Nat.reduceAdd, decide_true, decide_false, fnx, frt, bindT, d_session_to, isMut, if_true, sesD]
  refine (congrArg fin (execs_nx (env' := [some (.sh (srcD E src)), y1, some (.ow (sesD ([] ++ ss.reverse))), y3]) (S' := S) ?_)).trans ?_
  · exact hw
  simp only [startE, List.map, List.length, List.replicate, execs, exec, ev, evs, evcs, evts, unown, unown1, List.foldl, peek, getO, getE, idx0, idx1, idx2, idx3, idx4, idxl0, idxl1, idxl2, List.cons_append, List.nil_append, List.append_nil, Option.map_some, Option.bind_some, Option.map_none, Option.bind_none, cmpF, eq_str, List.getElem?_cons_zero, List.getElem?_cons_succ, List.set_cons_zero, List.set_cons_succ, Nat.reduceSub, Nat.reduceAdd, decide_true, decide_false, fnx, frt, bindT, sesD, List.map_reverse, List.reverse_reverse]
end
end FG

namespace FG
open PySem PySem.Spec PyProof.Rows L2
section
variable {α : Type} [DecidableEq α] {step : α → Act → α} {acts : List Act} {start : α} {univ : List α} {bad : α → Bool} {S : Sto} {Ξ : Type}
/-- the actions of one state, in the text -/
theorem for_push {bind : D → En → Option En} {body : En → Sto → Option Fl} (envI : Src α Act → List α → Ξ → En) (x : α)
    (h : ∀ (a : Act) (src : Src α Act) (lv : List α) (ξ : Ξ), a ∈ acts → src.length < big → lv.length < big → ∃ e1 ξ', bind a.d (envI src lv ξ) = some e1 ∧ body e1 S = some (.nx (envI (pushA step x [a] src lv).1 (pushA step x [a] src lv).2 ξ') S)) :
    ∀ (as : List Act) (src : Src α Act) (lv : List α) (ξ : Ξ), (∀ a ∈ as, a ∈ acts) → src.length + as.length ≤ big → lv.length + as.length ≤ big → ∃ ξ', forGo bind body (as.map Act.d) (envI src lv ξ) S = some (.nx (envI (pushA step x as src lv).1 (pushA step x as src lv).2 ξ') S)
  | [], src, lv, ξ, _, _, _ => ⟨ξ, rfl⟩
  | a :: as, src, lv, ξ, ha, h1, h2 => by
    simp only [List.length_cons] at h1 h2
    obtain ⟨e1, ξ1, hb, hx⟩ := h a src lv ξ (ha a List.mem_cons_self) (by omega) (by omega)
    have e : pushA step x (a :: as) src lv = pushA step x as (pushA step x [a] src lv).1 (pushA step x [a] src lv).2 := by
      simp only [pushA]
      split <;> rfl
    have l1 : (pushA step x [a] src lv).1.length ≤ src.length + 1 := by
      simp only [pushA]
      split <;> simp
    have l2 : (pushA step x [a] src lv).2.length ≤ lv.length + 1 := by
      simp only [pushA]
      split <;> simp
    obtain ⟨ξ2, ih⟩ := for_push envI x h as (pushA step x [a] src lv).1 (pushA step x [a] src lv).2 ξ1 (fun c m => ha c (List.mem_cons_of_mem _ m)) (by omega) (by omega)
    refine ⟨ξ2, ?_⟩
    rw [e]
    simp only [List.map_cons, forGo, hb, hx, Option.bind_some]
    exact ih
/-- the whole search, in the text -/
theorem whl_bfs {test : En → Sto → Option (D × Sto)} {body : En → Sto → Option Fl} (envO : Src α Act → List α → Ξ → En) (hu : ∀ y ∈ univ, ∀ a ∈ acts, step y a ∈ univ)
    (h1 : ∀ src lv ξ, (∀ y ∈ lv, y ∈ univ) → test (envO src lv ξ) S = some (.bl (!lv.isEmpty), S))
    (h2 : ∀ src x lv ξ ss, x ∈ univ → bad x = true → PathTo src x ss → ss.length ≤ univ.length → body (envO src (x :: lv) ξ) S = some (.rt (sesD ss) S))
    (h3 : ∀ src x lv ξ, x ∈ univ → bad x = false → src.length ≤ univ.length → lv.length ≤ univ.length → ∃ ξ', body (envO src (x :: lv) ξ) S = some (.nx (envO (pushA step x acts src lv).1 (pushA step x acts src lv).2 ξ') S)) :
    ∀ (n : Nat) (src : Src α Act) (ds : List Nat) (p : Nat) (lv : List α) (ξ : Ξ), BI step acts start univ src ds p → p ≤ src.length → lv = (keysS src).drop p → (∀ i y, i < p → (keysS src)[i]? = some y → bad y = false) → univ.length < n + p →
    (∃ src' ξ', bfsGo step acts bad n src lv = some (none, src') ∧ Found step acts start univ bad (none, src') ∧ whlGo test body n (envO src lv ξ) S = some (.nx (envO src' [] ξ') S)) ∨
    (∃ x src' ss, bfsGo step acts bad n src lv = some (some x, src') ∧ Found step acts start univ bad (some x, src') ∧ PathTo src' x ss ∧ (∀ a ∈ ss, a ∈ acts) ∧ runS step start ss = x ∧ bad x = true ∧ (∀ ts, (∀ a ∈ ts, a ∈ acts) → bad (runS step start ts) = true → ss.length ≤ ts.length) ∧ ss.length ≤ univ.length ∧ whlGo test body n (envO src lv ξ) S = some (.rt (sesD ss) S))
  | 0, src, ds, p, lv, ξ, b, hp, hl, hb, hn => by have := b.size; omega
  | n + 1, src, ds, p, [], ξ, b, hp, hl, hb, hn => by
    obtain ⟨r, hr, hf⟩ := bfs_found (bad := bad) hu (n + 1) src ds p [] b hp hl hb hn
    rw [bfsGo] at hr
    cases hr
    have ht := h1 src [] ξ (fun y m => by cases m)
    exact .inl ⟨src, ξ, rfl, hf, by simp only [whlGo, ht, Option.bind_some, List.isEmpty_nil, Bool.not_true]⟩
  | n + 1, src, ds, p, x :: lv, ξ, b, hp, hl, hb, hn => by
    have hx : (keysS src)[p]? = some x := by
      have := congrArg (fun l => l[0]?) hl
      simp only [List.getElem?_cons_zero, List.getElem?_drop, Nat.add_zero] at this
      exact this.symm
    have hxu : x ∈ univ := b.uni x (List.mem_of_getElem? hx)
    have hlu : ∀ y ∈ x :: lv, y ∈ univ := fun y m => by
      rw [hl] at m
      exact b.uni y (List.mem_of_mem_drop m)
    have ht := h1 src (x :: lv) ξ hlu
    have hlk : (keysS src).length = src.length := by simp [keysS]
    have hln : lv.length ≤ univ.length := by
      have e := congrArg List.length hl
      rw [List.length_drop, hlk, List.length_cons] at e
      have := b.size
      omega
    cases hbx : bad x with
    | true =>
      have hf : Found step acts start univ bad (some x, src) := ⟨hbx, ds, p, b, hx, hb⟩
      obtain ⟨ss, g1, g2, g3, g4, g5, g6⟩ := found_some hf
      have hbd := h2 src x lv ξ ss hxu hbx g1 g5
      refine .inr ⟨x, src, ss, by rw [bfsGo, if_pos hbx], hf, g1, g2, g3, g4, g6, g5, ?_⟩
      simp only [whlGo, ht, hbd, Option.bind_some, List.isEmpty_cons, Bool.not_false]
    | false =>
      obtain ⟨ds', b', hl'⟩ := b.next hu hl
      have hpl : p < src.length := by rw [← hlk]; exact (List.getElem?_eq_some_iff.mp hx).1
      obtain ⟨t, hext⟩ := pushA_ext step x acts src lv
      obtain ⟨ξ', hbd⟩ := h3 src x lv ξ hxu hbx b.size hln
      have hb' : ∀ i y, i < p + 1 → (keysS (pushA step x acts src lv).1)[i]? = some y → bad y = false := fun i y hi hy => by
        have hy' : (keysS src)[i]? = some y := by
          rw [hext] at hy
          unfold keysS at hy ⊢
          rw [List.map_append, List.getElem?_append_left (by simp; omega)] at hy
          exact hy
        by_cases hip : i < p
        · exact hb i y hip hy'
        · obtain rfl : i = p := by omega
          rw [hx] at hy'
          cases hy'
          exact hbx
      have ih := whl_bfs envO hu h1 h2 h3 n _ ds' (p + 1) _ ξ' b' (by rw [hext]; simp; omega) hl' hb' (by omega)
      have e : whlGo test body (n + 1) (envO src (x :: lv) ξ) S = whlGo test body n (envO (pushA step x acts src lv).1 (pushA step x acts src lv).2 ξ') S := by
        simp only [whlGo, ht, hbd, Option.bind_some, List.isEmpty_cons, Bool.not_false]
      have e2 : bfsGo step acts bad (n + 1) src (x :: lv) = bfsGo step acts bad n (pushA step x acts src lv).1 (pushA step x acts src lv).2 := by rw [bfsGo, if_neg (by rw [hbx]; exact Bool.false_ne_true)]
      rw [e, e2]
      exact ih
end
/-! ### the way, as a function -/
theorem path_uniq {α : Type} [DecidableEq α] {src : Src α Act} {x : α} {ss ts : List Act} (h : PathTo src x ss) (h' : PathTo src x ts) : ss = ts := by
  induction h generalizing ts with
  | root hx =>
    cases h' with
    | root _ => rfl
    | step hy _ => rw [hx] at hy; cases hy
  | step hy _ ih =>
    cases h' with
    | root hx => rw [hx] at hy; cases hy
    | step hy' h'' =>
      rw [hy] at hy'
      cases hy'
      rw [ih h'']
open Classical in
noncomputable def pathOf {α : Type} [DecidableEq α] (src : Src α Act) (x : α) : List Act := if h : ∃ ss, PathTo src x ss then h.choose else []
theorem pathOf_eq {α : Type} [DecidableEq α] {src : Src α Act} {x : α} {ss : List Act} (h : PathTo src x ss) : pathOf src x = ss := by
  have hx : ∃ ss, PathTo src x ss := ⟨ss, h⟩
  unfold pathOf
  rw [dif_pos hx]
  exact path_uniq hx.choose_spec h
noncomputable def sessM {α : Type} [DecidableEq α] : Option (Option α × Src α Act) → Option (List Act)
  | some (some x, src) => some (pathOf src x)
  | _ => none
def optD : Option (List Act) → D
  | none => .non
  | some ss => sesD ss
/-- what is told of a search -/
structure Told {α : Type} (step : α → Act → α) (acts : List Act) (start : α) (bad : α → Bool) (r : Option (List Act)) : Prop where
  no : r = none → ∀ ss, (∀ a ∈ ss, a ∈ acts) → bad (runS step start ss) = false
  yes : ∀ ss, r = some ss → (∀ a ∈ ss, a ∈ acts) ∧ bad (runS step start ss) = true ∧ ss.length ≤ 65536 ∧ ∀ ts, (∀ a ∈ ts, a ∈ acts) → bad (runS step start ts) = true → ss.length ≤ ts.length
/-! ### dicts compared -/
def deq (l l' : Dic) : Bool := dSame (l.map fun p => .text p.1) (l.map fun p => oD p.2) (l'.map fun p => .text p.1) (l'.map fun p => oD p.2)
theorem eq_deq (l l' : Dic) : eqF (dD l) (dD l') = some (deq l l') := by
  simp only [eqF, dD, atoms_dD, Bool.and_self, if_true]
  rfl
/-! ### unstable_of -/
def stepU (fm : List Fld) (p : Row × Row) (a : Act) : Row × Row := (stepM fm p.1 a, keptM fm p.1 p.2 a)
def strA (fm : List Fld) (cs : Row) : Row := (strM fm (fm.zip cs) [] (noneM fm)).2
def badU (fm : List Fld) (p : Row × Row) : Bool := !deq (collM fm p.1) (collM fm (strA fm p.2))
theorem pyOks_o (n : Nat) : ∀ {fm : List Fld} {r : Row}, NmOk fm → RowOk fm r → pyOks n (r.map oD) = true
  | [], [], _, _ => by simp [pyOks]
  | f :: fm, o :: r, nm, h => by
    have h1 : pyOk n (oD o) = true := by
      cases o with
      | none => cases n <;> simp [oD, pyOk]
      | some w =>
        have := nm.wd f List.mem_cons_self w (h.1 w rfl)
        cases n <;> simpa [oD, pyOk] using this
    simp only [List.map_cons, pyOks, h1, Bool.true_and]
    exact pyOks_o n ⟨fun g m => nm.nm g (List.mem_cons_of_mem _ m), fun g m => nm.wd g (List.mem_cons_of_mem _ m)⟩ h.2
  | [], _ :: _, _, h => h.elim
  | _ :: _, [], _, h => h.elim
theorem pyOk_ans (n : Nat) {fm : List Fld} {r : Row} (nm : NmOk fm) (h : RowOk fm r) : pyOk (n + 1) (ansD r) = true := by
  show pyOk (n + 1) (.tup (r.map oD)) = true
  simp only [pyOk]
  exact pyOks_o n nm h
theorem lvl_ne {α : Type} {f : α → D} {lv : List α} (h : pyOk 60 (.lst (lv.map f)) = true) : (eqF (.lst (lv.map f)) (.lst [])).map (!·) = some (!lv.isEmpty) := by
  rw [eq_nil _ h]
  cases lv <;> rfl
theorem pyOks_all (n : Nat) {α : Type} {f : α → D} : ∀ {lv : List α}, (∀ y ∈ lv, pyOk n (f y) = true) → pyOks n (lv.map f) = true
  | [], _ => by simp [pyOks]
  | y :: lv, h => by
    simp only [List.map_cons, pyOks, h y List.mem_cons_self, Bool.true_and]
    exact pyOks_all n fun z m => h z (List.mem_cons_of_mem _ m)
section
variable {fs : List Df} {F k : Nat} {S : Sto}
/-- what a search leans on -/
structure BQ (fs : List Df) : Prop where
  b1 : B1 fs
  b2 : B2 fs
  h5 : fs[5]? = some d_need_form
  h9 : fs[9]? = some d_collected
  h14 : fs[14]? = some d_actions_of
  h37 : fs[37]? = some d_session_to
theorem q_need_form (b : BQ fs) {fm : List Fld} (o : FG1 fm 3) : callK fs F (k + 12) 5 [formD fm] S = some (.non, S) :=
  e_need_form (k := k + 7) b.b1 b.h5 o.ok (fun f m => Nat.le_trans (o.dep f m) (by omega)) o.ne o.le
structure BU (fs : List Df) : Prop where
  q : BQ fs
  h18 : fs[18]? = some d_kept_choices
  h23 : fs[23]? = some d_straight_for
  h38 : fs[38]? = some d_unstable_of
  h39 : fs[39]? = some d_unstable
def envU (fm : List Fld) (x1 : Option Ent) (src : Src (Row × Row) Act) (lv : List (Row × Row)) (ξ : Option Ent × Option Ent × Option Ent × Option Ent × Option Ent) : En := [some (.sh (formD fm)), x1, some (.ow (srcD encPair src)), some (.ow (.lst (lv.map encPair.d))), ξ.1, ξ.2.1, ξ.2.2.1, ξ.2.2.2.1, ξ.2.2.2.2]
def forOf : List FG.S → List FG.S
  | .for _ _ _ _ b :: _ => b
  | _ => []
theorem uns_act (b : BU fs) {fm : List Fld} (o : FG1 fm 3) (x1 x5' : Option Ent) (x : Row × Row) (hx : RowOk fm x.1 ∧ RowOk fm x.2) (a : Act) (src : Src (Row × Row) Act) (lv : List (Row × Row)) (x8 : Option Ent) (hs : src.length < big) (hl : lv.length < big) :
    ∃ y8, execs (callK fs F (k + 12)) F (forOf ((whlOf (d_unstable_of.body.drop 2)).2.drop 3)) [some (.sh (formD fm)), x1, some (.ow (srcD encPair src)), some (.ow (.lst (lv.map encPair.d))), some (.sh (encPair.d x)), some (.sh a.d), some (.sh (ansD x.1)), some (.sh (ansD x.2)), x8] S =
      some (.nx [some (.sh (formD fm)), x1, some (.ow (srcD encPair (pushA (stepU fm) x [a] src lv).1)), some (.ow (.lst ((pushA (stepU fm) x [a] src lv).2.map encPair.d))), some (.sh (encPair.d x)), some (.sh a.d), some (.sh (ansD x.1)), some (.sh (ansD x.2)), y8] S) := by
  have h1 := e_stepped (F := F) (k := k + 8) (S := S) b.q.b2 (o.mono (by omega)).sz hx.1.len a
  have h2 := e_kept (F := F) (k := k + 8) (S := S) b.q.b2 b.h18 (o.mono (by omega)).sz (as := x.1) (cs := x.2) (by rw [hx.2.len]; have := o.le; omega) a
  refine ⟨some (.sh (encPair.d (stepU fm x a))), ?_⟩
  have hd : (.tup [ansD (stepM fm x.1 a), ansD (keptM fm x.1 x.2 a)] : D) = encPair.d (stepU fm x a) := rfl
  simp only [pushA]
  by_cases hm : stepU fm x a ∈ keysS src
  · have hin' : inF (.tup [ansD (stepM fm x.1 a), ansD (keptM fm x.1 x.2 a)]) (srcD encPair src) = some true := in_srcT encPair hm
    rw [if_pos hm]
    simp only [startE, List.map, List.length, List.replicate, execs, exec, ev, evs, evcs, evts, unown, unown1, List.foldl, peek, getO, getE, idx0, idx1, idx2, idx3, idx4, idxl0, idxl1, idxl2, List.cons_append, List.nil_append, List.append_nil, Option.map_some, Option.bind_some, Option.map_none, Option.bind_none, cmpF, eq_str, List.getElem?_cons_zero, List.getElem?_cons_succ, List.set_cons_zero, List.set_cons_succ, Nat.reduceSub, Nat.reduceAdd, decide_true, decide_false, fnx, frt, bindT, forOf, whlOf, d_unstable_of, List.drop, h1, h2, hin', Bool.not_true]
    rfl
  · have hin' : inF (.tup [ansD (stepM fm x.1 a), ansD (keptM fm x.1 x.2 a)]) (srcD encPair src) = some false := in_srcF encPair hm
    have hset := set_src encPair (some (x, a)) hm hs
    have hset' : setF (srcD encPair src) (.tup [ansD (stepM fm x.1 a), ansD (keptM fm x.1 x.2 a)]) (.tup [encPair.d x, a.d]) = some (srcD encPair (src ++ [(stepU fm x a, some (x, a))])) := hset
    have hl' : (lv.map encPair.d).length < big := by simpa using hl
    rw [if_neg hm]
    simp only [startE, List.map, List.length, List.replicate, execs, exec, ev, evs, evcs, evts, unown, unown1, List.foldl, peek, getO, getE, idx0, idx1, idx2, idx3, idx4, idxl0, idxl1, idxl2, List.cons_append, List.nil_append, List.append_nil, Option.map_some, Option.bind_some, Option.map_none, Option.bind_none, cmpF, eq_str, List.getElem?_cons_zero, List.getElem?_cons_succ, List.set_cons_zero, List.set_cons_succ, Nat.reduceSub, Nat.reduceAdd, decide_true, decide_false, fnx, frt, bindT, forOf, whlOf, d_unstable_of, List.drop, h1, h2, hin', Bool.not_false, hset', hl', if_true, List.map_append, List.map_cons, List.map_nil]
    rfl
theorem uns_act' (b : BU fs) {fm : List Fld} (o : FG1 fm 3) (x1 : Option Ent) (x : Row × Row) (hx : RowOk fm x.1 ∧ RowOk fm x.2) (src : Src (Row × Row) Act) (lv : List (Row × Row)) (x5 x8 : Option Ent) (hs : src.length + 16 ≤ big) (hl : lv.length + 16 ≤ big) :
    ∃ y5 y8, exec (callK fs F (k + 12)) F (.for [] (.nm 5) .seq [.call 14 [.var 0]] (forOf ((whlOf (d_unstable_of.body.drop 2)).2.drop 3))) [some (.sh (formD fm)), x1, some (.ow (srcD encPair src)), some (.ow (.lst (lv.map encPair.d))), some (.sh (encPair.d x)), x5, some (.sh (ansD x.1)), some (.sh (ansD x.2)), x8] S =
      some (.nx [some (.sh (formD fm)), x1, some (.ow (srcD encPair (pushA (stepU fm) x (movesM fm []) src lv).1)), some (.ow (.lst ((pushA (stepU fm) x (movesM fm []) src lv).2.map encPair.d))), some (.sh (encPair.d x)), y5, some (.sh (ansD x.1)), some (.sh (ansD x.2)), y8] S) := by
  have hac := e_actions (F := F) (k := k + 11) (S := S) b.q.h14 o.wl (by have := o.le; omega)
  have hml := moves_len o
  obtain ⟨ξ', hfp⟩ := for_push (step := stepU fm) (acts := movesM fm []) (S := S) (bind := bindT (.nm 5)) (body := fun e S => execs (callK fs F (k + 12)) F (forOf ((whlOf (d_unstable_of.body.drop 2)).2.drop 3)) e S)
    (fun src lv (ξ : Option Ent × Option Ent) => [some (.sh (formD fm)), x1, some (.ow (srcD encPair src)), some (.ow (.lst (lv.map encPair.d))), some (.sh (encPair.d x)), ξ.1, some (.sh (ansD x.1)), some (.sh (ansD x.2)), ξ.2]) x
    (fun a src lv ξ ha h1 h2 => by
      obtain ⟨y8, h⟩ := uns_act (F := F) (k := k) (S := S) b o x1 none x hx a src lv ξ.2 h1 h2
      exact ⟨_, (some (.sh a.d), y8), rfl, h⟩) (movesM fm []) src lv (x5, x8) (fun a m => m) (by omega) (by omega)
  refine ⟨ξ'.1, ξ'.2, ?_⟩
  exact exec_for (ds := [sesD (movesM fm [])]) (S1 := S) (by simp only [startE, List.map, List.length, List.replicate, execs, exec, ev, evs, evcs, evts, unown, unown1, List.foldl, peek, getO, getE, idx0, idx1, idx2, idx3, idx4, idxl0, idxl1, idxl2, List.cons_append, List.nil_append, List.append_nil, Option.map_some, Option.bind_some, Option.map_none, Option.bind_none, cmpF, eq_str, List.getElem?_cons_zero, List.getElem?_cons_succ, List.set_cons_zero, List.set_cons_succ, Nat.reduceSub, Nat.reduceAdd, decide_true, decide_false, fnx, frt, bindT, hac]) rfl hfp
noncomputable def unstM (F : Nat) (fm : List Fld) : Option (List Act) := sessM (bfsGo (stepU fm) (movesM fm []) (badU fm) F [((noneM fm, noneM fm), none)] [(noneM fm, noneM fm)])
theorem e_unstable_of (b : BU fs) {fm : List Fld} (o : FG1 fm 3) (hF : 65536 < F) : callK fs F (k + 13) 38 [formD fm] S = some (optD (unstM F fm), S) ∧ Told (stepU fm) (movesM fm []) (noneM fm, noneM fm) (badU fm) (unstM F fm) := by
  have hsm := pairs_small o.wl o.le o.wl o.le
  have hu : ∀ y ∈ allPairs fm fm, ∀ a ∈ movesM fm [], stepU fm y a ∈ allPairs fm fm := fun y hy a ha => by
    have hy' := mem_pairs.mp hy
    exact mem_pairs.mpr ⟨step_ok o.ok o.nd hy'.1 ha, kept_ok o.nd hy'.2 ha⟩
  have hst : (noneM fm, noneM fm) ∈ allPairs fm fm := mem_pairs.mpr ⟨rowOk_none fm, rowOk_none fm⟩
  have hw := whl_bfs (S := S) (step := stepU fm) (acts := movesM fm []) (start := (noneM fm, noneM fm)) (univ := allPairs fm fm) (bad := badU fm)
    (test := fun e S => ev (callK fs F (k + 12)) (whlOf (d_unstable_of.body.drop 2)).1 e S) (body := fun e S => execs (callK fs F (k + 12)) F (whlOf (d_unstable_of.body.drop 2)).2 e S)
    (envU fm (some (.sh (encPair.d (noneM fm, noneM fm))))) hu
    (fun src lv ξ hlu => by
      have hp : pyOk 60 (.lst (lv.map encPair.d)) = true := by
        show pyOks 59 (lv.map encPair.d) = true
        refine pyOks_all 59 fun y m => ?_
        have hy := mem_pairs.mp (hlu y m)
        show pyOks 58 [ansD y.1, ansD y.2] = true
        simp only [pyOks, pyOk_ans 57 o.nm hy.1, pyOk_ans 57 o.nm hy.2, Bool.and_true]
      have hne := lvl_ne hp
      simp only [startE, List.map, List.length, List.replicate, execs, exec, ev, evs, evcs, evts, unown, unown1, List.foldl, peek, getO, getE, idx0, idx1, idx2, idx3, idx4, idxl0, idxl1, idxl2, List.cons_append, List.nil_append, List.append_nil, Option.map_some, Option.bind_some, Option.map_none, Option.bind_none, cmpF, eq_str, List.getElem?_cons_zero, List.getElem?_cons_succ, List.set_cons_zero, List.set_cons_succ, Nat.reduceSub, Nat.reduceAdd, decide_true, decide_false, fnx, frt, bindT, envU, whlOf, d_unstable_of, List.drop, hne])
    (fun src x lv ξ ss hxu hbx hpt hsl => by
      have hx := mem_pairs.mp hxu
      have h9a := e_collected (F := F) (k := k + 8) (S := S) b.q.b2 b.q.h9 (o.mono (by omega)).sz x.1
      have h23 := e_straight_for (F := F) (k := k + 7) (S := S) b.q.b2 b.h23 (o.mono (by omega)).sz o.ne x.2
      have h9b := e_collected (F := F) (k := k + 8) (S := S) b.q.b2 b.q.h9 (o.mono (by omega)).sz (strA fm x.2)
      have hde := eq_deq (collM fm x.1) (collM fm (strA fm x.2))
      have hbx' : deq (collM fm x.1) (collM fm (strA fm x.2)) = false := by unfold badU at hbx; simpa using hbx
      rw [hbx'] at hde
      have h37 := e_session_to (E := encPair) (F := F) (k := k + 11) (S := S) b.q.h37 hpt (by omega) (by omega)
      have hd : encPair.d x = .tup [ansD x.1, ansD x.2] := rfl
      have h23' : callK fs F (k + 12) 23 [formD fm, ansD x.2] S = some (.tup [sesD (straM fm x.2), ansD (strA fm x.2)], S) := h23
      have h9b' : callK fs F (k + 12) 9 [formD fm, ansD (strA fm x.2)] S = some (dD (collM fm (strA fm x.2)), S) := h9b
      have s1 : exec (callK fs F (k + 12)) F (.pop0 4 3) (envU fm (some (.sh (encPair.d (noneM fm, noneM fm)))) src (x :: lv) ξ) S = some (.nx [some (.sh (formD fm)), some (.sh (encPair.d (noneM fm, noneM fm))), some (.ow (srcD encPair src)), some (.ow (.lst (lv.map encPair.d))), some (.sh (encPair.d x)), ξ.2.1, ξ.2.2.1, ξ.2.2.2.1, ξ.2.2.2.2] S) := rfl
      refine (execs_nx s1).trans ?_
      refine (execs_nx (env' := [some (.sh (formD fm)), some (.sh (encPair.d (noneM fm, noneM fm))), some (.ow (srcD encPair src)), some (.ow (.lst (lv.map encPair.d))), some (.sh (encPair.d x)), ξ.2.1, some (.sh (ansD x.1)), some (.sh (ansD x.2)), ξ.2.2.2.2]) (S' := S) rfl).trans ?_
      refine execs_rt ?_
      simp only [startE, List.map, List.length, List.replicate, execs, exec, ev, evs, evcs, evts, unown, unown1, List.foldl, peek, getO, getE, idx0, idx1, idx2, idx3, idx4, idxl0, idxl1, idxl2, List.cons_append, List.nil_append, List.append_nil, Option.map_some, Option.bind_some, Option.map_none, Option.bind_none, cmpF, eq_str, List.getElem?_cons_zero, List.getElem?_cons_succ, List.set_cons_zero, List.set_cons_succ, Nat.reduceSub, Nat.reduceAdd, decide_true, decide_false, fnx, frt, bindT, h9a, h23', h9b', hde, Bool.not_false, h37])
    (fun src x lv ξ hxu hbx hsl hll => by
      have hx := mem_pairs.mp hxu
      have h9a := e_collected (F := F) (k := k + 8) (S := S) b.q.b2 b.q.h9 (o.mono (by omega)).sz x.1
      have h23 := e_straight_for (F := F) (k := k + 7) (S := S) b.q.b2 b.h23 (o.mono (by omega)).sz o.ne x.2
      have h9b := e_collected (F := F) (k := k + 8) (S := S) b.q.b2 b.q.h9 (o.mono (by omega)).sz (strA fm x.2)
      have hde := eq_deq (collM fm x.1) (collM fm (strA fm x.2))
      have hbx' : deq (collM fm x.1) (collM fm (strA fm x.2)) = true := by unfold badU at hbx; simpa using hbx
      rw [hbx'] at hde
      have h23' : callK fs F (k + 12) 23 [formD fm, ansD x.2] S = some (.tup [sesD (straM fm x.2), ansD (strA fm x.2)], S) := h23
      have h9b' : callK fs F (k + 12) 9 [formD fm, ansD (strA fm x.2)] S = some (dD (collM fm (strA fm x.2)), S) := h9b
      obtain ⟨y5, y8, hfor⟩ := uns_act' (F := F) (k := k) (S := S) b o (some (.sh (encPair.d (noneM fm, noneM fm)))) x hx src lv ξ.2.1 ξ.2.2.2.2 (by unfold big; omega) (by unfold big; omega)
      refine ⟨(some (.sh (encPair.d x)), y5, some (.sh (ansD x.1)), some (.sh (ansD x.2)), y8), ?_⟩
      have s1 : exec (callK fs F (k + 12)) F (.pop0 4 3) (envU fm (some (.sh (encPair.d (noneM fm, noneM fm)))) src (x :: lv) ξ) S = some (.nx [some (.sh (formD fm)), some (.sh (encPair.d (noneM fm, noneM fm))), some (.ow (srcD encPair src)), some (.ow (.lst (lv.map encPair.d))), some (.sh (encPair.d x)), ξ.2.1, ξ.2.2.1, ξ.2.2.2.1, ξ.2.2.2.2] S) := rfl
      refine (execs_nx s1).trans ?_
      refine (execs_nx (env' := [some (.sh (formD fm)), some (.sh (encPair.d (noneM fm, noneM fm))), some (.ow (srcD encPair src)), some (.ow (.lst (lv.map encPair.d))), some (.sh (encPair.d x)), ξ.2.1, some (.sh (ansD x.1)), some (.sh (ansD x.2)), ξ.2.2.2.2]) (S' := S) rfl).trans ?_
      refine (execs_nx (env' := [some (.sh (formD fm)), some (.sh (encPair.d (noneM fm, noneM fm))), some (.ow (srcD encPair src)), some (.ow (.lst (lv.map encPair.d))), some (.sh (encPair.d x)), ξ.2.1, some (.sh (ansD x.1)), some (.sh (ansD x.2)), ξ.2.2.2.2]) (S' := S) ?_).trans ?_
      · simp only [startE, List.map, List.length, List.replicate, execs, exec, ev, evs, evcs, evts, unown, unown1, List.foldl, peek, getO, getE, idx0, idx1, idx2, idx3, idx4, idxl0, idxl1, idxl2, List.cons_append, List.nil_append, List.append_nil, Option.map_some, Option.bind_some, Option.map_none, Option.bind_none, cmpF, eq_str, List.getElem?_cons_zero, List.getElem?_cons_succ, List.set_cons_zero, List.set_cons_succ, Nat.reduceSub, Nat.reduceAdd, decide_true, decide_false, fnx, frt, bindT, h9a, h23', h9b', hde, Bool.not_true]
      · exact (execs_nx hfor).trans rfl)
    F [((noneM fm, noneM fm), none)] [0] 0 [(noneM fm, noneM fm)] (none, none, none, none, none) (bi_start hst) (Nat.zero_le _) rfl (fun i y hi => by omega) (by omega)
  have h10 := e_empty (F := F) (k := k + 11) (S := S) b.q.b2.h10 o.ne (by have := o.le; omega)
  have hkey := encPair.key (noneM fm, noneM fm)
  have s0 : ∀ tl, execs (callK fs F (k + 12)) F (.asg [] 1 (.tup [.call 10 [.var 0], .call 10 [.var 0]]) :: .par [2, 3] [.ndc1 (.var 1) (.con (.non)), .lst [.var 1]] [true, true] :: tl) [some (.sh (formD fm)), none, none, none, none, none, none, none, none] S = execs (callK fs F (k + 12)) F tl (envU fm (some (.sh (encPair.d (noneM fm, noneM fm)))) [((noneM fm, noneM fm), none)] [(noneM fm, noneM fm)] (none, none, none, none, none)) S := fun tl => by
    refine (execs_nx (env' := [some (.sh (formD fm)), some (.sh (encPair.d (noneM fm, noneM fm))), none, none, none, none, none, none, none]) (S' := S) ?_).trans (execs_nx ?_)
    · simp only [startE, List.map, List.length, List.replicate, execs, exec, ev, evs, evcs, evts, unown, unown1, List.foldl, peek, getO, getE, idx0, idx1, idx2, idx3, idx4, idxl0, idxl1, idxl2, List.cons_append, List.nil_append, List.append_nil, Option.map_some, Option.bind_some, Option.map_none, Option.bind_none, cmpF, eq_str, List.getElem?_cons_zero, List.getElem?_cons_succ, List.set_cons_zero, List.set_cons_succ, Nat.reduceSub, Nat.reduceAdd, decide_true, decide_false, fnx, frt, bindT, h10]
      rfl
    · simp only [startE, List.map, List.length, List.replicate, execs, exec, ev, evs, evcs, evts, unown, unown1, List.foldl, peek, getO, getE, idx0, idx1, idx2, idx3, idx4, idxl0, idxl1, idxl2, List.cons_append, List.nil_append, List.append_nil, Option.map_some, Option.bind_some, Option.map_none, Option.bind_none, cmpF, eq_str, List.getElem?_cons_zero, List.getElem?_cons_succ, List.set_cons_zero, List.set_cons_succ, Nat.reduceSub, Nat.reduceAdd, decide_true, decide_false, fnx, frt, bindT, parGo, hkey, isMut, Bool.not_true, Bool.and_false, Bool.false_eq_true, if_false, if_true]
      rfl
  have hun : ∀ r, bfsGo (stepU fm) (movesM fm []) (badU fm) F [((noneM fm, noneM fm), none)] [(noneM fm, noneM fm)] = some r → unstM F fm = sessM (some r) := fun r h => by unfold unstM; rw [h]
  rw [callK_eq b.h38 rfl]
  rcases hw with ⟨src', ξ', hbf, hf, hwl⟩ | ⟨x, src', ss, hbf, hf, hpt, g2, g3, g4, g6, g5, hwl⟩
  · have e := hun _ hbf
    rw [show sessM (some (none, src')) = none from rfl] at e
    rw [e]
    refine ⟨(congrArg fin ((s0 _).trans (execs_nx (s := .whl (whlOf (d_unstable_of.body.drop 2)).1 (whlOf (d_unstable_of.body.drop 2)).2) (env' := envU fm (some (.sh (encPair.d (noneM fm, noneM fm)))) src' [] ξ') (S' := S) hwl))).trans ?_, ⟨fun _ ss ha => found_none hf ss ha, fun ss h => by cases h⟩⟩
    simp only [startE, List.map, List.length, List.replicate, execs, exec, ev, evs, evcs, evts, unown, unown1, List.foldl, peek, getO, getE, idx0, idx1, idx2, idx3, idx4, idxl0, idxl1, idxl2, List.cons_append, List.nil_append, List.append_nil, Option.map_some, Option.bind_some, Option.map_none, Option.bind_none, cmpF, eq_str, List.getElem?_cons_zero, List.getElem?_cons_succ, List.set_cons_zero, List.set_cons_succ, Nat.reduceSub, Nat.reduceAdd, decide_true, decide_false, fnx, frt, bindT, envU]
    rfl
  · have e := hun _ hbf
    rw [show sessM (some (some x, src')) = some (pathOf src' x) from rfl, pathOf_eq hpt] at e
    rw [e]
    refine ⟨(congrArg fin ((s0 _).trans (execs_rt (s := .whl (whlOf (d_unstable_of.body.drop 2)).1 (whlOf (d_unstable_of.body.drop 2)).2) hwl))).trans rfl, ⟨fun h => (by cases h), fun ts h => ?_⟩⟩
    cases h
    exact ⟨g2, by rw [g3]; exact g4, by omega, g6⟩
end
end FG

namespace FG
open PySem PySem.Spec PyProof.Rows L2
/-! ### sessions and states -/
theorem run_play (fm : List Fld) : ∀ (ss : List Act) (as cs : Row), runS (stepU fm) (as, cs) ss = playM fm ss as cs
  | [], as, cs => rfl
  | a :: ss, as, cs => by
    show runS (stepU fm) (stepU fm (as, cs) a) ss = _
    rw [playM]
    exact run_play fm ss _ _
theorem run_pl (fm : List Fld) (ss : List Act) : runS (stepU fm) (noneM fm, noneM fm) ss = (plA fm ss, plC fm ss) := run_play fm ss _ _
theorem strA_pl {fm : List Fld} : ∀ (l : List (Fld × Option Str)) (ss : List Act), (strM fm l ss (plA fm ss)).2 = plA fm (strM fm l ss (plA fm ss)).1
  | [], ss => rfl
  | (f, none) :: l, ss => by
    rw [strM]
    exact strA_pl l ss
  | (f, some w) :: l, ss => by
    rw [strM]
    split
    · rw [← plA_app]
      exact strA_pl l _
    · exact strA_pl l ss
theorem strA_eq (fm : List Fld) (cs : Row) : strA fm cs = plA fm (straM fm cs) := strA_pl (fm.zip cs) []
/-- the collection after a session is not that after the straight one -/
def bentM (fm : List Fld) (ss : List Act) : Bool := !deq (collM fm (plA fm ss)) (collM fm (plA fm (straM fm (plC fm ss))))
theorem bent_bad (fm : List Fld) (ss : List Act) : badU fm (runS (stepU fm) (noneM fm, noneM fm) ss) = bentM fm ss := by
  rw [run_pl]
  unfold badU bentM
  rw [strA_eq]
section
variable {fs : List Df} {F k : Nat} {S : Sto}
theorem e_bent (b : BF fs) (h35 : fs[35]? = some d_law_is_bent) {fm : List Fld} (o : FG1 fm 3) (ss : List Act) : callK fs F (k + 13) 35 [formD fm, sesD ss] S = some (.bl (bentM fm ss), S) := by
  rw [callK_eq h35 rfl]
  have h1 := c_run (F := F) (k := k) (S := S) b o ss
  have h2 := c_lstraight (F := F) (k := k) (S := S) b o ss
  rw [← straight_eq o.nd ss] at h2
  have h3 := c_run (F := F) (k := k) (S := S) b o (straM fm (plC fm ss))
  rw [seen_vis o.nd] at h1 h3
  have hd := eq_deq (someM (visM fm (plA fm ss))) (someM (visM fm (plA fm (straM fm (plC fm ss)))))
  refine (congrArg fin (execs_nx (env' := [some (.sh (formD fm)), some (.sh (sesD ss)), some (.sh (dD (someM (visM fm (plA fm ss))))), some (.sh (dD (rChos fm ss))), some (.sh (.lst ((visM fm (plA fm ss)).map fun p => .str p.1)))]) (S' := S) ?_)).trans ?_
  · simp only [startE, List.map, List.length, List.replicate, execs, exec, ev, evs, evcs, evts, unown, unown1, List.foldl, peek, getO, getE, idx0, idx1, idx2, idx3, idx4, idxl0, idxl1, idxl2, List.cons_append, List.nil_append, List.append_nil, Option.map_some, Option.bind_some, Option.map_none, Option.bind_none, cmpF, eq_str, List.getElem?_cons_zero, List.getElem?_cons_succ, List.set_cons_zero, List.set_cons_succ, Nat.reduceSub, Nat.reduceAdd, decide_true, decide_false, fnx, frt, bindT, d_law_is_bent, h1, List.length_cons, List.length_nil, if_true, List.zip_cons_cons, List.zip_nil_right]
  simp only [startE, List.map, List.length, List.replicate, execs, exec, ev, evs, evcs, evts, unown, unown1, List.foldl, peek, getO, getE, idx0, idx1, idx2, idx3, idx4, idxl0, idxl1, idxl2, List.cons_append, List.nil_append, List.append_nil, Option.map_some, Option.bind_some, Option.map_none, Option.bind_none, cmpF, eq_str, List.getElem?_cons_zero, List.getElem?_cons_succ, List.set_cons_zero, List.set_cons_succ, Nat.reduceSub, Nat.reduceAdd, decide_true, decide_false, fnx, frt, bindT, h2, h3, hd]
  rfl
theorem c_unstable (b : BU fs) {fm : List Fld} (o : FG1 fm 3) (hF : 65536 < F) : callK fs F (k + 14) 39 [formD fm] S = some (optD (unstM F fm), S) := by
  rw [callK_eq b.h39 rfl]
  have h1 := q_need_form (F := F) (k := k + 1) (S := S) b.q o
  have h2 := (e_unstable_of (k := k) (S := S) b o hF).1
  simp only [startE, List.map, List.length, List.replicate, execs, exec, ev, evs, evcs, evts, unown, unown1, List.foldl, peek, getO, getE, idx0, idx1, idx2, idx3, idx4, idxl0, idxl1, idxl2, List.cons_append, List.nil_append, List.append_nil, Option.map_some, Option.bind_some, Option.map_none, Option.bind_none, cmpF, eq_str, List.getElem?_cons_zero, List.getElem?_cons_succ, List.set_cons_zero, List.set_cons_succ, Nat.reduceSub, Nat.reduceAdd, decide_true, decide_false, fnx, frt, bindT, d_unstable, h1, h2]
/-- what unstable tells -/
theorem unst_told (b : BU fs) {fm : List Fld} (o : FG1 fm 3) (hF : 65536 < F) : (unstM F fm = none → ∀ ss, (∀ a ∈ ss, a ∈ movesM fm []) → bentM fm ss = false) ∧ ∀ ss, unstM F fm = some ss → (∀ a ∈ ss, a ∈ movesM fm []) ∧ bentM fm ss = true ∧ ss.length ≤ 65536 ∧ ∀ ts, (∀ a ∈ ts, a ∈ movesM fm []) → bentM fm ts = true → ss.length ≤ ts.length := by
  have h := (e_unstable_of (k := 0) (S := []) b o hF).2
  refine ⟨fun e ss ha => ?_, fun ss e => ?_⟩
  · have := h.no e ss ha
    rw [bent_bad] at this
    exact this
  · obtain ⟨h1, h2, h3, h4⟩ := h.yes ss e
    rw [bent_bad] at h2
    exact ⟨h1, h2, h3, fun ts ht hb => h4 ts ht (by rw [bent_bad]; exact hb)⟩
end
end FG

namespace FG
open PySem PySem.Spec PyProof.Rows L2
/-! ### all sessions of a length, up to a length -/
def lvlM (moves : List Act) : Nat → List (List Act)
  | 0 => [[]]
  | n + 1 => (lvlM moves n).flatMap fun s => moves.map fun m => s ++ [m]
def upTo (moves : List Act) : Nat → List (List Act)
  | 0 => lvlM moves 0
  | n + 1 => upTo moves n ++ lvlM moves (n + 1)
theorem mem_lvl {moves : List Act} : ∀ {n : Nat} {s : List Act}, s ∈ lvlM moves n ↔ s.length = n ∧ ∀ a ∈ s, a ∈ moves
  | 0, s => by
    simp only [lvlM, List.mem_singleton]
    constructor
    · rintro rfl; exact ⟨rfl, fun a m => by cases m⟩
    · rintro ⟨h, _⟩; exact List.length_eq_zero_iff.mp h
  | n + 1, s => by
    simp only [lvlM, List.mem_flatMap, List.mem_map]
    constructor
    · rintro ⟨t, ht, m, hm, rfl⟩
      obtain ⟨h1, h2⟩ := mem_lvl.mp ht
      refine ⟨by simp [h1], fun a ma => ?_⟩
      rcases List.mem_append.mp ma with z | z
      · exact h2 a z
      · rw [List.mem_singleton.mp z]; exact hm
    · rintro ⟨h, ha⟩
      obtain ⟨t, a, rfl⟩ : ∃ t a, s = t ++ [a] := ⟨s.dropLast, s.getLast (by intro z; rw [z] at h; simp at h), (List.dropLast_concat_getLast _).symm⟩
      exact ⟨t, mem_lvl.mpr ⟨by simpa using h, fun c m => ha c (List.mem_append_left _ m)⟩, a, ha a (by simp), rfl⟩
theorem mem_upTo {moves : List Act} : ∀ {n : Nat} {s : List Act}, s ∈ upTo moves n ↔ s.length ≤ n ∧ ∀ a ∈ s, a ∈ moves
  | 0, s => by
    rw [upTo, mem_lvl]
    constructor
    · rintro ⟨h1, h2⟩; exact ⟨by omega, h2⟩
    · rintro ⟨h1, h2⟩; exact ⟨by omega, h2⟩
  | n + 1, s => by
    rw [upTo, List.mem_append, mem_upTo, mem_lvl]
    constructor
    · rintro (⟨h1, h2⟩ | ⟨h1, h2⟩)
      · exact ⟨by omega, h2⟩
      · exact ⟨by omega, h2⟩
    · rintro ⟨h1, h2⟩
      by_cases h : s.length = n + 1
      · exact .inr ⟨h, h2⟩
      · exact .inl ⟨by omega, h2⟩
theorem lvl_len (moves : List Act) : ∀ n, (lvlM moves (n + 1)).length = (lvlM moves n).length * moves.length := fun n => len_flat _ _ _ fun s _ => by simp
theorem lvl_ne_nil {moves : List Act} (h : moves ≠ []) : ∀ n, lvlM moves n ≠ []
  | 0 => by simp [lvlM]
  | n + 1 => fun z => by
    have h2 : 0 < (lvlM moves n).length := List.length_pos_iff.mpr (lvl_ne_nil h n)
    have h3 : 0 < moves.length := List.length_pos_iff.mpr h
    have h4 : 0 < (lvlM moves (n + 1)).length := by rw [lvl_len]; exact Nat.mul_pos h2 h3
    rw [z] at h4
    exact absurd h4 (by simp)
theorem lvl_up (moves : List Act) : ∀ n, (lvlM moves n).length ≤ (upTo moves n).length
  | 0 => Nat.le_refl _
  | n + 1 => by rw [upTo, List.length_append]; omega
theorem upTo_last {moves : List Act} (h : moves ≠ []) : ∀ n, ∃ l s, upTo moves n = l ++ [s] ∧ s.length = n
  | 0 => ⟨[], [], rfl, rfl⟩
  | n + 1 => by
    have hne := lvl_ne_nil h (n + 1)
    refine ⟨upTo moves n ++ (lvlM moves (n + 1)).dropLast, (lvlM moves (n + 1)).getLast hne, ?_, (mem_lvl.mp (List.getLast_mem hne)).1⟩
    rw [upTo, List.append_assoc, List.dropLast_concat_getLast]
def sessD (l : List (List Act)) : D := .lst (l.map sesD)
section
variable {fs : List Df} {F k : Nat} {S : Sto}
theorem sess_lc {c : Calls} (moves s : List Act) (x0 x1 x3 x4 x5 x7 : Option Ent) (hm : moves.length ≤ 16) (hs : s.length ≤ 1000) : ev c (.lc [7] (.nm 7) .seq [.var 2] [] (.bin .add (.var 6) (.lst [.var 7]))) [x0, x1, some (.sh (sesD moves)), x3, x4, x5, some (.sh (sesD s)), x7] S = some (sessD (moves.map fun m => s ++ [m]), S) := by
  have := ev_lcR (c := c) (own := [7]) (tg := .nm 7) (ik := .seq) (its := [.var 2]) (ifs := []) (elt := .bin .add (.var 6) (.lst [.var 7])) (env := [x0, x1, some (.sh (sesD moves)), x3, x4, x5, some (.sh (sesD s)), x7]) (S := S) (S1 := S) (ds := [sesD moves])
    Act.d (fun _ => true) (fun m => sesD (s ++ [m])) moves (by simp only [startE, List.map, List.length, List.replicate, execs, exec, ev, evs, evcs, evts, unown, unown1, List.foldl, peek, getO, getE, idx0, idx1, idx2, idx3, idx4, idxl0, idxl1, idxl2, List.cons_append, List.nil_append, List.append_nil, Option.map_some, Option.bind_some, Option.map_none, Option.bind_none, cmpF, eq_str, List.getElem?_cons_zero, List.getElem?_cons_succ, List.set_cons_zero, List.set_cons_succ, Nat.reduceSub, Nat.reduceAdd, decide_true, decide_false, fnx, frt, bindT]) (by decide) rfl (fun m _ => ⟨[x0, x1, some (.sh (sesD moves)), x3, x4, x5, some (.sh (sesD s)), some (.sh m.d)], rfl, rfl, fun _ => by
      have hb : binF .add (sesD s) (.lst [m.d]) = some (sesD (s ++ [m])) := by
        simp only [binF, sesD, List.length_map, List.length_singleton]
        rw [if_pos (by unfold big; omega), List.map_append]
        rfl
      simp only [startE, List.map, List.length, List.replicate, execs, exec, ev, evs, evcs, evts, unown, unown1, List.foldl, peek, getO, getE, idx0, idx1, idx2, idx3, idx4, idxl0, idxl1, idxl2, List.cons_append, List.nil_append, List.append_nil, Option.map_some, Option.bind_some, Option.map_none, Option.bind_none, cmpF, eq_str, List.getElem?_cons_zero, List.getElem?_cons_succ, List.set_cons_zero, List.set_cons_succ, Nat.reduceSub, Nat.reduceAdd, decide_true, decide_false, fnx, frt, bindT, hb]⟩) (by unfold big; omega)
  rw [this, List.filter_eq_self.mpr fun _ _ => rfl]
  unfold sessD
  rw [List.map_map]
  rfl
theorem sess_for (moves : List Act) (x0 x1 x3 x4 : Option Ent) (hm : moves.length ≤ 16) : ∀ (l acc : List (List Act)) (x6 : Option Ent), (∀ s ∈ l, s.length ≤ 1000) → acc.length + l.length * 16 ≤ 1000000 →
    ∃ y6, forGo (bindT (.nm 6)) (fun e S => execs (callK fs F k) F [.ext 5 (.lc [7] (.nm 7) .seq [.var 2] [] (.bin .add (.var 6) (.lst [.var 7])))] e S) (l.map sesD) [x0, x1, some (.sh (sesD moves)), x3, x4, some (.ow (sessD acc)), x6, none] S = some (.nx [x0, x1, some (.sh (sesD moves)), x3, x4, some (.ow (sessD (acc ++ l.flatMap fun s => moves.map fun m => s ++ [m]))), y6, none] S)
  | [], acc, x6, _, _ => ⟨x6, by simp [forGo]⟩
  | s :: l, acc, x6, hs, hl => by
    simp only [List.length_cons] at hl
    have hlc := sess_lc (c := callK fs F k) (S := S) moves s x0 x1 x3 x4 (some (.ow (sessD acc))) none hm (hs s List.mem_cons_self)
    have hx : execs (callK fs F k) F [.ext 5 (.lc [7] (.nm 7) .seq [.var 2] [] (.bin .add (.var 6) (.lst [.var 7])))] [x0, x1, some (.sh (sesD moves)), x3, x4, some (.ow (sessD acc)), some (.sh (sesD s)), none] S = some (.nx [x0, x1, some (.sh (sesD moves)), x3, x4, some (.ow (sessD (acc ++ moves.map fun m => s ++ [m]))), some (.sh (sesD s)), none] S) := by
      refine (execs_nx (exec_ext (i := 5) (ds := acc.map sesD) (es := (moves.map fun m => s ++ [m]).map sesD) rfl rfl hlc (by simp; unfold big; omega))).trans ?_
      simp only [execs, sessD, List.map_append, List.set_cons_zero, List.set_cons_succ]
    obtain ⟨y6, ih⟩ := sess_for moves x0 x1 x3 x4 hm l (acc ++ moves.map fun m => s ++ [m]) (some (.sh (sesD s))) (fun t m => hs t (List.mem_cons_of_mem _ m)) (by simp; omega)
    refine ⟨y6, ?_⟩
    simp only [List.map_cons, forGo, bindT, List.set_cons_zero, List.set_cons_succ, Option.bind_some, hx]
    rw [List.flatMap_cons, ← List.append_assoc]
    exact ih
theorem mul_small (a b : Nat) (h : b ≤ 16) : binF .mul (.int (a : Nat)) (.int (b : Nat)) = some (.int ((a * b : Nat) : Int)) := by
  have hs : smallI (b : Nat) = true := by
    have h1 : decide (-(2 ^ 64) < ((b : Nat) : Int)) = true := decide_eq_true (by omega)
    have h2 : decide (((b : Nat) : Int) < 2 ^ 64) = true := decide_eq_true (by omega)
    rw [smallI, h1, h2]
    rfl
  simp only [binF, hs, Bool.or_true, Bool.true_or, if_true, Int.natCast_mul]
theorem sess_test1 {c : Calls} {x0 x2 x3 x5 x6 : Option Ent} {q s0 : D} {j most : Nat} (hi : ∀ S, idxS S q (.int 0) = some s0) (hl0 : biF .len s0 = some (.int (j : Nat))) (d1 : decide (((j : Nat) : Int) < ((most : Nat) : Int)) = false) : ev c (whlOf (d_law_sessions.body.drop 2)).1 [x0, some (.sh (.int (most : Nat))), x2, x3, some (.sh q), x5, x6, none] S = some (.bl false, S) := by
  simp only [startE, List.map, List.length, List.replicate, execs, exec, ev, evs, evcs, evts, unown, unown1, List.foldl, peek, getO, getE, idx0, idx1, idx2, idx3, idx4, idxl0, idxl1, idxl2, List.cons_append, List.nil_append, List.append_nil, Option.map_some, Option.bind_some, Option.map_none, Option.bind_none, cmpF, eq_str, List.getElem?_cons_zero, List.getElem?_cons_succ, List.set_cons_zero, List.set_cons_succ, Nat.reduceSub, Nat.reduceAdd, decide_true, decide_false, fnx, frt, bindT, whlOf, d_law_sessions, List.drop, hi, hl0, d1]
theorem sess_test2 {c : Calls} {x0 x5 x6 : Option Ent} {q s0 r m : D} {j most a b : Nat} {t : Bool} (hi : ∀ S, idxS S q (.int 0) = some s0) (hl0 : biF .len s0 = some (.int (j : Nat))) (d1 : decide (((j : Nat) : Int) < ((most : Nat) : Int)) = true) (hr : biF .len r = some (.int (a : Nat))) (hm : biF .len m = some (.int (b : Nat))) (hb : b ≤ 16) (d2 : decide (((a * b : Nat) : Int) < 700) = t) : ev c (whlOf (d_law_sessions.body.drop 2)).1 [x0, some (.sh (.int (most : Nat))), some (.sh m), some (.ow r), some (.sh q), x5, x6, none] S = some (.bl t, S) := by
  have e1 : ev c (.bi .len (.var 3)) [x0, some (.sh (.int (most : Nat))), some (.sh m), some (.ow r), some (.sh q), x5, x6, none] S = some (.int (a : Nat), S) := by simp only [startE, List.map, List.length, List.replicate, execs, exec, ev, evs, evcs, evts, unown, unown1, List.foldl, peek, getO, getE, idx0, idx1, idx2, idx3, idx4, idxl0, idxl1, idxl2, List.cons_append, List.nil_append, List.append_nil, Option.map_some, Option.bind_some, Option.map_none, Option.bind_none, cmpF, eq_str, List.getElem?_cons_zero, List.getElem?_cons_succ, List.set_cons_zero, List.set_cons_succ, Nat.reduceSub, Nat.reduceAdd, decide_true, decide_false, fnx, frt, bindT, hr]
  have e2 : ev c (.bi .len (.var 2)) [x0, some (.sh (.int (most : Nat))), some (.sh m), some (.ow r), some (.sh q), x5, x6, none] S = some (.int (b : Nat), S) := by simp only [startE, List.map, List.length, List.replicate, execs, exec, ev, evs, evcs, evts, unown, unown1, List.foldl, peek, getO, getE, idx0, idx1, idx2, idx3, idx4, idxl0, idxl1, idxl2, List.cons_append, List.nil_append, List.append_nil, Option.map_some, Option.bind_some, Option.map_none, Option.bind_none, cmpF, eq_str, List.getElem?_cons_zero, List.getElem?_cons_succ, List.set_cons_zero, List.set_cons_succ, Nat.reduceSub, Nat.reduceAdd, decide_true, decide_false, fnx, frt, bindT, hm]
  have hmul := ev_binR (op := .mul) rfl rfl e1 e2 (mul_small a b hb)
  show ev c (.and (.cmp .lt (.bi .len (.idx (.var 4) (.con (.int 0)))) (.var 1)) (.cmp .lt (.bin .mul (.bi .len (.var 3)) (.bi .len (.var 2))) (.con (.int 700)))) _ _ = _
  have hp : peek [x0, some (.sh (.int (most : Nat))), some (.sh m), some (.ow r), some (.sh q), x5, x6, none] (.bin .mul (.bi .len (.var 3)) (.bi .len (.var 2))) = none := rfl
  generalize E.bin .mul (.bi .len (.var 3)) (.bi .len (.var 2)) = ee at hmul hp ⊢
  have e3 : ev c (.cmp .lt ee (.con (.int 700))) [x0, some (.sh (.int (most : Nat))), some (.sh m), some (.ow r), some (.sh q), x5, x6, none] S = some (.bl t, S) := by
    rw [← d2]
    simp only [ev, hp, hmul, Option.bind_some, cmpF, Option.map_some]
    rfl
  have e4 : ev c (.cmp .lt (.bi .len (.idx (.var 4) (.con (.int 0)))) (.var 1)) [x0, some (.sh (.int (most : Nat))), some (.sh m), some (.ow r), some (.sh q), x5, x6, none] S = some (.bl true, S) := by simp only [startE, List.map, List.length, List.replicate, execs, exec, ev, evs, evcs, evts, unown, unown1, List.foldl, peek, getO, getE, idx0, idx1, idx2, idx3, idx4, idxl0, idxl1, idxl2, List.cons_append, List.nil_append, List.append_nil, Option.map_some, Option.bind_some, Option.map_none, Option.bind_none, cmpF, eq_str, List.getElem?_cons_zero, List.getElem?_cons_succ, List.set_cons_zero, List.set_cons_succ, Nat.reduceSub, Nat.reduceAdd, decide_true, decide_false, fnx, frt, bindT, hi, hl0, d1]
  generalize E.cmp .lt ee (.con (.int 700)) = e5 at e3 ⊢
  generalize E.cmp .lt (.bi .len (.idx (.var 4) (.con (.int 0)))) (.var 1) = e6 at e4 ⊢
  simp only [ev, e3, e4, Option.bind_some]
theorem sess_loop {moves : List Act} (hne : moves ≠ []) (hm : moves.length ≤ 16) (x0 : Option Ent) (most : Nat) : ∀ (n j : Nat) (x5 x6 : Option Ent), most < n + j → j ≤ most → most ≤ 100 → (upTo moves j).length ≤ 1500 →
    ∃ L y4 y5 y6, L ≤ most ∧ (upTo moves L).length ≤ 1500 ∧ whlGo (fun e S => ev (callK fs F k) (whlOf (d_law_sessions.body.drop 2)).1 e S) (fun e S => execs (callK fs F k) F (whlOf (d_law_sessions.body.drop 2)).2 e S) n [x0, some (.sh (.int (most : Nat))), some (.sh (sesD moves)), some (.ow (sessD (upTo moves j))), some (.sh (sessD (lvlM moves j))), x5, x6, none] S =
      some (.nx [x0, some (.sh (.int (most : Nat))), some (.sh (sesD moves)), some (.ow (sessD (upTo moves L))), y4, y5, y6, none] S) := by
  intro n
  induction n with
  | zero => intro j x5 x6 h1 h2 _ _; omega
  | succ n ihn =>
    intro j x5 x6 h1 h2 h3 hz
    obtain ⟨s0, rest, hs0⟩ : ∃ s0 rest, lvlM moves j = s0 :: rest := by
      cases h : lvlM moves j with
      | nil => exact absurd h (lvl_ne_nil hne j)
      | cons a b => exact ⟨a, b, rfl⟩
    have hsl : s0.length = j := (mem_lvl.mp (by rw [hs0]; exact List.mem_cons_self)).1
    have hi : ∀ S, idxS S (sessD (lvlM moves j)) (.int 0) = some (sesD s0) := fun S => by rw [hs0]; exact idxl0 S _ _
    have hl0 : biF .len (sesD s0) = some (.int (j : Nat)) := by simp [biF, sesD, hsl]
    have hl3 : biF .len (sessD (upTo moves j)) = some (.int ((upTo moves j).length : Nat)) := by simp [biF, sessD]
    have hl2 : biF .len (sesD moves) = some (.int (moves.length : Nat)) := by simp [biF, sesD]
    by_cases hc : j < most ∧ (upTo moves j).length * moves.length < 700
    · have d1 : decide (((j : Nat) : Int) < ((most : Nat) : Int)) = true := decide_eq_true (by omega)
      have d2 : decide ((((upTo moves j).length * moves.length : Nat) : Int) < 700) = true := decide_eq_true (by omega)
      have ht : ev (callK fs F k) (whlOf (d_law_sessions.body.drop 2)).1 [x0, some (.sh (.int (most : Nat))), some (.sh (sesD moves)), some (.ow (sessD (upTo moves j))), some (.sh (sessD (lvlM moves j))), x5, x6, none] S = some (.bl true, S) := by
        exact sess_test2 hi hl0 d1 hl3 hl2 hm d2
      have hll := lvl_up moves j
      have hlj : (lvlM moves j).length * moves.length ≤ (upTo moves j).length * moves.length := Nat.mul_le_mul_right _ hll
      obtain ⟨y6, hfor⟩ := sess_for (fs := fs) (F := F) (k := k) (S := S) moves x0 (some (.sh (.int (most : Nat)))) (some (.ow (sessD (upTo moves j)))) (some (.sh (sessD (lvlM moves j)))) hm (lvlM moves j) [] x6 (fun s m => by have := (mem_lvl.mp m).1; omega) (by simp; omega)
      have hb : execs (callK fs F k) F (whlOf (d_law_sessions.body.drop 2)).2 [x0, some (.sh (.int (most : Nat))), some (.sh (sesD moves)), some (.ow (sessD (upTo moves j))), some (.sh (sessD (lvlM moves j))), x5, x6, none] S = some (.nx [x0, some (.sh (.int (most : Nat))), some (.sh (sesD moves)), some (.ow (sessD (upTo moves (j + 1)))), some (.sh (sessD (lvlM moves (j + 1)))), some (.sh (sessD (lvlM moves (j + 1)))), y6, none] S) := by
        refine (execs_nx (env' := [x0, some (.sh (.int (most : Nat))), some (.sh (sesD moves)), some (.ow (sessD (upTo moves j))), some (.sh (sessD (lvlM moves j))), some (.ow (sessD [])), x6, none]) (S' := S) ?_).trans ?_
        · simp only [startE, List.map, List.length, List.replicate, execs, exec, ev, evs, evcs, evts, unown, unown1, List.foldl, peek, getO, getE, idx0, idx1, idx2, idx3, idx4, idxl0, idxl1, idxl2, List.cons_append, List.nil_append, List.append_nil, Option.map_some, Option.bind_some, Option.map_none, Option.bind_none, cmpF, eq_str, List.getElem?_cons_zero, List.getElem?_cons_succ, List.set_cons_zero, List.set_cons_succ, Nat.reduceSub, Nat.reduceAdd, decide_true, decide_false, fnx, frt, bindT, isMut, if_true]
          rfl
        refine (execs_nx (exec_for (ds := [sessD (lvlM moves j)]) (S1 := S) (by simp only [startE, List.map, List.length, List.replicate, execs, exec, ev, evs, evcs, evts, unown, unown1, List.foldl, peek, getO, getE, idx0, idx1, idx2, idx3, idx4, idxl0, idxl1, idxl2, List.cons_append, List.nil_append, List.append_nil, Option.map_some, Option.bind_some, Option.map_none, Option.bind_none, cmpF, eq_str, List.getElem?_cons_zero, List.getElem?_cons_succ, List.set_cons_zero, List.set_cons_succ, Nat.reduceSub, Nat.reduceAdd, decide_true, decide_false, fnx, frt, bindT]) rfl hfor)).trans ?_
        have hbg : ((upTo moves j).map sesD).length + ((lvlM moves (j + 1)).map sesD).length ≤ big := by
          have := lvl_len moves j
          simp
          unfold big
          omega
        have hlv : ([] ++ (lvlM moves j).flatMap fun s => moves.map fun m => s ++ [m]) = lvlM moves (j + 1) := rfl
        rw [hlv]
        simp only [startE, List.map, List.length, List.replicate, execs, exec, ev, evs, evcs, evts, unown, unown1, List.foldl, peek, getO, getE, idx0, idx1, idx2, idx3, idx4, idxl0, idxl1, idxl2, List.cons_append, List.nil_append, List.append_nil, Option.map_some, Option.bind_some, Option.map_none, Option.bind_none, cmpF, eq_str, List.getElem?_cons_zero, List.getElem?_cons_succ, List.set_cons_zero, List.set_cons_succ, Nat.reduceSub, Nat.reduceAdd, decide_true, decide_false, fnx, frt, bindT, sessD, hbg, if_true, upTo, List.map_append]
      have hz' : (upTo moves (j + 1)).length ≤ 1500 := by
        rw [upTo, List.length_append, lvl_len]
        have : (upTo moves j).length ≤ 700 := by
          have h1 : 1 ≤ moves.length := List.length_pos_iff.mpr hne
          have := Nat.mul_le_mul_left (upTo moves j).length h1
          omega
        omega
      obtain ⟨L, y4, y5, y6', hL, hLz, ih⟩ := ihn (j + 1) (some (.sh (sessD (lvlM moves (j + 1))))) y6 (by omega) (by omega) h3 hz'
      refine ⟨L, y4, y5, y6', hL, hLz, ?_⟩
      simp only [whlGo, ht, hb, Option.bind_some]
      exact ih
    · have ht : ev (callK fs F k) (whlOf (d_law_sessions.body.drop 2)).1 [x0, some (.sh (.int (most : Nat))), some (.sh (sesD moves)), some (.ow (sessD (upTo moves j))), some (.sh (sessD (lvlM moves j))), x5, x6, none] S = some (.bl false, S) := by
        by_cases h : j < most
        · have d1 : decide (((j : Nat) : Int) < ((most : Nat) : Int)) = true := decide_eq_true (by omega)
          have d2 : decide ((((upTo moves j).length * moves.length : Nat) : Int) < 700) = false := decide_eq_false (by omega)
          exact sess_test2 hi hl0 d1 hl3 hl2 hm d2
        · have d1 : decide (((j : Nat) : Int) < ((most : Nat) : Int)) = false := decide_eq_false (by omega)
          exact sess_test1 hi hl0 d1
      refine ⟨j, some (.sh (sessD (lvlM moves j))), x5, x6, h2, hz, ?_⟩
      simp only [whlGo, ht, Option.bind_some]
theorem e_sessions (h29 : fs[29]? = some d_law_moves) (h36 : fs[36]? = some d_law_sessions) {fm : List Fld} (o : FG1 fm 3) (most : Nat) (h1 : most ≤ 100) (hF : 100 < F) : ∃ L, L ≤ most ∧ (upTo (movesM fm []) L).length ≤ 1500 ∧ callK fs F (k + 2) 36 [formD fm, .int (most : Nat)] S = some (sessD (upTo (movesM fm []) L), S) := by
  have hmv := e_moves (F := F) (k := k) (S := S) h29 o.wl (by have := o.le; omega)
  obtain ⟨L, y4, y5, y6, hL, hz, hw⟩ := sess_loop (fs := fs) (F := F) (k := k + 1) (S := S) (moves_ne o.ne) (moves_len o) (some (.sh (formD fm))) most F 0 none none (by omega) (Nat.zero_le _) h1 (by simp [upTo, lvlM])
  refine ⟨L, hL, hz, ?_⟩
  rw [callK_eq h36 rfl]
  refine (congrArg fin (execs_nx (env' := [some (.sh (formD fm)), some (.sh (.int (most : Nat))), none, some (.ow (sessD (upTo (movesM fm []) 0))), some (.sh (sessD (lvlM (movesM fm []) 0))), none, none, none]) (S' := S) ?_)).trans ?_
  · simp only [startE, List.map, List.length, List.replicate, execs, exec, ev, evs, evcs, evts, unown, unown1, List.foldl, peek, getO, getE, idx0, idx1, idx2, idx3, idx4, idxl0, idxl1, idxl2, List.cons_append, List.nil_append, List.append_nil, Option.map_some, Option.bind_some, Option.map_none, Option.bind_none, cmpF, eq_str, List.getElem?_cons_zero, List.getElem?_cons_succ, List.set_cons_zero, List.set_cons_succ, Nat.reduceSub, Nat.reduceAdd, decide_true, decide_false, fnx, frt, bindT, d_law_sessions, parGo, isMut, Bool.not_true, Bool.and_false, Bool.false_and, Bool.false_eq_true, if_false, if_true]
    rfl
  refine (congrArg fin (execs_nx (env' := [some (.sh (formD fm)), some (.sh (.int (most : Nat))), some (.sh (sesD (movesM fm []))), some (.ow (sessD (upTo (movesM fm []) 0))), some (.sh (sessD (lvlM (movesM fm []) 0))), none, none, none]) (S' := S) ?_)).trans ?_
  · simp only [startE, List.map, List.length, List.replicate, execs, exec, ev, evs, evcs, evts, unown, unown1, List.foldl, peek, getO, getE, idx0, idx1, idx2, idx3, idx4, idxl0, idxl1, idxl2, List.cons_append, List.nil_append, List.append_nil, Option.map_some, Option.bind_some, Option.map_none, Option.bind_none, cmpF, eq_str, List.getElem?_cons_zero, List.getElem?_cons_succ, List.set_cons_zero, List.set_cons_succ, Nat.reduceSub, Nat.reduceAdd, decide_true, decide_false, fnx, frt, bindT, hmv]
  refine (congrArg fin (execs_nx (s := .whl (whlOf (d_law_sessions.body.drop 2)).1 (whlOf (d_law_sessions.body.drop 2)).2) hw)).trans ?_
  simp only [startE, List.map, List.length, List.replicate, execs, exec, ev, evs, evcs, evts, unown, unown1, List.foldl, peek, getO, getE, idx0, idx1, idx2, idx3, idx4, idxl0, idxl1, idxl2, List.cons_append, List.nil_append, List.append_nil, Option.map_some, Option.bind_some, Option.map_none, Option.bind_none, cmpF, eq_str, List.getElem?_cons_zero, List.getElem?_cons_succ, List.set_cons_zero, List.set_cons_succ, Nat.reduceSub, Nat.reduceAdd, decide_true, decide_false, fnx, frt, bindT]
end
end FG

namespace FG
open PySem PySem.Spec PyProof.Rows L2
/-! ### alike -/
theorem eqv_pairs : ∀ (xs ys : Ear), PyData.eqvAll (toPys (xs.map pairD)) (toPys (ys.map pairD)) = decide (xs = ys)
  | [], [] => rfl
  | [], y :: ys => rfl
  | x :: xs, [] => rfl
  | x :: xs, y :: ys => by
    have h1 : PyData.eqv (.str x.1) (.str y.1) = decide (x.1 = y.1) := eqD_str x.1 y.1
    have h2 := eqv_strs x.2 y.2
    simp only [List.map_cons, pairD, wD, toPys, toPy, PyData.eqvAll, PyData.eqv, h2, Bool.and_true]
    have h1' : (x.1 == y.1) = decide (x.1 = y.1) := by rw [← h1]; simp only [PyData.eqv]
    have ih := eqv_pairs xs ys
    rw [h1', ih]
    rw [Bool.eq_iff_iff]
    obtain ⟨a, b⟩ := x
    obtain ⟨c, d⟩ := y
    simp
theorem pyOk_pairs {e : Ear} (h : ∀ p ∈ e, PyData.strOk p.1 = true ∧ ∀ w ∈ p.2, PyData.strOk w = true) : pyOk 60 (earD e) = true := by
  have : ∀ l : Ear, (∀ p ∈ l, p ∈ e) → pyOks 59 (l.map pairD) = true := fun l => by
    induction l with
    | nil => intro _; simp [pyOks]
    | cons p l ih =>
      intro hs
      have h1 := h p (hs p List.mem_cons_self)
      have h3 := pyOks_str 57 p.2 h1.2
      simp only [List.map_cons, pyOks, pairD, pyOk, wD, h1.1, h3, Bool.true_and, Bool.and_true]
      exact ih fun q m => hs q (List.mem_cons_of_mem _ m)
  exact this e fun _ m => m
theorem eq_pairs {xs ys : Ear} (h : ∀ p ∈ xs, PyData.strOk p.1 = true ∧ ∀ w ∈ p.2, PyData.strOk w = true) (h' : ∀ p ∈ ys, PyData.strOk p.1 = true ∧ ∀ w ∈ p.2, PyData.strOk w = true) : eqF (earD xs) (earD ys) = some (decide (xs = ys)) := by
  have e : eqF (earD xs) (earD ys) = if scalD (earD xs) (earD ys) || (pyOk 60 (earD xs) && pyOk 60 (earD ys)) then some (eqD (earD xs) (earD ys)) else none := rfl
  rw [e, pyOk_pairs h, pyOk_pairs h']
  show some (PyData.eqvAll (toPys (xs.map pairD)) (toPys (ys.map pairD))) = _
  rw [eqv_pairs]
theorem nw_ok {fm : List Fld} (n : NmOk fm) : ∀ p ∈ fm.map nw, PyData.strOk p.1 = true ∧ ∀ w ∈ p.2, PyData.strOk w = true := fun p m => by
  obtain ⟨f, hf, rfl⟩ := List.mem_map.mp m
  exact ⟨n.nm f hf, n.wd f hf⟩
section
variable {fs : List Df} {F k : Nat} {S : Sto}
theorem slt2 (f : Fld) : slcF f.d none (some 2) = some (pairD (nw f)) := by
  have := cut_take [.str f.name, .tup (f.words.map .str), f.cond.d, .str (if f.clr then "clear" else "keep"), oD f.src] 2
  show some (D.tup (cutD _ none (some ((2 : Nat) : Int)))) = _
  rw [this]
  rfl
theorem alike_lc {c : Calls} (fm : List Fld) (i : Nat) (env : En) (hl : env.length = 3) (hi : env[i]? = some (some (.sh (formD fm)))) (hi2 : i < 2) (hz : fm.length ≤ 1000) : ev c (.lc [2] (.nm 2) .seq [.var i] [] (.slt (.var 2) (.con (.int 2)))) env S = some (earD (fm.map nw), S) := by
  have := ev_lcR (c := c) (own := [2]) (tg := .nm 2) (ik := .seq) (its := [.var i]) (ifs := []) (elt := .slt (.var 2) (.con (.int 2))) (env := env) (S := S) (S1 := S) (ds := [formD fm])
    Fld.d (fun _ => true) (fun f => pairD (nw f)) fm (by simp only [startE, List.map, List.length, List.replicate, execs, exec, ev, evs, evcs, evts, unown, unown1, List.foldl, peek, getO, getE, idx0, idx1, idx2, idx3, idx4, idxl0, idxl1, idxl2, List.cons_append, List.nil_append, List.append_nil, Option.map_some, Option.bind_some, Option.map_none, Option.bind_none, cmpF, eq_str, List.getElem?_cons_zero, List.getElem?_cons_succ, List.set_cons_zero, List.set_cons_succ, Nat.reduceSub, Nat.reduceAdd, decide_true, decide_false, fnx, frt, bindT, hi]) (by decide) rfl (fun f _ => ⟨_, rfl, rfl, fun _ => by
      have e2 : ((wipeE env [2]).set 2 (some (.sh f.d)))[2]? = some (some (.sh f.d)) := by
        rw [List.getElem?_set_self (by simp [wipeE, hl])]
      simp only [ev, peek, getO, getE, e2, Option.map_some, Option.bind_some, slt2]⟩) (by unfold big; omega)
  rw [this, List.filter_eq_self.mpr fun _ _ => rfl]
  unfold earD
  rw [List.map_map]
  rfl
theorem e_alike (b : BQ fs) (h43 : fs[43]? = some d_alike) {fm gm : List Fld} (o : FG1 fm 3) (o' : FG1 gm 3) : callK fs F (k + 13) 43 [formD fm, formD gm] S = some (.bl (decide (fm.map nw = gm.map nw)), S) := by
  rw [callK_eq h43 rfl]
  have h1 := q_need_form (F := F) (k := k) (S := S) b o
  have h2 := q_need_form (F := F) (k := k) (S := S) b o'
  have l1 := alike_lc (c := callK fs F (k + 12)) (S := S) fm 0 [some (.sh (formD fm)), some (.sh (formD gm)), none] rfl rfl (by decide) (by have := o.le; omega)
  have l2 := alike_lc (c := callK fs F (k + 12)) (S := S) gm 1 [some (.sh (formD fm)), some (.sh (formD gm)), none] rfl rfl (by decide) (by have := o'.le; omega)
  have he := eq_pairs (nw_ok o.nm) (nw_ok o'.nm)
  refine (congrArg fin (execs_nx (env' := [some (.sh (formD fm)), some (.sh (formD gm)), none]) (S' := S) ?_)).trans ?_
  · simp only [startE, List.map, List.length, List.replicate, execs, exec, ev, evs, evcs, evts, unown, unown1, List.foldl, peek, getO, getE, idx0, idx1, idx2, idx3, idx4, idxl0, idxl1, idxl2, List.cons_append, List.nil_append, List.append_nil, Option.map_some, Option.bind_some, Option.map_none, Option.bind_none, cmpF, eq_str, List.getElem?_cons_zero, List.getElem?_cons_succ, List.set_cons_zero, List.set_cons_succ, Nat.reduceSub, Nat.reduceAdd, decide_true, decide_false, fnx, frt, bindT, d_alike, h1]
  refine (congrArg fin (execs_nx (env' := [some (.sh (formD fm)), some (.sh (formD gm)), none]) (S' := S) ?_)).trans ?_
  · simp only [startE, List.map, List.length, List.replicate, execs, exec, ev, evs, evcs, evts, unown, unown1, List.foldl, peek, getO, getE, idx0, idx1, idx2, idx3, idx4, idxl0, idxl1, idxl2, List.cons_append, List.nil_append, List.append_nil, Option.map_some, Option.bind_some, Option.map_none, Option.bind_none, cmpF, eq_str, List.getElem?_cons_zero, List.getElem?_cons_succ, List.set_cons_zero, List.set_cons_succ, Nat.reduceSub, Nat.reduceAdd, decide_true, decide_false, fnx, frt, bindT, h2]
  refine (congrArg fin (execs_rt (exec_ret (d := .bl (decide (fm.map nw = gm.map nw))) (S1 := S) ?_))).trans rfl
  have p1 : ∀ env, peek env (.lc [2] (.nm 2) .seq [.var 0] [] (.slt (.var 2) (.con (.int 2)))) = none := fun _ => rfl
  have p2 : ∀ env, peek env (.lc [2] (.nm 2) .seq [.var 1] [] (.slt (.var 2) (.con (.int 2)))) = none := fun _ => rfl
  generalize E.lc [2] (.nm 2) .seq [.var 0] [] (.slt (.var 2) (.con (.int 2))) = e1 at l1 p1 ⊢
  generalize E.lc [2] (.nm 2) .seq [.var 1] [] (.slt (.var 2) (.con (.int 2))) = e2 at l2 p2 ⊢
  simp only [ev, p1, p2, unown, List.foldl, l1, l2, Option.bind_some, cmpF, he, Option.map_some]
end
/-! ### difference -/
theorem moves_nw : ∀ (fm gm : List Fld), fm.map nw = gm.map nw → movesM fm [] = movesM gm [] := by
  intro fm gm h
  rw [movesM_app, movesM_app, List.nil_append, List.nil_append]
  induction fm generalizing gm with
  | nil => cases gm with | nil => rfl | cons _ _ => cases h
  | cons f fm ih =>
    cases gm with
    | nil => cases h
    | cons g gm =>
      simp only [List.map_cons, List.cons.injEq, nw, Prod.mk.injEq] at h
      rw [List.flatMap_cons, List.flatMap_cons, ih gm h.2]
      unfold movF
      rw [h.1.1, h.1.2]
def stepD (fm gm : List Fld) (p : Row × Row) (a : Act) : Row × Row := (stepM fm p.1 a, stepM gm p.2 a)
def badD (fm gm : List Fld) (p : Row × Row) : Bool := !deq (collM fm p.1) (collM gm p.2)
noncomputable def diffM (F : Nat) (fm gm : List Fld) : Option (List Act) := sessM (bfsGo (stepD fm gm) (movesM fm []) (badD fm gm) F [((noneM fm, noneM gm), none)] [(noneM fm, noneM gm)])
section
variable {fs : List Df} {F k : Nat} {S : Sto}
structure BV (fs : List Df) : Prop where
  q : BQ fs
  h43 : fs[43]? = some d_alike
  h44 : fs[44]? = some d_difference
def envD (fm gm : List Fld) (x2 : Option Ent) (src : Src (Row × Row) Act) (lv : List (Row × Row)) (ξ : Option Ent × Option Ent × Option Ent) : En := [some (.sh (formD fm)), some (.sh (formD gm)), x2, some (.ow (srcD encPair src)), some (.ow (.lst (lv.map encPair.d))), ξ.1, ξ.2.1, ξ.2.2]
theorem dif_act (b : BV fs) {fm gm : List Fld} (o : FG1 fm 3) (o' : FG1 gm 3) (x2 : Option Ent) (x : Row × Row) (hx : RowOk fm x.1 ∧ RowOk gm x.2) (a : Act) (src : Src (Row × Row) Act) (lv : List (Row × Row)) (x7 : Option Ent) (hs : src.length < big) (hl : lv.length < big) :
    ∃ y7, execs (callK fs F (k + 13)) F (forOf ((whlOf (d_difference.body.drop 3)).2.drop 2)) [some (.sh (formD fm)), some (.sh (formD gm)), x2, some (.ow (srcD encPair src)), some (.ow (.lst (lv.map encPair.d))), some (.sh (encPair.d x)), some (.sh a.d), x7] S =
      some (.nx [some (.sh (formD fm)), some (.sh (formD gm)), x2, some (.ow (srcD encPair (pushA (stepD fm gm) x [a] src lv).1)), some (.ow (.lst ((pushA (stepD fm gm) x [a] src lv).2.map encPair.d))), some (.sh (encPair.d x)), some (.sh a.d), y7] S) := by
  have h1 := e_stepped (F := F) (k := k + 9) (S := S) b.q.b2 (o.mono (by omega)).sz hx.1.len a
  have h2 := e_stepped (F := F) (k := k + 9) (S := S) b.q.b2 (o'.mono (by omega)).sz hx.2.len a
  refine ⟨some (.sh (encPair.d (stepD fm gm x a))), ?_⟩
  have hi0 : ∀ S, idxS S (encPair.d x) (.int 0) = some (ansD x.1) := fun S => idx0 S _ _
  have hi1 : ∀ S, idxS S (encPair.d x) (.int 1) = some (ansD x.2) := fun S => idx1 S _ _ _
  simp only [pushA]
  by_cases hm : stepD fm gm x a ∈ keysS src
  · have hin' : inF (.tup [ansD (stepM fm x.1 a), ansD (stepM gm x.2 a)]) (srcD encPair src) = some true := in_srcT encPair hm
    rw [if_pos hm]
    simp only [startE, List.map, List.length, List.replicate, execs, exec, ev, evs, evcs, evts, unown, unown1, List.foldl, peek, getO, getE, idx0, idx1, idx2, idx3, idx4, idxl0, idxl1, idxl2, List.cons_append, List.nil_append, List.append_nil, Option.map_some, Option.bind_some, Option.map_none, Option.bind_none, cmpF, eq_str, List.getElem?_cons_zero, List.getElem?_cons_succ, List.set_cons_zero, List.set_cons_succ, Nat.reduceSub, Nat.reduceAdd, decide_true, decide_false, fnx, frt, bindT, forOf, whlOf, d_difference, List.drop, hi0, hi1, h1, h2, hin', Bool.not_true]
    rfl
  · have hin' : inF (.tup [ansD (stepM fm x.1 a), ansD (stepM gm x.2 a)]) (srcD encPair src) = some false := in_srcF encPair hm
    have hset' : setF (srcD encPair src) (.tup [ansD (stepM fm x.1 a), ansD (stepM gm x.2 a)]) (.tup [encPair.d x, a.d]) = some (srcD encPair (src ++ [(stepD fm gm x a, some (x, a))])) := set_src encPair (some (x, a)) hm hs
    have hl' : (lv.map encPair.d).length < big := by simpa using hl
    rw [if_neg hm]
    simp only [startE, List.map, List.length, List.replicate, execs, exec, ev, evs, evcs, evts, unown, unown1, List.foldl, peek, getO, getE, idx0, idx1, idx2, idx3, idx4, idxl0, idxl1, idxl2, List.cons_append, List.nil_append, List.append_nil, Option.map_some, Option.bind_some, Option.map_none, Option.bind_none, cmpF, eq_str, List.getElem?_cons_zero, List.getElem?_cons_succ, List.set_cons_zero, List.set_cons_succ, Nat.reduceSub, Nat.reduceAdd, decide_true, decide_false, fnx, frt, bindT, forOf, whlOf, d_difference, List.drop, hi0, hi1, h1, h2, hin', Bool.not_false, hset', hl', if_true, List.map_append, List.map_cons, List.map_nil]
    rfl
theorem dif_acts (b : BV fs) {fm gm : List Fld} (o : FG1 fm 3) (o' : FG1 gm 3) (x2 : Option Ent) (x : Row × Row) (hx : RowOk fm x.1 ∧ RowOk gm x.2) (src : Src (Row × Row) Act) (lv : List (Row × Row)) (x6 x7 : Option Ent) (hs : src.length + 16 ≤ big) (hl : lv.length + 16 ≤ big) :
    ∃ y6 y7, exec (callK fs F (k + 13)) F (.for [] (.nm 6) .seq [.call 14 [.var 0]] (forOf ((whlOf (d_difference.body.drop 3)).2.drop 2))) [some (.sh (formD fm)), some (.sh (formD gm)), x2, some (.ow (srcD encPair src)), some (.ow (.lst (lv.map encPair.d))), some (.sh (encPair.d x)), x6, x7] S =
      some (.nx [some (.sh (formD fm)), some (.sh (formD gm)), x2, some (.ow (srcD encPair (pushA (stepD fm gm) x (movesM fm []) src lv).1)), some (.ow (.lst ((pushA (stepD fm gm) x (movesM fm []) src lv).2.map encPair.d))), some (.sh (encPair.d x)), y6, y7] S) := by
  have hac := e_actions (F := F) (k := k + 12) (S := S) b.q.h14 o.wl (by have := o.le; omega)
  have hml := moves_len o
  obtain ⟨ξ', hfp⟩ := for_push (step := stepD fm gm) (acts := movesM fm []) (S := S) (bind := bindT (.nm 6)) (body := fun e S => execs (callK fs F (k + 13)) F (forOf ((whlOf (d_difference.body.drop 3)).2.drop 2)) e S)
    (fun src lv (ξ : Option Ent × Option Ent) => [some (.sh (formD fm)), some (.sh (formD gm)), x2, some (.ow (srcD encPair src)), some (.ow (.lst (lv.map encPair.d))), some (.sh (encPair.d x)), ξ.1, ξ.2]) x
    (fun a src lv ξ ha h1 h2 => by
      obtain ⟨y7, h⟩ := dif_act (F := F) (k := k) (S := S) b o o' x2 x hx a src lv ξ.2 h1 h2
      exact ⟨_, (some (.sh a.d), y7), rfl, h⟩) (movesM fm []) src lv (x6, x7) (fun a m => m) (by omega) (by omega)
  refine ⟨ξ'.1, ξ'.2, ?_⟩
  exact exec_for (ds := [sesD (movesM fm [])]) (S1 := S) (by simp only [startE, List.map, List.length, List.replicate, execs, exec, ev, evs, evcs, evts, unown, unown1, List.foldl, peek, getO, getE, idx0, idx1, idx2, idx3, idx4, idxl0, idxl1, idxl2, List.cons_append, List.nil_append, List.append_nil, Option.map_some, Option.bind_some, Option.map_none, Option.bind_none, cmpF, eq_str, List.getElem?_cons_zero, List.getElem?_cons_succ, List.set_cons_zero, List.set_cons_succ, Nat.reduceSub, Nat.reduceAdd, decide_true, decide_false, fnx, frt, bindT, hac]) rfl hfp
theorem e_difference (b : BV fs) {fm gm : List Fld} (o : FG1 fm 3) (o' : FG1 gm 3) (hal : fm.map nw = gm.map nw) (hF : 65536 < F) : callK fs F (k + 14) 44 [formD fm, formD gm] S = some (optD (diffM F fm gm), S) ∧ Told (stepD fm gm) (movesM fm []) (noneM fm, noneM gm) (badD fm gm) (diffM F fm gm) := by
  have hsm := pairs_small o.wl o.le o'.wl o'.le
  have hmv := moves_nw fm gm hal
  have hu : ∀ y ∈ allPairs fm gm, ∀ a ∈ movesM fm [], stepD fm gm y a ∈ allPairs fm gm := fun y hy a ha => by
    have hy' := mem_pairs.mp hy
    exact mem_pairs.mpr ⟨step_ok o.ok o.nd hy'.1 ha, step_ok o'.ok o'.nd hy'.2 (by rw [← hmv]; exact ha)⟩
  have hst : (noneM fm, noneM gm) ∈ allPairs fm gm := mem_pairs.mpr ⟨rowOk_none fm, rowOk_none gm⟩
  have hw := whl_bfs (S := S) (step := stepD fm gm) (acts := movesM fm []) (start := (noneM fm, noneM gm)) (univ := allPairs fm gm) (bad := badD fm gm)
    (test := fun e S => ev (callK fs F (k + 13)) (whlOf (d_difference.body.drop 3)).1 e S) (body := fun e S => execs (callK fs F (k + 13)) F (whlOf (d_difference.body.drop 3)).2 e S)
    (envD fm gm (some (.sh (encPair.d (noneM fm, noneM gm))))) hu
    (fun src lv ξ hlu => by
      have hp : pyOk 60 (.lst (lv.map encPair.d)) = true := by
        show pyOks 59 (lv.map encPair.d) = true
        refine pyOks_all 59 fun y m => ?_
        have hy := mem_pairs.mp (hlu y m)
        show pyOks 58 [ansD y.1, ansD y.2] = true
        simp only [pyOks, pyOk_ans 57 o.nm hy.1, pyOk_ans 57 o'.nm hy.2, Bool.and_true]
      have hne := lvl_ne hp
      simp only [startE, List.map, List.length, List.replicate, execs, exec, ev, evs, evcs, evts, unown, unown1, List.foldl, peek, getO, getE, idx0, idx1, idx2, idx3, idx4, idxl0, idxl1, idxl2, List.cons_append, List.nil_append, List.append_nil, Option.map_some, Option.bind_some, Option.map_none, Option.bind_none, cmpF, eq_str, List.getElem?_cons_zero, List.getElem?_cons_succ, List.set_cons_zero, List.set_cons_succ, Nat.reduceSub, Nat.reduceAdd, decide_true, decide_false, fnx, frt, bindT, envD, whlOf, d_difference, List.drop, hne])
    (fun src x lv ξ ss hxu hbx hpt hsl => by
      have h9a := e_collected (F := F) (k := k + 9) (S := S) b.q.b2 b.q.h9 (o.mono (by omega)).sz x.1
      have h9b := e_collected (F := F) (k := k + 9) (S := S) b.q.b2 b.q.h9 (o'.mono (by omega)).sz x.2
      have hde := eq_deq (collM fm x.1) (collM gm x.2)
      have hbx' : deq (collM fm x.1) (collM gm x.2) = false := by unfold badD at hbx; simpa using hbx
      rw [hbx'] at hde
      have h37 := e_session_to (E := encPair) (F := F) (k := k + 12) (S := S) b.q.h37 hpt (by omega) (by omega)
      have hi0 : ∀ S, idxS S (encPair.d x) (.int 0) = some (ansD x.1) := fun S => idx0 S _ _
      have hi1 : ∀ S, idxS S (encPair.d x) (.int 1) = some (ansD x.2) := fun S => idx1 S _ _ _
      have s1 : exec (callK fs F (k + 13)) F (.pop0 5 4) (envD fm gm (some (.sh (encPair.d (noneM fm, noneM gm)))) src (x :: lv) ξ) S = some (.nx [some (.sh (formD fm)), some (.sh (formD gm)), some (.sh (encPair.d (noneM fm, noneM gm))), some (.ow (srcD encPair src)), some (.ow (.lst (lv.map encPair.d))), some (.sh (encPair.d x)), ξ.2.1, ξ.2.2] S) := rfl
      refine (execs_nx s1).trans (execs_rt ?_)
      simp only [startE, List.map, List.length, List.replicate, execs, exec, ev, evs, evcs, evts, unown, unown1, List.foldl, peek, getO, getE, idx0, idx1, idx2, idx3, idx4, idxl0, idxl1, idxl2, List.cons_append, List.nil_append, List.append_nil, Option.map_some, Option.bind_some, Option.map_none, Option.bind_none, cmpF, eq_str, List.getElem?_cons_zero, List.getElem?_cons_succ, List.set_cons_zero, List.set_cons_succ, Nat.reduceSub, Nat.reduceAdd, decide_true, decide_false, fnx, frt, bindT, hi0, hi1, h9a, h9b, hde, Bool.not_false, h37])
    (fun src x lv ξ hxu hbx hsl hll => by
      have hx := mem_pairs.mp hxu
      have h9a := e_collected (F := F) (k := k + 9) (S := S) b.q.b2 b.q.h9 (o.mono (by omega)).sz x.1
      have h9b := e_collected (F := F) (k := k + 9) (S := S) b.q.b2 b.q.h9 (o'.mono (by omega)).sz x.2
      have hde := eq_deq (collM fm x.1) (collM gm x.2)
      have hbx' : deq (collM fm x.1) (collM gm x.2) = true := by unfold badD at hbx; simpa using hbx
      rw [hbx'] at hde
      have hi0 : ∀ S, idxS S (encPair.d x) (.int 0) = some (ansD x.1) := fun S => idx0 S _ _
      have hi1 : ∀ S, idxS S (encPair.d x) (.int 1) = some (ansD x.2) := fun S => idx1 S _ _ _
      obtain ⟨y6, y7, hfor⟩ := dif_acts (F := F) (k := k) (S := S) b o o' (some (.sh (encPair.d (noneM fm, noneM gm)))) x hx src lv ξ.2.1 ξ.2.2 (by unfold big; omega) (by unfold big; omega)
      refine ⟨(some (.sh (encPair.d x)), y6, y7), ?_⟩
      have s1 : exec (callK fs F (k + 13)) F (.pop0 5 4) (envD fm gm (some (.sh (encPair.d (noneM fm, noneM gm)))) src (x :: lv) ξ) S = some (.nx [some (.sh (formD fm)), some (.sh (formD gm)), some (.sh (encPair.d (noneM fm, noneM gm))), some (.ow (srcD encPair src)), some (.ow (.lst (lv.map encPair.d))), some (.sh (encPair.d x)), ξ.2.1, ξ.2.2] S) := rfl
      refine (execs_nx s1).trans ?_
      refine (execs_nx (env' := [some (.sh (formD fm)), some (.sh (formD gm)), some (.sh (encPair.d (noneM fm, noneM gm))), some (.ow (srcD encPair src)), some (.ow (.lst (lv.map encPair.d))), some (.sh (encPair.d x)), ξ.2.1, ξ.2.2]) (S' := S) ?_).trans ?_
      · simp only [startE, List.map, List.length, List.replicate, execs, exec, ev, evs, evcs, evts, unown, unown1, List.foldl, peek, getO, getE, idx0, idx1, idx2, idx3, idx4, idxl0, idxl1, idxl2, List.cons_append, List.nil_append, List.append_nil, Option.map_some, Option.bind_some, Option.map_none, Option.bind_none, cmpF, eq_str, List.getElem?_cons_zero, List.getElem?_cons_succ, List.set_cons_zero, List.set_cons_succ, Nat.reduceSub, Nat.reduceAdd, decide_true, decide_false, fnx, frt, bindT, hi0, hi1, h9a, h9b, hde, Bool.not_true]
      · exact (execs_nx hfor).trans rfl)
    F [((noneM fm, noneM gm), none)] [0] 0 [(noneM fm, noneM gm)] (none, none, none) (bi_start hst) (Nat.zero_le _) rfl (fun i y hi => by omega) (by omega)
  have h43 := e_alike (F := F) (k := k) (S := S) b.q b.h43 o o'
  rw [decide_eq_true hal] at h43
  have h10 := e_empty (F := F) (k := k + 12) (S := S) b.q.b2.h10 o.ne (by have := o.le; omega)
  have h10' := e_empty (F := F) (k := k + 12) (S := S) b.q.b2.h10 o'.ne (by have := o'.le; omega)
  have hkey := encPair.key (noneM fm, noneM gm)
  have s0 : ∀ tl, execs (callK fs F (k + 13)) F (.ite (.not (.call 43 [.var 0, .var 1])) [.stuck] [] :: .asg [] 2 (.tup [.call 10 [.var 0], .call 10 [.var 1]]) :: .par [3, 4] [.ndc1 (.var 2) (.con (.non)), .lst [.var 2]] [true, true] :: tl) [some (.sh (formD fm)), some (.sh (formD gm)), none, none, none, none, none, none] S = execs (callK fs F (k + 13)) F tl (envD fm gm (some (.sh (encPair.d (noneM fm, noneM gm)))) [((noneM fm, noneM gm), none)] [(noneM fm, noneM gm)] (none, none, none)) S := fun tl => by
    refine (execs_nx (env' := [some (.sh (formD fm)), some (.sh (formD gm)), none, none, none, none, none, none]) (S' := S) ?_).trans ?_
    · simp only [startE, List.map, List.length, List.replicate, execs, exec, ev, evs, evcs, evts, unown, unown1, List.foldl, peek, getO, getE, idx0, idx1, idx2, idx3, idx4, idxl0, idxl1, idxl2, List.cons_append, List.nil_append, List.append_nil, Option.map_some, Option.bind_some, Option.map_none, Option.bind_none, cmpF, eq_str, List.getElem?_cons_zero, List.getElem?_cons_succ, List.set_cons_zero, List.set_cons_succ, Nat.reduceSub, Nat.reduceAdd, decide_true, decide_false, fnx, frt, bindT, h43, Bool.not_true]
    refine (execs_nx (env' := [some (.sh (formD fm)), some (.sh (formD gm)), some (.sh (encPair.d (noneM fm, noneM gm))), none, none, none, none, none]) (S' := S) ?_).trans (execs_nx ?_)
    · simp only [startE, List.map, List.length, List.replicate, execs, exec, ev, evs, evcs, evts, unown, unown1, List.foldl, peek, getO, getE, idx0, idx1, idx2, idx3, idx4, idxl0, idxl1, idxl2, List.cons_append, List.nil_append, List.append_nil, Option.map_some, Option.bind_some, Option.map_none, Option.bind_none, cmpF, eq_str, List.getElem?_cons_zero, List.getElem?_cons_succ, List.set_cons_zero, List.set_cons_succ, Nat.reduceSub, Nat.reduceAdd, decide_true, decide_false, fnx, frt, bindT, h10, h10']
      rfl
    · simp only [startE, List.map, List.length, List.replicate, execs, exec, ev, evs, evcs, evts, unown, unown1, List.foldl, peek, getO, getE, idx0, idx1, idx2, idx3, idx4, idxl0, idxl1, idxl2, List.cons_append, List.nil_append, List.append_nil, Option.map_some, Option.bind_some, Option.map_none, Option.bind_none, cmpF, eq_str, List.getElem?_cons_zero, List.getElem?_cons_succ, List.set_cons_zero, List.set_cons_succ, Nat.reduceSub, Nat.reduceAdd, decide_true, decide_false, fnx, frt, bindT, parGo, hkey, isMut, Bool.not_true, Bool.and_false, Bool.false_eq_true, if_false, if_true]
      rfl
  have hun : ∀ r, bfsGo (stepD fm gm) (movesM fm []) (badD fm gm) F [((noneM fm, noneM gm), none)] [(noneM fm, noneM gm)] = some r → diffM F fm gm = sessM (some r) := fun r h => by unfold diffM; rw [h]
  rw [callK_eq b.h44 rfl]
  rcases hw with ⟨src', ξ', hbf, hf, hwl⟩ | ⟨x, src', ss, hbf, hf, hpt, g2, g3, g4, g6, g5, hwl⟩
  · have e := hun _ hbf
    rw [show sessM (some (none, src')) = none from rfl] at e
    rw [e]
    refine ⟨(congrArg fin ((s0 _).trans (execs_nx (s := .whl (whlOf (d_difference.body.drop 3)).1 (whlOf (d_difference.body.drop 3)).2) (env' := envD fm gm (some (.sh (encPair.d (noneM fm, noneM gm)))) src' [] ξ') (S' := S) hwl))).trans ?_, ⟨fun _ ss ha => found_none hf ss ha, fun ss h => by cases h⟩⟩
    simp only [startE, List.map, List.length, List.replicate, execs, exec, ev, evs, evcs, evts, unown, unown1, List.foldl, peek, getO, getE, idx0, idx1, idx2, idx3, idx4, idxl0, idxl1, idxl2, List.cons_append, List.nil_append, List.append_nil, Option.map_some, Option.bind_some, Option.map_none, Option.bind_none, cmpF, eq_str, List.getElem?_cons_zero, List.getElem?_cons_succ, List.set_cons_zero, List.set_cons_succ, Nat.reduceSub, Nat.reduceAdd, decide_true, decide_false, fnx, frt, bindT, envD]
    rfl
  · have e := hun _ hbf
    rw [show sessM (some (some x, src')) = some (pathOf src' x) from rfl, pathOf_eq hpt] at e
    rw [e]
    refine ⟨(congrArg fin ((s0 _).trans (execs_rt (s := .whl (whlOf (d_difference.body.drop 3)).1 (whlOf (d_difference.body.drop 3)).2) hwl))).trans rfl, ⟨fun h => (by cases h), fun ts h => ?_⟩⟩
    cases h
    exact ⟨g2, by rw [g3]; exact g4, by omega, g6⟩
end
/-- the collections of two forms differ after a session -/
def apartM (fm gm : List Fld) (ss : List Act) : Bool := !deq (collM fm (plA fm ss)) (collM gm (plA gm ss))
theorem run_step (fm : List Fld) : ∀ (ss : List Act) (as cs : Row), (playM fm ss as cs).1 = runS (stepM fm) as ss
  | [], as, cs => rfl
  | a :: ss, as, cs => by
    rw [playM]
    exact run_step fm ss _ _
theorem plA_run (fm : List Fld) (ss : List Act) : plA fm ss = runS (stepM fm) (noneM fm) ss := run_step fm ss _ _
theorem run_dif (fm gm : List Fld) : ∀ (ss : List Act) (a b : Row), runS (stepD fm gm) (a, b) ss = (runS (stepM fm) a ss, runS (stepM gm) b ss)
  | [], a, b => rfl
  | x :: ss, a, b => run_dif fm gm ss _ _
theorem apart_bad (fm gm : List Fld) (ss : List Act) : badD fm gm (runS (stepD fm gm) (noneM fm, noneM gm) ss) = apartM fm gm ss := by
  rw [run_dif]
  unfold badD apartM
  rw [plA_run, plA_run]
theorem diff_told {fs : List Df} {F : Nat} (b : BV fs) {fm gm : List Fld} (o : FG1 fm 3) (o' : FG1 gm 3) (hal : fm.map nw = gm.map nw) (hF : 65536 < F) : (diffM F fm gm = none → ∀ ss, (∀ a ∈ ss, a ∈ movesM fm []) → apartM fm gm ss = false) ∧ ∀ ss, diffM F fm gm = some ss → (∀ a ∈ ss, a ∈ movesM fm []) ∧ apartM fm gm ss = true ∧ ss.length ≤ 65536 ∧ ∀ ts, (∀ a ∈ ts, a ∈ movesM fm []) → apartM fm gm ts = true → ss.length ≤ ts.length := by
  have h := (e_difference (k := 0) (S := []) b o o' hal hF).2
  refine ⟨fun e ss ha => ?_, fun ss e => ?_⟩
  · have := h.no e ss ha
    rw [apart_bad] at this
    exact this
  · obtain ⟨h1, h2, h3, h4⟩ := h.yes ss e
    rw [apart_bad] at h2
    exact ⟨h1, h2, h3, fun ts ht hb => h4 ts ht (by rw [apart_bad]; exact hb)⟩
end FG

namespace FG
open PySem PySem.Spec PyProof.Rows L2
/-! ### the first that is so, among sessions by length -/
def natO : Option Nat → D
  | none => .non
  | some n => .int (n : Nat)
def bestP (p : List Act → Bool) : List (List Act) → Option Nat → Option Nat
  | [], b => b
  | s :: l, b => bestP p l (if b.isNone && p s then some s.length else b)
section
variable {p : List Act → Bool}
theorem bestP_some : ∀ (l : List (List Act)) (n : Nat), bestP p l (some n) = some n
  | [], n => rfl
  | s :: l, n => by
    rw [bestP]
    exact bestP_some l n
theorem bestP_none : ∀ {l : List (List Act)}, bestP p l none = none → ∀ s ∈ l, p s = false
  | [], _, s, m => by cases m
  | t :: l, h, s, m => by
    rw [bestP] at h
    cases hb : p t with
    | true => rw [hb] at h; simp only [Option.isNone_none, Bool.and_self, if_true] at h; rw [bestP_some] at h; cases h
    | false =>
      rw [hb] at h
      simp only [Option.isNone_none, Bool.and_false, Bool.false_eq_true, if_false] at h
      rcases List.mem_cons.mp m with rfl | m
      · exact hb
      · exact bestP_none h s m
theorem bestP_min : ∀ {l : List (List Act)} {n : Nat}, l.Pairwise (fun s t => s.length ≤ t.length) → bestP p l none = some n → (∃ s ∈ l, p s = true ∧ s.length = n) ∧ ∀ t ∈ l, p t = true → n ≤ t.length
  | [], n, _, h => by cases h
  | t :: l, n, hp, h => by
    rw [bestP] at h
    rw [List.pairwise_cons] at hp
    cases hb : p t with
    | true =>
      rw [hb] at h
      simp only [Option.isNone_none, Bool.and_self, if_true] at h
      rw [bestP_some] at h
      cases h
      refine ⟨⟨t, List.mem_cons_self, hb, rfl⟩, fun s m _ => ?_⟩
      rcases List.mem_cons.mp m with rfl | m
      · exact Nat.le_refl _
      · exact hp.1 s m
    | false =>
      rw [hb] at h
      simp only [Option.isNone_none, Bool.and_false, Bool.false_eq_true, if_false] at h
      obtain ⟨⟨s, m, h1, h2⟩, h3⟩ := bestP_min hp.2 h
      refine ⟨⟨s, List.mem_cons_of_mem _ m, h1, h2⟩, fun s' m' hb' => ?_⟩
      rcases List.mem_cons.mp m' with rfl | m'
      · rw [hb] at hb'; cases hb'
      · exact h3 s' m' hb'
end
theorem up_sorted (moves : List Act) : ∀ n, (upTo moves n).Pairwise fun s t => s.length ≤ t.length
  | 0 => by simp [upTo, lvlM]
  | n + 1 => by
    rw [upTo, List.pairwise_append]
    refine ⟨up_sorted moves n, ?_, fun s hs t ht => ?_⟩
    · refine List.pairwise_of_forall_mem_list fun s hs t ht => ?_
      rw [(mem_lvl.mp hs).1, (mem_lvl.mp ht).1]
      exact Nat.le_refl _
    · rw [(mem_lvl.mp ht).1]
      have := (mem_upTo.mp hs).1
      omega
theorem is_natO (b : Option Nat) : isF (natO b) .non = some b.isNone := by cases b <;> rfl
theorem is_optD (r : Option (List Act)) : isF (optD r) .non = some r.isNone := by cases r <;> rfl
theorem any_falseL {α : Type} (xs : List α) : biF .any (.lst (xs.map fun _ => .bl false)) = some (.bl false) := by
  have h : bools (xs.map fun _ => D.bl false) = some (xs.map fun _ => false) := by
    induction xs with
    | nil => rfl
    | cons x xs ih => simp [bools, ih]
  simp [biF, h]
theorem ev_orB {c : Calls} {a b : E} {env : En} {S S1 S2 : Sto} {r : Bool} (ha : ev c a env S = some (.bl false, S1)) (hb : ev c b env S1 = some (.bl r, S2)) : ev c (.or a b) env S = some (.bl r, S2) := by
  simp only [ev, ha, hb, Option.bind_some]
theorem atI_end {α : Type} (l : List α) (x : α) : atI (l ++ [x]) (-1) = some x := by
  unfold atI ixN
  have h1 : (l ++ [x]).length = l.length + 1 := by simp
  have h2 : ((-1 : Int) + ((l.length + 1 : Nat) : Int)).toNat = l.length := by omega
  rw [if_neg (by decide), h1, if_pos (by omega), h2]
  show (l ++ [x])[l.length]? = some x
  simp
theorem eq_bl (a b : Bool) : eqF (.bl a) (.bl b) = some (a == b) := by cases a <;> cases b <;> rfl
/-! ### dicts that hold the same -/
theorem eqD_oD_iff (a b : Option Str) : eqD (oD a) (oD b) = true ↔ a = b := by
  cases a with
  | none => cases b with
    | none => exact ⟨fun _ => rfl, fun _ => rfl⟩
    | some y => exact ⟨(fun h => by cases h), (fun h => by cases h)⟩
  | some x => cases b with
    | none => exact ⟨(fun h => by cases h), (fun h => by cases h)⟩
    | some y =>
      show eqD (.str x) (.str y) = true ↔ _
      rw [eqD_str]
      simp
theorem hits_iff {l' : Dic} : ∀ l : Dic, dHits (l'.map fun p => .text p.1) (l'.map fun p => oD p.2) (l.map fun p => .text p.1) (l.map fun p => oD p.2) = true ↔ ∀ p ∈ l, l'.lookup p.1 = some p.2
  | [] => ⟨(fun _ p m => by cases m), fun _ => rfl⟩
  | p :: l => by
    have ih := hits_iff (l' := l') l
    simp only [List.map_cons, dHits, look_dD, Bool.and_eq_true, ih, List.forall_mem_cons]
    refine and_congr_left fun _ => ?_
    cases h : l'.lookup p.1 with
    | none => simp
    | some v =>
      simp only [Option.map_some, eqD_oD_iff, Option.some.injEq]
      exact eq_comm
theorem deq_iff {l l' : Dic} (h : (l.map (·.1)).Nodup) (h' : (l'.map (·.1)).Nodup) : deq l l' = true ↔ ∀ p, p ∈ l ↔ p ∈ l' := by
  unfold deq dSame
  rw [Bool.and_eq_true, decide_eq_true_eq, hits_iff, List.length_map, List.length_map]
  constructor
  · rintro ⟨hl, hh⟩
    have sub : ∀ p ∈ l, p ∈ l' := fun p m => by
      obtain ⟨l1, l2, e, _⟩ := List.lookup_eq_some_iff.mp (hh p m)
      rw [e]
      simp
    refine fun p => ⟨sub p, fun m => ?_⟩
    by_cases hp : p ∈ l
    · exact hp
    · have hn : (p :: l).Nodup := List.nodup_cons.mpr ⟨hp, nodup_keys h⟩
      have := List.Nodup.length_le_of_subset hn (fun q mq => by
        rcases List.mem_cons.mp mq with rfl | mq
        · exact m
        · exact sub q mq)
      simp at this
      omega
  · intro e
    refine ⟨((List.perm_ext_iff_of_nodup (nodup_keys h) (nodup_keys h')).mpr e).length_eq, fun p m => lookup_of_mem h' ((e p).mp m)⟩
theorem deq_symm {l l' : Dic} (h : (l.map (·.1)).Nodup) (h' : (l'.map (·.1)).Nodup) : deq l l' = deq l' l := by
  rw [Bool.eq_iff_iff, deq_iff h h', deq_iff h' h]
  exact ⟨fun e p => (e p).symm, fun e p => (e p).symm⟩
theorem deq_refl {l : Dic} (h : (l.map (·.1)).Nodup) : deq l l = true := (deq_iff h h).mpr fun _ => Iff.rfl
theorem deq_trans {l l' l'' : Dic} (h : (l.map (·.1)).Nodup) (h' : (l'.map (·.1)).Nodup) (h'' : (l''.map (·.1)).Nodup) (e : deq l l' = true) (e' : deq l' l'' = true) : deq l l'' = true :=
  (deq_iff h h'').mpr fun p => ((deq_iff h h').mp e p).trans ((deq_iff h' h'').mp e' p)
theorem coll_nd (fm : List Fld) (r : Row) : ((collM fm r).map (·.1)).Nodup := filter_nodup (vis_nodup fm r)
theorem apart_symm (fm gm : List Fld) (ss : List Act) : apartM fm gm ss = apartM gm fm ss := by
  unfold apartM
  rw [deq_symm (coll_nd _ _) (coll_nd _ _)]
theorem apart_self (fm : List Fld) (ss : List Act) : apartM fm fm ss = false := by
  unfold apartM
  rw [deq_refl (coll_nd _ _)]
  rfl
/-! ### a law's run, without the straight sessions -/
section
variable {fs : List Df} {F k : Nat} {S : Sto}
theorem r_run (b : BL fs) {fm : List Fld} (o : FG1 fm 3) (ss : List Act) : callK fs F (k + 12) 33 [formD fm, sesD ss] S = some (.tup [dD (collM fm (plA fm ss)), dD (rChos fm ss), .lst ((visM fm (plA fm ss)).map fun p => .str p.1)], S) := by
  have h := e_run (F := F) (k := k + 8) (S := S) b.h30 b.h31 b.h32 b.h33 (o.mono (by omega)).sz ss
  rw [seen_vis o.nd] at h
  exact h
theorem ev_run0 (b : BL fs) {fm : List Fld} (o : FG1 fm 3) {env : En} {i j : Nat} {ss : List Act} (hi : env[i]? = some (some (.sh (formD fm)))) (hj : env[j]? = some (some (.sh (sesD ss)))) : ev (callK fs F (k + 12)) (.idx (.call 33 [.var i, .var j]) (.con (.int 0))) env S = some (dD (collM fm (plA fm ss)), S) := by
  have h := r_run (F := F) (k := k) (S := S) b o ss
  simp only [startE, List.map, List.length, List.replicate, execs, exec, ev, evs, evcs, evts, unown, unown1, List.foldl, peek, getO, getE, idx0, idx1, idx2, idx3, idx4, idxl0, idxl1, idxl2, List.cons_append, List.nil_append, List.append_nil, Option.map_some, Option.bind_some, Option.map_none, Option.bind_none, cmpF, eq_str, List.getElem?_cons_zero, List.getElem?_cons_succ, List.set_cons_zero, List.set_cons_succ, Nat.reduceSub, Nat.reduceAdd, decide_true, decide_false, fnx, frt, bindT, hi, hj, h]
/-- run(form, s)[0] != run(other, s)[0] -/
theorem ev_apart (b : BL fs) {fm gm : List Fld} (o : FG1 fm 3) (o' : FG1 gm 3) {env : En} {i i' j : Nat} {ss : List Act} (hi : env[i]? = some (some (.sh (formD fm)))) (hi' : env[i']? = some (some (.sh (formD gm)))) (hj : env[j]? = some (some (.sh (sesD ss)))) : ev (callK fs F (k + 12)) (.cmp .ne (.idx (.call 33 [.var i, .var j]) (.con (.int 0))) (.idx (.call 33 [.var i', .var j]) (.con (.int 0)))) env S = some (.bl (apartM fm gm ss), S) := by
  have h1 := ev_run0 (F := F) (k := k) (S := S) b o hi hj
  have h2 := ev_run0 (F := F) (k := k) (S := S) b o' hi' hj
  have hd := eq_deq (collM fm (plA fm ss)) (collM gm (plA gm ss))
  have p1 : ∀ env, peek env (.idx (.call 33 [.var i, .var j]) (.con (.int 0))) = none := fun _ => rfl
  have p2 : ∀ env, peek env (.idx (.call 33 [.var i', .var j]) (.con (.int 0))) = none := fun _ => rfl
  generalize E.idx (.call 33 [.var i, .var j]) (.con (.int 0)) = e1 at h1 p1 ⊢
  generalize E.idx (.call 33 [.var i', .var j]) (.con (.int 0)) = e2 at h2 p2 ⊢
  simp only [ev, p1, p2, h1, h2, Option.bind_some, cmpF, hd, Option.map_some]
  rfl
theorem ev_apart' (b : BL fs) {fm gm : List Fld} (o : FG1 fm 3) (o' : FG1 gm 3) {env : En} {i i' j : Nat} {ss : List Act} (hi : env[i]? = some (some (.sh (formD fm)))) (hi' : env[i']? = some (some (.sh (formD gm)))) (hj : env[j]? = some (some (.sh (sesD ss)))) : ev (callK fs F (k + 12)) (.cmp .eq (.idx (.call 33 [.var i, .var j]) (.con (.int 0))) (.idx (.call 33 [.var i', .var j]) (.con (.int 0)))) env S = some (.bl (!apartM fm gm ss), S) := by
  have h1 := ev_run0 (F := F) (k := k) (S := S) b o hi hj
  have h2 := ev_run0 (F := F) (k := k) (S := S) b o' hi' hj
  have hd := eq_deq (collM fm (plA fm ss)) (collM gm (plA gm ss))
  have p1 : ∀ env, peek env (.idx (.call 33 [.var i, .var j]) (.con (.int 0))) = none := fun _ => rfl
  have p2 : ∀ env, peek env (.idx (.call 33 [.var i', .var j]) (.con (.int 0))) = none := fun _ => rfl
  generalize E.idx (.call 33 [.var i, .var j]) (.con (.int 0)) = e1 at h1 p1 ⊢
  generalize E.idx (.call 33 [.var i', .var j]) (.con (.int 0)) = e2 at h2 p2 ⊢
  simp only [ev, p1, p2, h1, h2, Option.bind_some, cmpF, hd, Option.map_some]
  unfold apartM
  simp
end
/-! ### forms with the same names and choices -/
theorem fg1_of {fm gm : List Fld} (o : FG1 fm 3) (h : gm.map nw = fm.map nw) (ok : FmOk [] gm) (hd : ∀ f ∈ gm, f.cond.dep ≤ 3) : FG1 gm 3 := by
  have hm : ∀ g ∈ gm, ∃ f ∈ fm, f.name = g.name ∧ f.words = g.words := fun g m => by
    have : nw g ∈ fm.map nw := by rw [← h]; exact List.mem_map_of_mem m
    obtain ⟨f, hf, e⟩ := List.mem_map.mp this
    simp only [nw, Prod.mk.injEq] at e
    exact ⟨f, hf, e.1, e.2⟩
  have hl : gm.length = fm.length := by have := congrArg List.length h; simpa using this
  refine ⟨ok, ⟨fun g m => ?_, fun g m => ?_⟩, fun g m => ?_, hd, fun z => ?_, by rw [hl]; exact o.le⟩
  · obtain ⟨f, hf, e1, e2⟩ := hm g m; rw [← e1]; exact o.nm.nm f hf
  · obtain ⟨f, hf, e1, e2⟩ := hm g m; rw [← e2]; exact o.nm.wd f hf
  · obtain ⟨f, hf, e1, e2⟩ := hm g m; rw [← e2]; exact o.wl f hf
  · rw [z] at hl
    exact o.ne (List.length_eq_zero_iff.mp hl.symm)
theorem fmok_at : ∀ {e : Ear} (fm1 : List Fld) {f : Fld} {rest : List Fld}, FmOk e (fm1 ++ f :: rest) → FldOk (e ++ fm1.map nw) f
  | e, [], f, rest, .cons o _ => by simpa using o
  | e, g :: fm1, f, rest, .cons o h => by
    have := fmok_at fm1 h
    simpa [nw] using this
theorem EarOk.pre {a b : Ear} (h : EarOk (a ++ b)) : EarOk a := by
  refine ⟨?_, fun p m => h.nm p (List.mem_append_left _ m), fun p m => h.ws p (List.mem_append_left _ m), by have := h.len; simp at this; omega⟩
  have := h.nd
  rw [List.map_append] at this
  exact (List.sublist_append_left _ _).nodup this
end FG

namespace FG
open PySem PySem.Spec PyProof.Rows L2
/-! ### fields made plain -/
def plainF (f : Fld) : Fld := ⟨f.name, f.words, f.cond, false, none⟩
def plainAt (fm : List Fld) (l : List Nat) : List Fld := fm.zipIdx.map fun p => if p.2 ∈ l then plainF p.1 else p.1
def isPlain (f : Fld) : Bool := !f.clr && f.src.isNone
theorem plainF_nw (f : Fld) : nw (plainF f) = nw f := rfl
theorem plainAt_nw (fm : List Fld) (l : List Nat) : (plainAt fm l).map nw = fm.map nw := by
  unfold plainAt
  rw [List.map_map]
  have : ∀ (g : List Fld) (n : Nat), (g.zipIdx n).map (nw ∘ fun p : Fld × Nat => if p.2 ∈ l then plainF p.1 else p.1) = g.map nw := by
    intro g
    induction g with
    | nil => intro n; rfl
    | cons f g ih =>
      intro n
      simp only [List.zipIdx_cons, List.map_cons, ih, Function.comp]
      split <;> rfl
  exact this fm 0
theorem FldOk.plain {e : Ear} {f : Fld} (o : FldOk e f) : FldOk e (plainF f) := ⟨o.nm, o.sok, o.new, o.ws, o.wok, o.cnd, o.dep, fun s h => by cases h⟩
theorem plainAt_ok {fm : List Fld} (o : FG1 fm 3) (l : List Nat) : FG1 (plainAt fm l) 3 := by
  have ok : ∀ (g : List Fld) (n : Nat) (e : Ear), FmOk e g → FmOk e ((g.zipIdx n).map fun p => if p.2 ∈ l then plainF p.1 else p.1) := by
    intro g
    induction g with
    | nil => intro n e _; exact .nil
    | cons f g ih =>
      intro n e h
      cases h with
      | cons of og =>
        simp only [List.zipIdx_cons, List.map_cons]
        split
        · exact .cons of.plain (ih _ _ og)
        · exact .cons of (ih _ _ og)
  refine fg1_of o (plainAt_nw fm l) (ok fm 0 [] o.ok) fun g m => ?_
  obtain ⟨⟨f, i⟩, hm, rfl⟩ := List.mem_map.mp m
  have hf : f ∈ fm := (List.mem_zipIdx_iff_getElem?.mp hm) |> List.mem_of_getElem?
  have := o.dep f hf
  show (if i ∈ l then plainF f else f).cond.dep ≤ 3
  split
  · exact this
  · exact this
def natsD (l : List Nat) : D := .lst (l.map natD)
theorem in_nats (n : Nat) (l : List Nat) : inF (.int (n : Nat)) (natsD l) = some (decide (n ∈ l)) := by
  have h1 : pyOk 60 (.lst (l.map natD)) = true := pyOks_int 59 l
  have h2 : pyOk 60 (.int (n : Nat)) = true := rfl
  have e : inF (.int (n : Nat)) (natsD l) = if pyOk 60 (.int (n : Nat)) && pyOk 60 (.lst (l.map natD)) then some ((l.map natD).any fun y => eqD y (.int (n : Nat))) else none := rfl
  rw [e, h1, h2, if_pos (show (true && true) = true from rfl), List.any_map]
  congr 1
  rw [Bool.eq_iff_iff]
  simp only [List.any_eq_true, Function.comp, decide_eq_true_eq]
  have he : ∀ x : Nat, eqD (natD x) (.int (n : Nat)) = true ↔ x = n := fun x => by
    show PyData.eqv (.int (x : Int)) (.int (n : Int)) = true ↔ _
    simp only [PyData.eqv, beq_iff_eq]
    omega
  constructor
  · rintro ⟨x, m, h⟩
    rw [← (he x).mp h]
    exact m
  · exact fun m => ⟨n, m, (he n).mpr rfl⟩
section
variable {fs : List Df} {F k : Nat} {S : Sto}
theorem keep_d (f : Fld) : (plainF f).d = .tup [.str f.name, .tup (f.words.map .str), f.cond.d, .str "keep", .non] := rfl
theorem slt3 (f : Fld) : slcF f.d none (some 3) = some (.tup [.str f.name, .tup (f.words.map .str), f.cond.d]) := by
  have := cut_take [.str f.name, .tup (f.words.map .str), f.cond.d, .str (if f.clr then "clear" else "keep"), oD f.src] 3
  show some (D.tup (cutD _ none (some ((3 : Nat) : Int)))) = _
  rw [this]
  rfl
theorem slf3 (f : Fld) : slcF f.d (some 3) none = some (.tup [.str (if f.clr then "clear" else "keep"), oD f.src]) := by
  have := cut_drop [.str f.name, .tup (f.words.map .str), f.cond.d, .str (if f.clr then "clear" else "keep"), oD f.src] 3
  show some (D.tup (cutD _ (some ((3 : Nat) : Int)) none)) = _
  rw [this]
  rfl
theorem add_keep (f : Fld) : binF .add (.tup [.str f.name, .tup (f.words.map .str), f.cond.d]) (.tup [.str "keep", .non]) = some (plainF f).d := by
  simp only [binF, List.length_cons, List.length_nil]
  rw [if_pos (by unfold big; omega)]
  rfl
theorem enum_items (fm : List Fld) : itemsF .enum [formD fm] = some (fm.zipIdx.map fun p => .tup [.int (p.2 : Int), p.1.d]) := by
  simp only [itemsF, formD, List.zipIdx_map, List.map_map]
  rfl
theorem e_plain_at (h40 : fs[40]? = some d_plain_at) {fm : List Fld} (hl : fm.length ≤ 1000) (l : List Nat) : callK fs F (k + 1) 40 [formD fm, natsD l] S = some (formD (plainAt fm l), S) := by
  rw [callK_eq h40 rfl]
  have hlc := ev_lcR (c := callK fs F k) (own := [2, 3]) (tg := .tp [2, 3]) (ik := .enum) (its := [.var 0]) (ifs := []) (elt := .ite (.cmp .isin (.var 2) (.var 1)) (.bin .add (.slt (.var 3) (.con (.int 3))) (.tup [.con (.str "keep"), .con (.non)])) (.var 3)) (env := [some (.sh (formD fm)), some (.sh (natsD l)), none, none]) (S := S) (S1 := S) (ds := [formD fm])
    (fun p : Fld × Nat => D.tup [.int (p.2 : Int), p.1.d]) (fun _ => true) (fun p => (if p.2 ∈ l then plainF p.1 else p.1).d) fm.zipIdx (by simp only [startE, List.map, List.length, List.replicate, execs, exec, ev, evs, evcs, evts, unown, unown1, List.foldl, peek, getO, getE, idx0, idx1, idx2, idx3, idx4, idxl0, idxl1, idxl2, List.cons_append, List.nil_append, List.append_nil, Option.map_some, Option.bind_some, Option.map_none, Option.bind_none, cmpF, eq_str, List.getElem?_cons_zero, List.getElem?_cons_succ, List.set_cons_zero, List.set_cons_succ, Nat.reduceSub, Nat.reduceAdd, decide_true, decide_false, fnx, frt, bindT]) (by decide) (enum_items fm) (fun p _ => ⟨[some (.sh (formD fm)), some (.sh (natsD l)), some (.sh (.int (p.2 : Int))), some (.sh p.1.d)], rfl, rfl, fun _ => by
      have hin := in_nats p.2 l
      by_cases hm : p.2 ∈ l
      · rw [decide_eq_true hm] at hin
        simp only [hm, if_true]
        simp only [startE, List.map, List.length, List.replicate, execs, exec, ev, evs, evcs, evts, unown, unown1, List.foldl, peek, getO, getE, idx0, idx1, idx2, idx3, idx4, idxl0, idxl1, idxl2, List.cons_append, List.nil_append, List.append_nil, Option.map_some, Option.bind_some, Option.map_none, Option.bind_none, cmpF, eq_str, List.getElem?_cons_zero, List.getElem?_cons_succ, List.set_cons_zero, List.set_cons_succ, Nat.reduceSub, Nat.reduceAdd, decide_true, decide_false, fnx, frt, bindT, hin, slt3, add_keep]
      · rw [decide_eq_false hm] at hin
        simp only [hm, if_false]
        simp only [startE, List.map, List.length, List.replicate, execs, exec, ev, evs, evcs, evts, unown, unown1, List.foldl, peek, getO, getE, idx0, idx1, idx2, idx3, idx4, idxl0, idxl1, idxl2, List.cons_append, List.nil_append, List.append_nil, Option.map_some, Option.bind_some, Option.map_none, Option.bind_none, cmpF, eq_str, List.getElem?_cons_zero, List.getElem?_cons_succ, List.set_cons_zero, List.set_cons_succ, Nat.reduceSub, Nat.reduceAdd, decide_true, decide_false, fnx, frt, bindT, hin]⟩) (by simp; unfold big; omega)
  rw [List.filter_eq_self.mpr fun _ _ => rfl] at hlc
  have ht := ev_biR (f := .tuple) (d := formD (plainAt fm l)) rfl hlc (by
    simp only [biF, formD, plainAt, List.map_map]
    rfl)
  exact (congrArg fin (execs_rt (exec_ret ht))).trans rfl
/-! ### choices_of -/
def choM : List Nat → Nat → List (List Nat)
  | _, 0 => [[]]
  | l, n + 1 => l.zipIdx.flatMap fun p => (choM (l.drop (p.2 + 1)) n).map (p.1 :: ·)
def listsD (l : List (List Nat)) : D := .lst (l.map natsD)
theorem len_flat_le {γ δ : Type} (l : List γ) (f : γ → List δ) (n : Nat) (h : ∀ x ∈ l, (f x).length ≤ n) : (l.flatMap f).length ≤ l.length * n := by
  induction l with
  | nil => simp
  | cons x l ih =>
    have h1 := h x List.mem_cons_self
    have h2 := ih fun y m => h y (List.mem_cons_of_mem _ m)
    rw [List.flatMap_cons, List.length_append, List.length_cons, Nat.add_mul, Nat.one_mul]
    omega
theorem cho_len : ∀ (n : Nat) (l : List Nat), l.length ≤ 4 → (choM l n).length ≤ 4 ^ n
  | 0, l, _ => by simp [choM]
  | n + 1, l, h => by
    rw [choM]
    refine Nat.le_trans (len_flat_le _ _ (4 ^ n) fun p _ => ?_) ?_
    · rw [List.length_map]
      exact cho_len n _ (by rw [List.length_drop]; omega)
    · rw [List.length_zipIdx, Nat.pow_succ, Nat.mul_comm]
      exact Nat.mul_le_mul_left _ h
theorem cho_lc {c : Calls} {S : Sto} (l : List Nat) (n i first : Nat) (r : List (List Nat)) (x2 : Option Ent) (hz : r.length ≤ 1000) (hr : ∀ q ∈ r, q.length ≤ 1000) (hc : c 41 [natsD (l.drop (i + 1)), .int (n : Nat)] S = some (listsD r, S)) :
    ev c (.lc [5] (.nm 5) .seq [.call 41 [.slf (.var 0) (.bin .add (.var 3) (.con (.int 1))), .bin .sub (.var 1) (.con (.int 1))]] [] (.bin .add (.lst [.var 4]) (.var 5))) [some (.sh (natsD l)), some (.sh (.int ((n + 1 : Nat) : Int))), x2, some (.sh (.int (i : Nat))), some (.sh (natD first)), none] S = some (listsD (r.map (first :: ·)), S) := by
  have h1 : binF .add (.int (i : Nat)) (.int 1) = some (.int ((i + 1 : Nat) : Int)) := rfl
  have h2 : binF .sub (.int ((n + 1 : Nat) : Int)) (.int 1) = some (.int (n : Nat)) := by
    show some (D.int (((n + 1 : Nat) : Int) - 1)) = _
    congr 2
    omega
  have h3 : slcF (natsD l) (some ((i + 1 : Nat) : Int)) none = some (natsD (l.drop (i + 1))) := by
    show some (D.lst (cutD (l.map natD) (some ((i + 1 : Nat) : Int)) none)) = _
    rw [cut_drop, ← List.map_drop]
    rfl
  have := ev_lcR (c := c) (own := [5]) (tg := .nm 5) (ik := .seq) (its := [.call 41 [.slf (.var 0) (.bin .add (.var 3) (.con (.int 1))), .bin .sub (.var 1) (.con (.int 1))]]) (ifs := []) (elt := .bin .add (.lst [.var 4]) (.var 5)) (env := [some (.sh (natsD l)), some (.sh (.int ((n + 1 : Nat) : Int))), x2, some (.sh (.int (i : Nat))), some (.sh (natD first)), none]) (S := S) (S1 := S) (ds := [listsD r])
    natsD (fun _ => true) (fun q => natsD (first :: q)) r (by simp only [startE, List.map, List.length, List.replicate, execs, exec, ev, evs, evcs, evts, unown, unown1, List.foldl, peek, getO, getE, idx0, idx1, idx2, idx3, idx4, idxl0, idxl1, idxl2, List.cons_append, List.nil_append, List.append_nil, Option.map_some, Option.bind_some, Option.map_none, Option.bind_none, cmpF, eq_str, List.getElem?_cons_zero, List.getElem?_cons_succ, List.set_cons_zero, List.set_cons_succ, Nat.reduceSub, Nat.reduceAdd, decide_true, decide_false, fnx, frt, bindT, h1, h2, h3, hc]) (by decide) rfl (fun q m => ⟨[some (.sh (natsD l)), some (.sh (.int ((n + 1 : Nat) : Int))), x2, some (.sh (.int (i : Nat))), some (.sh (natD first)), some (.sh (natsD q))], rfl, rfl, fun _ => by
      have hb : binF .add (.lst [natD first]) (natsD q) = some (natsD (first :: q)) := by
        have := hr q m
        simp only [binF, natsD, List.length_map, List.length_singleton]
        rw [if_pos (by unfold big; omega)]
        rfl
      simp only [startE, List.map, List.length, List.replicate, execs, exec, ev, evs, evcs, evts, unown, unown1, List.foldl, peek, getO, getE, idx0, idx1, idx2, idx3, idx4, idxl0, idxl1, idxl2, List.cons_append, List.nil_append, List.append_nil, Option.map_some, Option.bind_some, Option.map_none, Option.bind_none, cmpF, eq_str, List.getElem?_cons_zero, List.getElem?_cons_succ, List.set_cons_zero, List.set_cons_succ, Nat.reduceSub, Nat.reduceAdd, decide_true, decide_false, fnx, frt, bindT, hb]⟩) (by unfold big; omega)
  rw [this, List.filter_eq_self.mpr fun _ _ => rfl]
  unfold listsD
  rw [List.map_map]
  rfl
theorem cho_each {l : List Nat} : ∀ {n : Nat} {q : List Nat}, q ∈ choM l n → q.length = n
  | 0, q, h => by simp [choM] at h; rw [h]; rfl
  | n + 1, q, h => by
    simp only [choM, List.mem_flatMap, List.mem_map] at h
    obtain ⟨p, _, r, hr, rfl⟩ := h
    rw [List.length_cons, cho_each hr]
theorem cho_loop {l : List Nat} (hl : l.length ≤ 4) (n : Nat) (hn : n ≤ 4) (hc : ∀ i, callK fs F k 41 [natsD (l.drop (i + 1)), .int (n : Nat)] S = some (listsD (choM (l.drop (i + 1)) n), S)) : ∀ (ps : List (Nat × Nat)) (acc : List (List Nat)) (x3 x4 : Option Ent), acc.length + ps.length * 256 ≤ 100000 →
    ∃ y3 y4, forGo (bindT (.tp [3, 4])) (fun e S => execs (callK fs F k) F (loopOf (d_choices_of.body.drop 2)) e S) (ps.map fun p => .tup [.int (p.2 : Int), natD p.1]) [some (.sh (natsD l)), some (.sh (.int ((n + 1 : Nat) : Int))), some (.ow (listsD acc)), x3, x4, none] S = some (.nx [some (.sh (natsD l)), some (.sh (.int ((n + 1 : Nat) : Int))), some (.ow (listsD (acc ++ ps.flatMap fun p => (choM (l.drop (p.2 + 1)) n).map (p.1 :: ·)))), y3, y4, none] S)
  | [], acc, x3, x4, _ => ⟨x3, x4, by simp [forGo]⟩
  | p :: ps, acc, x3, x4, h2 => by
    simp only [List.length_cons] at h2
    have hz : (choM (l.drop (p.2 + 1)) n).length ≤ 256 := Nat.le_trans (cho_len n _ (by rw [List.length_drop]; omega)) (Nat.pow_le_pow_right (n := 4) (by decide) hn)
    have hlc := cho_lc (c := callK fs F k) (S := S) l n p.2 p.1 (choM (l.drop (p.2 + 1)) n) (some (.ow (listsD acc))) (by omega) (fun q m => by rw [cho_each m]; omega) (hc p.2)
    have hx : execs (callK fs F k) F (loopOf (d_choices_of.body.drop 2)) [some (.sh (natsD l)), some (.sh (.int ((n + 1 : Nat) : Int))), some (.ow (listsD acc)), some (.sh (.int (p.2 : Int))), some (.sh (natD p.1)), none] S = some (.nx [some (.sh (natsD l)), some (.sh (.int ((n + 1 : Nat) : Int))), some (.ow (listsD (acc ++ (choM (l.drop (p.2 + 1)) n).map (p.1 :: ·)))), some (.sh (.int (p.2 : Int))), some (.sh (natD p.1)), none] S) := by
      refine (execs_nx (exec_ext (i := 2) (ds := acc.map natsD) (es := ((choM (l.drop (p.2 + 1)) n).map (p.1 :: ·)).map natsD) rfl rfl hlc (by simp; unfold big; omega))).trans ?_
      simp only [execs, listsD, List.map_append, List.set_cons_zero, List.set_cons_succ]
    obtain ⟨y3, y4, ih⟩ := cho_loop hl n hn hc ps (acc ++ (choM (l.drop (p.2 + 1)) n).map (p.1 :: ·)) (some (.sh (.int (p.2 : Int)))) (some (.sh (natD p.1))) (by simp; omega)
    refine ⟨y3, y4, ?_⟩
    have hbd : bindT (.tp [3, 4]) (.tup [.int (p.2 : Int), natD p.1]) [some (.sh (natsD l)), some (.sh (.int ((n + 1 : Nat) : Int))), some (.ow (listsD acc)), x3, x4, none] = some [some (.sh (natsD l)), some (.sh (.int ((n + 1 : Nat) : Int))), some (.ow (listsD acc)), some (.sh (.int (p.2 : Int))), some (.sh (natD p.1)), none] := rfl
    simp only [List.map_cons, forGo, hbd, Option.bind_some, hx]
    rw [List.flatMap_cons, ← List.append_assoc]
    exact ih
theorem e_choices (h41 : fs[41]? = some d_choices_of) : ∀ (n k : Nat) (l : List Nat), l.length ≤ 4 → n ≤ 4 → callK fs F (k + n + 1) 41 [natsD l, .int (n : Nat)] S = some (listsD (choM l n), S) := by
  intro n
  induction n with
  | zero =>
    intro k l hl _
    rw [callK_eq h41 rfl]
    have h0 : eqF (.int ((0 : Nat) : Int)) (.int 0) = some true := rfl
    simp only [startE, List.map, List.length, List.replicate, execs, exec, ev, evs, evcs, evts, unown, unown1, List.foldl, peek, getO, getE, idx0, idx1, idx2, idx3, idx4, idxl0, idxl1, idxl2, List.cons_append, List.nil_append, List.append_nil, Option.map_some, Option.bind_some, Option.map_none, Option.bind_none, cmpF, eq_str, List.getElem?_cons_zero, List.getElem?_cons_succ, List.set_cons_zero, List.set_cons_succ, Nat.reduceSub, Nat.reduceAdd, decide_true, decide_false, fnx, frt, bindT, d_choices_of, h0, choM, listsD, natsD]
  | succ n ih =>
    intro k l hl hn
    rw [callK_eq h41 rfl]
    have h0 : eqF (.int ((n + 1 : Nat) : Int)) (.int 0) = some false := by rw [eq_int]; exact congrArg some (decide_eq_false (by omega))
    obtain ⟨y3, y4, hlp⟩ := cho_loop (fs := fs) (F := F) (k := k + n + 1) (S := S) (l := l) hl n (by omega) (fun i => ih k _ (by rw [List.length_drop]; omega) (by omega)) l.zipIdx [] none none (by simp; omega)
    have hit : itemsF .enum [natsD l] = some (l.zipIdx.map fun p => .tup [.int (p.2 : Int), natD p.1]) := by
      simp only [itemsF, natsD, List.zipIdx_map, List.map_map]
      rfl
    refine (congrArg fin (execs_nx (env' := [some (.sh (natsD l)), some (.sh (.int ((n + 1 : Nat) : Int))), none, none, none, none]) (S' := S) ?_)).trans ?_
    · simp only [startE, List.map, List.length, List.replicate, execs, exec, ev, evs, evcs, evts, unown, unown1, List.foldl, peek, getO, getE, idx0, idx1, idx2, idx3, idx4, idxl0, idxl1, idxl2, List.cons_append, List.nil_append, List.append_nil, Option.map_some, Option.bind_some, Option.map_none, Option.bind_none, cmpF, eq_str, List.getElem?_cons_zero, List.getElem?_cons_succ, List.set_cons_zero, List.set_cons_succ, Nat.reduceSub, Nat.reduceAdd, decide_true, decide_false, fnx, frt, bindT, d_choices_of, h0]
    refine (congrArg fin (execs_nx (env' := [some (.sh (natsD l)), some (.sh (.int ((n + 1 : Nat) : Int))), some (.ow (listsD [])), none, none, none]) (S' := S) ?_)).trans ?_
    · simp only [startE, List.map, List.length, List.replicate, execs, exec, ev, evs, evcs, evts, unown, unown1, List.foldl, peek, getO, getE, idx0, idx1, idx2, idx3, idx4, idxl0, idxl1, idxl2, List.cons_append, List.nil_append, List.append_nil, Option.map_some, Option.bind_some, Option.map_none, Option.bind_none, cmpF, eq_str, List.getElem?_cons_zero, List.getElem?_cons_succ, List.set_cons_zero, List.set_cons_succ, Nat.reduceSub, Nat.reduceAdd, decide_true, decide_false, fnx, frt, bindT, isMut, if_true]
      rfl
    refine (congrArg fin (execs_nx (exec_for (ds := [natsD l]) (S1 := S) (by simp only [startE, List.map, List.length, List.replicate, execs, exec, ev, evs, evcs, evts, unown, unown1, List.foldl, peek, getO, getE, idx0, idx1, idx2, idx3, idx4, idxl0, idxl1, idxl2, List.cons_append, List.nil_append, List.append_nil, Option.map_some, Option.bind_some, Option.map_none, Option.bind_none, cmpF, eq_str, List.getElem?_cons_zero, List.getElem?_cons_succ, List.set_cons_zero, List.set_cons_succ, Nat.reduceSub, Nat.reduceAdd, decide_true, decide_false, fnx, frt, bindT]) hit hlp))).trans ?_
    simp only [startE, List.map, List.length, List.replicate, execs, exec, ev, evs, evcs, evts, unown, unown1, List.foldl, peek, getO, getE, idx0, idx1, idx2, idx3, idx4, idxl0, idxl1, idxl2, List.cons_append, List.nil_append, List.append_nil, Option.map_some, Option.bind_some, Option.map_none, Option.bind_none, cmpF, eq_str, List.getElem?_cons_zero, List.getElem?_cons_succ, List.set_cons_zero, List.set_cons_succ, Nat.reduceSub, Nat.reduceAdd, decide_true, decide_false, fnx, frt, bindT]
    rfl
/-! ### repair -/
def npl (fm : List Fld) : List Nat := (fm.zipIdx.filter fun p => !isPlain p.1).map (·.2)
def cands (fm : List Fld) : List (List Nat) := (List.range ((npl fm).length + 1)).flatMap (choM (npl fm))
noncomputable def repS (F : Nat) (fm : List Fld) : Option (List Nat) := (cands fm).find? fun l => (unstM F (plainAt fm l)).isNone
def namesAt (fm : List Fld) (l : List Nat) : List Str := l.map fun i => (fm[i]?.map (·.name)).getD ""
noncomputable def repM (F : Nat) (fm : List Fld) : List Str := match repS F fm with
  | some l => namesAt fm l
  | none => []
def strsD (l : List Str) : D := .lst (l.map .str)
theorem npl_len (fm : List Fld) : (npl fm).length ≤ fm.length := by
  unfold npl
  rw [List.length_map]
  exact Nat.le_trans (List.length_filter_le _ _) (by simp)
theorem cho_sub {l : List Nat} : ∀ {n : Nat} {q : List Nat}, q ∈ choM l n → ∀ i ∈ q, i ∈ l
  | 0, q, h, i, m => by simp [choM] at h; rw [h] at m; cases m
  | n + 1, q, h, i, m => by
    simp only [choM, List.mem_flatMap, List.mem_map] at h
    obtain ⟨p, hp, r, hr, rfl⟩ := h
    rcases List.mem_cons.mp m with rfl | m
    · exact List.mem_of_getElem? (List.mem_zipIdx_iff_getElem?.mp hp)
    · exact List.mem_of_mem_drop (cho_sub hr i m)
theorem npl_lt {fm : List Fld} {i : Nat} (h : i ∈ npl fm) : i < fm.length := by
  obtain ⟨p, hp, rfl⟩ := List.mem_map.mp h
  exact (List.getElem?_eq_some_iff.mp (List.mem_zipIdx_iff_getElem?.mp (List.mem_filter.mp hp).1)).1
structure BR (fs : List Df) : Prop where
  u : BU fs
  h40 : fs[40]? = some d_plain_at
  h41 : fs[41]? = some d_choices_of
  h42 : fs[42]? = some d_repair
theorem names_lc {c : Calls} {fm : List Fld} {l : List Nat} (hl : l.length ≤ 1000) (hi : ∀ i ∈ l, i < fm.length) (x1 x2 x5 : Option Ent) : ev c (.lc [4] (.nm 4) .seq [.var 3] [] (.idx (.idx (.var 0) (.var 4)) (.con (.int 0)))) [some (.sh (formD fm)), x1, x2, some (.sh (natsD l)), none, x5] S = some (strsD (namesAt fm l), S) := by
  have := ev_lcR (c := c) (own := [4]) (tg := .nm 4) (ik := .seq) (its := [.var 3]) (ifs := []) (elt := .idx (.idx (.var 0) (.var 4)) (.con (.int 0))) (env := [some (.sh (formD fm)), x1, x2, some (.sh (natsD l)), none, x5]) (S := S) (S1 := S) (ds := [natsD l])
    natD (fun _ => true) (fun i => .str ((fm[i]?.map (·.name)).getD "")) l (by simp only [startE, List.map, List.length, List.replicate, execs, exec, ev, evs, evcs, evts, unown, unown1, List.foldl, peek, getO, getE, idx0, idx1, idx2, idx3, idx4, idxl0, idxl1, idxl2, List.cons_append, List.nil_append, List.append_nil, Option.map_some, Option.bind_some, Option.map_none, Option.bind_none, cmpF, eq_str, List.getElem?_cons_zero, List.getElem?_cons_succ, List.set_cons_zero, List.set_cons_succ, Nat.reduceSub, Nat.reduceAdd, decide_true, decide_false, fnx, frt, bindT]) (by decide) rfl (fun i m => ⟨[some (.sh (formD fm)), x1, x2, some (.sh (natsD l)), some (.sh (natD i)), x5], rfl, rfl, fun _ => by
      have hlt := hi i m
      have hx : ∀ S, idxS S (formD fm) (natD i) = some (fm[i].d) := fun S => by
        show idxS S (.tup (fm.map Fld.d)) (.int (i : Nat)) = _
        rw [idxT, List.getElem?_map, List.getElem?_eq_getElem hlt]
        rfl
      have h0 : ∀ S, idxS S fm[i].d (.int 0) = some (.str fm[i].name) := fun S => idx0 S _ _
      rw [List.getElem?_eq_getElem hlt]
      simp only [startE, List.map, List.length, List.replicate, execs, exec, ev, evs, evcs, evts, unown, unown1, List.foldl, peek, getO, getE, idx0, idx1, idx2, idx3, idx4, idxl0, idxl1, idxl2, List.cons_append, List.nil_append, List.append_nil, Option.map_some, Option.bind_some, Option.map_none, Option.bind_none, cmpF, eq_str, List.getElem?_cons_zero, List.getElem?_cons_succ, List.set_cons_zero, List.set_cons_succ, Nat.reduceSub, Nat.reduceAdd, decide_true, decide_false, fnx, frt, bindT, hx, h0]
      rfl⟩) (by unfold big; omega)
  rw [this, List.filter_eq_self.mpr fun _ _ => rfl]
  unfold strsD namesAt
  rw [List.map_map]
  rfl
theorem npl_lc {c : Calls} {fm : List Fld} (o : FG1 fm 3) (x1 x2 x3 : Option Ent) : ev c (.lc [4, 5] (.tp [4, 5]) .enum [.var 0] [.cmp .ne (.slf (.var 5) (.con (.int 3))) (.tup [.con (.str "keep"), .con (.non)])] (.var 4)) [some (.sh (formD fm)), x1, x2, x3, none, none] S = some (natsD (npl fm), S) := by
  have hsrc : ∀ f ∈ fm, ∀ s, f.src = some s → PyData.strOk s = true := by
    have h : ∀ (e : Ear) (l : List Fld), FmOk e l → (∀ p ∈ e, PyData.strOk p.1 = true) → ∀ f ∈ l, ∀ s, f.src = some s → PyData.strOk s = true := fun e l hk => by
      induction hk with
      | nil => exact fun _ f m => by cases m
      | @cons e f fm of _ ih =>
        intro he g m s hs
        rcases List.mem_cons.mp m with rfl | m
        · obtain ⟨l1, l2, e1, _⟩ := List.lookup_eq_some_iff.mp (of.src s hs).2
          exact he (s, g.words) (by rw [e1]; simp)
        · refine ih (fun p mp => ?_) g m s hs
          rcases List.mem_append.mp mp with mp | mp
          · exact he p mp
          · rw [List.mem_singleton.mp mp]; exact of.sok
    exact h [] fm o.ok (fun p m => by cases m)
  have := ev_lcR (c := c) (own := [4, 5]) (tg := .tp [4, 5]) (ik := .enum) (its := [.var 0]) (ifs := [.cmp .ne (.slf (.var 5) (.con (.int 3))) (.tup [.con (.str "keep"), .con (.non)])]) (elt := .var 4) (env := [some (.sh (formD fm)), x1, x2, x3, none, none]) (S := S) (S1 := S) (ds := [formD fm])
    (fun p : Fld × Nat => D.tup [.int (p.2 : Int), p.1.d]) (fun p => !isPlain p.1) (fun p => natD p.2) fm.zipIdx (by simp only [startE, List.map, List.length, List.replicate, execs, exec, ev, evs, evcs, evts, unown, unown1, List.foldl, peek, getO, getE, idx0, idx1, idx2, idx3, idx4, idxl0, idxl1, idxl2, List.cons_append, List.nil_append, List.append_nil, Option.map_some, Option.bind_some, Option.map_none, Option.bind_none, cmpF, eq_str, List.getElem?_cons_zero, List.getElem?_cons_succ, List.set_cons_zero, List.set_cons_succ, Nat.reduceSub, Nat.reduceAdd, decide_true, decide_false, fnx, frt, bindT]) (by decide) (enum_items fm) (fun p m => ⟨[some (.sh (formD fm)), x1, x2, x3, some (.sh (.int (p.2 : Int))), some (.sh p.1.d)], rfl, by
      have hf : p.1 ∈ fm := List.mem_of_getElem? (List.mem_zipIdx_iff_getElem?.mp m)
      have he : eqF (.tup [.str (if p.1.clr then "clear" else "keep"), oD p.1.src]) (.tup [.str "keep", .non]) = some (isPlain p.1) := by
        have hs := hsrc p.1 hf
        have s1 : PyData.strOk ("keep" : Str) = true := by decide +kernel
        have s2 : PyData.strOk ("clear" : Str) = true := by decide +kernel
        have hp : pyOk 60 (.tup [.str (if p.1.clr then "clear" else "keep"), oD p.1.src]) = true := by
          show pyOks 59 [.str (if p.1.clr then "clear" else "keep"), oD p.1.src] = true
          have h1 : PyData.strOk (if p.1.clr then ("clear" : Str) else "keep") = true := by cases p.1.clr <;> assumption
          have h2 : pyOk 59 (oD p.1.src) = true := by
            cases hsr : p.1.src with
            | none => rfl
            | some s => simpa [oD, pyOk] using hs s hsr
          simp only [pyOks, pyOk, h1, h2, Bool.and_true]
        have hq : pyOk 60 (.tup [.str "keep", .non]) = true := by
          show pyOks 59 [.str "keep", .non] = true
          simp only [pyOks, pyOk, s1, Bool.and_true]
        have e : eqF (.tup [.str (if p.1.clr then "clear" else "keep"), oD p.1.src]) (.tup [.str "keep", .non]) = if scalD (.tup [.str (if p.1.clr then "clear" else "keep"), oD p.1.src]) (.tup [.str "keep", .non]) || (pyOk 60 (.tup [.str (if p.1.clr then "clear" else "keep"), oD p.1.src]) && pyOk 60 (.tup [.str "keep", .non])) then some (eqD (.tup [.str (if p.1.clr then "clear" else "keep"), oD p.1.src]) (.tup [.str "keep", .non])) else none := rfl
        rw [e, hp, hq]
        show some (PyData.eqvAll [.str (if p.1.clr then "clear" else "keep"), toPy (oD p.1.src)] [.str "keep", .none]) = _
        congr 1
        unfold isPlain
        cases p.1.clr with
        | true =>
          have : (("clear" : Str) == "keep") = false := by decide
          simp [PyData.eqvAll, PyData.eqv, this]
        | false => cases p.1.src <;> simp [PyData.eqvAll, PyData.eqv, oD, toPy]
      simp only [startE, List.map, List.length, List.replicate, execs, exec, ev, evs, evcs, evts, unown, unown1, List.foldl, peek, getO, getE, idx0, idx1, idx2, idx3, idx4, idxl0, idxl1, idxl2, List.cons_append, List.nil_append, List.append_nil, Option.map_some, Option.bind_some, Option.map_none, Option.bind_none, cmpF, eq_str, List.getElem?_cons_zero, List.getElem?_cons_succ, List.set_cons_zero, List.set_cons_succ, Nat.reduceSub, Nat.reduceAdd, decide_true, decide_false, fnx, frt, bindT, slf3, he], fun _ => by simp only [startE, List.map, List.length, List.replicate, execs, exec, ev, evs, evcs, evts, unown, unown1, List.foldl, peek, getO, getE, idx0, idx1, idx2, idx3, idx4, idxl0, idxl1, idxl2, List.cons_append, List.nil_append, List.append_nil, Option.map_some, Option.bind_some, Option.map_none, Option.bind_none, cmpF, eq_str, List.getElem?_cons_zero, List.getElem?_cons_succ, List.set_cons_zero, List.set_cons_succ, Nat.reduceSub, Nat.reduceAdd, decide_true, decide_false, fnx, frt, bindT]; rfl⟩) (by have := o.le; simp; unfold big; omega)
  rw [this]
  unfold natsD npl
  rw [List.map_map]
  rfl
def repB : List FG.S := [.ite (.cmp .is (.call 38 [.call 40 [.var 0, .var 3]]) (.con (.non))) [.ret [] (.lc [4] (.nm 4) .seq [.var 3] [] (.idx (.idx (.var 0) (.var 4)) (.con (.int 0))))] []]
theorem rep_one (b : BR fs) {fm : List Fld} (o : FG1 fm 3) (hF : 65536 < F) {l : List Nat} (hl : l.length ≤ 1000) (hi : ∀ i ∈ l, i < fm.length) (x1 x2 : Option Ent) : execs (callK fs F (k + 13)) F repB [some (.sh (formD fm)), x1, x2, some (.sh (natsD l)), none, none] S = if (unstM F (plainAt fm l)).isNone then some (.rt (strsD (namesAt fm l)) S) else some (.nx [some (.sh (formD fm)), x1, x2, some (.sh (natsD l)), none, none] S) := by
  have h40 := e_plain_at (fs := fs) (F := F) (k := k + 12) (S := S) b.h40 (fm := fm) (by have := o.le; omega) l
  have h38 := (e_unstable_of (fs := fs) (F := F) (k := k) (S := S) b.u (plainAt_ok o l) hF).1
  have hlc := names_lc (c := callK fs F (k + 13)) (S := S) (fm := fm) (l := l) hl hi x1 x2 none
  have hio := is_optD (unstM F (plainAt fm l))
  have ht : ev (callK fs F (k + 13)) (.cmp .is (.call 38 [.call 40 [.var 0, .var 3]]) (.con (.non))) [some (.sh (formD fm)), x1, x2, some (.sh (natsD l)), none, none] S = some (.bl (unstM F (plainAt fm l)).isNone, S) := by
    simp only [startE, List.map, List.length, List.replicate, execs, exec, ev, evs, evcs, evts, unown, unown1, List.foldl, peek, getO, getE, idx0, idx1, idx2, idx3, idx4, idxl0, idxl1, idxl2, List.cons_append, List.nil_append, List.append_nil, Option.map_some, Option.bind_some, Option.map_none, Option.bind_none, cmpF, eq_str, List.getElem?_cons_zero, List.getElem?_cons_succ, List.set_cons_zero, List.set_cons_succ, Nat.reduceSub, Nat.reduceAdd, decide_true, decide_false, fnx, frt, bindT, h40, h38, hio]
  unfold repB
  cases hu : (unstM F (plainAt fm l)).isNone with
  | true =>
    rw [hu] at ht
    rw [if_pos rfl]
    exact execs_rt ((exec_ite ht).trans (execs_rt (exec_ret hlc)))
  | false =>
    rw [hu] at ht
    rw [if_neg Bool.false_ne_true]
    exact (execs_nx ((exec_ite ht).trans rfl)).trans rfl
theorem rep_in (b : BR fs) {fm : List Fld} (o : FG1 fm 3) (hF : 65536 < F) (x1 x2 : Option Ent) : ∀ (ls : List (List Nat)) (x3 : Option Ent), (∀ l ∈ ls, l.length ≤ 1000 ∧ ∀ i ∈ l, i < fm.length) →
    (∃ l, ls.find? (fun l => (unstM F (plainAt fm l)).isNone) = some l ∧ forGo (bindT (.nm 3)) (fun e S => execs (callK fs F (k + 13)) F repB e S) (ls.map natsD) [some (.sh (formD fm)), x1, x2, x3, none, none] S = some (.rt (strsD (namesAt fm l)) S)) ∨
    (ls.find? (fun l => (unstM F (plainAt fm l)).isNone) = none ∧ ∃ y3, forGo (bindT (.nm 3)) (fun e S => execs (callK fs F (k + 13)) F repB e S) (ls.map natsD) [some (.sh (formD fm)), x1, x2, x3, none, none] S = some (.nx [some (.sh (formD fm)), x1, x2, y3, none, none] S))
  | [], x3, _ => .inr ⟨rfl, x3, rfl⟩
  | l :: ls, x3, h => by
    have hl := h l List.mem_cons_self
    have h1 := rep_one (fs := fs) (F := F) (k := k) (S := S) b o hF hl.1 hl.2 x1 x2
    cases hu : (unstM F (plainAt fm l)).isNone with
    | true =>
      rw [hu, if_pos rfl] at h1
      refine .inl ⟨l, by simp [List.find?_cons, hu], ?_⟩
      simp only [List.map_cons, forGo, bindT, List.set_cons_zero, List.set_cons_succ, Option.bind_some, h1]
    | false =>
      rw [hu, if_neg Bool.false_ne_true] at h1
      have e : (l :: ls).find? (fun l => (unstM F (plainAt fm l)).isNone) = ls.find? fun l => (unstM F (plainAt fm l)).isNone := by simp [List.find?_cons, hu]
      have e2 : forGo (bindT (.nm 3)) (fun e S => execs (callK fs F (k + 13)) F repB e S) ((l :: ls).map natsD) [some (.sh (formD fm)), x1, x2, x3, none, none] S = forGo (bindT (.nm 3)) (fun e S => execs (callK fs F (k + 13)) F repB e S) (ls.map natsD) [some (.sh (formD fm)), x1, x2, some (.sh (natsD l)), none, none] S := by
        simp only [List.map_cons, forGo, bindT, List.set_cons_zero, List.set_cons_succ, Option.bind_some, h1]
      rw [e, e2]
      exact rep_in b o hF x1 x2 ls (some (.sh (natsD l))) fun l' m => h l' (List.mem_cons_of_mem _ m)
theorem rep_out (b : BR fs) {fm : List Fld} (o : FG1 fm 3) (hF : 65536 < F) : ∀ (ns : List Nat) (x2 x3 : Option Ent), (∀ n ∈ ns, n ≤ 4) →
    (∃ l, (ns.flatMap (choM (npl fm))).find? (fun l => (unstM F (plainAt fm l)).isNone) = some l ∧ forGo (bindT (.nm 2)) (fun e S => execs (callK fs F (k + 13)) F [.for [] (.nm 3) .seq [.call 41 [.var 1, .var 2]] repB] e S) (ns.map natD) [some (.sh (formD fm)), some (.sh (natsD (npl fm))), x2, x3, none, none] S = some (.rt (strsD (namesAt fm l)) S)) ∨
    ((ns.flatMap (choM (npl fm))).find? (fun l => (unstM F (plainAt fm l)).isNone) = none ∧ ∃ y2 y3, forGo (bindT (.nm 2)) (fun e S => execs (callK fs F (k + 13)) F [.for [] (.nm 3) .seq [.call 41 [.var 1, .var 2]] repB] e S) (ns.map natD) [some (.sh (formD fm)), some (.sh (natsD (npl fm))), x2, x3, none, none] S = some (.nx [some (.sh (formD fm)), some (.sh (natsD (npl fm))), y2, y3, none, none] S))
  | [], x2, x3, _ => .inr ⟨rfl, x2, x3, rfl⟩
  | n :: ns, x2, x3, h => by
    have hn := h n List.mem_cons_self
    have hnl : (npl fm).length ≤ 4 := Nat.le_trans (npl_len fm) o.le
    have h41 := e_choices (fs := fs) (F := F) (S := S) b.h41 n (k + 12 - n) (npl fm) hnl hn
    have hk : k + 12 - n + n + 1 = k + 13 := by omega
    rw [hk] at h41
    have hv : ∀ l ∈ choM (npl fm) n, l.length ≤ 1000 ∧ ∀ i ∈ l, i < fm.length := fun l m => ⟨by rw [cho_each m]; omega, fun i mi => npl_lt (cho_sub m i mi)⟩
    rw [List.flatMap_cons, List.find?_append]
    rcases rep_in (fs := fs) (F := F) (k := k) (S := S) b o hF (some (.sh (natsD (npl fm)))) (some (.sh (natD n))) (choM (npl fm) n) x3 hv with ⟨l, hf, hg⟩ | ⟨hf, y3, hg⟩
    · refine .inl ⟨l, by rw [hf]; rfl, ?_⟩
      have hx : execs (callK fs F (k + 13)) F [.for [] (.nm 3) .seq [.call 41 [.var 1, .var 2]] repB] [some (.sh (formD fm)), some (.sh (natsD (npl fm))), some (.sh (natD n)), x3, none, none] S = some (.rt (strsD (namesAt fm l)) S) := by
        have h41' : callK fs F (k + 13) 41 [natsD (npl fm), natD n] S = some (listsD (choM (npl fm) n), S) := h41
        exact execs_rt (exec_for (ds := [listsD (choM (npl fm) n)]) (S1 := S) (by simp only [startE, List.map, List.length, List.replicate, execs, exec, ev, evs, evcs, evts, unown, unown1, List.foldl, peek, getO, getE, idx0, idx1, idx2, idx3, idx4, idxl0, idxl1, idxl2, List.cons_append, List.nil_append, List.append_nil, Option.map_some, Option.bind_some, Option.map_none, Option.bind_none, cmpF, eq_str, List.getElem?_cons_zero, List.getElem?_cons_succ, List.set_cons_zero, List.set_cons_succ, Nat.reduceSub, Nat.reduceAdd, decide_true, decide_false, fnx, frt, bindT, h41']) rfl hg)
      simp only [List.map_cons, forGo, bindT, List.set_cons_zero, List.set_cons_succ, Option.bind_some, hx]
    · have hx : execs (callK fs F (k + 13)) F [.for [] (.nm 3) .seq [.call 41 [.var 1, .var 2]] repB] [some (.sh (formD fm)), some (.sh (natsD (npl fm))), some (.sh (natD n)), x3, none, none] S = some (.nx [some (.sh (formD fm)), some (.sh (natsD (npl fm))), some (.sh (natD n)), y3, none, none] S) := by
        have h41' : callK fs F (k + 13) 41 [natsD (npl fm), natD n] S = some (listsD (choM (npl fm) n), S) := h41
        exact (execs_nx (exec_for (ds := [listsD (choM (npl fm) n)]) (S1 := S) (by simp only [startE, List.map, List.length, List.replicate, execs, exec, ev, evs, evcs, evts, unown, unown1, List.foldl, peek, getO, getE, idx0, idx1, idx2, idx3, idx4, idxl0, idxl1, idxl2, List.cons_append, List.nil_append, List.append_nil, Option.map_some, Option.bind_some, Option.map_none, Option.bind_none, cmpF, eq_str, List.getElem?_cons_zero, List.getElem?_cons_succ, List.set_cons_zero, List.set_cons_succ, Nat.reduceSub, Nat.reduceAdd, decide_true, decide_false, fnx, frt, bindT, h41']) rfl hg)).trans rfl
      have e2 : forGo (bindT (.nm 2)) (fun e S => execs (callK fs F (k + 13)) F [.for [] (.nm 3) .seq [.call 41 [.var 1, .var 2]] repB] e S) ((n :: ns).map natD) [some (.sh (formD fm)), some (.sh (natsD (npl fm))), x2, x3, none, none] S = forGo (bindT (.nm 2)) (fun e S => execs (callK fs F (k + 13)) F [.for [] (.nm 3) .seq [.call 41 [.var 1, .var 2]] repB] e S) (ns.map natD) [some (.sh (formD fm)), some (.sh (natsD (npl fm))), some (.sh (natD n)), y3, none, none] S := by
        simp only [List.map_cons, forGo, bindT, List.set_cons_zero, List.set_cons_succ, Option.bind_some, hx]
      rw [hf, e2, Option.none_or]
      exact rep_out b o hF ns (some (.sh (natD n))) y3 fun m hm => h m (List.mem_cons_of_mem _ hm)
theorem e_repair (b : BR fs) {fm : List Fld} (o : FG1 fm 3) (hF : 65536 < F) : callK fs F (k + 14) 42 [formD fm] S = some (strsD (repM F fm), S) := by
  rw [callK_eq b.h42 rfl]
  have h5 := q_need_form (fs := fs) (F := F) (k := k + 1) (S := S) b.u.q o
  have hlc := npl_lc (c := callK fs F (k + 13)) (S := S) o none none none
  have hnl : (npl fm).length ≤ 4 := Nat.le_trans (npl_len fm) o.le
  have hlen : biF .len (natsD (npl fm)) = some (.int ((npl fm).length : Nat)) := by simp [biF, natsD]
  have hadd : binF .add (.int ((npl fm).length : Nat)) (.int 1) = some (.int (((npl fm).length + 1 : Nat) : Int)) := rfl
  have hri := range_items ((npl fm).length + 1) (by omega)
  refine (congrArg fin (execs_nx (env' := [some (.sh (formD fm)), none, none, none, none, none]) (S' := S) ?_)).trans ?_
  · simp only [startE, List.map, List.length, List.replicate, execs, exec, ev, evs, evcs, evts, unown, unown1, List.foldl, peek, getO, getE, idx0, idx1, idx2, idx3, idx4, idxl0, idxl1, idxl2, List.cons_append, List.nil_append, List.append_nil, Option.map_some, Option.bind_some, Option.map_none, Option.bind_none, cmpF, eq_str, List.getElem?_cons_zero, List.getElem?_cons_succ, List.set_cons_zero, List.set_cons_succ, Nat.reduceSub, Nat.reduceAdd, decide_true, decide_false, fnx, frt, bindT, d_repair, h5]
  refine (congrArg fin (execs_nx (exec_asg hlc))).trans ?_
  unfold repM repS cands
  rcases rep_out (fs := fs) (F := F) (k := k) (S := S) b o hF (List.range ((npl fm).length + 1)) none none (fun n m => by have := List.mem_range.mp m; omega) with ⟨l, hf, hg⟩ | ⟨hf, y2, y3, hg⟩
  · rw [hf]
    exact (congrArg fin (execs_rt (exec_for (ds := [.int (((npl fm).length + 1 : Nat) : Int)]) (S1 := S) (by simp only [startE, List.map, List.length, List.replicate, execs, exec, ev, evs, evcs, evts, unown, unown1, List.foldl, peek, getO, getE, idx0, idx1, idx2, idx3, idx4, idxl0, idxl1, idxl2, List.cons_append, List.nil_append, List.append_nil, Option.map_some, Option.bind_some, Option.map_none, Option.bind_none, cmpF, eq_str, List.getElem?_cons_zero, List.getElem?_cons_succ, List.set_cons_zero, List.set_cons_succ, Nat.reduceSub, Nat.reduceAdd, decide_true, decide_false, fnx, frt, bindT, hlen, hadd]) hri hg))).trans rfl
  · rw [hf]
    refine (congrArg fin (execs_nx (exec_for (ds := [.int (((npl fm).length + 1 : Nat) : Int)]) (S1 := S) (by simp only [startE, List.map, List.length, List.replicate, execs, exec, ev, evs, evcs, evts, unown, unown1, List.foldl, peek, getO, getE, idx0, idx1, idx2, idx3, idx4, idxl0, idxl1, idxl2, List.cons_append, List.nil_append, List.append_nil, Option.map_some, Option.bind_some, Option.map_none, Option.bind_none, cmpF, eq_str, List.getElem?_cons_zero, List.getElem?_cons_succ, List.set_cons_zero, List.set_cons_succ, Nat.reduceSub, Nat.reduceAdd, decide_true, decide_false, fnx, frt, bindT, hlen, hadd]) hri hg))).trans ?_
    simp only [startE, List.map, List.length, List.replicate, execs, exec, ev, evs, evcs, evts, unown, unown1, List.foldl, peek, getO, getE, idx0, idx1, idx2, idx3, idx4, idxl0, idxl1, idxl2, List.cons_append, List.nil_append, List.append_nil, Option.map_some, Option.bind_some, Option.map_none, Option.bind_none, cmpF, eq_str, List.getElem?_cons_zero, List.getElem?_cons_succ, List.set_cons_zero, List.set_cons_succ, Nat.reduceSub, Nat.reduceAdd, decide_true, decide_false, fnx, frt, bindT]
    rfl
end
end FG

namespace FG
open PySem PySem.Spec PyProof.Rows L2
/-! ### sources_of -/
theorem keyD_o (a : Option Str) : keyD (oK a) = oD a := by cases a <;> rfl
theorem keyDs_row : ∀ as : Row, keyDs (as.map oK) = as.map oD
  | [] => rfl
  | a :: as => by simp only [List.map_cons, keyDs, keyD_o, keyDs_row as]
theorem keyD_row (as : Row) : keyD (encRow.k as) = ansD as := by
  show D.tup (keyDs (as.map oK)) = _
  rw [keyDs_row]
  rfl
def sourM (F : Nat) (fm : List Fld) : Src Row Act := match bfsGo (stepM fm) (movesM fm []) (fun _ => false) F [(noneM fm, none)] [noneM fm] with
  | some (_, src) => src
  | none => []
section
variable {fs : List Df} {F k : Nat} {S : Sto}
structure BW (fs : List Df) : Prop where
  q : BQ fs
  h46 : fs[46]? = some d_sources_of
def envS (fm : List Fld) (x1 : Option Ent) (src : Src Row Act) (lv : List Row) (ξ : Option Ent × Option Ent × Option Ent) : En := [some (.sh (formD fm)), x1, some (.ow (srcD encRow src)), some (.ow (.lst (lv.map encRow.d))), ξ.1, ξ.2.1, ξ.2.2]
theorem sou_act (b : BW fs) {fm : List Fld} (o : FG1 fm 3) (x1 : Option Ent) (x : Row) (hx : RowOk fm x) (a : Act) (src : Src Row Act) (lv : List Row) (x6 : Option Ent) (hs : src.length < big) (hl : lv.length < big) :
    ∃ y6, execs (callK fs F (k + 12)) F (forOf ((whlOf (d_sources_of.body.drop 2)).2.drop 1)) [some (.sh (formD fm)), x1, some (.ow (srcD encRow src)), some (.ow (.lst (lv.map encRow.d))), some (.sh (ansD x)), some (.sh a.d), x6] S =
      some (.nx [some (.sh (formD fm)), x1, some (.ow (srcD encRow (pushA (stepM fm) x [a] src lv).1)), some (.ow (.lst ((pushA (stepM fm) x [a] src lv).2.map encRow.d))), some (.sh (ansD x)), some (.sh a.d), y6] S) := by
  have h1 := e_stepped (F := F) (k := k + 8) (S := S) b.q.b2 (o.mono (by omega)).sz hx.len a
  refine ⟨some (.sh (ansD (stepM fm x a))), ?_⟩
  simp only [pushA]
  by_cases hm : stepM fm x a ∈ keysS src
  · have hin' : inF (ansD (stepM fm x a)) (srcD encRow src) = some true := in_srcT encRow hm
    rw [if_pos hm]
    simp only [startE, List.map, List.length, List.replicate, execs, exec, ev, evs, evcs, evts, unown, unown1, List.foldl, peek, getO, getE, idx0, idx1, idx2, idx3, idx4, idxl0, idxl1, idxl2, List.cons_append, List.nil_append, List.append_nil, Option.map_some, Option.bind_some, Option.map_none, Option.bind_none, cmpF, eq_str, List.getElem?_cons_zero, List.getElem?_cons_succ, List.set_cons_zero, List.set_cons_succ, Nat.reduceSub, Nat.reduceAdd, decide_true, decide_false, fnx, frt, bindT, forOf, whlOf, d_sources_of, List.drop, h1, hin', Bool.not_true]
  · have hin' : inF (ansD (stepM fm x a)) (srcD encRow src) = some false := in_srcF encRow hm
    have hset' : setF (srcD encRow src) (ansD (stepM fm x a)) (.tup [ansD x, a.d]) = some (srcD encRow (src ++ [(stepM fm x a, some (x, a))])) := set_src encRow (some (x, a)) hm hs
    have hl' : (lv.map encRow.d).length < big := by simpa using hl
    rw [if_neg hm]
    simp only [startE, List.map, List.length, List.replicate, execs, exec, ev, evs, evcs, evts, unown, unown1, List.foldl, peek, getO, getE, idx0, idx1, idx2, idx3, idx4, idxl0, idxl1, idxl2, List.cons_append, List.nil_append, List.append_nil, Option.map_some, Option.bind_some, Option.map_none, Option.bind_none, cmpF, eq_str, List.getElem?_cons_zero, List.getElem?_cons_succ, List.set_cons_zero, List.set_cons_succ, Nat.reduceSub, Nat.reduceAdd, decide_true, decide_false, fnx, frt, bindT, forOf, whlOf, d_sources_of, List.drop, h1, hin', Bool.not_false, hset', hl', if_true, List.map_append, List.map_cons, List.map_nil]
    rfl
theorem sou_acts (b : BW fs) {fm : List Fld} (o : FG1 fm 3) (x1 : Option Ent) (x : Row) (hx : RowOk fm x) (src : Src Row Act) (lv : List Row) (x5 x6 : Option Ent) (hs : src.length + 16 ≤ big) (hl : lv.length + 16 ≤ big) :
    ∃ y5 y6, exec (callK fs F (k + 12)) F (.for [] (.nm 5) .seq [.call 14 [.var 0]] (forOf ((whlOf (d_sources_of.body.drop 2)).2.drop 1))) [some (.sh (formD fm)), x1, some (.ow (srcD encRow src)), some (.ow (.lst (lv.map encRow.d))), some (.sh (ansD x)), x5, x6] S =
      some (.nx [some (.sh (formD fm)), x1, some (.ow (srcD encRow (pushA (stepM fm) x (movesM fm []) src lv).1)), some (.ow (.lst ((pushA (stepM fm) x (movesM fm []) src lv).2.map encRow.d))), some (.sh (ansD x)), y5, y6] S) := by
  have hac := e_actions (F := F) (k := k + 11) (S := S) b.q.h14 o.wl (by have := o.le; omega)
  have hml := moves_len o
  obtain ⟨ξ', hfp⟩ := for_push (step := stepM fm) (acts := movesM fm []) (S := S) (bind := bindT (.nm 5)) (body := fun e S => execs (callK fs F (k + 12)) F (forOf ((whlOf (d_sources_of.body.drop 2)).2.drop 1)) e S)
    (fun src lv (ξ : Option Ent × Option Ent) => [some (.sh (formD fm)), x1, some (.ow (srcD encRow src)), some (.ow (.lst (lv.map encRow.d))), some (.sh (ansD x)), ξ.1, ξ.2]) x
    (fun a src lv ξ ha h1 h2 => by
      obtain ⟨y6, h⟩ := sou_act (F := F) (k := k) (S := S) b o x1 x hx a src lv ξ.2 h1 h2
      exact ⟨_, (some (.sh a.d), y6), rfl, h⟩) (movesM fm []) src lv (x5, x6) (fun a m => m) (by omega) (by omega)
  refine ⟨ξ'.1, ξ'.2, ?_⟩
  exact exec_for (ds := [sesD (movesM fm [])]) (S1 := S) (by simp only [startE, List.map, List.length, List.replicate, execs, exec, ev, evs, evcs, evts, unown, unown1, List.foldl, peek, getO, getE, idx0, idx1, idx2, idx3, idx4, idxl0, idxl1, idxl2, List.cons_append, List.nil_append, List.append_nil, Option.map_some, Option.bind_some, Option.map_none, Option.bind_none, cmpF, eq_str, List.getElem?_cons_zero, List.getElem?_cons_succ, List.set_cons_zero, List.set_cons_succ, Nat.reduceSub, Nat.reduceAdd, decide_true, decide_false, fnx, frt, bindT, hac]) rfl hfp
theorem e_sources (b : BW fs) {fm : List Fld} (o : FG1 fm 3) (hF : 65536 < F) : callK fs F (k + 13) 46 [formD fm] S = some (srcD encRow (sourM F fm), S) ∧ ∃ ds, BI (stepM fm) (movesM fm []) (noneM fm) (allRows fm) (sourM F fm) ds (sourM F fm).length := by
  have hsm := allRows_small o.wl o.le
  have hu : ∀ y ∈ allRows fm, ∀ a ∈ movesM fm [], stepM fm y a ∈ allRows fm := fun y hy a ha => mem_allRows (step_ok o.ok o.nd (of_allRows hy) ha)
  have hst : noneM fm ∈ allRows fm := mem_allRows (rowOk_none fm)
  have hw := whl_bfs (S := S) (step := stepM fm) (acts := movesM fm []) (start := noneM fm) (univ := allRows fm) (bad := fun _ => false)
    (test := fun e S => ev (callK fs F (k + 12)) (whlOf (d_sources_of.body.drop 2)).1 e S) (body := fun e S => execs (callK fs F (k + 12)) F (whlOf (d_sources_of.body.drop 2)).2 e S)
    (envS fm (some (.sh (ansD (noneM fm))))) hu
    (fun src lv ξ hlu => by
      have hp : pyOk 60 (.lst (lv.map encRow.d)) = true := by
        show pyOks 59 (lv.map encRow.d) = true
        exact pyOks_all 59 fun y m => pyOk_ans 58 o.nm (of_allRows (hlu y m))
      have hne := lvl_ne hp
      simp only [startE, List.map, List.length, List.replicate, execs, exec, ev, evs, evcs, evts, unown, unown1, List.foldl, peek, getO, getE, idx0, idx1, idx2, idx3, idx4, idxl0, idxl1, idxl2, List.cons_append, List.nil_append, List.append_nil, Option.map_some, Option.bind_some, Option.map_none, Option.bind_none, cmpF, eq_str, List.getElem?_cons_zero, List.getElem?_cons_succ, List.set_cons_zero, List.set_cons_succ, Nat.reduceSub, Nat.reduceAdd, decide_true, decide_false, fnx, frt, bindT, envS, whlOf, d_sources_of, List.drop, hne])
    (fun src x lv ξ ss hxu hbx => by cases hbx)
    (fun src x lv ξ hxu hbx hsl hll => by
      obtain ⟨y5, y6, hfor⟩ := sou_acts (F := F) (k := k) (S := S) b o (some (.sh (ansD (noneM fm)))) x (of_allRows hxu) src lv ξ.2.1 ξ.2.2 (by unfold big; omega) (by unfold big; omega)
      refine ⟨(some (.sh (ansD x)), y5, y6), ?_⟩
      have s1 : exec (callK fs F (k + 12)) F (.pop0 4 3) (envS fm (some (.sh (ansD (noneM fm)))) src (x :: lv) ξ) S = some (.nx [some (.sh (formD fm)), some (.sh (ansD (noneM fm))), some (.ow (srcD encRow src)), some (.ow (.lst (lv.map encRow.d))), some (.sh (ansD x)), ξ.2.1, ξ.2.2] S) := rfl
      exact (execs_nx s1).trans ((execs_nx hfor).trans rfl))
    F [(noneM fm, none)] [0] 0 [noneM fm] (none, none, none) (bi_start hst) (Nat.zero_le _) rfl (fun i y hi => by omega) (by omega)
  have h10 := e_empty (F := F) (k := k + 11) (S := S) b.q.b2.h10 o.ne (by have := o.le; omega)
  have hkey : keyT (ansD (noneM fm)) = some (encRow.k (noneM fm)) := encRow.key (noneM fm)
  have s0 : ∀ tl, execs (callK fs F (k + 12)) F (.asg [] 1 (.call 10 [.var 0]) :: .par [2, 3] [.ndc1 (.var 1) (.con (.non)), .lst [.var 1]] [true, true] :: tl) [some (.sh (formD fm)), none, none, none, none, none, none] S = execs (callK fs F (k + 12)) F tl (envS fm (some (.sh (ansD (noneM fm)))) [(noneM fm, none)] [noneM fm] (none, none, none)) S := fun tl => by
    refine (execs_nx (env' := [some (.sh (formD fm)), some (.sh (ansD (noneM fm))), none, none, none, none, none]) (S' := S) ?_).trans (execs_nx ?_)
    · simp only [startE, List.map, List.length, List.replicate, execs, exec, ev, evs, evcs, evts, unown, unown1, List.foldl, peek, getO, getE, idx0, idx1, idx2, idx3, idx4, idxl0, idxl1, idxl2, List.cons_append, List.nil_append, List.append_nil, Option.map_some, Option.bind_some, Option.map_none, Option.bind_none, cmpF, eq_str, List.getElem?_cons_zero, List.getElem?_cons_succ, List.set_cons_zero, List.set_cons_succ, Nat.reduceSub, Nat.reduceAdd, decide_true, decide_false, fnx, frt, bindT, h10]
    · simp only [startE, List.map, List.length, List.replicate, execs, exec, ev, evs, evcs, evts, unown, unown1, List.foldl, peek, getO, getE, idx0, idx1, idx2, idx3, idx4, idxl0, idxl1, idxl2, List.cons_append, List.nil_append, List.append_nil, Option.map_some, Option.bind_some, Option.map_none, Option.bind_none, cmpF, eq_str, List.getElem?_cons_zero, List.getElem?_cons_succ, List.set_cons_zero, List.set_cons_succ, Nat.reduceSub, Nat.reduceAdd, decide_true, decide_false, fnx, frt, bindT, parGo, hkey, isMut, Bool.not_true, Bool.and_false, Bool.false_eq_true, if_false, if_true]
      rfl
  rw [callK_eq b.h46 rfl]
  rcases hw with ⟨src', ξ', hbf, hf, hwl⟩ | ⟨x, src', ss, hbf, hf, hpt, g2, g3, g4, g6, g5, hwl⟩
  · have e : sourM F fm = src' := by unfold sourM; rw [hbf]
    rw [e]
    obtain ⟨ds, hb, _⟩ := hf
    refine ⟨(congrArg fin ((s0 _).trans (execs_nx (s := .whl (whlOf (d_sources_of.body.drop 2)).1 (whlOf (d_sources_of.body.drop 2)).2) (env' := envS fm (some (.sh (ansD (noneM fm)))) src' [] ξ') (S' := S) hwl))).trans ?_, ds, hb⟩
    simp only [startE, List.map, List.length, List.replicate, execs, exec, ev, evs, evcs, evts, unown, unown1, List.foldl, peek, getO, getE, idx0, idx1, idx2, idx3, idx4, idxl0, idxl1, idxl2, List.cons_append, List.nil_append, List.append_nil, Option.map_some, Option.bind_some, Option.map_none, Option.bind_none, cmpF, eq_str, List.getElem?_cons_zero, List.getElem?_cons_succ, List.set_cons_zero, List.set_cons_succ, Nat.reduceSub, Nat.reduceAdd, decide_true, decide_false, fnx, frt, bindT, envS]
  · cases g4
/-! ### the first that is so -/
noncomputable def firstM (src : Src Row Act) (P : Row → Bool) : Option (List Act) := ((keysS src).find? P).map (pathOf src)
theorem first_told {fm : List Fld} {src : Src Row Act} {ds : List Nat} {univ : List Row} (b : BI (stepM fm) (movesM fm []) (noneM fm) univ src ds src.length) (hz : univ.length ≤ 65536) (P : Row → Bool) : Told (stepM fm) (movesM fm []) (noneM fm) P (firstM src P) := by
  refine ⟨fun h ss ha => ?_, fun ss h => ?_⟩
  · obtain ⟨i, d, hk, _⟩ := b.all ss ha
    have hn : (keysS src).find? P = none := by
      unfold firstM at h
      cases hf : (keysS src).find? P with
      | none => rfl
      | some x => rw [hf] at h; cases h
    have := List.find?_eq_none.mp hn _ (List.mem_of_getElem? hk)
    simpa using this
  · unfold firstM at h
    obtain ⟨x, hf, rfl⟩ := Option.map_eq_some_iff.mp h
    obtain ⟨hP, as, bs, e, hno⟩ := List.find?_eq_some_iff_append.mp hf
    have hx : (keysS src)[as.length]? = some x := by rw [e]; simp
    obtain ⟨ss, h1, h2, h3, h4⟩ := b.path as.length x hx
    rw [pathOf_eq h1]
    refine ⟨h3, by rw [h4]; exact hP, ?_, fun ts ht hb => ?_⟩
    · have g1 := b.deep as.length _ h2
      have g2 := (List.getElem?_eq_some_iff.mp h2).1
      rw [b.len] at g2
      have := b.size
      omega
    · obtain ⟨i, d, hk, hd, hle⟩ := b.all ts ht
      have hi : as.length ≤ i := by
        rcases Nat.lt_or_ge i as.length with hlt | hge
        · rw [e, List.getElem?_append_left hlt] at hk
          have := hno _ (List.mem_of_getElem? hk)
          rw [hb] at this
          cases this
        · exact hge
      have := b.mono as.length i _ d hi h2 hd
      omega
theorem path_key {fm : List Fld} {src : Src Row Act} {ds : List Nat} {univ : List Row} (b : BI (stepM fm) (movesM fm []) (noneM fm) univ src ds src.length) (hz : univ.length ≤ 65536) {x : Row} (h : x ∈ keysS src) : ∃ ss, PathTo src x ss ∧ ss.length ≤ 65536 := by
  obtain ⟨i, hi⟩ := List.getElem?_of_mem h
  obtain ⟨ss, h1, h2, _, _⟩ := b.path i x hi
  refine ⟨ss, h1, ?_⟩
  have g1 := b.deep i _ h2
  have g2 := (List.getElem?_eq_some_iff.mp h2).1
  rw [b.len] at g2
  have := b.size
  omega
/-- for answers in sources: if test: return session_to(sources, answers) -/
theorem first_loop {c : Calls} {bodyS : List FG.S} {env : Option Ent → En} {src : Src Row Act} (P : Row → Bool) (hbd : ∀ x3 d, bindT (.nm 3) d (env x3) = some (env (some (.sh d)))) (hb : ∀ x ∈ keysS src, execs c F bodyS (env (some (.sh (ansD x)))) S = if P x then some (.rt (sesD (pathOf src x)) S) else some (.nx (env (some (.sh (ansD x)))) S)) :
    ∀ (l : List Row) (x3 : Option Ent), (∀ x ∈ l, x ∈ keysS src) → (∃ x, l.find? P = some x ∧ forGo (bindT (.nm 3)) (fun e S => execs c F bodyS e S) (l.map ansD) (env x3) S = some (.rt (sesD (pathOf src x)) S)) ∨ (l.find? P = none ∧ ∃ y3, forGo (bindT (.nm 3)) (fun e S => execs c F bodyS e S) (l.map ansD) (env x3) S = some (.nx (env y3) S))
  | [], x3, _ => .inr ⟨rfl, x3, rfl⟩
  | x :: l, x3, h => by
    have h1 := hb x (h x List.mem_cons_self)
    cases hP : P x with
    | true =>
      rw [hP, if_pos rfl] at h1
      refine .inl ⟨x, by simp [List.find?_cons, hP], ?_⟩
      simp only [List.map_cons, forGo, hbd, Option.bind_some, h1]
    | false =>
      rw [hP, if_neg Bool.false_ne_true] at h1
      have e : (x :: l).find? P = l.find? P := by simp [List.find?_cons, hP]
      have e2 : forGo (bindT (.nm 3)) (fun e S => execs c F bodyS e S) ((x :: l).map ansD) (env x3) S = forGo (bindT (.nm 3)) (fun e S => execs c F bodyS e S) (l.map ansD) (env (some (.sh (ansD x)))) S := by
        simp only [List.map_cons, forGo, hbd, Option.bind_some, h1]
      rw [e, e2]
      exact first_loop P hbd hb l _ fun y m => h y (List.mem_cons_of_mem _ m)
theorem src_items (src : Src Row Act) : itemsF .nkeys [srcD encRow src] = some ((keysS src).map ansD) := by
  simp only [itemsF, srcD, keysS, List.map_map]
  congr 1
  refine List.map_congr_left fun e _ => ?_
  exact keyD_row e.1
end
end FG

namespace FG
open PySem PySem.Spec PyProof.Rows L2
/-! ### showing, reaching -/
/-- is the field shown -/
def seesM (fm : List Fld) (n : Str) (as : Row) : Bool := decide (n ∈ (visM fm as).map (·.1))
theorem in_dDk (n : Str) : ∀ l : Dic, inF (.str n) (dD l) = some (decide (n ∈ l.map (·.1))) := fun l => by
  have h : ∀ l : Dic, (dLook (l.map fun p => NestedKey.text p.1) (l.map fun p => oD p.2) (.text n)).isSome = decide (n ∈ l.map (·.1)) := by
    intro l
    induction l with
    | nil => rfl
    | cons p l ih =>
      simp only [List.map_cons, dLook, List.mem_cons]
      by_cases e : p.1 = n
      · subst e
        simp
      · have e' : ¬ n = p.1 := fun z => e z.symm
        rw [if_neg (by simpa using e), ih]
        simp [e']
  show some ((dLook (l.map fun p => NestedKey.text p.1) (l.map fun p => oD p.2) (.text n)).isSome) = _
  rw [h]
noncomputable def showM (F : Nat) (fm : List Fld) (n : Str) : Option (List Act) := firstM (sourM F fm) (seesM fm n)
section
variable {fs : List Df} {F k : Nat} {S : Sto}
theorem e_showing (b : BW fs) (h47 : fs[47]? = some d_showing) {fm : List Fld} (o : FG1 fm 3) (hF : 65536 < F) {n : Str} (hn : n ∈ fm.map (·.name)) : callK fs F (k + 14) 47 [formD fm, .str n] S = some (optD (showM F fm n), S) ∧ Told (stepM fm) (movesM fm []) (noneM fm) (seesM fm n) (showM F fm n) := by
  obtain ⟨h46, ds, bi⟩ := e_sources (F := F) (k := k) (S := S) b o hF
  have hsm := allRows_small o.wl o.le
  refine ⟨?_, first_told bi (by omega) _⟩
  rw [callK_eq h47 rfl]
  have h1 := q_need_form (F := F) (k := k + 1) (S := S) b.q o
  have h2 := e_place (F := F) (k := k + 12) (S := S) b.q.b2.h11 (by have := o.le; omega : fm.length ≤ 1000) n
  rw [place_at hn] at h2
  have s0 : ∀ tl, execs (callK fs F (k + 13)) F (.exp [] (.call 5 [.var 0]) :: .ite (.or (.not (.bi (.isi "str") (.var 1))) (.cmp .is (.call 11 [.var 0, .var 1]) (.con (.non)))) [.stuck] [] :: .asg [] 2 (.call 46 [.var 0]) :: tl) [some (.sh (formD fm)), some (.sh (.str n)), none, none] S = execs (callK fs F (k + 13)) F tl [some (.sh (formD fm)), some (.sh (.str n)), some (.sh (srcD encRow (sourM F fm))), none] S := fun tl => by
    have hb : biF (.isi "str") (.str n) = some (.bl true) := rfl
    have hi : isF (.int (atM fm n : Int)) .non = some false := rfl
    simp only [startE, List.map, List.length, List.replicate, execs, exec, ev, evs, evcs, evts, unown, unown1, List.foldl, peek, getO, getE, idx0, idx1, idx2, idx3, idx4, idxl0, idxl1, idxl2, List.cons_append, List.nil_append, List.append_nil, Option.map_some, Option.bind_some, Option.map_none, Option.bind_none, cmpF, eq_str, List.getElem?_cons_zero, List.getElem?_cons_succ, List.set_cons_zero, List.set_cons_succ, Nat.reduceSub, Nat.reduceAdd, decide_true, decide_false, fnx, frt, bindT, h1, h2, h46, hb, hi, Bool.not_true, Bool.false_eq_true, if_false, if_true]
  have hb : ∀ x ∈ keysS (sourM F fm), execs (callK fs F (k + 13)) F (forOf (d_showing.body.drop 3)) [some (.sh (formD fm)), some (.sh (.str n)), some (.sh (srcD encRow (sourM F fm))), some (.sh (ansD x))] S = if seesM fm n x then some (.rt (sesD (pathOf (sourM F fm) x)) S) else some (.nx [some (.sh (formD fm)), some (.sh (.str n)), some (.sh (srcD encRow (sourM F fm))), some (.sh (ansD x))] S) := fun x hx => by
    obtain ⟨ss, hp, hl⟩ := path_key bi (by omega) hx
    have g1 := e_visible (F := F) (k := k + 10) (S := S) b.q.b2 (o.mono (by omega)).sz x
    have g2 := e_session_to (E := encRow) (F := F) (k := k + 12) (S := S) b.q.h37 hp (by omega) (by omega)
    have g3 := in_dDk n (visM fm x)
    rw [pathOf_eq hp]
    unfold seesM
    cases hd : decide (n ∈ (visM fm x).map (·.1)) with
    | true =>
      rw [hd] at g3
      simp only [startE, List.map, List.length, List.replicate, execs, exec, ev, evs, evcs, evts, unown, unown1, List.foldl, peek, getO, getE, idx0, idx1, idx2, idx3, idx4, idxl0, idxl1, idxl2, List.cons_append, List.nil_append, List.append_nil, Option.map_some, Option.bind_some, Option.map_none, Option.bind_none, cmpF, eq_str, List.getElem?_cons_zero, List.getElem?_cons_succ, List.set_cons_zero, List.set_cons_succ, Nat.reduceSub, Nat.reduceAdd, decide_true, decide_false, fnx, frt, bindT, forOf, d_showing, List.drop, g1, g3, if_true]
      have g2' : callK fs F (k + 13) 37 [srcD encRow (sourM F fm), ansD x] S = some (sesD ss, S) := g2
      simp only [g2']
      rfl
    | false =>
      rw [hd] at g3
      simp only [startE, List.map, List.length, List.replicate, execs, exec, ev, evs, evcs, evts, unown, unown1, List.foldl, peek, getO, getE, idx0, idx1, idx2, idx3, idx4, idxl0, idxl1, idxl2, List.cons_append, List.nil_append, List.append_nil, Option.map_some, Option.bind_some, Option.map_none, Option.bind_none, cmpF, eq_str, List.getElem?_cons_zero, List.getElem?_cons_succ, List.set_cons_zero, List.set_cons_succ, Nat.reduceSub, Nat.reduceAdd, decide_true, decide_false, fnx, frt, bindT, forOf, d_showing, List.drop, g1, g3, Bool.false_eq_true, if_false]
  have hfl := first_loop (env := fun x3 => [some (.sh (formD fm)), some (.sh (.str n)), some (.sh (srcD encRow (sourM F fm))), x3]) (seesM fm n) (fun _ _ => rfl) hb (keysS (sourM F fm)) none fun x m => m
  refine (congrArg fin (s0 _)).trans ?_
  have hex : ∀ r, forGo (bindT (.nm 3)) (fun e S => execs (callK fs F (k + 13)) F (forOf (d_showing.body.drop 3)) e S) ((keysS (sourM F fm)).map ansD) [some (.sh (formD fm)), some (.sh (.str n)), some (.sh (srcD encRow (sourM F fm))), none] S = some r → exec (callK fs F (k + 13)) F (.for [] (.nm 3) .nkeys [.var 2] (forOf (d_showing.body.drop 3))) [some (.sh (formD fm)), some (.sh (.str n)), some (.sh (srcD encRow (sourM F fm))), none] S = some r := fun r h =>
    exec_for (ds := [srcD encRow (sourM F fm)]) (S1 := S) (by simp only [startE, List.map, List.length, List.replicate, execs, exec, ev, evs, evcs, evts, unown, unown1, List.foldl, peek, getO, getE, idx0, idx1, idx2, idx3, idx4, idxl0, idxl1, idxl2, List.cons_append, List.nil_append, List.append_nil, Option.map_some, Option.bind_some, Option.map_none, Option.bind_none, cmpF, eq_str, List.getElem?_cons_zero, List.getElem?_cons_succ, List.set_cons_zero, List.set_cons_succ, Nat.reduceSub, Nat.reduceAdd, decide_true, decide_false, fnx, frt, bindT]) (src_items _) h
  unfold showM firstM
  rcases hfl with ⟨x, hx, h⟩ | ⟨hx, y3, h⟩
  · rw [hx]
    exact congrArg fin (execs_rt (hex _ h))
  · rw [hx]
    refine (congrArg fin (execs_nx (hex _ h))).trans ?_
    simp only [startE, List.map, List.length, List.replicate, execs, exec, ev, evs, evcs, evts, unown, unown1, List.foldl, peek, getO, getE, idx0, idx1, idx2, idx3, idx4, idxl0, idxl1, idxl2, List.cons_append, List.nil_append, List.append_nil, Option.map_some, Option.bind_some, Option.map_none, Option.bind_none, cmpF, eq_str, List.getElem?_cons_zero, List.getElem?_cons_succ, List.set_cons_zero, List.set_cons_succ, Nat.reduceSub, Nat.reduceAdd, decide_true, decide_false, fnx, frt, bindT]
    rfl
end
end FG

namespace FG
open PySem PySem.Spec PyProof.Rows L2
/-! ### plain forms are stable -/
def AllPl (fm : List Fld) : Prop := ∀ f ∈ fm, f.clr = false ∧ f.src = none
theorem valM_pl {f : Fld} (h : f.src = none) (a : Option Str) (vis : Dic) : valM f a vis = a := by
  unfold valM
  cases a with
  | none => rw [h]; rfl
  | some x => rfl
theorem headM_pl {f : Fld} (h : f.clr = false ∧ f.src = none) (a : Option Str) (vis : Dic) : headM f a vis = a := by
  unfold headM
  rw [valM_pl h.2, h.1]
  simp
theorem ref1_pl : ∀ (fm : List Fld) (as : Row) (vis : Dic), AllPl fm → as.length = fm.length → ref1 fm as vis = as
  | [], as, vis, _, h => by
    cases as with
    | nil => rfl
    | cons _ _ => cases h
  | f :: fm, [], vis, _, h => by cases h
  | f :: fm, a :: as, vis, p, h => by
    rw [ref1, headM_pl (p f List.mem_cons_self), ref1_pl fm as _ (fun g m => p g (List.mem_cons_of_mem _ m)) (by simpa using h)]
def thin : List Fld → Row → Dic → Row
  | f :: fm, a :: as, vis => if holdsM f.cond vis then a :: thin fm as (dput vis f.name a) else none :: thin fm as vis
  | _, _, _ => []
theorem thin_vis : ∀ (fm : List Fld) (as : Row) (vis : Dic), AllPl fm → ref2 fm (thin fm as vis) vis = ref2 fm as vis
  | [], as, vis, _ => by cases as <;> rfl
  | f :: fm, [], vis, _ => rfl
  | f :: fm, a :: as, vis, p => by
    have hv := fun a => valM_pl (p f List.mem_cons_self).2 a vis
    rw [thin]
    by_cases h : holdsM f.cond vis = true
    · rw [if_pos h, ref2, ref2]
      unfold nextM
      rw [if_pos h, hv, thin_vis fm as _ fun g m => p g (List.mem_cons_of_mem _ m)]
    · rw [if_neg h, ref2, ref2]
      unfold nextM
      rw [if_neg h, if_neg h, thin_vis fm as _ fun g m => p g (List.mem_cons_of_mem _ m)]
theorem ref2_app : ∀ (pre suf : List Fld) (bs cs : Row) (vis : Dic), bs.length = pre.length → ref2 (pre ++ suf) (bs ++ cs) vis = ref2 suf cs (ref2 pre bs vis)
  | [], suf, bs, cs, vis, h => by
    cases bs with
    | nil => simp [ref2]
    | cons _ _ => cases h
  | f :: pre, suf, [], cs, vis, h => by cases h
  | f :: pre, suf, b :: bs, cs, vis, h => by
    simp only [List.cons_append, ref2]
    exact ref2_app pre suf bs cs _ (by simpa using h)
theorem ref2_other : ∀ (fm : List Fld) (as : Row) (vis : Dic) (k : Str), k ∉ fm.map (·.name) → (ref2 fm as vis).lookup k = vis.lookup k
  | [], as, vis, k, _ => by cases as <;> simp [ref2]
  | f :: fm, [], vis, k, _ => by simp [ref2]
  | f :: fm, a :: as, vis, k, h => by
    simp only [List.map_cons, List.mem_cons, not_or] at h
    rw [ref2, ref2_other fm as _ k h.2]
    unfold nextM
    split
    · rw [look_put, if_neg h.1]
    · rfl
theorem seen_at {pre suf : List Fld} {f : Fld} {bs cs : Row} {x : Option Str} (hn : ((pre ++ f :: suf).map (·.name)).Nodup) (hl : bs.length = pre.length) : ((visM (pre ++ f :: suf) (bs ++ x :: cs)).lookup f.name).isSome = holdsM f.cond (ref2 pre bs []) := by
  rw [List.map_append, List.nodup_append] at hn
  obtain ⟨_, h2, h3⟩ := hn
  rw [List.map_cons, List.nodup_cons] at h2
  rw [visM_eq, ref2_app _ _ _ _ _ hl, ref2, ref2_other _ _ _ _ h2.1]
  have hp : (ref2 pre bs []).lookup f.name = none := by
    rw [ref2_other]
    · rfl
    · intro m
      exact h3 _ m _ (by simp) rfl
  unfold nextM
  split
  · rename_i h
    rw [look_put, if_pos rfl, h]
    rfl
  · rename_i h
    rw [hp]
    simp only [Bool.not_eq_true] at h
    rw [h]
    rfl
theorem at_pre {pre suf : List Fld} {f : Fld} (hn : ((pre ++ f :: suf).map (·.name)).Nodup) : atM (pre ++ f :: suf) f.name = pre.length := by
  obtain ⟨g, hg, e⟩ := at_get (fm := pre ++ f :: suf) (n := f.name) (by simp)
  exact nd_inj hn hg (j := pre.length) (g := f) (by simp) e
theorem replM_lenL {as : Row} {i : Nat} {v : Option Str} (h : i < as.length) : (replM as i v).length = as.length := by
  rw [replM_set v h, List.length_set]
theorem str_thin {fm : List Fld} (hn : (fm.map (·.name)).Nodup) (hp : AllPl fm) : ∀ (suf : List Fld) (as : Row) (pre : List Fld) (bs : Row) (ss : List Act), fm = pre ++ suf → bs.length = pre.length → as.length = suf.length →
    (strM fm (suf.zip as) ss (bs ++ List.replicate suf.length none)).2 = bs ++ thin suf as (ref2 pre bs [])
  | [], as, pre, bs, ss, _, _, h => by
    cases as with
    | nil => rfl
    | cons _ _ => cases h
  | f :: suf, [], pre, bs, ss, _, _, h => by cases h
  | f :: suf, a :: as, pre, bs, ss, e, hl, h => by
    have hn' : ((pre ++ f :: suf).map (·.name)).Nodup := by rw [← e]; exact hn
    have hs : ((visM fm (bs ++ none :: List.replicate suf.length none)).lookup f.name).isSome = holdsM f.cond (ref2 pre bs []) := by
      rw [e]
      exact seen_at hn' hl
    have e' : fm = (pre ++ [f]) ++ suf := by rw [e]; simp
    have hl' : ∀ x : Option Str, (bs ++ [x]).length = (pre ++ [f]).length := fun x => by simp [hl]
    have h' : as.length = suf.length := by simpa using h
    have hf : f ∈ fm := by rw [e]; simp
    have hr : ∀ x : Option Str, ref2 (pre ++ [f]) (bs ++ [x]) [] = if holdsM f.cond (ref2 pre bs []) then dput (ref2 pre bs []) f.name x else ref2 pre bs [] := fun x => by
      rw [ref2_app _ _ _ _ _ hl, ref2]
      show ref2 [] [] _ = _
      unfold nextM
      rw [valM_pl (hp f hf).2]
      simp [ref2]
    have ih := fun (x : Option Str) ss => str_thin hn hp suf as (pre ++ [f]) (bs ++ [x]) ss e' (hl' x) h'
    have reass : ∀ x : Option Str, (bs ++ [x]) ++ List.replicate suf.length none = bs ++ x :: List.replicate suf.length none := fun x => by simp
    rw [List.length_cons, List.replicate_succ, List.zip_cons_cons]
    cases a with
    | none =>
      rw [strM, ← reass none, ih none, hr none, thin]
      split <;> simp
    | some w =>
      rw [strM, hs, thin]
      by_cases hh : holdsM f.cond (ref2 pre bs []) = true
      · have hst : stepM fm (bs ++ none :: List.replicate suf.length none) (.ch f.name w) = bs ++ some w :: List.replicate suf.length none := by
          unfold stepM
          have : ((visM fm (bs ++ none :: List.replicate suf.length none)).lookup (Act.ch f.name w).nm).isSome = true := by rw [← hh, ← hs]; rfl
          rw [if_pos this]
          have ea : atM fm (Act.ch f.name w).nm = bs.length := by
            rw [hl, e]
            exact at_pre hn'
          have er : replM (bs ++ none :: List.replicate suf.length none) (atM fm (Act.ch f.name w).nm) (Act.ch f.name w).val = bs ++ some w :: List.replicate suf.length none := by
            rw [ea, replM_set _ (by simp)]
            simp [Act.val]
          rw [er, ansM_eq, ref1_pl fm _ _ hp]
          rw [e]
          simp [hl]
        rw [if_pos hh, if_pos hh, hst, ← reass (some w), ih (some w), hr (some w), if_pos hh]
        simp
      · rw [if_neg hh, if_neg hh, ← reass none, ih none, hr none, if_neg hh]
        simp
theorem in_names_of_vis {fm : List Fld} {as : Row} {k : Str} (h : ((visM fm as).lookup k).isSome = true) : k ∈ fm.map (·.name) := by
  rw [visM_eq] at h
  by_cases m : k ∈ fm.map (·.name)
  · exact m
  · rw [ref2_other fm as [] k m] at h
    cases h
theorem play_pl {fm : List Fld} (hp : AllPl fm) : ∀ (ss : List Act) (as : Row), as.length = fm.length → (playM fm ss as as).1 = (playM fm ss as as).2 ∧ (playM fm ss as as).1.length = fm.length
  | [], as, h => ⟨rfl, h⟩
  | a :: ss, as, h => by
    have hk : stepM fm as a = keptM fm as as a ∧ (stepM fm as a).length = fm.length := by
      unfold stepM keptM
      by_cases hv : ((visM fm as).lookup a.nm).isSome = true
      · rw [if_pos hv, if_pos hv]
        obtain ⟨g, hg, _⟩ := at_get (in_names_of_vis hv)
        have hlt : atM fm a.nm < as.length := by rw [h]; exact (List.getElem?_eq_some_iff.mp hg).1
        have hl : (replM as (atM fm a.nm) a.val).length = fm.length := by rw [replM_lenL hlt, h]
        rw [ansM_eq, ref1_pl fm _ _ hp hl]
        exact ⟨rfl, hl⟩
      · rw [if_neg hv, if_neg hv]
        exact ⟨rfl, h⟩
    rw [playM, ← hk.1]
    exact play_pl hp ss _ hk.2
theorem plain_coll {fm : List Fld} (hn : (fm.map (·.name)).Nodup) (hp : AllPl fm) (ss : List Act) : collM fm (plA fm (straM fm (plC fm ss))) = collM fm (plA fm ss) := by
  obtain ⟨h1, h2⟩ := play_pl hp ss (noneM fm) (by simp [noneM])
  have hc : plC fm ss = plA fm ss := h1.symm
  have hl : (plA fm ss).length = fm.length := h2
  rw [hc, ← strA_eq]
  have := str_thin hn hp fm (plA fm ss) [] [] [] rfl rfl hl
  have hB : strA fm (plA fm ss) = thin fm (plA fm ss) [] := this
  rw [hB]
  unfold collM
  rw [visM_eq, visM_eq, thin_vis fm _ _ hp]
theorem plain_stable {fm : List Fld} (hn : (fm.map (·.name)).Nodup) (hp : AllPl fm) (ss : List Act) : bentM fm ss = false := by
  unfold bentM
  rw [plain_coll hn hp, deq_refl (coll_nd _ _)]
  rfl
end FG

namespace FG
open PySem PySem.Spec PyProof.Rows L2
/-! ### what repair tells -/
theorem cho_has : ∀ {q l : List Nat}, q.Sublist l → q ∈ choM l q.length
  | [], l, _ => by simp [choM]
  | i :: q, l, h => by
    obtain ⟨r1, r2, rfl, hi, hq⟩ := List.cons_sublist_iff.mp h
    obtain ⟨s, t, rfl⟩ := List.append_of_mem hi
    rw [List.length_cons, choM, List.mem_flatMap]
    refine ⟨(i, s.length), List.mem_zipIdx_iff_getElem?.mpr (by simp), List.mem_map.mpr ⟨q, ?_, rfl⟩⟩
    have e : (s ++ i :: t ++ r2).drop (s.length + 1) = t ++ r2 := by
      rw [List.append_assoc, List.drop_append]
      simp
    rw [e]
    exact cho_has (hq.trans (List.sublist_append_right t r2))
theorem cho_sublist : ∀ {n : Nat} {l q : List Nat}, q ∈ choM l n → q.Sublist l
  | 0, l, q, h => by simp [choM] at h; rw [h]; exact List.nil_sublist _
  | n + 1, l, q, h => by
    simp only [choM, List.mem_flatMap, List.mem_map] at h
    obtain ⟨⟨x, i⟩, hp, r, hr, rfl⟩ := h
    have hi := List.mem_zipIdx_iff_getElem?.mp hp
    obtain ⟨hlt, hx⟩ := List.getElem?_eq_some_iff.mp hi
    have e : l.drop i = x :: l.drop (i + 1) := by rw [List.drop_eq_getElem_cons hlt, hx]
    have := (cho_sublist hr).cons_cons x
    rw [← e] at this
    exact this.trans (List.drop_sublist i l)
theorem cand_iff {fm : List Fld} {q : List Nat} : q ∈ cands fm ↔ q.Sublist (npl fm) := by
  unfold cands
  rw [List.mem_flatMap]
  constructor
  · rintro ⟨n, _, h⟩
    exact cho_sublist h
  · intro h
    exact ⟨q.length, List.mem_range.mpr (Nat.lt_succ_of_le h.length_le), cho_has h⟩
theorem pairwise_mem {α : Type} {R : α → α → Prop} : ∀ {l : List α}, (∀ a ∈ l, ∀ b ∈ l, R a b) → l.Pairwise R
  | [], _ => .nil
  | x :: l, h => .cons (fun b m => h x List.mem_cons_self b (List.mem_cons_of_mem _ m)) (pairwise_mem fun a ma b mb => h a (List.mem_cons_of_mem _ ma) b (List.mem_cons_of_mem _ mb))
theorem find_first {α : Type} {f : Nat → List α} {p : α → Bool} {sz : α → Nat} (hf : ∀ n q, q ∈ f n → sz q = n) {N : Nat} {x : α} (h : ((List.range N).flatMap f).find? p = some x) : p x = true ∧ x ∈ (List.range N).flatMap f ∧ ∀ q ∈ (List.range N).flatMap f, sz q < sz x → p q = false := by
  obtain ⟨hp, as, bs, e, hno⟩ := List.find?_eq_some_iff_append.mp h
  have hpw : ((List.range N).flatMap f).Pairwise fun a b => sz a ≤ sz b := by
    rw [List.pairwise_flatMap]
    refine ⟨fun n _ => ?_, ?_⟩
    · exact pairwise_mem fun a ha b hb => by rw [hf n a ha, hf n b hb]; exact Nat.le_refl _
    · exact List.pairwise_lt_range.imp fun {a b} hab x hx y hy => by rw [hf a x hx, hf b y hy]; exact Nat.le_of_lt hab
  refine ⟨hp, by rw [e]; simp, fun q hq hs => ?_⟩
  rw [e] at hq hpw
  rw [List.pairwise_append] at hpw
  rcases List.mem_append.mp hq with hq | hq
  · simpa using hno q hq
  · rcases List.mem_cons.mp hq with rfl | hq
    · omega
    · have := (List.pairwise_cons.mp hpw.2.1).1 q hq
      omega
def plainN (fm : List Fld) (ns : List Str) : List Fld := fm.map fun f => if f.name ∈ ns then plainF f else f
theorem plainN_at {fm : List Fld} (hn : (fm.map (·.name)).Nodup) {l : List Nat} (hl : ∀ i ∈ l, i < fm.length) : plainN fm (namesAt fm l) = plainAt fm l := by
  have key : ∀ i f, fm[i]? = some f → (f.name ∈ namesAt fm l ↔ i ∈ l) := fun i f hf => by
    unfold namesAt
    rw [List.mem_map]
    constructor
    · rintro ⟨j, hj, e⟩
      have hjl := hl j hj
      rw [List.getElem?_eq_getElem hjl] at e
      have : j = i := nd_inj hn (List.getElem?_eq_getElem hjl) hf e
      rw [← this]
      exact hj
    · intro hi
      exact ⟨i, hi, by rw [hf]; rfl⟩
  unfold plainN plainAt
  refine List.ext_getElem? fun i => ?_
  rw [List.getElem?_map, List.getElem?_map, List.getElem?_zipIdx]
  cases hf : fm[i]? with
  | none => rfl
  | some f =>
    simp only [Option.map_some, Nat.zero_add]
    by_cases hi : i ∈ l
    · rw [if_pos hi, if_pos ((key i f hf).mpr hi)]
    · rw [if_neg hi, if_neg fun z => hi ((key i f hf).mp z)]
theorem plainAt_nil (fm : List Fld) : plainAt fm [] = fm := by
  unfold plainAt
  simp
theorem plainAt_npl (fm : List Fld) : AllPl (plainAt fm (npl fm)) := by
  intro g m
  obtain ⟨⟨f, i⟩, hm, rfl⟩ := List.mem_map.mp m
  show (if i ∈ npl fm then plainF f else f).clr = false ∧ (if i ∈ npl fm then plainF f else f).src = none
  by_cases hi : i ∈ npl fm
  · rw [if_pos hi]
    exact ⟨rfl, rfl⟩
  · rw [if_neg hi]
    have hp : isPlain f = true := by
      cases hq : isPlain f with
      | true => rfl
      | false => exact absurd (List.mem_map.mpr ⟨(f, i), List.mem_filter.mpr ⟨hm, by simp [hq]⟩, rfl⟩) hi
    simp only [isPlain, Bool.and_eq_true, Bool.not_eq_true', Option.isNone_iff_eq_none] at hp
    exact hp
section
variable {fs : List Df} {F : Nat}
theorem plain_unst (b : BU fs) {fm : List Fld} (o : FG1 fm 3) (hF : 65536 < F) (hp : AllPl fm) : unstM F fm = none := by
  cases h : unstM F fm with
  | none => rfl
  | some ss =>
    have := ((unst_told b o hF).2 ss h).2.1
    rw [plain_stable o.nd hp] at this
    cases this
/-- the places that repair tells -/
theorem rep_spec (b : BU fs) {fm : List Fld} (o : FG1 fm 3) (hF : 65536 < F) : ∃ l, repM F fm = namesAt fm l ∧ l.Sublist (npl fm) ∧ unstM F (plainAt fm l) = none ∧ ∀ q, q.Sublist (npl fm) → q.length < l.length → unstM F (plainAt fm q) ≠ none := by
  have hex : ∃ l, repS F fm = some l := by
    cases h : repS F fm with
    | some l => exact ⟨l, rfl⟩
    | none =>
      have := List.find?_eq_none.mp h (npl fm) (cand_iff.mpr (List.Sublist.refl _))
      rw [plain_unst b (plainAt_ok o _) hF (plainAt_npl fm)] at this
      exact absurd rfl this
  obtain ⟨l, h⟩ := hex
  obtain ⟨h1, h2, h3⟩ := find_first (sz := List.length) (fun n q hq => cho_each hq) h
  refine ⟨l, by unfold repM; rw [h], cand_iff.mp h2, Option.isNone_iff_eq_none.mp h1, fun q hq hl e => ?_⟩
  have := h3 q (cand_iff.mpr hq) hl
  rw [e] at this
  cases this
end
end FG

namespace FG
open PySem PySem.Spec PyProof.Rows L2
/-! ### settings that cannot matter -/
structure IdleF (N : Str → Prop) (f g : Fld) : Prop where
  nm : g.name = f.name
  ws : g.words = f.words
  cnd : g.cond = f.cond
  clr : g.clr = f.clr ∨ f.cond = .alw
  src : g.src = f.src ∨ (g.src = none ∧ ∃ s, f.src = some s ∧ N s)
theorem ref2_keys : ∀ (fm : List Fld) (as : Row) (vis : Dic) (k : Str), k ∈ vis.map (·.1) → k ∈ (ref2 fm as vis).map (·.1)
  | [], as, vis, k, h => by cases as <;> simpa [ref2] using h
  | f :: fm, [], vis, k, h => by simpa [ref2] using h
  | f :: fm, a :: as, vis, k, h => by
    rw [ref2]
    refine ref2_keys fm as _ k ?_
    unfold nextM
    split
    · unfold dput
      split
      · rw [List.map_map]
        obtain ⟨p, hp, rfl⟩ := List.mem_map.mp h
        refine List.mem_map.mpr ⟨p, hp, ?_⟩
        simp only [Function.comp]
        split <;> rfl
      · rw [List.map_append]
        exact List.mem_append_left _ h
    · exact h
theorem dget_no {l : Dic} {k : Str} (h : k ∉ l.map (·.1)) : dget l k = none := by
  unfold dget
  have : l.lookup k = none := by
    rw [List.lookup_eq_none_iff]
    intro p hp
    simp only [bne_iff_ne, ne_eq]
    intro e
    exact h (List.mem_map.mpr ⟨p, hp, by first | exact e.symm | exact e⟩)
  rw [this]
  rfl
theorem idle_ref {N : Str → Prop} {mk : Fld → Fld} (hm : ∀ f, IdleF N f (mk f)) : ∀ (fm : List Fld) (as : Row) (vis : Dic), (∀ s, N s → s ∉ (ref2 fm as vis).map (·.1)) → ref1 (fm.map mk) as vis = ref1 fm as vis ∧ ref2 (fm.map mk) as vis = ref2 fm as vis
  | [], as, vis, _ => by cases as <;> exact ⟨rfl, rfl⟩
  | f :: fm, [], vis, _ => ⟨rfl, rfl⟩
  | f :: fm, a :: as, vis, h => by
    have hv : valM (mk f) a vis = valM f a vis := by
      unfold valM
      cases a with
      | some x => rfl
      | none =>
        rcases (hm f).src with e | ⟨e, s, e', hs⟩
        · rw [e]
        · rw [e, e']
          have : s ∉ vis.map (·.1) := fun z => h s hs (ref2_keys (f :: fm) _ vis s z)
          show none = dget vis s
          rw [dget_no this]
    have hn : nextM (mk f) a vis = nextM f a vis := by
      unfold nextM
      rw [(hm f).cnd, (hm f).nm, hv]
    have hh : headM (mk f) a vis = headM f a vis := by
      unfold headM
      rw [(hm f).cnd, hv]
      rcases (hm f).clr with e | e
      · rw [e]
      · rw [e]
        rfl
    rw [ref2] at h
    obtain ⟨i1, i2⟩ := idle_ref hm fm as _ h
    simp only [List.map_cons, ref1, ref2, hn, hh, i1, i2]
    exact ⟨trivial, trivial⟩
theorem at_names {fm gm : List Fld} (hn : (fm.map (·.name)).Nodup) (e : gm.map (·.name) = fm.map (·.name)) {n : Str} (h : n ∈ fm.map (·.name)) : atM gm n = atM fm n := by
  obtain ⟨f, hf, ef⟩ := at_get h
  obtain ⟨g, hg, eg⟩ := at_get (fm := gm) (n := n) (by rw [e]; exact h)
  have h1 : (fm.map (·.name))[atM gm n]? = some n := by
    rw [← e, List.getElem?_map, hg]
    exact congrArg some eg
  rw [List.getElem?_map] at h1
  cases hf' : fm[atM gm n]? with
  | none => rw [hf'] at h1; cases h1
  | some f' =>
    rw [hf'] at h1
    exact nd_inj hn hf' hf (by rw [ef]; exact Option.some.inj h1)
theorem idle_run {N : Str → Prop} {mk : Fld → Fld} (hm : ∀ f, IdleF N f (mk f)) {fm : List Fld} (hn : (fm.map (·.name)).Nodup) (hN : ∀ s, N s → ∀ ss, (∀ a ∈ ss, a ∈ movesM fm []) → s ∉ (visM fm (plA fm ss)).map (·.1)) (ss : List Act) (ha : ∀ a ∈ ss, a ∈ movesM fm []) :
    plA (fm.map mk) ss = plA fm ss ∧ visM (fm.map mk) (plA fm ss) = visM fm (plA fm ss) := by
  have hvis : ∀ ss, (∀ a ∈ ss, a ∈ movesM fm []) → visM (fm.map mk) (plA fm ss) = visM fm (plA fm ss) := fun ss ha => by
    rw [visM_eq, visM_eq]
    exact (idle_ref hm fm _ [] fun s hs => by have := hN s hs ss ha; rw [visM_eq] at this; exact this).2
  refine ⟨?_, hvis ss ha⟩
  have hnames : (fm.map mk).map (·.name) = fm.map (·.name) := by
    rw [List.map_map]
    exact List.map_congr_left fun f _ => (hm f).nm
  have go : ∀ n ss, ss.length = n → (∀ a ∈ ss, a ∈ movesM fm []) → plA (fm.map mk) ss = plA fm ss := by
    intro n
    induction n with
    | zero =>
      intro ss hl _
      have : ss = [] := List.length_eq_zero_iff.mp hl
      subst this
      show noneM (fm.map mk) = noneM fm
      simp [noneM]
    | succ n ih =>
      intro ss hl ha
      have hne : ss ≠ [] := by intro z; rw [z] at hl; cases hl
      obtain ⟨ts, a, rfl⟩ : ∃ ts a, ss = ts ++ [a] := ⟨ss.dropLast, ss.getLast hne, (List.dropLast_concat_getLast hne).symm⟩
      have hts : ∀ x ∈ ts, x ∈ movesM fm [] := fun x m => ha x (List.mem_append_left _ m)
      have iht := ih ts (by simpa using hl) hts
      rw [plA_app, plA_app, iht]
      have hreach := hN
      have hv := hvis ts hts
      unfold stepM
      rw [hv]
      by_cases hs : ((visM fm (plA fm ts)).lookup a.nm).isSome = true
      · rw [if_pos hs, if_pos hs, at_names hn hnames (in_names_of_vis hs)]
        rw [ansM_eq, ansM_eq]
        refine (idle_ref hm fm _ [] fun s hs' => ?_).1
        have h1 := hN s hs' (ts ++ [a]) ha
        rw [plA_app] at h1
        unfold stepM at h1
        rw [if_pos hs, visM_eq, ansM_eq, (ref_idem fm _ []).2] at h1
        exact h1
      · rw [if_neg hs, if_neg hs]
  exact go _ ss rfl ha
theorem idle_apart {N : Str → Prop} {mk : Fld → Fld} (hm : ∀ f, IdleF N f (mk f)) {fm : List Fld} (hn : (fm.map (·.name)).Nodup) (hN : ∀ s, N s → ∀ ss, (∀ a ∈ ss, a ∈ movesM fm []) → s ∉ (visM fm (plA fm ss)).map (·.1)) (ss : List Act) (ha : ∀ a ∈ ss, a ∈ movesM fm []) : apartM fm (fm.map mk) ss = false := by
  obtain ⟨h1, h2⟩ := idle_run hm hn hN ss ha
  unfold apartM
  rw [h1]
  have : collM (fm.map mk) (plA fm ss) = collM fm (plA fm ss) := by
    unfold collM
    rw [h2]
  rw [this, deq_refl (coll_nd _ _)]
  rfl
end FG

namespace FG
open PySem PySem.Spec PyProof.Rows L2
/-! ### _law_plain of k04 and k22 -/
def d_lpl : Df := ⟨"_law_plain", ["form", "names", "field"], 2, true, [.ret [] (.bi .tuple (.lc [2] (.nm 2) .seq [.var 0] [] (.ite (.cmp .isin (.idx (.var 2) (.con (.int 0))) (.var 1)) (.bin .add (.slt (.var 2) (.con (.int 3))) (.tup [.con (.str "keep"), .con (.non)])) (.var 2))))]⟩
theorem plainN_nw (fm : List Fld) (ns : List Str) : (plainN fm ns).map nw = fm.map nw := by
  unfold plainN
  rw [List.map_map]
  refine List.map_congr_left fun f _ => ?_
  show nw (if f.name ∈ ns then plainF f else f) = nw f
  split <;> rfl
theorem plainN_ok {fm : List Fld} (o : FG1 fm 3) (ns : List Str) : FG1 (plainN fm ns) 3 := by
  have ok : ∀ (g : List Fld) (e : Ear), FmOk e g → FmOk e (g.map fun f => if f.name ∈ ns then plainF f else f) := by
    intro g
    induction g with
    | nil => intro e _; exact .nil
    | cons f g ih =>
      intro e h
      cases h with
      | cons of og =>
        simp only [List.map_cons]
        split
        · exact .cons of.plain (ih _ og)
        · exact .cons of (ih _ og)
  refine fg1_of o (plainN_nw fm ns) (ok fm [] o.ok) fun g m => ?_
  obtain ⟨f, hm, rfl⟩ := List.mem_map.mp m
  have := o.dep f hm
  show (if f.name ∈ ns then plainF f else f).cond.dep ≤ 3
  split
  · exact this
  · exact this
theorem plainN_all (fm : List Fld) : AllPl (plainN fm (fm.map (·.name))) := by
  intro g m
  obtain ⟨f, hm, rfl⟩ := List.mem_map.mp m
  rw [if_pos (List.mem_map.mpr ⟨f, hm, rfl⟩)]
  exact ⟨rfl, rfl⟩
section
variable {fs : List Df} {F k : Nat} {S : Sto}
theorem e_lplain {i : Nat} (hi : fs[i]? = some d_lpl) {fm : List Fld} (o : FG1 fm 3) {ns : List Str} (hs : ∀ x ∈ ns, PyData.strOk x = true) : callK fs F (k + 1) i [formD fm, strsD ns] S = some (formD (plainN fm ns), S) := by
  rw [callK_eq hi rfl]
  have hlc := ev_lcR (c := callK fs F k) (own := [2]) (tg := .nm 2) (ik := .seq) (its := [.var 0]) (ifs := []) (elt := .ite (.cmp .isin (.idx (.var 2) (.con (.int 0))) (.var 1)) (.bin .add (.slt (.var 2) (.con (.int 3))) (.tup [.con (.str "keep"), .con (.non)])) (.var 2)) (env := [some (.sh (formD fm)), some (.sh (strsD ns)), none]) (S := S) (S1 := S) (ds := [formD fm])
    Fld.d (fun _ => true) (fun f => (if f.name ∈ ns then plainF f else f).d) fm (by simp only [startE, List.map, List.length, List.replicate, execs, exec, ev, evs, evcs, evts, unown, unown1, List.foldl, peek, getO, getE, idx0, idx1, idx2, idx3, idx4, idxl0, idxl1, idxl2, List.cons_append, List.nil_append, List.append_nil, Option.map_some, Option.bind_some, Option.map_none, Option.bind_none, cmpF, eq_str, List.getElem?_cons_zero, List.getElem?_cons_succ, List.set_cons_zero, List.set_cons_succ, Nat.reduceSub, Nat.reduceAdd, decide_true, decide_false, fnx, frt, bindT]) (by decide) rfl (fun f m => ⟨[some (.sh (formD fm)), some (.sh (strsD ns)), some (.sh f.d)], rfl, rfl, fun _ => by
      have hin : inF (.str f.name) (strsD ns) = some (decide (f.name ∈ ns)) := in_strs (o.nm.nm f m) hs
      have h0 : ∀ S, idxS S f.d (.int 0) = some (.str f.name) := fun S => idx0 S _ _
      by_cases hm : f.name ∈ ns
      · rw [decide_eq_true hm] at hin
        simp only [hm, if_true]
        simp only [startE, List.map, List.length, List.replicate, execs, exec, ev, evs, evcs, evts, unown, unown1, List.foldl, peek, getO, getE, idx0, idx1, idx2, idx3, idx4, idxl0, idxl1, idxl2, List.cons_append, List.nil_append, List.append_nil, Option.map_some, Option.bind_some, Option.map_none, Option.bind_none, cmpF, eq_str, List.getElem?_cons_zero, List.getElem?_cons_succ, List.set_cons_zero, List.set_cons_succ, Nat.reduceSub, Nat.reduceAdd, decide_true, decide_false, fnx, frt, bindT, h0, hin, slt3, add_keep]
      · rw [decide_eq_false hm] at hin
        simp only [hm, if_false]
        simp only [startE, List.map, List.length, List.replicate, execs, exec, ev, evs, evcs, evts, unown, unown1, List.foldl, peek, getO, getE, idx0, idx1, idx2, idx3, idx4, idxl0, idxl1, idxl2, List.cons_append, List.nil_append, List.append_nil, Option.map_some, Option.bind_some, Option.map_none, Option.bind_none, cmpF, eq_str, List.getElem?_cons_zero, List.getElem?_cons_succ, List.set_cons_zero, List.set_cons_succ, Nat.reduceSub, Nat.reduceAdd, decide_true, decide_false, fnx, frt, bindT, h0, hin]⟩) (by have := o.le; unfold big; omega)
  rw [List.filter_eq_self.mpr fun _ _ => rfl] at hlc
  have ht := ev_biR (f := .tuple) (d := formD (plainN fm ns)) rfl hlc (by
    simp only [biF, formD, plainN, List.map_map]
    rfl)
  exact (congrArg fin (execs_rt (exec_ret ht))).trans rfl
end
end FG

namespace FG
open PySem PySem.Spec PyProof.Rows L2
theorem ev_cmpR {c : Calls} {op : COp} {a b : E} {env : En} {S S1 S2 : Sto} {x y : D} {r : Bool} (pa : peek env a = none) (pb : peek env b = none) (ha : ev c a env S = some (x, S1)) (hb : ev c b env S1 = some (y, S2)) (h : cmpF op x y = some r) : ev c (.cmp op a b) env S = some (.bl r, S2) := by
  simp only [ev, pa, pb, ha, hb, h, Option.bind_some, Option.map_some]
theorem cut_to (ds : List D) (n : Nat) : slcF (.tup ds) none (some (n : Int)) = some (.tup (ds.take n)) := by
  show some (D.tup (cutD ds none (some (n : Int)))) = _
  rw [cut_take]
theorem cut_from (ds : List D) (n : Nat) : slcF (.tup ds) (some (n : Int)) none = some (.tup (ds.drop n)) := by
  show some (D.tup (cutD ds (some (n : Int)) none)) = _
  rw [cut_drop]
theorem ints_map {α : Type} (g : α → Int) : ∀ l : List α, intsD (l.map fun x => D.int (g x)) = some (l.map g)
  | [] => rfl
  | x :: l => by simp only [List.map_cons, intsD, ints_map g l, Option.map_some]
theorem eq_snil {l : List Str} (h : ∀ x ∈ l, PyData.strOk x = true) : eqF (strsD l) (.lst []) = some l.isEmpty := by
  have := eq_nil (l.map .str) (pyOks_str 59 l h)
  rw [List.isEmpty_map] at this
  exact this
theorem namesAt_ok {fm : List Fld} (o : FG1 fm 3) {l : List Nat} (hl : ∀ i ∈ l, i < fm.length) : ∀ x ∈ namesAt fm l, PyData.strOk x = true := by
  intro x m
  obtain ⟨i, hi, rfl⟩ := List.mem_map.mp m
  rw [List.getElem?_eq_getElem (hl i hi)]
  exact o.nm.nm _ (List.getElem_mem _)
theorem names_ok {fm : List Fld} (o : FG1 fm 3) : ∀ x ∈ fm.map (·.name), PyData.strOk x = true := fun x m => by
  obtain ⟨f, hf, rfl⟩ := List.mem_map.mp m
  exact o.nm.nm f hf
theorem rep_plain {fs : List Df} {F : Nat} (b : BU fs) (hF : 65536 < F) {fm : List Fld} (o : FG1 fm 3) (hn : unstM F fm = none) : repM F fm = [] := by
  obtain ⟨l, h1, _, _, h4⟩ := rep_spec b o hF
  have : l = [] := by
    cases l with
    | nil => rfl
    | cons i l =>
      have := h4 [] (List.nil_sublist _) (by simp)
      rw [plainAt_nil] at this
      exact absurd hn this
  rw [h1, this]
  rfl
/-- the names of a form, by a comprehension -/
theorem fld_lc {c : Calls} {S : Sto} {fm : List Fld} (hl : fm.length ≤ 1000) {i j : Nat} {env : En} (hi : env[i]? = some (some (.sh (formD fm)))) (hj : j < env.length) : ev c (.lc [j] (.nm j) .seq [.var i] [] (.idx (.var j) (.con (.int 0)))) env S = some (strsD (fm.map (·.name)), S) := by
  have hlc := ev_lcR (c := c) (own := [j]) (tg := .nm j) (ik := .seq) (its := [.var i]) (ifs := []) (elt := .idx (.var j) (.con (.int 0))) (env := env) (S := S) (S1 := S) (ds := [formD fm])
    Fld.d (fun _ => true) (fun f => .str f.name) fm (by simp only [startE, List.map, List.length, List.replicate, execs, exec, ev, evs, evcs, evts, unown, unown1, List.foldl, peek, getO, getE, idx0, idx1, idx2, idx3, idx4, idxl0, idxl1, idxl2, List.cons_append, List.nil_append, List.append_nil, Option.map_some, Option.bind_some, Option.map_none, Option.bind_none, cmpF, eq_str, List.getElem?_cons_zero, List.getElem?_cons_succ, List.set_cons_zero, List.set_cons_succ, Nat.reduceSub, Nat.reduceAdd, decide_true, decide_false, fnx, frt, bindT, hi]) (by decide) rfl (fun f m => ⟨(wipeE env [j]).set j (some (.sh f.d)), rfl, rfl, fun _ => by
      have h0 : ∀ S, idxS S f.d (.int 0) = some (.str f.name) := fun S => idx0 S _ _
      have hg : ((wipeE env [j]).set j (some (Ent.sh f.d)))[j]? = some (some (.sh f.d)) := by
        rw [List.getElem?_set_self (by simpa [wipeE] using hj)]
      simp only [startE, List.map, List.length, List.replicate, execs, exec, ev, evs, evcs, evts, unown, unown1, List.foldl, peek, getO, getE, idx0, idx1, idx2, idx3, idx4, idxl0, idxl1, idxl2, List.cons_append, List.nil_append, List.append_nil, Option.map_some, Option.bind_some, Option.map_none, Option.bind_none, cmpF, eq_str, List.getElem?_cons_zero, List.getElem?_cons_succ, List.set_cons_zero, List.set_cons_succ, Nat.reduceSub, Nat.reduceAdd, decide_true, decide_false, fnx, frt, bindT, hg, h0]⟩) (by unfold big; omega)
  rw [List.filter_eq_self.mpr fun _ _ => rfl] at hlc
  rw [hlc]
  unfold strsD
  rw [List.map_map]
  rfl
end FG

namespace FG
open PySem PySem.Spec PyProof.Rows L2
def d_law_lists : Df := ⟨"_law_lists", ["names", "found", "at", "order", "pair", "some"], 1, true, [.asgO [] 1 (.lst [.lst []]), .for [] (.nm 2) .range [.bi .len (.var 0)] [.ext 1 (.lc [5] (.nm 5) .seq [.var 1] [] (.bin .add (.var 5) (.lst [.var 2])))], .asg [] 3 (.bi .sorted (.lc [5] (.nm 5) .seq [.var 1] [] (.tup [.bi .len (.var 5), .var 5]))), .ret [] (.lc [4] (.nm 4) .seq [.var 3] [] (.lc [2] (.nm 2) .seq [.idx (.var 4) (.con (.int 1))] [] (.idx (.var 0) (.var 2))))]⟩
def d_law_plain : Df := ⟨"_law_plain", ["form", "names", "field"], 2, true, [.ret [] (.bi .tuple (.lc [2] (.nm 2) .seq [.var 0] [] (.ite (.cmp .isin (.idx (.var 2) (.con (.int 0))) (.var 1)) (.bin .add (.slt (.var 2) (.con (.int 3))) (.tup [.con (.str "keep"), .con (.non)])) (.var 2))))]⟩
def d_law : Df := ⟨"law", ["script", "town", "names", "some", "told", "form", "due", "field"], 1, true, [.newC 1 [.con (.int 0), .con (.int 0)], .par [5, 6] [.call 28 [.var 0, .var 1, .con (.int 4)], .con (.non)] [false, false], .asg [] 2 (.lc [7] (.nm 7) .seq [.var 5] [] (.idx (.var 7) (.con (.int 0)))), .for [] (.nm 3) .seq [.call 50 [.var 2]] [.ite (.and (.cmp .is (.var 6) (.con (.non))) (.cmp .is (.call 39 [.call 51 [.var 5, .var 3]]) (.con (.non)))) [.asg [] 6 (.var 3)] []], .asg [] 4 (.call 42 [.var 5]), .ite (.or (.cmp .ne (.var 4) (.var 6)) (.cmp .ne (.cmp .eq (.var 4) (.lst [])) (.cmp .is (.call 39 [.var 5]) (.con (.non))))) [.ret [] (.con (.bl false))] [], .ret [] (.and (.cmp .is (.call 39 [.call 51 [.var 5, .var 2]]) (.con (.non))) (.cmp .eq (.call 42 [.call 51 [.var 5, .var 4]]) (.lst [])))]⟩
def gls : List (Str × D) := [("LETTERS", .str "abcdefghijklmnopqrstuvwxyz"), ("CHOICES", .int 3), ("FIELDS", .int 4), ("DEPTH", .int 3)]
def dfs : List Df := [d_is_word, d_is_condition, d_are_choices, d_is_field, d_is_form, d_need_form, d_holds, d_refreshed, d_visible_in, d_collected, d_empty, d_place_of, d_replaced, d_stepped, d_actions_of, noDf, noDf, noDf, d_kept_choices, noDf, noDf, noDf, noDf, d_straight_for, noDf, d_law_draw, d_law_pick, d_law_condition, d_law_form, noDf, noDf, noDf, noDf, noDf, noDf, noDf, noDf, d_session_to, d_unstable_of, d_unstable, d_plain_at, d_choices_of, d_repair, noDf, noDf, noDf, noDf, noDf, noDf, noDf, d_law_lists, d_law_plain, d_law]
def cf : Cfg := ⟨dfs, gls⟩
end FG

namespace FG
open PySem PySem.Spec PyProof.Rows L2
def top (i : Nat) : Stmt := PySem.Challenge.pw_formguard_k04_whole_repair.main.body.getD i (.Pass ⟨0, 0, 0, 0⟩)
def mkD (x : Str) (i : Nat) : He.DefD := ⟨(x, none), x, x, defArgs (top i), defBody (top i), defScope (top i), [], []⟩
def fn : List He.DefD := [mkD "is_word" 8, mkD "is_condition" 9, mkD "are_choices" 10, mkD "is_field" 11, mkD "is_form" 12, mkD "need_form" 13, mkD "holds" 14, mkD "refreshed" 15, mkD "visible_in" 16, mkD "collected" 17, mkD "empty" 18, mkD "place_of" 19, mkD "replaced" 20, mkD "stepped" 21, mkD "actions_of" 22, mkD "kept_choices" 24, mkD "straight_for" 25, mkD "session_to" 27, mkD "unstable_of" 28, mkD "unstable" 29, mkD "plain_at" 30, mkD "choices_of" 31, mkD "repair" 32, mkD "_law_draw" 34, mkD "_law_pick" 35, mkD "_law_condition" 36, mkD "_law_form" 37, mkD "_law_moves" 38, mkD "_law_plain" 39, mkD "_law_lists" 40, mkD "law" 41]
def fa : List He.Fa := [.glo "is_word", .glo "is_condition", .glo "are_choices", .glo "is_field", .glo "is_form", .glo "need_form", .glo "holds", .glo "refreshed", .glo "visible_in", .glo "collected", .glo "empty", .glo "place_of", .glo "replaced", .glo "stepped", .glo "actions_of", .glo "kept_choices", .glo "straight_for", .glo "session_to", .glo "unstable_of", .glo "unstable", .glo "plain_at", .glo "choices_of", .glo "repair", .glo "_law_draw", .glo "_law_pick", .glo "_law_condition", .glo "_law_form", .glo "_law_moves", .glo "_law_plain", .glo "_law_lists", .glo "law", .str "LETTERS" "abcdefghijklmnopqrstuvwxyz", .int "CHOICES" 3, .int "FIELDS" 4, .int "DEPTH" 3, .free "len", .free "isinstance", .free "str", .free "tuple", .free "list", .free "dict", .free "all", .free "any", .free "set", .free "zip", .free "enumerate", .free "range", .free "sorted", .free "max", .free "min", .free "sum", .free "int"]
def names : List PySem.Str := (["FormError", "InvalidForm", "LETTERS", "CHOICES", "FIELDS", "DEPTH", "is_word", "is_condition", "are_choices", "is_field", "is_form", "need_form", "holds", "refreshed", "visible_in", "collected", "empty", "place_of", "replaced", "stepped", "actions_of", "kept_choices", "straight_for", "session_to", "unstable_of", "unstable", "plain_at", "choices_of", "repair", "_law_draw"] : List PySem.Str) ++ (["_law_pick", "_law_condition", "_law_form", "_law_moves", "_law_plain", "_law_lists"] : List PySem.Str)
abbrev R : PySem.W.OpenRow := PySem.W.OpenLaw.row PySem.Challenge.rw_formguard_k04_whole_repair
abbrev hk : PySem.W.Hook := He.hookD 4 fa fn
def ob (s : PySem.W.SharedT) : He.AlD := He.obsDG 4 fa fn (HandSHeadRun.getT s)
theorem ob_eq (s : PySem.W.SharedT) : ob s = hk.obs s.abs := He.obsDG_eq (HandSHeadRun.getT_eq s)
theorem run (w : World) : HandSHeadRun.RunEq R (PySem.W.view R.prog [41]) hk ob 4000 names w := by
  intro os
  kernel_rfl
end FG
open PySem PySem.W PySem.Calls PyProof.Rows
theorem law_from (FF : ∀ (w : World) (mg : Str → Option Value) (h : Heap) (K : PySem.W.Frag) (fa : Addr), K.In h → h.Ns mainGlobals mg → mg ("law" : PySem.Str) = some (.ref fa) → He.SaysD FG.fa FG.fn K → 
      ∃ (fd : FuncData) (sp : L2.Sp), (∀ (s : Shared) (u : Value), BindsTo s fd ⟨[u], []⟩ [("script", u)]) ∧
        (∀ (H : L2.Hp) (a : Addr) (ns : List Int), ns.length ≤ 63 → L2.Only H → L2.SqL K H a (ns.map L2.V.int) → sp [.ref a] H (fun v _ => v = .bl true) fun _ _ _ => False) ∧
        ∀ base : Heap, K.In base → base.Ns mainGlobals mg → L2.FnOk PySem.Challenge.rw_formguard_k04_whole_repair.prog w K mg base L2.CX0 20 fa fd ["script"] sp) : PySem.Challenge.rw_formguard_k04_whole_repair.Holds := by
  w_on; o_law
  refine HandSHeadRun.head_any (r := OpenLaw.row PySem.Challenge.rw_formguard_k04_whole_repair) (q := view (OpenLaw.row PySem.Challenge.rw_formguard_k04_whole_repair).prog [41]) (H := FG.hk) (ob := FG.ob) (M := 4000) (loose := FG.names) (d := HandSHeadRun.topDef (OpenLaw.row PySem.Challenge.rw_formguard_k04_whole_repair).prog 41) (kwd := []) FG.ob_eq
    (by kernel_rfl) (fun s => by kernel_rfl) FG.run (by kernel_rfl) (by kernel_rfl) (by kernel_rfl) (by rfl) (by first | assumption | decide +kernel) (by decide +kernel) ⟨rfl, rfl, rfl, rfl, rfl, by decide +kernel⟩ ?hw ?hc
  case hw => w_witness2
  case hc =>
    refine L2.walk_ofE (l := PySem.Challenge.rw_formguard_k04_whole_repair) (n := 63) (k := 20) (x := "script") (CX := L2.CX0) rfl (by decide) (by kernel_rfl) ⟨rfl, by decide, by decide⟩ ?F (fun _ _ _ _ z => z)
    intro w mg fa h Y G hmg0
    obtain ⟨K, KX, c⟩ := Y
    have hmg : mg ("law" : PySem.Str) = some (.ref fa) := by
      have e : (HandSHeadRun.topDef (OpenLaw.row PySem.Challenge.rw_formguard_k04_whole_repair).prog 41).name = ("law" : PySem.Str) := by kernel_rfl
      rw [← e]
      exact hmg0
    obtain ⟨fd, sp, hb, hs, hF⟩ := FF w mg h K fa KX G hmg c
    exact ⟨K, fd, sp, KX, hb, hs, hF⟩

namespace FG
open PySem PySem.Spec PyProof.Rows L2
theorem ok_law_lists : DefOk cf d_law_lists (defArgs (top 40)) (defBody (top 40)) (defScope (top 40)) := ⟨by decide +kernel, scope_of (by decide +kernel), by decide, fun _ _ _ _ _ _ us hl => match us, hl with | [_], _ => rfl⟩
theorem ok_is_word : DefOk cf d_is_word (defArgs (top 8)) (defBody (top 8)) (defScope (top 8)) := ⟨by decide +kernel, scope_of (by decide +kernel), by decide, fun _ _ _ _ _ _ us hl => match us, hl with | [_], _ => rfl⟩
theorem ok_are_choices : DefOk cf d_are_choices (defArgs (top 10)) (defBody (top 10)) (defScope (top 10)) := ⟨by decide +kernel, scope_of (by decide +kernel), by decide, fun _ _ _ _ _ _ us hl => match us, hl with | [_], _ => rfl⟩
theorem ok_is_condition : DefOk cf d_is_condition (defArgs (top 9)) (defBody (top 9)) (defScope (top 9)) := ⟨by decide +kernel, scope_of (by decide +kernel), by decide, fun _ _ _ _ _ _ us hl => match us, hl with | [_, _, _], _ => rfl⟩
theorem ok_is_field : DefOk cf d_is_field (defArgs (top 11)) (defBody (top 11)) (defScope (top 11)) := ⟨by decide +kernel, scope_of (by decide +kernel), by decide, fun _ _ _ _ _ _ us hl => match us, hl with | [_, _], _ => rfl⟩
theorem ok_is_form : DefOk cf d_is_form (defArgs (top 12)) (defBody (top 12)) (defScope (top 12)) := ⟨by decide +kernel, scope_of (by decide +kernel), by decide, fun _ _ _ _ _ _ us hl => match us, hl with | [_], _ => rfl⟩
theorem ok_need_form : DefOk cf d_need_form (defArgs (top 13)) (defBody (top 13)) (defScope (top 13)) := ⟨by decide +kernel, scope_of (by decide +kernel), by decide, fun _ _ _ _ _ _ us hl => match us, hl with | [_], _ => rfl⟩
theorem ok_choices_of : DefOk cf d_choices_of (defArgs (top 31)) (defBody (top 31)) (defScope (top 31)) := ⟨by decide +kernel, scope_of (by decide +kernel), by decide, fun _ _ _ _ _ _ us hl => match us, hl with | [_, _], _ => rfl⟩
theorem ok_empty : DefOk cf d_empty (defArgs (top 18)) (defBody (top 18)) (defScope (top 18)) := ⟨by decide +kernel, scope_of (by decide +kernel), by decide, fun _ _ _ _ _ _ us hl => match us, hl with | [_], _ => rfl⟩
theorem ok_actions_of : DefOk cf d_actions_of (defArgs (top 22)) (defBody (top 22)) (defScope (top 22)) := ⟨by decide +kernel, scope_of (by decide +kernel), by decide, fun _ _ _ _ _ _ us hl => match us, hl with | [_], _ => rfl⟩
theorem ok_holds : DefOk cf d_holds (defArgs (top 14)) (defBody (top 14)) (defScope (top 14)) := ⟨by decide +kernel, scope_of (by decide +kernel), by decide, fun _ _ _ _ _ _ us hl => match us, hl with | [_, _], _ => rfl⟩
theorem ok_refreshed : DefOk cf d_refreshed (defArgs (top 15)) (defBody (top 15)) (defScope (top 15)) := ⟨by decide +kernel, scope_of (by decide +kernel), by decide, fun _ _ _ _ _ _ us hl => match us, hl with | [_, _], _ => rfl⟩
theorem ok_visible_in : DefOk cf d_visible_in (defArgs (top 16)) (defBody (top 16)) (defScope (top 16)) := ⟨by decide +kernel, scope_of (by decide +kernel), by decide, fun _ _ _ _ _ _ us hl => match us, hl with | [_, _], _ => rfl⟩
theorem ok_collected : DefOk cf d_collected (defArgs (top 17)) (defBody (top 17)) (defScope (top 17)) := ⟨by decide +kernel, scope_of (by decide +kernel), by decide, fun _ _ _ _ _ _ us hl => match us, hl with | [_, _], _ => rfl⟩
theorem ok_session_to : DefOk cf d_session_to (defArgs (top 27)) (defBody (top 27)) (defScope (top 27)) := ⟨by decide +kernel, scope_of (by decide +kernel), by decide, fun _ _ _ _ _ _ us hl => match us, hl with | [_, _], _ => rfl⟩
theorem ok_place_of : DefOk cf d_place_of (defArgs (top 19)) (defBody (top 19)) (defScope (top 19)) := ⟨by decide +kernel, scope_of (by decide +kernel), by decide, fun _ _ _ _ _ _ us hl => match us, hl with | [_, _], _ => rfl⟩
theorem ok_replaced : DefOk cf d_replaced (defArgs (top 20)) (defBody (top 20)) (defScope (top 20)) := ⟨by decide +kernel, scope_of (by decide +kernel), by decide, fun _ _ _ _ _ _ us hl => match us, hl with | [_, _, _], _ => rfl⟩
theorem ok_stepped : DefOk cf d_stepped (defArgs (top 21)) (defBody (top 21)) (defScope (top 21)) := ⟨by decide +kernel, scope_of (by decide +kernel), by decide, fun _ _ _ _ _ _ us hl => match us, hl with | [_, _, _], _ => rfl⟩
theorem ok_kept_choices : DefOk cf d_kept_choices (defArgs (top 24)) (defBody (top 24)) (defScope (top 24)) := ⟨by decide +kernel, scope_of (by decide +kernel), by decide, fun _ _ _ _ _ _ us hl => match us, hl with | [_, _, _, _], _ => rfl⟩
theorem ok_straight_for : DefOk cf d_straight_for (defArgs (top 25)) (defBody (top 25)) (defScope (top 25)) := ⟨by decide +kernel, scope_of (by decide +kernel), by decide, fun _ _ _ _ _ _ us hl => match us, hl with | [_, _], _ => rfl⟩
theorem ok_unstable_of : DefOk cf d_unstable_of (defArgs (top 28)) (defBody (top 28)) (defScope (top 28)) := ⟨by decide +kernel, scope_of (by decide +kernel), by decide, fun _ _ _ _ _ _ us hl => match us, hl with | [_], _ => rfl⟩
theorem ok_plain_at : DefOk cf d_plain_at (defArgs (top 30)) (defBody (top 30)) (defScope (top 30)) := ⟨by decide +kernel, scope_of (by decide +kernel), by decide, fun _ _ _ _ _ _ us hl => match us, hl with | [_, _], _ => rfl⟩
theorem ok_repair : DefOk cf d_repair (defArgs (top 32)) (defBody (top 32)) (defScope (top 32)) := ⟨by decide +kernel, scope_of (by decide +kernel), by decide, fun _ _ _ _ _ _ us hl => match us, hl with | [_], _ => rfl⟩
theorem ok_law_draw : DefOk cf d_law_draw (defArgs (top 34)) (defBody (top 34)) (defScope (top 34)) := ⟨by decide +kernel, scope_of (by decide +kernel), by decide, fun _ _ _ _ _ _ us hl => match us, hl with | [_, _, _], _ => rfl⟩
theorem ok_law_pick : DefOk cf d_law_pick (defArgs (top 35)) (defBody (top 35)) (defScope (top 35)) := ⟨by decide +kernel, scope_of (by decide +kernel), by decide, fun _ _ _ _ _ _ us hl => match us, hl with | [_, _, _], _ => rfl⟩
theorem ok_law_condition : DefOk cf d_law_condition (defArgs (top 36)) (defBody (top 36)) (defScope (top 36)) := ⟨by decide +kernel, scope_of (by decide +kernel), by decide, fun _ _ _ _ _ _ us hl => match us, hl with | [_, _, _, _], _ => rfl⟩
theorem ok_law_form : DefOk cf d_law_form (defArgs (top 37)) (defBody (top 37)) (defScope (top 37)) := ⟨by decide +kernel, scope_of (by decide +kernel), by decide, fun _ _ _ _ _ _ us hl => match us, hl with | [_, _, _], _ => rfl⟩
theorem ok_unstable : DefOk cf d_unstable (defArgs (top 29)) (defBody (top 29)) (defScope (top 29)) := ⟨by decide +kernel, scope_of (by decide +kernel), by decide, fun _ _ _ _ _ _ us hl => match us, hl with | [_], _ => rfl⟩
theorem ok_law_plain : DefOk cf d_law_plain (defArgs (top 39)) (defBody (top 39)) (defScope (top 39)) := ⟨by decide +kernel, scope_of (by decide +kernel), by decide, fun _ _ _ _ _ _ us hl => match us, hl with | [_, _], _ => rfl⟩
theorem ok_law : DefOk cf d_law (defArgs (top 41)) (defBody (top 41)) (defScope (top 41)) := ⟨by decide +kernel, scope_of (by decide +kernel), by decide, fun _ _ _ _ _ _ us hl => match us, hl with | [_], _ => rfl⟩
theorem lnk {mg : Str → Option Value} {h : Heap} {K : PySem.W.Frag} (KX : K.In h) (G : h.Ns mainGlobals mg) (c : He.SaysD fa fn K) : Lnk cf K mg := by
  have go : ∀ df ∈ dfs, 0 < df.ar → ∃ (fa : Addr) (fd : FuncData) (params : Arguments) (body : List Stmt) (scope : Scope), FunD K df.name df.name params body scope [] [] fa fd ∧ mg df.name = some (.ref fa) ∧ DefOk cf df params body scope := by
    intro df hdf har
    simp only [dfs, List.mem_cons, List.not_mem_nil, or_false] at hdf
    rcases hdf with rfl | rfl | rfl | rfl | rfl | rfl | rfl | rfl | rfl | rfl | rfl | rfl | rfl | rfl | rfl | rfl | rfl | rfl | rfl | rfl | rfl | rfl | rfl | rfl | rfl | rfl | rfl | rfl | rfl | rfl | rfl | rfl | rfl | rfl | rfl | rfl | rfl | rfl | rfl | rfl | rfl | rfl | rfl | rfl | rfl | rfl | rfl | rfl | rfl | rfl | rfl | rfl | rfl
    · obtain ⟨fd, hF⟩ := c.def_ 0 (d := mkD "is_word" 8) rfl
      exact ⟨_, fd, _, _, _, hF, He.glo_ok KX G (c.fact 0 (f := .glo "is_word") rfl), ok_is_word⟩
    · obtain ⟨fd, hF⟩ := c.def_ 1 (d := mkD "is_condition" 9) rfl
      exact ⟨_, fd, _, _, _, hF, He.glo_ok KX G (c.fact 1 (f := .glo "is_condition") rfl), ok_is_condition⟩
    · obtain ⟨fd, hF⟩ := c.def_ 2 (d := mkD "are_choices" 10) rfl
      exact ⟨_, fd, _, _, _, hF, He.glo_ok KX G (c.fact 2 (f := .glo "are_choices") rfl), ok_are_choices⟩
    · obtain ⟨fd, hF⟩ := c.def_ 3 (d := mkD "is_field" 11) rfl
      exact ⟨_, fd, _, _, _, hF, He.glo_ok KX G (c.fact 3 (f := .glo "is_field") rfl), ok_is_field⟩
    · obtain ⟨fd, hF⟩ := c.def_ 4 (d := mkD "is_form" 12) rfl
      exact ⟨_, fd, _, _, _, hF, He.glo_ok KX G (c.fact 4 (f := .glo "is_form") rfl), ok_is_form⟩
    · obtain ⟨fd, hF⟩ := c.def_ 5 (d := mkD "need_form" 13) rfl
      exact ⟨_, fd, _, _, _, hF, He.glo_ok KX G (c.fact 5 (f := .glo "need_form") rfl), ok_need_form⟩
    · obtain ⟨fd, hF⟩ := c.def_ 6 (d := mkD "holds" 14) rfl
      exact ⟨_, fd, _, _, _, hF, He.glo_ok KX G (c.fact 6 (f := .glo "holds") rfl), ok_holds⟩
    · obtain ⟨fd, hF⟩ := c.def_ 7 (d := mkD "refreshed" 15) rfl
      exact ⟨_, fd, _, _, _, hF, He.glo_ok KX G (c.fact 7 (f := .glo "refreshed") rfl), ok_refreshed⟩
    · obtain ⟨fd, hF⟩ := c.def_ 8 (d := mkD "visible_in" 16) rfl
      exact ⟨_, fd, _, _, _, hF, He.glo_ok KX G (c.fact 8 (f := .glo "visible_in") rfl), ok_visible_in⟩
    · obtain ⟨fd, hF⟩ := c.def_ 9 (d := mkD "collected" 17) rfl
      exact ⟨_, fd, _, _, _, hF, He.glo_ok KX G (c.fact 9 (f := .glo "collected") rfl), ok_collected⟩
    · obtain ⟨fd, hF⟩ := c.def_ 10 (d := mkD "empty" 18) rfl
      exact ⟨_, fd, _, _, _, hF, He.glo_ok KX G (c.fact 10 (f := .glo "empty") rfl), ok_empty⟩
    · obtain ⟨fd, hF⟩ := c.def_ 11 (d := mkD "place_of" 19) rfl
      exact ⟨_, fd, _, _, _, hF, He.glo_ok KX G (c.fact 11 (f := .glo "place_of") rfl), ok_place_of⟩
    · obtain ⟨fd, hF⟩ := c.def_ 12 (d := mkD "replaced" 20) rfl
      exact ⟨_, fd, _, _, _, hF, He.glo_ok KX G (c.fact 12 (f := .glo "replaced") rfl), ok_replaced⟩
    · obtain ⟨fd, hF⟩ := c.def_ 13 (d := mkD "stepped" 21) rfl
      exact ⟨_, fd, _, _, _, hF, He.glo_ok KX G (c.fact 13 (f := .glo "stepped") rfl), ok_stepped⟩
    · obtain ⟨fd, hF⟩ := c.def_ 14 (d := mkD "actions_of" 22) rfl
      exact ⟨_, fd, _, _, _, hF, He.glo_ok KX G (c.fact 14 (f := .glo "actions_of") rfl), ok_actions_of⟩
    · cases har
    · cases har
    · cases har
    · obtain ⟨fd, hF⟩ := c.def_ 15 (d := mkD "kept_choices" 24) rfl
      exact ⟨_, fd, _, _, _, hF, He.glo_ok KX G (c.fact 15 (f := .glo "kept_choices") rfl), ok_kept_choices⟩
    · cases har
    · cases har
    · cases har
    · cases har
    · obtain ⟨fd, hF⟩ := c.def_ 16 (d := mkD "straight_for" 25) rfl
      exact ⟨_, fd, _, _, _, hF, He.glo_ok KX G (c.fact 16 (f := .glo "straight_for") rfl), ok_straight_for⟩
    · cases har
    · obtain ⟨fd, hF⟩ := c.def_ 23 (d := mkD "_law_draw" 34) rfl
      exact ⟨_, fd, _, _, _, hF, He.glo_ok KX G (c.fact 23 (f := .glo "_law_draw") rfl), ok_law_draw⟩
    · obtain ⟨fd, hF⟩ := c.def_ 24 (d := mkD "_law_pick" 35) rfl
      exact ⟨_, fd, _, _, _, hF, He.glo_ok KX G (c.fact 24 (f := .glo "_law_pick") rfl), ok_law_pick⟩
    · obtain ⟨fd, hF⟩ := c.def_ 25 (d := mkD "_law_condition" 36) rfl
      exact ⟨_, fd, _, _, _, hF, He.glo_ok KX G (c.fact 25 (f := .glo "_law_condition") rfl), ok_law_condition⟩
    · obtain ⟨fd, hF⟩ := c.def_ 26 (d := mkD "_law_form" 37) rfl
      exact ⟨_, fd, _, _, _, hF, He.glo_ok KX G (c.fact 26 (f := .glo "_law_form") rfl), ok_law_form⟩
    · cases har
    · cases har
    · cases har
    · cases har
    · cases har
    · cases har
    · cases har
    · cases har
    · obtain ⟨fd, hF⟩ := c.def_ 17 (d := mkD "session_to" 27) rfl
      exact ⟨_, fd, _, _, _, hF, He.glo_ok KX G (c.fact 17 (f := .glo "session_to") rfl), ok_session_to⟩
    · obtain ⟨fd, hF⟩ := c.def_ 18 (d := mkD "unstable_of" 28) rfl
      exact ⟨_, fd, _, _, _, hF, He.glo_ok KX G (c.fact 18 (f := .glo "unstable_of") rfl), ok_unstable_of⟩
    · obtain ⟨fd, hF⟩ := c.def_ 19 (d := mkD "unstable" 29) rfl
      exact ⟨_, fd, _, _, _, hF, He.glo_ok KX G (c.fact 19 (f := .glo "unstable") rfl), ok_unstable⟩
    · obtain ⟨fd, hF⟩ := c.def_ 20 (d := mkD "plain_at" 30) rfl
      exact ⟨_, fd, _, _, _, hF, He.glo_ok KX G (c.fact 20 (f := .glo "plain_at") rfl), ok_plain_at⟩
    · obtain ⟨fd, hF⟩ := c.def_ 21 (d := mkD "choices_of" 31) rfl
      exact ⟨_, fd, _, _, _, hF, He.glo_ok KX G (c.fact 21 (f := .glo "choices_of") rfl), ok_choices_of⟩
    · obtain ⟨fd, hF⟩ := c.def_ 22 (d := mkD "repair" 32) rfl
      exact ⟨_, fd, _, _, _, hF, He.glo_ok KX G (c.fact 22 (f := .glo "repair") rfl), ok_repair⟩
    · cases har
    · cases har
    · cases har
    · cases har
    · cases har
    · cases har
    · cases har
    · obtain ⟨fd, hF⟩ := c.def_ 29 (d := mkD "_law_lists" 40) rfl
      exact ⟨_, fd, _, _, _, hF, He.glo_ok KX G (c.fact 29 (f := .glo "_law_lists") rfl), ok_law_lists⟩
    · obtain ⟨fd, hF⟩ := c.def_ 28 (d := mkD "_law_plain" 39) rfl
      exact ⟨_, fd, _, _, _, hF, He.glo_ok KX G (c.fact 28 (f := .glo "_law_plain") rfl), ok_law_plain⟩
    · obtain ⟨fd, hF⟩ := c.def_ 30 (d := mkD "law" 41) rfl
      exact ⟨_, fd, _, _, _, hF, He.glo_ok KX G (c.fact 30 (f := .glo "law") rfl), ok_law⟩
  refine ⟨fun f df hf har => go df (List.mem_of_getElem? hf) har, fun x i hx => ?_, fun x z hx => ?_, fun x hx => ?_⟩
  · simp only [cf, gls, List.mem_cons, List.not_mem_nil, or_false, Prod.mk.injEq, reduceCtorEq, and_false, false_or, D.int.injEq] at hx
    rcases hx with ⟨rfl, rfl⟩ | ⟨rfl, rfl⟩ | ⟨rfl, rfl⟩
    · exact He.int_ok KX G (c.fact 32 (f := .int "CHOICES" 3) rfl)
    · exact He.int_ok KX G (c.fact 33 (f := .int "FIELDS" 4) rfl)
    · exact He.int_ok KX G (c.fact 34 (f := .int "DEPTH" 3) rfl)
  · simp only [cf, gls, List.mem_cons, List.not_mem_nil, or_false, Prod.mk.injEq, reduceCtorEq, and_false, false_or, D.str.injEq] at hx
    rcases hx with ⟨rfl, rfl⟩
    · exact He.str_ok KX G (c.fact 31 (f := .str "LETTERS" "abcdefghijklmnopqrstuvwxyz") rfl)
  · simp only [bnames, List.mem_cons, List.not_mem_nil, or_false] at hx
    rcases hx with rfl | rfl | rfl | rfl | rfl | rfl | rfl | rfl | rfl | rfl | rfl | rfl | rfl | rfl | rfl | rfl
    · exact He.free_ok KX G (c.fact 35 (f := .free "len") rfl)
    · exact He.free_ok KX G (c.fact 36 (f := .free "isinstance") rfl)
    · exact He.free_ok KX G (c.fact 37 (f := .free "str") rfl)
    · exact He.free_ok KX G (c.fact 38 (f := .free "tuple") rfl)
    · exact He.free_ok KX G (c.fact 39 (f := .free "list") rfl)
    · exact He.free_ok KX G (c.fact 40 (f := .free "dict") rfl)
    · exact He.free_ok KX G (c.fact 41 (f := .free "all") rfl)
    · exact He.free_ok KX G (c.fact 42 (f := .free "any") rfl)
    · exact He.free_ok KX G (c.fact 43 (f := .free "set") rfl)
    · exact He.free_ok KX G (c.fact 44 (f := .free "zip") rfl)
    · exact He.free_ok KX G (c.fact 45 (f := .free "enumerate") rfl)
    · exact He.free_ok KX G (c.fact 46 (f := .free "range") rfl)
    · exact He.free_ok KX G (c.fact 47 (f := .free "sorted") rfl)
    · exact He.free_ok KX G (c.fact 48 (f := .free "max") rfl)
    · exact He.free_ok KX G (c.fact 49 (f := .free "min") rfl)
    · exact He.free_ok KX G (c.fact 50 (f := .free "sum") rfl)
theorem law_run (F : Nat) (hl : ∀ ns : List Int, ns.length ≤ 63 → ∃ S', callK dfs F 20 52 [.scr ns] [] = some (.bl true, S')) : PySem.Challenge.rw_formguard_k04_whole_repair.Holds := by
  refine law_from fun w mg h K fa KX G hmg c => ?_
  obtain ⟨fa', fd, params, body, scope, hF, hm, ho⟩ := (lnk KX G c).defs 52 d_law rfl (by decide)
  have e : fa' = fa := by
    rw [show d_law.name = ("law" : Str) from rfl, hmg] at hm
    cases hm
    rfl
  subst e
  refine ⟨fd, SpOf ⟨K, w⟩ (callK dfs F 20) 52 1 true, fun s u => hF.bindsA (ps := ["script"]) (fun kV doc pm an cdv ct us hus => ho.bind kV doc pm an cdv ct us hus) s [u] rfl, fun H a ns hn ho' hs => ?_, fun base _ _ => level (lnk KX G c) 20 52 d_law fa' fd params body scope rfl hF ho⟩
  obtain ⟨S', hc⟩ := hl ns hn
  refine ⟨rfl, ⟨[], fun _ => False, H⟩, [.scr ns], [], .bl true, S', rfl, ⟨List.nodup_nil, (fun _ z => by cases z), fun _ z => z.elim⟩, ⟨rfl, (fun n ob a z => by cases z)⟩, ⟨.ref a, [], rfl, ⟨a, rfl, ?_⟩, rfl⟩, hc, fun v W' p _ => p.rep⟩
  rcases hs with hs | hs
  · rcases ho' a with z | ⟨o, xs, z⟩
    · rcases hs with hs | ⟨ob, hs⟩
      · rw [z] at hs; cases hs
      · rw [z] at hs; cases hs
    · rcases hs with hs | ⟨ob, hs⟩
      · rw [z] at hs; cases hs
      · exact .inl ⟨_, ⟨hs, by simp, fun q => q⟩, ob, rfl⟩
  · exact .inr hs
end FG

namespace FG
open PySem PySem.Spec PyProof.Rows L2
theorem dfs_q : BQ dfs := ⟨⟨rfl, rfl, rfl, rfl, rfl⟩, ⟨rfl, rfl, rfl, rfl, rfl, rfl, rfl⟩, rfl, rfl, rfl, rfl⟩
theorem dfs_u : BU dfs := ⟨dfs_q, rfl, rfl, rfl, rfl⟩
theorem dfs_r : BR dfs := ⟨dfs_u, rfl, rfl, rfl⟩
theorem dfs_d : BD dfs := ⟨rfl, rfl, rfl, rfl⟩
def subsM : Nat → List (List Nat)
  | 0 => [[]]
  | n + 1 => subsM n ++ (subsM n).map (· ++ [n])
def ordM (n : Nat) : List (List Nat) := (List.range (n + 1)).flatMap (choM (List.range n))
theorem subs_len : ∀ n, (subsM n).length = 2 ^ n
  | 0 => rfl
  | n + 1 => by
    rw [subsM, List.length_append, List.length_map, subs_len n, Nat.pow_succ]
    omega
theorem subs_each : ∀ n q, q ∈ subsM n → q.length ≤ n
  | 0, q, h => by simp [subsM] at h; simp [h]
  | n + 1, q, h => by
    rw [subsM, List.mem_append, List.mem_map] at h
    rcases h with h | ⟨r, h, rfl⟩
    · have := subs_each n q h; omega
    · have := subs_each n r h
      simp
      omega
def pairN (q : List Nat) : D := .tup [.int (q.length : Nat), natsD q]
theorem cand_ord : ∀ (n : Nat), n ≤ 4 → ∀ p ∈ subsM n, (List.range (p.length + 1)).flatMap (choM p) = (ordM n).filter fun q => q.all fun i => decide (i ∈ p)
  | 0, _ => by decide
  | 1, _ => by decide
  | 2, _ => by decide
  | 3, _ => by decide
  | 4, _ => by decide
  | n + 5, h => by omega
theorem sub_has : ∀ (n : Nat) (q : List Nat), q.Sublist (List.range n) → q ∈ subsM n
  | 0, q, h => by
    have : q = [] := List.sublist_nil.mp h
    simp [this, subsM]
  | n + 1, q, h => by
    rw [List.range_succ] at h
    rw [subsM, List.mem_append]
    obtain ⟨a, b, rfl, ha, hb⟩ := List.sublist_append_iff.mp h
    rcases List.sublist_cons_iff.mp hb with hb | ⟨r, rfl, hr⟩
    · have : b = [] := List.sublist_nil.mp hb
      rw [this, List.append_nil]
      exact .inl (sub_has n a ha)
    · have : r = [] := List.sublist_nil.mp hr
      rw [this]
      exact .inr (List.mem_map.mpr ⟨a, sub_has n a ha, rfl⟩)
def leN (q r : List Nat) : Bool := PySem.W.dataLe false toPy (pairN q) (pairN r)
theorem ord_sorted {n : Nat} (h1 : ∀ a ∈ subsM n, ∀ b ∈ ordM n, leN a b = true → leN b a = true → a = b) (h2 : (ordM n).Pairwise fun a b => leN a b = true) (h3 : (subsM n).Perm (ordM n)) (h4 : srtOk ((subsM n).map pairN) = true) : biF .sorted (.lst ((subsM n).map pairN)) = some (.lst ((ordM n).map pairN)) := by
  simp only [biF, h4, if_true]
  congr 2
  have hm := List.map_mergeSort (r := leN) (s := PySem.W.dataLe false toPy) (f := pairN) (l := subsM n) (fun a _ b _ => rfl)
  rw [← hm]
  congr 1
  have T := PySem.W.sortLe_total (PyProof.Rows.listOrd PyProof.Rows.itemOrd) false fun q => PySem.W.keyToks (toPy (pairN q))
  refine List.Perm.eq_of_pairwise (le := fun a b => leN a b = true) (fun a b ha hb => h1 a ((List.mergeSort_perm _ _).mem_iff.mp ha) b hb) ?_ h2 ((List.mergeSort_perm _ _).trans h3)
  exact List.pairwise_mergeSort (fun a b c => T.trans a b c) (fun a b => by have := T.total a b; simpa using this) _
theorem sorted_ord : ∀ (n : Nat), n ≤ 4 → biF .sorted (.lst ((subsM n).map pairN)) = some (.lst ((ordM n).map pairN))
  | 0, _ => ord_sorted (by decide +kernel) (by decide +kernel) (by decide +kernel) (by decide +kernel)
  | 1, _ => ord_sorted (by decide +kernel) (by decide +kernel) (by decide +kernel) (by decide +kernel)
  | 2, _ => ord_sorted (by decide +kernel) (by decide +kernel) (by decide +kernel) (by decide +kernel)
  | 3, _ => ord_sorted (by decide +kernel) (by decide +kernel) (by decide +kernel) (by decide +kernel)
  | 4, _ => ord_sorted (by decide +kernel) (by decide +kernel) (by decide +kernel) (by decide +kernel)
  | n + 5, h => by omega

def extB : List FG.S := forOf (d_law_lists.body.drop 1)
section
variable {F k : Nat} {S : Sto} {fm : List Fld}
theorem subs_one {c : Calls} (i : Nat) (hi : i ≤ 4) (x0 x3 x4 : Option Ent) : execs c F extB [x0, some (.ow (listsD (subsM i))), some (.sh (.int (i : Nat))), x3, x4, none] S = some (.nx [x0, some (.ow (listsD (subsM (i + 1)))), some (.sh (.int (i : Nat))), x3, x4, none] S) := by
  have hz : (subsM i).length ≤ 16 := by
    rw [subs_len]
    exact Nat.pow_le_pow_right (by decide) hi
  have hlc := ev_lcR (c := c) (own := [5]) (tg := .nm 5) (ik := .seq) (its := [.var 1]) (ifs := []) (elt := .bin .add (.var 5) (.lst [.var 2])) (env := [x0, some (.ow (listsD (subsM i))), some (.sh (.int (i : Nat))), x3, x4, none]) (S := S) (S1 := S) (ds := [listsD (subsM i)])
    natsD (fun _ => true) (fun q => natsD (q ++ [i])) (subsM i) (by simp only [startE, List.map, List.length, List.replicate, execs, exec, ev, evs, evcs, evts, unown, unown1, List.foldl, peek, getO, getE, idx0, idx1, idx2, idx3, idx4, idxl0, idxl1, idxl2, List.cons_append, List.nil_append, List.append_nil, Option.map_some, Option.bind_some, Option.map_none, Option.bind_none, cmpF, eq_str, List.getElem?_cons_zero, List.getElem?_cons_succ, List.set_cons_zero, List.set_cons_succ, Nat.reduceSub, Nat.reduceAdd, decide_true, decide_false, fnx, frt, bindT]) (by decide) rfl (fun q m => ⟨[x0, some (.ow (listsD (subsM i))), some (.sh (.int (i : Nat))), x3, x4, some (.sh (natsD q))], rfl, rfl, fun _ => by
      have hq := subs_each i q m
      have ha : binF .add (natsD q) (.lst [.int (i : Nat)]) = some (natsD (q ++ [i])) := by
        unfold natsD
        simp only [binF, List.length_map, List.length_singleton]
        rw [if_pos (by unfold big; omega), List.map_append]
        rfl
      simp only [startE, List.map, List.length, List.replicate, execs, exec, ev, evs, evcs, evts, unown, unown1, List.foldl, peek, getO, getE, idx0, idx1, idx2, idx3, idx4, idxl0, idxl1, idxl2, List.cons_append, List.nil_append, List.append_nil, Option.map_some, Option.bind_some, Option.map_none, Option.bind_none, cmpF, eq_str, List.getElem?_cons_zero, List.getElem?_cons_succ, List.set_cons_zero, List.set_cons_succ, Nat.reduceSub, Nat.reduceAdd, decide_true, decide_false, fnx, frt, bindT, ha]⟩) (by unfold big; omega)
  rw [List.filter_eq_self.mpr fun _ _ => rfl] at hlc
  have hl : ((subsM i).map natsD).length + ((subsM i).map fun q => natsD (q ++ [i])).length ≤ big := by
    rw [List.length_map, List.length_map]
    unfold big
    omega
  have hd : listsD (subsM (i + 1)) = .lst ((subsM i).map natsD ++ (subsM i).map fun q => natsD (q ++ [i])) := by
    unfold listsD
    rw [subsM, List.map_append, List.map_map]
    rfl
  rw [hd]
  exact (execs_nx (exec_ext (ds := (subsM i).map natsD) rfl rfl hlc hl)).trans rfl
theorem subs_loop {c : Calls} (x0 x3 x4 : Option Ent) : ∀ (m i : Nat) (x2 : Option Ent), i + m ≤ 4 → ∃ y2, forGo (bindT (.nm 2)) (fun e S => execs c F extB e S) ((List.range' i m).map fun (j : Nat) => D.int j) [x0, some (.ow (listsD (subsM i))), x2, x3, x4, none] S = some (.nx [x0, some (.ow (listsD (subsM (i + m)))), y2, x3, x4, none] S)
  | 0, i, x2, _ => ⟨x2, rfl⟩
  | m + 1, i, x2, h => by
    obtain ⟨y2, ih⟩ := subs_loop (c := c) x0 x3 x4 m (i + 1) (some (.sh (.int (i : Nat)))) (by omega)
    refine ⟨y2, ?_⟩
    have h1 := subs_one (F := F) (S := S) (c := c) i (by omega) x0 x3 x4
    simp only [List.range'_succ, List.map_cons, forGo, bindT, List.set_cons_zero, List.set_cons_succ, Option.bind_some, h1]
    rw [ih]
    have : i + 1 + m = i + (m + 1) := by omega
    rw [this]
theorem ord_lt {n : Nat} {q : List Nat} (h : q ∈ ordM n) : ∀ i ∈ q, i < n := fun i hi => by
  obtain ⟨m, _, h⟩ := List.mem_flatMap.mp h
  exact List.mem_range.mp (cho_sub h i hi)
theorem ord_size : ∀ (n : Nat), n ≤ 4 → (ordM n).length ≤ 16 ∧ ∀ q ∈ ordM n, q.length ≤ 4
  | 0, _ => by decide
  | 1, _ => by decide
  | 2, _ => by decide
  | 3, _ => by decide
  | 4, _ => by decide
  | n + 5, h => by omega
theorem e_lists (hl : fm.length ≤ 4) : callK dfs F (k + 1) 50 [strsD (fm.map (·.name))] S = some (.lst ((ordM fm.length).map fun q => strsD (namesAt fm q)), S) := by
  rw [callK_eq (k := k) (f := 50) (df := d_law_lists) rfl rfl]
  obtain ⟨y2, hloop⟩ := subs_loop (c := callK dfs F k) (F := F) (S := S) (some (.sh (strsD (fm.map (·.name))))) none none fm.length 0 none (by omega)
  rw [Nat.zero_add] at hloop
  obtain ⟨o1, o2⟩ := ord_size fm.length hl
  generalize hn : fm.length = n at hloop o1 o2
  have hn4 : n ≤ 4 := by omega
  have hz : (subsM n).length ≤ 16 := by
    rw [subs_len]
    exact Nat.pow_le_pow_right (by decide) hn4
  refine (congrArg fin (execs_nx (env' := [some (.sh (strsD (fm.map (·.name)))), some (.ow (listsD (subsM 0))), none, none, none, none]) (S' := S) (by simp only [startE, List.map, List.length, List.replicate, execs, exec, ev, evs, evcs, evts, unown, unown1, List.foldl, peek, getO, getE, idx0, idx1, idx2, idx3, idx4, idxl0, idxl1, idxl2, List.cons_append, List.nil_append, List.append_nil, Option.map_some, Option.bind_some, Option.map_none, Option.bind_none, cmpF, eq_str, List.getElem?_cons_zero, List.getElem?_cons_succ, List.set_cons_zero, List.set_cons_succ, Nat.reduceSub, Nat.reduceAdd, decide_true, decide_false, fnx, frt, bindT, isMut, if_true]; rfl))).trans ?_
  have hlen : biF .len (strsD (fm.map (·.name))) = some (.int (n : Nat)) := by simp [biF, strsD, hn]
  refine (congrArg fin (execs_nx (exec_for (ds := [.int (n : Nat)]) (S1 := S) (by simp only [startE, List.map, List.length, List.replicate, execs, exec, ev, evs, evcs, evts, unown, unown1, List.foldl, peek, getO, getE, idx0, idx1, idx2, idx3, idx4, idxl0, idxl1, idxl2, List.cons_append, List.nil_append, List.append_nil, Option.map_some, Option.bind_some, Option.map_none, Option.bind_none, cmpF, eq_str, List.getElem?_cons_zero, List.getElem?_cons_succ, List.set_cons_zero, List.set_cons_succ, Nat.reduceSub, Nat.reduceAdd, decide_true, decide_false, fnx, frt, bindT, hlen]) (by rw [range_items n (by omega), List.range_eq_range']) hloop))).trans ?_
  have hlc := ev_lcR (c := callK dfs F k) (own := [5]) (tg := .nm 5) (ik := .seq) (its := [.var 1]) (ifs := []) (elt := .tup [.bi .len (.var 5), .var 5]) (env := [some (.sh (strsD (fm.map (·.name)))), some (.ow (listsD (subsM n))), y2, none, none, none]) (S := S) (S1 := S) (ds := [listsD (subsM n)])
    natsD (fun _ => true) pairN (subsM n) (by simp only [startE, List.map, List.length, List.replicate, execs, exec, ev, evs, evcs, evts, unown, unown1, List.foldl, peek, getO, getE, idx0, idx1, idx2, idx3, idx4, idxl0, idxl1, idxl2, List.cons_append, List.nil_append, List.append_nil, Option.map_some, Option.bind_some, Option.map_none, Option.bind_none, cmpF, eq_str, List.getElem?_cons_zero, List.getElem?_cons_succ, List.set_cons_zero, List.set_cons_succ, Nat.reduceSub, Nat.reduceAdd, decide_true, decide_false, fnx, frt, bindT]) (by decide) rfl (fun q m => ⟨[some (.sh (strsD (fm.map (·.name)))), some (.ow (listsD (subsM n))), y2, none, none, some (.sh (natsD q))], rfl, rfl, fun _ => by
      have hq : biF .len (natsD q) = some (.int (q.length : Nat)) := by simp [biF, natsD]
      simp only [startE, List.map, List.length, List.replicate, execs, exec, ev, evs, evcs, evts, unown, unown1, List.foldl, peek, getO, getE, idx0, idx1, idx2, idx3, idx4, idxl0, idxl1, idxl2, List.cons_append, List.nil_append, List.append_nil, Option.map_some, Option.bind_some, Option.map_none, Option.bind_none, cmpF, eq_str, List.getElem?_cons_zero, List.getElem?_cons_succ, List.set_cons_zero, List.set_cons_succ, Nat.reduceSub, Nat.reduceAdd, decide_true, decide_false, fnx, frt, bindT, hq]
      rfl⟩) (by unfold big; omega)
  rw [List.filter_eq_self.mpr fun _ _ => rfl] at hlc
  have hsrt := ev_biR (f := .sorted) (d := .lst ((ordM n).map pairN)) rfl hlc (sorted_ord n hn4)
  refine (congrArg fin (execs_nx (exec_asg (fz := []) hsrt))).trans ?_
  have hout := ev_lcR (c := callK dfs F k) (own := [4]) (tg := .nm 4) (ik := .seq) (its := [.var 3]) (ifs := []) (elt := .lc [2] (.nm 2) .seq [.idx (.var 4) (.con (.int 1))] [] (.idx (.var 0) (.var 2))) (env := [some (.sh (strsD (fm.map (·.name)))), some (.ow (listsD (subsM n))), y2, some (.sh (.lst ((ordM n).map pairN))), none, none]) (S := S) (S1 := S) (ds := [.lst ((ordM n).map pairN)])
    pairN (fun _ => true) (fun q => strsD (namesAt fm q)) (ordM n) (by simp only [startE, List.map, List.length, List.replicate, execs, exec, ev, evs, evcs, evts, unown, unown1, List.foldl, peek, getO, getE, idx0, idx1, idx2, idx3, idx4, idxl0, idxl1, idxl2, List.cons_append, List.nil_append, List.append_nil, Option.map_some, Option.bind_some, Option.map_none, Option.bind_none, cmpF, eq_str, List.getElem?_cons_zero, List.getElem?_cons_succ, List.set_cons_zero, List.set_cons_succ, Nat.reduceSub, Nat.reduceAdd, decide_true, decide_false, fnx, frt, bindT]) (by decide) rfl (fun q m => ⟨[some (.sh (strsD (fm.map (·.name)))), some (.ow (listsD (subsM n))), y2, some (.sh (.lst ((ordM n).map pairN))), some (.sh (pairN q)), none], rfl, rfl, fun _ => by
      have h1 : ∀ S, idxS S (pairN q) (.int 1) = some (natsD q) := fun S => idx1 S _ _ _
      have hin := ev_lcR (c := callK dfs F k) (own := [2]) (tg := .nm 2) (ik := .seq) (its := [.idx (.var 4) (.con (.int 1))]) (ifs := []) (elt := .idx (.var 0) (.var 2)) (env := [some (.sh (strsD (fm.map (·.name)))), some (.ow (listsD (subsM n))), y2, some (.sh (.lst ((ordM n).map pairN))), some (.sh (pairN q)), none]) (S := S) (S1 := S) (ds := [natsD q])
        natD (fun _ => true) (fun i => .str ((fm[i]?.map (·.name)).getD "")) q (by simp only [startE, List.map, List.length, List.replicate, execs, exec, ev, evs, evcs, evts, unown, unown1, List.foldl, peek, getO, getE, idx0, idx1, idx2, idx3, idx4, idxl0, idxl1, idxl2, List.cons_append, List.nil_append, List.append_nil, Option.map_some, Option.bind_some, Option.map_none, Option.bind_none, cmpF, eq_str, List.getElem?_cons_zero, List.getElem?_cons_succ, List.set_cons_zero, List.set_cons_succ, Nat.reduceSub, Nat.reduceAdd, decide_true, decide_false, fnx, frt, bindT, h1]) (by decide) rfl (fun i hi => ⟨[some (.sh (strsD (fm.map (·.name)))), some (.ow (listsD (subsM n))), some (.sh (natD i)), some (.sh (.lst ((ordM n).map pairN))), some (.sh (pairN q)), none], rfl, rfl, fun _ => by
          have hi' : i < fm.length := by rw [hn]; exact ord_lt m i hi
          have hx : ∀ S, idxS S (strsD (fm.map (·.name))) (natD i) = some (.str ((fm[i]?.map (·.name)).getD "")) := fun S => by
            show atI ((fm.map (·.name)).map D.str) (i : Int) = _
            rw [atI_nat, List.getElem?_map, List.getElem?_map, List.getElem?_eq_getElem hi']
            rfl
          simp only [startE, List.map, List.length, List.replicate, execs, exec, ev, evs, evcs, evts, unown, unown1, List.foldl, peek, getO, getE, idx0, idx1, idx2, idx3, idx4, idxl0, idxl1, idxl2, List.cons_append, List.nil_append, List.append_nil, Option.map_some, Option.bind_some, Option.map_none, Option.bind_none, cmpF, eq_str, List.getElem?_cons_zero, List.getElem?_cons_succ, List.set_cons_zero, List.set_cons_succ, Nat.reduceSub, Nat.reduceAdd, decide_true, decide_false, fnx, frt, bindT, hx]⟩) (by have := o2 q m; unfold big; omega)
      rw [List.filter_eq_self.mpr fun _ _ => rfl] at hin
      rw [hin]
      unfold strsD namesAt
      rw [List.map_map]
      rfl⟩) (by unfold big; omega)
  rw [List.filter_eq_self.mpr fun _ _ => rfl] at hout
  exact (congrArg fin (execs_rt (exec_ret (fz := []) hout))).trans rfl
def dueD (fm : List Fld) : Option (List Nat) → D
  | none => .non
  | some q => strsD (namesAt fm q)
noncomputable def goodM (F : Nat) (fm : List Fld) (q : List Nat) : Bool := (unstM F (plainAt fm q)).isNone
def dueB : List FG.S := forOf (d_law.body.drop 3)
theorem due_loop (o : FG1 fm 3) (hF : 65536 < F) (x0 x1 x2 x4 x7 : Option Ent) : ∀ (l : List (List Nat)) (due : Option (List Nat)) (x3 : Option Ent), (∀ q ∈ l, ∀ i ∈ q, i < fm.length) → ∃ y3, forGo (bindT (.nm 3)) (fun e S => execs (callK dfs F (k + 14)) F dueB e S) (l.map fun q => strsD (namesAt fm q)) [x0, x1, x2, x3, x4, some (.sh (formD fm)), some (.sh (dueD fm due)), x7] S =
    some (.nx [x0, x1, x2, y3, x4, some (.sh (formD fm)), some (.sh (dueD fm (due.or (l.find? (goodM F fm))))), x7] S)
  | [], due, x3, _ => ⟨x3, by cases due <;> rfl⟩
  | q :: l, due, x3, hl => by
    have hq := hl q List.mem_cons_self
    have h50 := e_lplain (fs := dfs) (F := F) (k := k + 13) (S := S) (i := 51) rfl o (ns := namesAt fm q) (namesAt_ok o hq)
    rw [plainN_at o.nd hq] at h50
    have h39 := c_unstable (fs := dfs) (F := F) (k := k) (S := S) dfs_u (plainAt_ok o q) hF
    obtain ⟨y3, ih⟩ := due_loop o hF x0 x1 x2 x4 x7 l (due.or (if goodM F fm q then some q else none)) (some (.sh (strsD (namesAt fm q)))) (fun r m => hl r (List.mem_cons_of_mem _ m))
    refine ⟨y3, ?_⟩
    have hlo : dueB = [.ite (.and (.cmp .is (.var 6) (.con (.non))) (.cmp .is (.call 39 [.call 51 [.var 5, .var 3]]) (.con (.non)))) [.asg [] 6 (.var 3)] []] := rfl
    have hs : execs (callK dfs F (k + 14)) F dueB [x0, x1, x2, some (.sh (strsD (namesAt fm q))), x4, some (.sh (formD fm)), some (.sh (dueD fm due)), x7] S = some (.nx [x0, x1, x2, some (.sh (strsD (namesAt fm q))), x4, some (.sh (formD fm)), some (.sh (dueD fm (due.or (if goodM F fm q then some q else none)))), x7] S) := by
      rw [hlo]
      cases due with
      | some r =>
        have hif : isF (dueD fm (some r)) .non = some false := rfl
        simp only [startE, List.map, List.length, List.replicate, execs, exec, ev, evs, evcs, evts, unown, unown1, List.foldl, peek, getO, getE, idx0, idx1, idx2, idx3, idx4, idxl0, idxl1, idxl2, List.cons_append, List.nil_append, List.append_nil, Option.map_some, Option.bind_some, Option.map_none, Option.bind_none, cmpF, eq_str, List.getElem?_cons_zero, List.getElem?_cons_succ, List.set_cons_zero, List.set_cons_succ, Nat.reduceSub, Nat.reduceAdd, decide_true, decide_false, fnx, frt, bindT, hif, Option.or]
      | none =>
        have hif : isF (dueD fm none) .non = some true := rfl
        have h2 : isF (optD (unstM F (plainAt fm q))) .non = some (goodM F fm q) := is_optD _
        cases hg : goodM F fm q with
        | false =>
          rw [hg] at h2
          simp only [startE, List.map, List.length, List.replicate, execs, exec, ev, evs, evcs, evts, unown, unown1, List.foldl, peek, getO, getE, idx0, idx1, idx2, idx3, idx4, idxl0, idxl1, idxl2, List.cons_append, List.nil_append, List.append_nil, Option.map_some, Option.bind_some, Option.map_none, Option.bind_none, cmpF, eq_str, List.getElem?_cons_zero, List.getElem?_cons_succ, List.set_cons_zero, List.set_cons_succ, Nat.reduceSub, Nat.reduceAdd, decide_true, decide_false, fnx, frt, bindT, hif, h50, h39, h2, Option.or]
          rfl
        | true =>
          rw [hg] at h2
          simp only [startE, List.map, List.length, List.replicate, execs, exec, ev, evs, evcs, evts, unown, unown1, List.foldl, peek, getO, getE, idx0, idx1, idx2, idx3, idx4, idxl0, idxl1, idxl2, List.cons_append, List.nil_append, List.append_nil, Option.map_some, Option.bind_some, Option.map_none, Option.bind_none, cmpF, eq_str, List.getElem?_cons_zero, List.getElem?_cons_succ, List.set_cons_zero, List.set_cons_succ, Nat.reduceSub, Nat.reduceAdd, decide_true, decide_false, fnx, frt, bindT, hif, h50, h39, h2, Option.or]
          rfl
    simp only [List.map_cons, forGo, bindT, List.set_cons_zero, List.set_cons_succ, Option.bind_some, hs]
    rw [ih]
    have : (due.or (if goodM F fm q then some q else none)).or (l.find? (goodM F fm)) = due.or ((q :: l).find? (goodM F fm)) := by
      rw [List.find?_cons]
      cases due with
      | some r => rfl
      | none => cases goodM F fm q <;> rfl
    rw [this]
theorem npl_sub (fm : List Fld) : (npl fm).Sublist (List.range fm.length) := by
  have h : (npl fm).Sublist (fm.zipIdx.map (·.2)) := (List.filter_sublist).map _
  rw [List.zipIdx_map_snd] at h
  rw [List.range_eq_range']
  exact h
theorem plainAt_npl_eq (fm : List Fld) (q : List Nat) : plainAt fm q = plainAt fm (q.filter fun i => decide (i ∈ npl fm)) := by
  unfold plainAt
  refine List.map_congr_left fun p hp => ?_
  by_cases hq : p.2 ∈ q
  · by_cases hn : p.2 ∈ npl fm
    · rw [if_pos hq, if_pos (List.mem_filter.mpr ⟨hq, decide_eq_true hn⟩)]
    · rw [if_pos hq, if_neg fun z => hn (by have := (List.mem_filter.mp z).2; exact of_decide_eq_true this)]
      have hpl : isPlain p.1 = true := by
        cases hi : isPlain p.1 with
        | true => rfl
        | false => exact absurd (List.mem_map.mpr ⟨p, List.mem_filter.mpr ⟨hp, by simp [hi]⟩, rfl⟩) hn
      simp only [isPlain, Bool.and_eq_true, Bool.not_eq_true', Option.isNone_iff_eq_none] at hpl
      obtain ⟨f, i⟩ := p
      obtain ⟨nm, ws, cd, cl, sr⟩ := f
      simp only at hpl
      obtain ⟨rfl, rfl⟩ := hpl
      rfl
  · rw [if_neg hq, if_neg fun z => hq (List.mem_filter.mp z).1]
theorem due_rep (hl : fm.length ≤ 4) : (ordM fm.length).find? (goodM F fm) = repS F fm := by
  have hc : cands fm = (ordM fm.length).filter fun q => q.all fun i => decide (i ∈ npl fm) := cand_ord fm.length hl (npl fm) (sub_has _ _ (npl_sub fm))
  have hr : repS F fm = (cands fm).find? (goodM F fm) := rfl
  rw [hr, hc, List.find?_filter]
  cases h : (ordM fm.length).find? (goodM F fm) with
  | none =>
    symm
    rw [List.find?_eq_none] at h ⊢
    intro x hx
    have := h x hx
    simp only [Bool.not_eq_true] at this
    simp [this]
  | some x =>
    obtain ⟨h1, h2, h3⟩ := find_first (sz := List.length) (fun n q hq => cho_each hq) h
    have hsub : x.all (fun i => decide (i ∈ npl fm)) = true := by
      by_cases hx : x.filter (fun i => decide (i ∈ npl fm)) = x
      · rw [List.all_eq_true]
        intro i hi
        exact List.filter_eq_self.mp hx i hi
      · exfalso
        have hlt : (x.filter fun i => decide (i ∈ npl fm)).length < x.length := by
          have h4 := List.filter_sublist (l := x) (p := fun i => decide (i ∈ npl fm))
          rcases Nat.lt_or_ge (x.filter fun i => decide (i ∈ npl fm)).length x.length with h | h
          · exact h
          · exact absurd (h4.eq_of_length_le h) hx
        have hin : (x.filter fun i => decide (i ∈ npl fm)) ∈ ordM fm.length := by
          obtain ⟨m, hm, hx⟩ := List.mem_flatMap.mp h2
          have hs : (x.filter fun i => decide (i ∈ npl fm)).Sublist (List.range fm.length) := List.filter_sublist.trans (cho_sublist hx)
          refine List.mem_flatMap.mpr ⟨(x.filter fun i => decide (i ∈ npl fm)).length, List.mem_range.mpr ?_, cho_has hs⟩
          have := hs.length_le
          simp at this
          simp
          omega
        have := h3 _ hin hlt
        unfold goodM at this h1
        rw [← plainAt_npl_eq, h1] at this
        cases this
    symm
    obtain ⟨_, as, bs, e, hno⟩ := List.find?_eq_some_iff_append.mp h
    rw [List.find?_eq_some_iff_append]
    refine ⟨by rw [h1, hsub]; rfl, as, bs, e, fun y hy => ?_⟩
    have := hno y hy
    simp only [Bool.not_eq_true'] at this
    simp [this]
theorem call_it {c : Calls} {S : Sto} {x0 x1 x2 : Option Ent} {nD fD dD : D} {R : List D} (hlists : c 50 [nD] S = some (.lst R, S)) : evs c [.call 50 [.var 2]] (unown [x0, x1, some (.sh nD), none, none, some (.sh fD), some (.sh dD), none] []) S = some ([.lst R], S) := by
  simp only [startE, List.map, List.length, List.replicate, execs, exec, ev, evs, evcs, evts, unown, unown1, List.foldl, peek, getO, getE, idx0, idx1, idx2, idx3, idx4, idxl0, idxl1, idxl2, List.cons_append, List.nil_append, List.append_nil, Option.map_some, Option.bind_some, Option.map_none, Option.bind_none, cmpF, eq_str, List.getElem?_cons_zero, List.getElem?_cons_succ, List.set_cons_zero, List.set_cons_succ, Nat.reduceSub, Nat.reduceAdd, decide_true, decide_false, fnx, frt, bindT, hlists]
theorem tail_true (o : FG1 fm 3) (hle : fm.length ≤ 4) (hF : 65536 < F) (x0 x1 : Option Ent) : fin (execs (callK dfs F (k + 14)) F (d_law.body.drop 2) [x0, x1, none, none, none, some (.sh (formD fm)), some (.sh .non), none] S) = some (.bl true, S) := by
  have hnames := fld_lc (c := callK dfs F (k + 14)) (S := S) (fm := fm) (by omega) (i := 5) (j := 7) (env := [x0, x1, none, none, none, some (.sh (formD fm)), some (.sh .non), none]) rfl (by simp)
  have hlists : callK dfs F (k + 14) 50 [strsD (fm.map (·.name))] (S) = some (.lst ((ordM fm.length).map fun q => strsD (namesAt fm q)), S) := e_lists (F := F) (k := k + 13) (S := S) (fm := fm) hle
  obtain ⟨y3, hdue⟩ := due_loop (F := F) (k := k) (S := S) o hF (x0) (x1) (some (.sh (strsD (fm.map (·.name))))) none none (ordM fm.length) none none (fun q hq => ord_lt hq)
  rw [due_rep hle] at hdue
  have h42 := e_repair (fs := dfs) (F := F) (k := k) (S := S) dfs_r o hF
  have h39 := c_unstable (fs := dfs) (F := F) (k := k) (S := S) dfs_u o hF
  obtain ⟨l0, hl1, hl2, hl3, hl4⟩ := rep_spec dfs_u o hF
  obtain ⟨l, hrs, hrl, hgood⟩ : ∃ l, repS F fm = some l ∧ l ∈ cands fm ∧ goodM F fm l = true := by
    cases h : repS F fm with
    | none =>
      have := List.find?_eq_none.mp h (npl fm) (cand_iff.mpr (List.Sublist.refl _))
      rw [plain_unst dfs_u (plainAt_ok o _) hF (plainAt_npl fm)] at this
      exact absurd rfl this
    | some l => exact ⟨l, rfl, List.mem_of_find?_eq_some h, List.find?_some h⟩
  have hrep : repM F fm = namesAt fm l := by unfold repM; rw [hrs]
  have hls := cand_iff.mp hrl
  have hlt : ∀ i ∈ l, i < fm.length := fun i hi => npl_lt (hls.subset hi)
  rw [hrep] at h42
  rw [hrs] at hdue
  have hpl : unstM F (plainAt fm l) = none := Option.isNone_iff_eq_none.mp hgood
  have h51l := e_lplain (fs := dfs) (F := F) (k := k + 13) (S := S) (i := 51) rfl o (ns := namesAt fm l) (namesAt_ok o hlt)
  rw [plainN_at o.nd hlt] at h51l
  have h42l := e_repair (fs := dfs) (F := F) (k := k) (S := S) dfs_r (plainAt_ok o l) hF
  rw [rep_plain dfs_u hF (plainAt_ok o l) hpl] at h42l
  have h51a := e_lplain (fs := dfs) (F := F) (k := k + 13) (S := S) (i := 51) rfl o (ns := fm.map (·.name)) (names_ok o)
  have op := plainN_ok o (fm.map (·.name))
  have h39a := c_unstable (fs := dfs) (F := F) (k := k) (S := S) dfs_u op hF
  rw [plain_unst dfs_u op hF (plainN_all fm)] at h39a
  have he := eq_snil (namesAt_ok o hlt)
  have hee : eqF (strsD (namesAt fm l)) (strsD (namesAt fm l)) = some true := by
    have := eq_lstrs (namesAt_ok o hlt) (namesAt_ok o hlt)
    rw [decide_eq_true rfl] at this
    exact this
  have hlast : ((namesAt fm l).isEmpty == (unstM F fm).isNone) = true := by
    cases hl : l with
    | nil =>
      rw [hl, plainAt_nil] at hpl
      rw [hpl]
      rfl
    | cons i r =>
      cases h : unstM F fm with
      | some _ => rfl
      | none =>
        have := rep_plain dfs_u hF o h
        rw [hrep, hl] at this
        cases this
  refine (congrArg fin (execs_nx (exec_asg (fz := []) hnames))).trans ?_
  generalize hR : (ordM fm.length).map (fun q => strsD (namesAt fm q)) = R at hlists hdue
  have hit : evs (callK dfs F (k + 14)) [.call 50 [.var 2]] (unown [x0, x1, some (.sh (strsD (fm.map (·.name)))), none, none, some (.sh (formD fm)), some (.sh (dueD fm none)), none] []) (S) = some ([.lst R], S) := by
    exact call_it (x2 := none) hlists
  refine (congrArg fin (execs_nx (exec_for (ds := [.lst R]) (S1 := S) hit rfl hdue))).trans ?_
  refine (congrArg fin (execs_nx (env' := [x0, x1, some (.sh (strsD (fm.map (·.name)))), y3, some (.sh (strsD (namesAt fm l))), some (.sh (formD fm)), some (.sh (strsD (namesAt fm l))), none]) (S' := S) ?_)).trans ?_
  · simp only [startE, List.map, List.length, List.replicate, execs, exec, ev, evs, evcs, evts, unown, unown1, List.foldl, peek, getO, getE, idx0, idx1, idx2, idx3, idx4, idxl0, idxl1, idxl2, List.cons_append, List.nil_append, List.append_nil, Option.map_some, Option.bind_some, Option.map_none, Option.bind_none, cmpF, eq_str, List.getElem?_cons_zero, List.getElem?_cons_succ, List.set_cons_zero, List.set_cons_succ, Nat.reduceSub, Nat.reduceAdd, decide_true, decide_false, fnx, frt, bindT, h42]
    rfl
  refine (congrArg fin (execs_nx (env' := [x0, x1, some (.sh (strsD (fm.map (·.name)))), y3, some (.sh (strsD (namesAt fm l))), some (.sh (formD fm)), some (.sh (strsD (namesAt fm l))), none]) (S' := S) ?_)).trans ?_
  · simp only [startE, List.map, List.length, List.replicate, execs, exec, ev, evs, evcs, evts, unown, unown1, List.foldl, peek, getO, getE, idx0, idx1, idx2, idx3, idx4, idxl0, idxl1, idxl2, List.cons_append, List.nil_append, List.append_nil, Option.map_some, Option.bind_some, Option.map_none, Option.bind_none, cmpF, eq_str, List.getElem?_cons_zero, List.getElem?_cons_succ, List.set_cons_zero, List.set_cons_succ, Nat.reduceSub, Nat.reduceAdd, decide_true, decide_false, fnx, frt, bindT, hee, Bool.not_true, he, h39, is_optD, eq_bl, hlast]
  have hif : isF (optD none) .non = some true := rfl
  have hen : eqF (strsD []) (.lst []) = some true := rfl
  simp only [startE, List.map, List.length, List.replicate, execs, exec, ev, evs, evcs, evts, unown, unown1, List.foldl, peek, getO, getE, idx0, idx1, idx2, idx3, idx4, idxl0, idxl1, idxl2, List.cons_append, List.nil_append, List.append_nil, Option.map_some, Option.bind_some, Option.map_none, Option.bind_none, cmpF, eq_str, List.getElem?_cons_zero, List.getElem?_cons_succ, List.set_cons_zero, List.set_cons_succ, Nat.reduceSub, Nat.reduceAdd, decide_true, decide_false, fnx, frt, bindT, h51a, h39a, hif, h51l, h42l, hen]
  try rfl
theorem law_true (F : Nat) (hF : 65536 < F) (ns : List Int) : ∃ S', callK dfs F 20 52 [.scr ns] [] = some (.bl true, S') := by
  rw [callK_eq (k := 19) (f := 52) (df := d_law) rfl rfl]
  obtain ⟨fm, a0, t0, lf, hne, hle, h28⟩ := e_lform (fs := dfs) (F := F) (k := 13) dfs_d ns 0 0 4 (by decide) (by decide)
  have o : FG1 fm 3 := (lf.fg1 hne).mono (by decide)
  refine ⟨town a0 t0, ?_⟩
  refine (congrArg fin (execs_nx (env' := [some (.sh (.scr ns)), some (.sh (.obj 0)), none, none, none, none, none, none]) (S' := town 0 0) ?_)).trans ?_
  · simp only [startE, List.map, List.length, List.replicate, execs, exec, ev, evs, evcs, evts, unown, unown1, List.foldl, peek, getO, getE, idx0, idx1, idx2, idx3, idx4, idxl0, idxl1, idxl2, List.cons_append, List.nil_append, List.append_nil, Option.map_some, Option.bind_some, Option.map_none, Option.bind_none, cmpF, eq_str, List.getElem?_cons_zero, List.getElem?_cons_succ, List.set_cons_zero, List.set_cons_succ, Nat.reduceSub, Nat.reduceAdd, decide_true, decide_false, fnx, frt, bindT, imms, imm, Bool.and_true, if_true]
    rfl
  refine (congrArg fin (execs_nx (env' := [some (.sh (.scr ns)), some (.sh (.obj 0)), none, none, none, some (.sh (formD fm)), some (.sh .non), none]) (S' := town a0 t0) ?_)).trans ?_
  · have h28' : callK dfs F 19 28 [.scr ns, .obj 0, .int 4] (town 0 0) = some (formD fm, town a0 t0) := h28
    simp only [startE, List.map, List.length, List.replicate, execs, exec, ev, evs, evcs, evts, unown, unown1, List.foldl, peek, getO, getE, idx0, idx1, idx2, idx3, idx4, idxl0, idxl1, idxl2, List.cons_append, List.nil_append, List.append_nil, Option.map_some, Option.bind_some, Option.map_none, Option.bind_none, cmpF, eq_str, List.getElem?_cons_zero, List.getElem?_cons_succ, List.set_cons_zero, List.set_cons_succ, Nat.reduceSub, Nat.reduceAdd, decide_true, decide_false, fnx, frt, bindT, parGo, h28', Bool.false_and, Bool.false_eq_true, if_false]
  exact tail_true (k := 5) o hle hF _ _
theorem law_holds : PySem.Challenge.rw_formguard_k04_whole_repair.Holds := law_run 70000 fun ns _ => law_true 70000 (by decide) ns
end
end FG

theorem PySem.Challenge.cw_formguard_k04_whole_repair_holds : PySem.Challenge.rw_formguard_k04_whole_repair.Holds := by
  exact FG.law_holds
