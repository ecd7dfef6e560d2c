import PyProof.Rows.All
import HandS.ForMost
import HandS.ForExc
import HandS.Flow
import HandS.Style
import HandS.Wide
import HandS.TupAny
import HandS.TupMul
import HandS.IsInst
import HandS.Deep
import HandS.AnyAll
import HandS.ExcCtx
import HandS.HotCalls
import HandS.ExcIs
import HandS.Text
import HandS.Walk
import HandS.Rev
import HandS.Zip
import HandS.GenList
import HandS.EndTab
import PyProof.GenQ
import KE.GoesEnum
import PyProof.P3Eq
import HandS.RevTup
import HandS.Conv
import PyProof.ListRange
import KE.DataMinMax
import KE.SortData
import HandS.Gcd
import HandS.Star
import HandS.Dict
import KE.KDictPairs
import HandS.More
import KE.KTupSum
import KE.SortLaws
import KE.SortKeyed
import KE.GoesMore
import KE.KTurns
import HandS.DictComp
import PySem.Challenge.RW_postlaid_k14_whole_stores_of_stamps
set_option Elab.async false
set_option linter.all false
set_option maxRecDepth 100000
set_option autoImplicit false
/-! Z1: cells, frames, the relation of a frame to slots and heap, denotations of expressions. -/
namespace Z
open PySem PySem.Spec PyProof.Rows L2
abbrev St := L2.St
/-- the tables of code objects that may grow (a generator expression's first run writes its own) -/
class Tabs where
  t : Addr → Prop
  /-- the exceptions that are handled here, by the names of their classes -/
  ex : Addr → Str → Prop
/-- no table -/
def NT (o : HO) : Prop := ∀ ps, o ≠ .tbl ps
theorem nt_lst {xs : List V} : NT (.lst xs) := fun _ h => by cases h
theorem nt_dK {xs : List (Key × V)} : NT (.dK xs) := fun _ h => by cases h
theorem nt_dT {xs : List (List Key × V)} : NT (.dT xs) := fun _ h => by cases h
def TabO (H : Hp) (P : Addr) : Prop := ∃ ps : Array Value, H P = some (.tbl ps) ∧ TriplesOk ps.toList
theorem TabO.ne {H : Hp} {P a : Addr} {o : HO} (t : TabO H P) (h : H a = some o) (n : NT o) : P ≠ a := fun e => by
  obtain ⟨ps, h1, _⟩ := t
  rw [e, h] at h1; cases h1
  exact n ps rfl
theorem TabO.ne0 {H : Hp} {P a : Addr} (t : TabO H P) (h : H a = none) : P ≠ a := fun e => by
  obtain ⟨ps, h1, _⟩ := t
  rw [e, h] at h1; cases h1
variable [TB : Tabs]

/-! ### data under more of the heap -/
def Sub (G H : Hp) : Prop := ∀ a o, G a = some o → H a = some o
theorem Sub.refl {G : Hp} : Sub G G := fun _ _ h => h
theorem Sub.trans {G H J : Hp} (a : Sub G H) (b : Sub H J) : Sub G J := fun x o h => b x o (a x o h)
theorem rd_mono {G H : Hp} (m : Sub G H) {a : Addr} {u : HO} (h : Rd G a u) : Rd H a u := by
  rcases h with h | ⟨o, h⟩
  · exact .inl (m _ _ h)
  · exact .inr ⟨o, m _ _ h⟩
theorem sql_mono {K : PySem.W.Frag} {G H : Hp} (m : Sub G H) {a : Addr} {xs : List V} (h : SqL K G a xs) : SqL K H a xs := by
  rcases h with h | h
  · exact .inl (rd_mono m h)
  · exact .inr h
theorem sqt_mono {K : PySem.W.Frag} {G H : Hp} (m : Sub G H) {a : Addr} {xs : List V} (h : SqT K G a xs) : SqT K H a xs := by
  rcases h with h | h
  · exact .inl (rd_mono m h)
  · exact .inr h
mutual
/-- a value shows data: lists are tracked -/
inductive RD (K : PySem.W.Frag) (H : Hp) : V → PyData → Prop
  | non : RD K H .non .none
  | bl (b : Bool) : RD K H (.bl b) (.bool b)
  | int (i : Int) : RD K H (.int i) (.int i)
  | str (x : Str) : RD K H (.str x) (.str x)
  | lst {a : Addr} {xs : List V} {ds : List PyData} : H a = some (.lst xs) → RDs K H xs ds → RD K H (.ref a) (.list ds)
  | tup {a : Addr} {xs : List V} {ds : List PyData} : H a = some (.tup xs) → RDs K H xs ds → RD K H (.ref a) (.tuple ds)
inductive RDs (K : PySem.W.Frag) (H : Hp) : List V → List PyData → Prop
  | nil : RDs K H [] []
  | cons {v : V} {vs : List V} {d : PyData} {ds : List PyData} : RD K H v d → RDs K H vs ds → RDs K H (v :: vs) (d :: ds)
end
mutual
theorem dp_mono {K : PySem.W.Frag} {G H : Hp} (m : Sub G H) : ∀ (d : PyData) (v : V), RD K G v d → RD K H v d
  | .none, _, h => by cases h; exact .non
  | .bool b, _, h => by cases h; exact .bl b
  | .int i, _, h => by cases h; exact .int i
  | .str x, _, h => by cases h; exact .str x
  | .list ds, _, h => by
    cases h with
    | lst hs ha => exact .lst (m _ _ hs) (dps_mono m ds _ ha)
  | .tuple ds, _, h => by
    cases h with
    | tup hs ha => exact .tup (m _ _ hs) (dps_mono m ds _ ha)
  | .dict _, _, h => by cases h
theorem dps_mono {K : PySem.W.Frag} {G H : Hp} (m : Sub G H) : ∀ (ds : List PyData) (vs : List V), RDs K G vs ds → RDs K H vs ds
  | [], _, h => by cases h; exact .nil
  | d :: ds, _, h => by
    cases h with
    | cons h1 h2 => exact .cons (dp_mono m d _ h1) (dps_mono m ds _ h2)
end
mutual
theorem RD.dp {K : PySem.W.Frag} {H : Hp} : ∀ (d : PyData) (v : V), RD K H v d → Dp K H v d
  | .none, _, h => by cases h; exact .non
  | .bool b, _, h => by cases h; exact .bl b
  | .int i, _, h => by cases h; exact .int i
  | .str x, _, h => by cases h; exact .str x
  | .list ds, _, h => by
    cases h with
    | lst hs ha => exact .lst (SqL.of hs) (RDs.dp ds _ ha)
  | .tuple ds, _, h => by
    cases h with
    | tup hs ha => exact .tup (SqT.of hs) (RDs.dp ds _ ha)
  | .dict _, _, h => by cases h
theorem RDs.dp {K : PySem.W.Frag} {H : Hp} : ∀ (ds : List PyData) (vs : List V), RDs K H vs ds → DpAll K H vs ds
  | [], _, h => by cases h; exact .nil
  | d :: ds, _, h => by
    cases h with
    | cons h1 h2 => exact .cons (RD.dp d _ h1) (RDs.dp ds _ h2)
end
theorem dps_len {K : PySem.W.Frag} {G : Hp} : ∀ {vs : List V} {ds : List PyData}, RDs K G vs ds → vs.length = ds.length
  | _, _, .nil => rfl
  | _, _, .cons _ t => by simp [dps_len t]
theorem dps_get {K : PySem.W.Frag} {G : Hp} : ∀ {vs : List V} {ds : List PyData} {i : Nat} {d : PyData}, RDs K G vs ds → ds[i]? = some d → ∃ v, vs[i]? = some v ∧ RD K G v d
  | _, _, _, _, .nil, e => by simp at e
  | _, _, 0, _, .cons r _, e => by simp at e; subst e; exact ⟨_, rfl, r⟩
  | _, _, i + 1, d, .cons _ t, e => by
    obtain ⟨v, h1, h2⟩ := dps_get (i := i) (d := d) t (by simpa using e)
    exact ⟨v, by simpa using h1, h2⟩
theorem dps_getV {K : PySem.W.Frag} {G : Hp} : ∀ {vs : List V} {ds : List PyData} {i : Nat} {v : V}, RDs K G vs ds → vs[i]? = some v → ∃ d, ds[i]? = some d ∧ RD K G v d
  | _, _, _, _, .nil, e => by simp at e
  | _, _, 0, _, .cons r _, e => by simp at e; subst e; exact ⟨_, rfl, r⟩
  | _, _, i + 1, d, .cons _ t, e => by
    obtain ⟨v, h1, h2⟩ := dps_getV (i := i) t (by simpa using e)
    exact ⟨v, by simpa using h1, h2⟩
theorem dps_append {K : PySem.W.Frag} {G : Hp} : ∀ {vs ws : List V} {ds es : List PyData}, RDs K G vs ds → RDs K G ws es → RDs K G (vs ++ ws) (ds ++ es)
  | _, _, _, _, .nil, s => s
  | _, _, _, _, .cons r t, s => .cons r (dps_append t s)
theorem dps_take {K : PySem.W.Frag} {G : Hp} : ∀ {vs : List V} {ds : List PyData} (n : Nat), RDs K G vs ds → RDs K G (vs.take n) (ds.take n)
  | _, _, 0, _ => .nil
  | _, _, _ + 1, .nil => .nil
  | _, _, n + 1, .cons r t => .cons r (dps_take n t)
theorem dps_drop {K : PySem.W.Frag} {G : Hp} : ∀ {vs : List V} {ds : List PyData} (n : Nat), RDs K G vs ds → RDs K G (vs.drop n) (ds.drop n)
  | _, _, 0, r => r
  | _, _, _ + 1, .nil => .nil
  | _, _, n + 1, .cons _ t => dps_drop n t
theorem dps_set {K : PySem.W.Frag} {G : Hp} {v : V} {d : PyData} (r : RD K G v d) : ∀ {vs : List V} {ds : List PyData} (i : Nat), RDs K G vs ds → RDs K G (vs.set i v) (ds.set i d)
  | _, _, _, .nil => .nil
  | _, _, 0, .cons _ t => .cons r t
  | _, _, i + 1, .cons q t => .cons q (dps_set r i t)
theorem dps_reverse {K : PySem.W.Frag} {G : Hp} : ∀ {vs : List V} {ds : List PyData}, RDs K G vs ds → RDs K G vs.reverse ds.reverse
  | _, _, .nil => .nil
  | _, _, .cons r t => by
    rw [List.reverse_cons, List.reverse_cons]
    exact dps_append (dps_reverse t) (.cons r .nil)
theorem dps_flat {K : PySem.W.Frag} {G : Hp} {vs : List V} {ds : List PyData} (h : RDs K G vs ds) : ∀ k : Nat, RDs K G (List.replicate k vs).flatten (List.replicate k ds).flatten
  | 0 => .nil
  | k + 1 => by
    rw [List.replicate_succ, List.replicate_succ, List.flatten_cons, List.flatten_cons]
    exact dps_append h (dps_flat h k)
theorem dps_erase {K : PySem.W.Frag} {G : Hp} : ∀ {vs : List V} {ds : List PyData} (i : Nat), RDs K G vs ds → RDs K G (vs.eraseIdx i) (ds.eraseIdx i)
  | _, _, _, .nil => .nil
  | _, _, 0, .cons _ t => t
  | _, _, i + 1, .cons q t => .cons q (dps_erase i t)
theorem dps_dropLast {K : PySem.W.Frag} {G : Hp} : ∀ {vs : List V} {ds : List PyData}, RDs K G vs ds → RDs K G vs.dropLast ds.dropLast
  | _, _, .nil => .nil
  | _, _, .cons _ .nil => .nil
  | _, _, .cons q (.cons r t) => .cons q (dps_dropLast (.cons r t))

/-! ### cells and frames -/
/-- what a name holds: data that no one changes any more; a list, a dict of the frame's own (lent: a caller's, for the call; lk: walked just now); an exception -/
inductive Cell where
  | fz (d : PyData)
  | lst (lent lk : Bool) (ds : List PyData)
  | dct (lent lk : Bool) (tk : Bool) (kvs : List (PyData × PyData))
  | exc (n : Str)
  | scr (ns : List Int)
def Cell.obj : Cell → Bool
  | .lst .. => true
  | .dct .. => true
  | _ => false
def Cell.lent : Cell → Bool
  | .lst l _ _ => l
  | .dct l _ _ _ => l
  | _ => false
def Cell.lk : Cell → Bool
  | .lst _ l _ => l
  | .dct _ l _ _ => l
  | _ => false
abbrev Fr := List (Option Cell)
def keyD : PyData → Option Key
  | .int i => some (.inl i)
  | .str s => some (.inr s)
  | _ => none
def keysD : List PyData → Option (List Key)
  | [] => some []
  | d :: ds => match keyD d, keysD ds with
    | some k, some ks => some (k :: ks)
    | _, _ => none
def tkeyD : PyData → Option (List Key)
  | .tuple ds => keysD ds
  | _ => none
/-- may be walked: a list, a dict that is locked -/
def Cell.lkb : Cell → Bool
  | .lst .. => true
  | .dct _ lk _ _ => lk
  | _ => false
theorem Cell.lkb_obj {c : Cell} (h : c.lkb = true) : c.obj = true := by cases c <;> first | rfl | cases h
/-- what is frozen at a (where o stands) stays; a tuple that stands may be frozen -/
def GS (G G' : Hp) (a : Addr) (o : HO) : Prop := G' a = G a ∨ ∃ xs, o = .tup xs
theorem GS.rfl {G : Hp} {a : Addr} {o : HO} : GS G G a o := .inl (Eq.refl _)
theorem GS.ne {G G' : Hp} {a : Addr} {o : HO} (h : GS G G' a o) (n : ∀ xs, o ≠ .tup xs) : G' a = G a := h.resolve_right fun ⟨xs, z⟩ => n xs z
theorem GS.nl {G G' : Hp} {a : Addr} {vs : List V} (h : GS G G' a (.lst vs)) : G' a = G a := h.ne fun _ z => by cases z
theorem GS.trans {G G1 G2 : Hp} {a : Addr} {o : HO} (h : GS G G1 a o) (h' : GS G1 G2 a o) : GS G G2 a o := h.elim (fun e => h'.imp (fun e' => e'.trans e) id) .inr
/-- at a stands u, frozen if lk -/
def AtK (H : Hp) (a : Addr) (lk : Bool) (u : HO) : Prop := if lk = true then ∃ o, H a = some (.frz o u) else H a = some u
theorem AtK.rd {H : Hp} {a : Addr} {lk : Bool} {u : HO} (h : AtK H a lk u) : Rd H a u := by
  unfold AtK at h
  split at h
  · exact .inr h
  · exact .inl h
theorem AtK.mono {H H' : Hp} {a : Addr} {lk : Bool} {u : HO} (e : ∀ o, H a = some o → H' a = some o) (h : AtK H a lk u) : AtK H' a lk u := by
  unfold AtK at *
  split
  · rename_i t
    rw [if_pos t] at h
    exact h.imp fun o q => e _ q
  · rename_i t
    rw [if_neg t] at h
    exact e _ h
/-- a dict's pairs -/
def DctR (K : PySem.W.Frag) (G H : Hp) (a : Addr) (lk : Bool) (tk : Bool) (kvs : List (PyData × PyData)) : Prop :=
  if tk = true then ∃ ks, AtK H a lk (.dT ks) ∧ Paired (fun (p : PyData × PyData) (q : List Key × V) => tkeyD p.1 = some q.1 ∧ RD K G q.2 p.2) kvs ks
  else ∃ ks, AtK H a lk (.dK ks) ∧ Paired (fun (p : PyData × PyData) (q : Key × V) => keyD p.1 = some q.1 ∧ RD K G q.2 p.2) kvs ks
theorem DctR.mono {K : PySem.W.Frag} {G G' H H' : Hp} {a : Addr} {lk tk : Bool} {kvs : List (PyData × PyData)} (m : Sub G G') (e : ∀ o, H a = some o → H' a = some o) (h : DctR K G H a lk tk kvs) : DctR K G' H' a lk tk kvs := by
  unfold DctR at *
  split
  · rename_i ht
    rw [if_pos ht] at h
    obtain ⟨ks, h1, h2⟩ := h
    exact ⟨ks, h1.mono e, Paired.mapP h2 fun p q z => ⟨z.1, dp_mono m _ _ z.2⟩⟩
  · rename_i ht
    rw [if_neg ht] at h
    obtain ⟨ks, h1, h2⟩ := h
    exact ⟨ks, h1.mono e, Paired.mapP h2 fun p q z => ⟨z.1, dp_mono m _ _ z.2⟩⟩
theorem AtK.nt {H : Hp} {a : Addr} {lk : Bool} {u : HO} (h : AtK H a lk u) (n : NT u) (n2 : ∀ xs, u ≠ .tup xs) : ∃ o, H a = some o ∧ NT o ∧ ∀ xs, o ≠ .tup xs := by
  unfold AtK at h
  split at h
  · obtain ⟨o, h⟩ := h
    exact ⟨_, h, (fun _ z => by cases z), fun _ z => by cases z⟩
  · exact ⟨_, h, n, n2⟩
theorem DctR.nt {K : PySem.W.Frag} {G H : Hp} {a : Addr} {lk tk : Bool} {kvs : List (PyData × PyData)} (h : DctR K G H a lk tk kvs) : ∃ o, H a = some o ∧ NT o ∧ ∀ xs, o ≠ .tup xs := by
  unfold DctR at h
  split at h
  · obtain ⟨ks, h1, _⟩ := h; exact h1.nt nt_dT fun _ z => by cases z
  · obtain ⟨ks, h1, _⟩ := h; exact h1.nt nt_dK fun _ z => by cases z
theorem DctR.there {K : PySem.W.Frag} {G H : Hp} {a : Addr} {lk tk : Bool} {kvs : List (PyData × PyData)} (h : DctR K G H a lk tk kvs) : ∃ o, H a = some o := by
  obtain ⟨o, e, _⟩ := h.nt; exact ⟨o, e⟩
/-- a value is as the cell says; G: what is frozen -/
def CR (K : PySem.W.Frag) (G H : Hp) (v : V) : Cell → Prop
  | .fz d => RD K G v d
  | .lst _ _ ds => ∃ a vs, v = .ref a ∧ G a = none ∧ H a = some (.lst vs) ∧ RDs K G vs ds
  | .dct _ lk tk kvs => ∃ a, v = .ref a ∧ G a = none ∧ DctR K G H a lk tk kvs
  | .exc n => ∃ a, v = .ref a ∧ Tabs.ex a n
  | .scr ns => ∃ a, v = .ref a ∧ SqL K G a (ns.map V.int)
theorem CR.there {K : PySem.W.Frag} {G H : Hp} {v : V} {c : Cell} (h : CR K G H v c) (o : c.obj = true) : ∃ a u, v = .ref a ∧ G a = none ∧ H a = some u := by
  cases c with
  | fz d => cases o
  | exc n => cases o
  | scr ns => cases o
  | lst l k ds => obtain ⟨a, vs, e, g, h, _⟩ := h; exact ⟨a, _, e, g, h⟩
  | dct l k t kvs => obtain ⟨a, e, g, h⟩ := h; obtain ⟨u, z⟩ := h.there; exact ⟨a, u, e, g, z⟩
theorem CR.nt {K : PySem.W.Frag} {G H : Hp} {v : V} {c : Cell} (h : CR K G H v c) (o : c.obj = true) {a : Addr} {u : HO} (e : v = .ref a) (hu : H a = some u) : NT u := by
  cases c with
  | fz d => cases o
  | exc n => cases o
  | scr ns => cases o
  | lst l k ds => obtain ⟨b, vs, e', g, h, _⟩ := h; rw [e] at e'; cases e'; rw [hu] at h; cases h; exact nt_lst
  | dct l k t kvs => obtain ⟨b, e', g, h⟩ := h; rw [e] at e'; cases e'; obtain ⟨o, z, n, _⟩ := h.nt; rw [hu] at z; cases z; exact n
theorem CR.mono {K : PySem.W.Frag} {G G' H H' : Hp} {v : V} {c : Cell} (h : CR K G H v c) (m : Sub G G') (e : ∀ a o, v = .ref a → c.obj = true → NT o → H a = some o → H' a = some o ∧ GS G G' a o) : CR K G' H' v c := by
  cases c with
  | fz d => exact dp_mono m _ _ h
  | exc n => exact h
  | scr ns => obtain ⟨a, e, q⟩ := h; exact ⟨a, e, sql_mono m q⟩
  | lst l k ds =>
    obtain ⟨a, vs, rfl, g, h, q⟩ := h
    obtain ⟨z1, z2⟩ := e a _ rfl rfl nt_lst h
    exact ⟨a, vs, rfl, (z2.resolve_right fun ⟨_, z⟩ => by cases z).trans g, z1, dps_mono m _ _ q⟩
  | dct l k t kvs =>
    obtain ⟨a, rfl, g, h⟩ := h
    obtain ⟨o, ho, nt, ntu⟩ := h.nt
    obtain ⟨z1, z2⟩ := e a _ rfl rfl nt ho
    refine ⟨a, rfl, (z2.resolve_right fun ⟨xs, z⟩ => ntu xs z).trans g, h.mono m fun o' ho' => ?_⟩
    rw [ho] at ho'; cases ho'
    exact z1

/-- the addresses that the frame may change -/
def Ownd (τ : Fr) (σ : Z.St) (a : Addr) : Prop := ∃ (i : Nat) (c : Cell), τ[i]? = some (some c) ∧ c.obj = true ∧ c.lk = false ∧ σ[i]? = some (some (V.ref a))
/-- .. that are its own -/
def OwnN (τ : Fr) (σ : Z.St) (a : Addr) : Prop := ∃ (i : Nat) (c : Cell), τ[i]? = some (some c) ∧ c.obj = true ∧ c.lk = false ∧ c.lent = false ∧ σ[i]? = some (some (V.ref a))
theorem OwnN.ownd {τ : Fr} {σ : Z.St} {a : Addr} (h : OwnN τ σ a) : Ownd τ σ a := let ⟨i, c, h1, h2, h3, _, h5⟩ := h; ⟨i, c, h1, h2, h3, h5⟩

structure SR (K : PySem.W.Frag) (G : Hp) (τ : Fr) (σ : Z.St) (H : Hp) : Prop where
  len : τ.length = σ.length
  sub : Sub G H
  cell : ∀ (i : Nat) (c : Cell), τ[i]? = some (some c) → ∃ v, σ[i]? = some (some v) ∧ CR K G H v c
  sep : ∀ (i j : Nat) (ci cj : Cell) (v : V), i ≠ j → τ[i]? = some (some ci) → τ[j]? = some (some cj) → ci.obj = true → cj.obj = true → σ[i]? = some (some v) → σ[j]? ≠ some (some v)
  tab : ∀ P, Tabs.t P → G P = none ∧ TabO H P

/-- all but O is kept (and tables) -/
def Kp (O : Addr → Prop) (G H G' H' : Hp) : Prop := Sub G G' ∧ (∀ a o, H a = some o → NT o → ¬ O a → H' a = some o ∧ GS G G' a o) ∧ ∀ a, H' a = none → H a = none
theorem Kp.refl {O : Addr → Prop} {G H : Hp} : Kp O G H G H := ⟨Sub.refl, fun _ _ h _ _ => ⟨h, GS.rfl⟩, fun _ h => h⟩
theorem Kp.trans {O O1 : Addr → Prop} {G H G1 H1 G2 H2 : Hp} (a : Kp O G H G1 H1) (b : Kp O1 G1 H1 G2 H2) (h : ∀ x, O1 x → O x ∨ H x = none) : Kp O G H G2 H2 :=
  ⟨a.1.trans b.1, fun x o e nt n => by
    obtain ⟨e1, g1⟩ := a.2.1 x o e nt n
    obtain ⟨e2, g2⟩ := b.2.1 x o e1 nt fun z => (h x z).elim n fun z => by rw [e] at z; cases z
    exact ⟨e2, g1.trans g2⟩, fun x e => a.2.2 x (b.2.2 x e)⟩
theorem Kp.imp {O O1 : Addr → Prop} {G H G1 H1 : Hp} (a : Kp O G H G1 H1) (h : ∀ x, O x → O1 x ∨ H x = none) : Kp O1 G H G1 H1 :=
  ⟨a.1, fun x o e nt n => a.2.1 x o e nt fun z => (h x z).elim n (fun z => by rw [e] at z; cases z), a.2.2⟩

/-- what an expression does to the frame: cells that are objects come of such of the same mode -/
structure Ex (K : PySem.W.Frag) (σ : Z.St) (G : Hp) (τ : Fr) (H G' : Hp) (τ' : Fr) (H' : Hp) : Prop where
  sr : SR K G' τ' σ H'
  kp : Kp (Ownd τ σ) G H G' H'
  mode : ∀ (i : Nat) (c' : Cell), τ'[i]? = some (some c') → c'.obj = true → ∃ (c : Cell), τ[i]? = some (some c) ∧ c.obj = true ∧ c.lent = c'.lent ∧ c.lk = c'.lk
theorem Ex.own {K : PySem.W.Frag} {σ : Z.St} {G H G' H' : Hp} {τ τ' : Fr} (x : Ex K σ G τ H G' τ' H') {a : Addr} (h : Ownd τ' σ a) : Ownd τ σ a := by
  obtain ⟨i, c, h1, h2, h3, h5⟩ := h
  obtain ⟨c0, z1, z2, z3, z4⟩ := x.mode i c h1 h2
  exact ⟨i, c0, z1, z2, z4.trans h3, h5⟩
theorem Ex.refl {K : PySem.W.Frag} {σ : Z.St} {G H : Hp} {τ : Fr} (s : SR K G τ σ H) : Ex K σ G τ H G τ H := ⟨s, Kp.refl, fun i c h o => ⟨c, h, o, rfl, rfl⟩⟩
theorem Ex.trans {K : PySem.W.Frag} {σ : Z.St} {G H G1 H1 G2 H2 : Hp} {τ τ1 τ2 : Fr} (x : Ex K σ G τ H G1 τ1 H1) (y : Ex K σ G1 τ1 H1 G2 τ2 H2) : Ex K σ G τ H G2 τ2 H2 :=
  ⟨y.sr, x.kp.trans y.kp fun a h => .inl (x.own h), fun i c h o => by
    obtain ⟨c1, z1, z2, z3, z4⟩ := y.mode i c h o
    obtain ⟨c0, w1, w2, w3, w4⟩ := x.mode i c1 z1 z2
    exact ⟨c0, w1, w2, w3.trans z3, w4.trans z4⟩⟩

/-- a new frozen object -/
theorem upd_none {H : Hp} {p a : Addr} {o : HO} (hp : H p = none) (u : HO) (h : H a = some u) : upd H p o a = some u := by
  rw [upd_ne (ne_of_none h hp)]; exact h
theorem upd_gone {H : Hp} {p : Addr} {o : HO} (hp : H p = none) : ∀ a, upd H p o a = none → H a = none := fun a h => by
  by_cases e : a = p
  · rw [e]; exact hp
  · rw [upd_ne e] at h; exact h
theorem sub_none {G H : Hp} (s : Sub G H) {a : Addr} (h : H a = none) : G a = none := by
  cases q : G a with
  | none => rfl
  | some o => rw [s a o q] at h; cases h
theorem SR.objAt {K : PySem.W.Frag} {G H : Hp} {τ : Fr} {σ : Z.St} (s : SR K G τ σ H) {i : Nat} {c : Cell} (h : τ[i]? = some (some c)) (o : c.obj = true) : ∃ a u, σ[i]? = some (some (V.ref a)) ∧ G a = none ∧ H a = some u := by
  obtain ⟨v, e, r⟩ := s.cell i c h
  obtain ⟨a, u, rfl, g, z⟩ := r.there o
  exact ⟨a, u, e, g, z⟩
theorem SR.objAtN {K : PySem.W.Frag} {G H : Hp} {τ : Fr} {σ : Z.St} (s : SR K G τ σ H) {i : Nat} {c : Cell} (h : τ[i]? = some (some c)) (o : c.obj = true) : ∃ a u, σ[i]? = some (some (V.ref a)) ∧ G a = none ∧ H a = some u ∧ NT u := by
  obtain ⟨v, e, r⟩ := s.cell i c h
  obtain ⟨a, u, rfl, g, z⟩ := r.there o
  exact ⟨a, u, e, g, z, r.nt o rfl z⟩
/-- a step that keeps all that is there -/
theorem SR.stepIt {K : PySem.W.Frag} {G H G3 H3 : Hp} {τ : Fr} {σ : Z.St} (s : SR K G τ σ H) (m1 : Sub G G3) (m2 : Sub G3 H3) (m3 : ∀ a o, H a = some o → H3 a = some o ∧ GS G G3 a o) : SR K G3 τ σ H3 := by
  refine ⟨s.len, m2, fun j c hj => ?_, s.sep, fun P hP => ?_⟩
  · obtain ⟨w, z1, z2⟩ := s.cell j c hj
    exact ⟨w, z1, z2.mono m1 fun a o _ _ _ ha => m3 a o ha⟩
  · obtain ⟨t1, ps, t2, t3⟩ := s.tab P hP
    obtain ⟨h1, h2⟩ := m3 P _ t2
    exact ⟨(h2.resolve_right fun ⟨_, z⟩ => by cases z).trans t1, ps, h1, t3⟩
theorem Ex.stepIt {K : PySem.W.Frag} {G H G3 H3 : Hp} {τ : Fr} {σ : Z.St} (s : SR K G τ σ H) (m1 : Sub G G3) (m2 : Sub G3 H3) (m3 : ∀ a o, H a = some o → H3 a = some o ∧ GS G G3 a o) (m4 : ∀ a, H3 a = none → H a = none) : Ex K σ G τ H G3 τ H3 :=
  ⟨s.stepIt m1 m2 m3, ⟨m1, fun a o ha _ _ => m3 a o ha, m4⟩, fun j c hj o => ⟨c, hj, o, rfl, rfl⟩⟩
theorem SR.laidF {K : PySem.W.Frag} {G H : Hp} {τ : Fr} {σ : Z.St} (s : SR K G τ σ H) {p : Addr} {o : HO} (hp : H p = none) : SR K (upd G p o) τ σ (upd H p o) := by
  have gp := sub_none s.sub hp
  refine ⟨s.len, fun a u h => ?_, fun i c h => ?_, s.sep, fun P hP => ?_⟩
  · by_cases e : a = p
    · subst e; rw [upd_same] at h ⊢; exact h
    · rw [upd_ne e] at h ⊢; exact s.sub a u h
  · obtain ⟨v, e, r⟩ := s.cell i c h
    refine ⟨v, e, r.mono (fun a u h => upd_none gp u h) fun a u _ _ _ h => ⟨upd_none hp u h, .inl (upd_ne (ne_of_none h hp))⟩⟩
  · obtain ⟨t1, t2⟩ := s.tab P hP
    have ne := t2.ne0 hp
    obtain ⟨ps, t2, t3⟩ := t2
    exact ⟨by rw [upd_ne ne]; exact t1, ps, by rw [upd_ne ne]; exact t2, t3⟩
theorem Ex.laidF {K : PySem.W.Frag} {G H : Hp} {τ : Fr} {σ : Z.St} (s : SR K G τ σ H) {p : Addr} {o : HO} (hp : H p = none) : Ex K σ G τ H (upd G p o) τ (upd H p o) := by
  have gp := sub_none s.sub hp
  refine ⟨s.laidF hp, ⟨fun a u h => upd_none gp u h, fun a u h _ _ => ⟨upd_none hp u h, .inl (upd_ne (ne_of_none h hp))⟩, upd_gone hp⟩, fun i c h o => ⟨c, h, o, rfl, rfl⟩⟩
/-- a new own object -/
theorem SR.laid {K : PySem.W.Frag} {G H : Hp} {τ : Fr} {σ : Z.St} (s : SR K G τ σ H) {p : Addr} {o : HO} (hp : H p = none) : SR K G τ σ (upd H p o) := by
  refine ⟨s.len, fun a u h => upd_none hp u (s.sub a u h), fun i c h => ?_, s.sep, fun P hP => ?_⟩
  · obtain ⟨v, e, r⟩ := s.cell i c h
    exact ⟨v, e, r.mono Sub.refl fun a u _ _ _ h => ⟨upd_none hp u h, GS.rfl⟩⟩
  · obtain ⟨t1, ps, t2, t3⟩ := s.tab P hP
    exact ⟨t1, ps, upd_none hp _ t2, t3⟩
theorem Ex.laid {K : PySem.W.Frag} {G H : Hp} {τ : Fr} {σ : Z.St} (s : SR K G τ σ H) {p : Addr} {o : HO} (hp : H p = none) : Ex K σ G τ H G τ (upd H p o) :=
  ⟨s.laid hp, ⟨Sub.refl, fun a u h _ _ => ⟨upd_none hp u h, GS.rfl⟩, upd_gone hp⟩, fun i c h o => ⟨c, h, o, rfl, rfl⟩⟩
/-- an untracked-by-cells own temp object is frozen -/
theorem SR.freezeT {K : PySem.W.Frag} {G H : Hp} {τ : Fr} {σ : Z.St} (s : SR K G τ σ H) {p : Addr} {o : HO} (nt : NT o) (gp : G p = none) (hp : H p = some o) (n : ∀ (i : Nat) (c : Cell), τ[i]? = some (some c) → c.obj = true → σ[i]? ≠ some (some (V.ref p))) : SR K (upd G p o) τ σ H := by
  refine ⟨s.len, fun a u h => ?_, fun i c h => ?_, s.sep, fun P hP => ?_⟩
  · by_cases e : a = p
    · subst e; rw [upd_same] at h; cases h; exact hp
    · rw [upd_ne e] at h; exact s.sub a u h
  · obtain ⟨v, e, r⟩ := s.cell i c h
    refine ⟨v, e, r.mono (fun a u h => upd_none gp u h) fun a u hv ho _ hh => ⟨hh, .inl (upd_ne ?_)⟩⟩
    rintro rfl
    exact n i c h ho (by rw [e, hv])
  · obtain ⟨t1, t2⟩ := s.tab P hP
    exact ⟨by rw [upd_ne (t2.ne hp nt)]; exact t1, t2⟩

/-! ### results -/
/-- what an expression gives: a name's slot (no alias is made), or a cell -/
inductive LR where
  | sl (i : Nat)
  | cl (c : Cell)
inductive Res (α : Type) where
  | ok (a : α) (τ : Fr)
  | exc (n : Str) (τ : Fr)
  | stuck
def Res.bind {α β : Type} : Res α → (α → Fr → Res β) → Res β
  | .ok a τ, f => f a τ
  | .exc n τ, _ => .exc n τ
  | .stuck, _ => .stuck
def cellAt (τ : Fr) (i : Nat) : Option Cell := match τ[i]? with
  | some o => o
  | none => none
theorem cellAt_some {τ : Fr} {i : Nat} {c : Cell} (h : cellAt τ i = some c) : τ[i]? = some (some c) := by
  unfold cellAt at h
  split at h
  · rename_i o e
    rw [e, h]
  · cases h
def rdL (τ : Fr) : LR → Option Cell
  | .sl i => cellAt τ i
  | .cl c => some c
/-- the data that a cell shows -/
def Cell.dat : Cell → Option PyData
  | .fz d => some d
  | .lst _ _ ds => some (.list ds)
  | _ => none
def rdD (τ : Fr) (l : LR) : Option PyData := (rdL τ l).bind Cell.dat
abbrev ZD := Fr → Res LR
abbrev WZ := Str → Z.St → Hp → Prop
/-- the value v is what l says; H: at the start -/
def RL (K : PySem.W.Frag) (σ : Z.St) (H : Hp) (τ' : Fr) (G' H' : Hp) (v : V) : LR → Prop
  | .sl i => σ[i]? = some (some v)
  | .cl c => CR K G' H' v c ∧ (c.obj = true → c.lent = false ∧ c.lk = false ∧ ∀ a, v = .ref a → H a = none)
/-- an expression's reading by its denotation -/
def tZ (K : PySem.W.Frag) (W : WZ) (d : ZD) : TE := fun σ H Q => ∃ G τ, SR K G τ σ H ∧ match d τ with
  | .ok l τ' => ∀ G' H' v, Ex K σ G τ H G' τ' H' → RL K σ H τ' G' H' v l → Q v H'
  | .exc n τ' => ∀ G' H', Ex K σ G τ H G' τ' H' → W n σ H'
  | .stuck => False
structure ZE (X : Cx) (W : WZ) (e : Expr) (d : ZD) : Prop where
  pe : PE X e (tZ X.K W d)

section
variable {K : PySem.W.Frag} {W : WZ} {σ : Z.St} {G G1 G2 H H1 H2 : Hp} {τ τ1 τ2 : Fr} {v : V} {l : LR}
/-- a result stays through a later expression -/
theorem RL.keep (s : SR K G τ σ H) (x : Ex K σ G τ H G1 τ1 H1) (r : RL K σ H τ1 G1 H1 v l) (y : Ex K σ G1 τ1 H1 G2 τ2 H2) : RL K σ H τ2 G2 H2 v l := by
  cases l with
  | sl i => exact r
  | cl c =>
    obtain ⟨r, n⟩ := r
    refine ⟨r.mono y.kp.1 fun a o e ho nt h => y.kp.2.1 a o h nt fun z => ?_, n⟩
    obtain ⟨_, _, nn⟩ := n ho
    obtain ⟨i', c', q1, q2, q3, q4⟩ := x.own z
    obtain ⟨b, u, z1, z2, z3⟩ := s.objAt q1 q2
    rw [q4] at z1
    cases z1
    rw [nn a e] at z3
    cases z3
/-- what a result shows, at a later time -/
theorem RL.dat (s : SR K G τ σ H) (x : Ex K σ G τ H G1 τ1 H1) (r : RL K σ H τ1 G1 H1 v l) {d : PyData} (h : rdD τ1 l = some d) : RD K H1 v d := by
  have go : ∀ c : Cell, CR K G1 H1 v c → c.dat = some d → RD K H1 v d := fun c q e => by
    cases c with
    | fz d' => cases e; exact dp_mono x.sr.sub _ _ q
    | lst a b ds =>
      cases e
      obtain ⟨p, vs, rfl, g, hh, q⟩ := q
      exact RD.lst hh (dps_mono x.sr.sub _ _ q)
    | dct a b t kvs => cases e
    | exc n => cases e
    | scr ns => cases e
  unfold rdD at h
  cases l with
  | sl i =>
    have r : σ[i]? = some (some v) := r
    obtain ⟨c, q, h⟩ := Option.bind_eq_some_iff.mp h
    obtain ⟨v', e, z⟩ := x.sr.cell i c (cellAt_some q)
    rw [r] at e; cases e
    exact go c z h
  | cl c => exact go c r.1 h
/-- .. as a cell -/
theorem RL.cell (x : SR K G1 τ1 σ H1) (r : RL K σ H τ1 G1 H1 v l) {c : Cell} (h : rdL τ1 l = some c) : CR K G1 H1 v c := by
  cases l with
  | sl i =>
    have r : σ[i]? = some (some v) := r
    obtain ⟨v', e, z⟩ := x.cell i c (cellAt_some h)
    rw [r] at e; cases e
    exact z
  | cl c' => cases h; exact r.1
end
end Z

/-! Z2: sequencing, names, constants, operators. -/
namespace Z
open PySem PySem.Spec PyProof.Rows L2
variable [TB : Tabs]
section
variable {X : Cx} {K : PySem.W.Frag} {W : WZ} {σ : Z.St} {G G1 G2 H H1 H2 : Hp} {τ τ1 τ2 : Fr} {v : V} {l : LR}

/-- what is wanted of an outcome, from the start G, τ, H -/
def Fin (K : PySem.W.Frag) (W : WZ) (σ : Z.St) (G : Hp) (τ : Fr) (H : Hp) (r : Res LR) (Q : VK) : Prop := match r with
  | .ok l τ' => ∀ G' H' v, Ex K σ G τ H G' τ' H' → RL K σ H τ' G' H' v l → Q v H'
  | .exc n τ' => ∀ G' H', Ex K σ G τ H G' τ' H' → W n σ H'
  | .stuck => False
theorem tZ_of {d : ZD} {Q : VK} (s : SR K G τ σ H) (h : Fin K W σ G τ H (d τ) Q) : tZ K W d σ H Q := ⟨G, τ, s, h⟩
theorem tZ_to {d : ZD} {Q : VK} (h : tZ K W d σ H Q) : ∃ G τ, SR K G τ σ H ∧ Fin K W σ G τ H (d τ) Q := h
/-- the next part of an expression -/
theorem nextE {b : ZD} {k : LR → Fr → Res LR} {Q Q1 : VK} (x : Ex K σ G τ H G1 τ1 H1) (h : Fin K W σ G τ H ((b τ1).bind k) Q)
    (hk : ∀ l τ2 G2 H2 v, b τ1 = .ok l τ2 → Ex K σ G1 τ1 H1 G2 τ2 H2 → RL K σ H1 τ2 G2 H2 v l → Fin K W σ G τ H (k l τ2) Q → Q1 v H2) : tZ K W b σ H1 Q1 := by
  refine ⟨G1, τ1, x.sr, ?_⟩
  cases e : b τ1 with
  | ok l τ2 =>
    rw [e] at h
    exact fun G2 H2 v y r => hk l τ2 G2 H2 v e y r h
  | exc n τ2 =>
    rw [e] at h
    exact fun G2 H2 y => h G2 H2 (x.trans y)
  | stuck => rw [e] at h; exact h
theorem RL.up (x : Ex K σ G τ H G1 τ1 H1) (r : RL K σ H1 τ2 G2 H2 v l) : RL K σ H τ2 G2 H2 v l := by
  cases l with
  | sl i => exact r
  | cl c => exact ⟨r.1, fun o => ⟨(r.2 o).1, (r.2 o).2.1, fun a e => x.kp.2.2 a ((r.2 o).2.2 a e)⟩⟩
/-- an immediate end -/
theorem Fin.here {l : LR} {Q : VK} (h : Fin K W σ G τ H (.ok l τ1) Q) (x : Ex K σ G τ H G1 τ1 H1) (r : RL K σ H τ1 G1 H1 v l) : Q v H1 := h G1 H1 v x r

/-! ### names, constants -/
def zN (i : Nat) : ZD := fun τ => match cellAt τ i with
  | some _ => .ok (.sl i) τ
  | none => .stuck
theorem ze_name {i : Nat} {x : Str} {pos : Pos} (hN : X.N[i]? = some x) (hv : Vis X.env.scope x) (hd : (x == ("__debug__" : Str)) = false := by decide) (hcd : (x == ("__classdict__" : Str)) = false := by decide) :
    ZE X W (.Name x pos) (zN i) := by
  refine ⟨⟨fun pins s σ H Q I h => (pe_var hN hv hd hcd).run pins s σ H Q I ?_⟩⟩
  obtain ⟨G, τ, r, h⟩ := tZ_to h
  unfold zN at h
  cases e : cellAt τ i with
  | none => rw [e] at h; exact h.elim
  | some c =>
    rw [e] at h
    obtain ⟨v, z, q⟩ := r.cell i c (cellAt_some e)
    exact ⟨v, z, h G H v (Ex.refl r) z⟩
def zK (d : PyData) : ZD := fun τ => .ok (.cl (.fz d)) τ
theorem tz_const {d : PyData} {v : V} {Q : VK} (h : tZ K W (zK d) σ H Q) (r : ∀ G, RD K G v d) : Q v H := by
  obtain ⟨G, τ, s, h⟩ := h
  exact h G H v (Ex.refl s) ⟨r G, fun o => nomatch o⟩
theorem ze_int {i j pos} : ZE X W (.Constant (.int i) j pos) (zK (.int i)) := ⟨⟨fun pins s σ H Q I h => (pe_int (X := X)).run pins s σ H Q I (tz_const h fun _ => .int i)⟩⟩
theorem ze_bl {b j pos} : ZE X W (.Constant (.bool b) j pos) (zK (.bool b)) := ⟨⟨fun pins s σ H Q I h => (pe_bl (X := X)).run pins s σ H Q I (tz_const h fun _ => .bl b)⟩⟩
theorem ze_non {j pos} : ZE X W (.Constant .none j pos) (zK .none) := ⟨⟨fun pins s σ H Q I h => (pe_non (X := X)).run pins s σ H Q I (tz_const h fun _ => .non)⟩⟩
theorem ze_str {x j pos} : ZE X W (.Constant (.str x) j pos) (zK (.str x)) := ⟨⟨fun pins s σ H Q I h => (pe_str (X := X)).run pins s σ H Q I (tz_const h fun _ => .str x)⟩⟩
/-- a module's constant -/
theorem ze_glob {x : Str} {v : V} {u : Value} {d : PyData} {pos : Pos} (hg : Gl X x) (hm : X.mg x = some u) (r : RelV v u) (q : ∀ G, RD X.K G v d) (hd : (x == ("__debug__" : Str)) = false := by decide) : ZE X W (.Name x pos) (zK d) :=
  ⟨⟨fun pins s σ H Q I h => (pe_glob hg hm r hd).run pins s σ H Q I (tz_const h q)⟩⟩

/-! ### results kept as values, as data -/
/-- the value is kept: an own thing behind a name is frozen -/
def valL : LR → Fr → Res LR
  | .sl i, τ => match cellAt τ i with
    | some (.fz d) => .ok (.cl (.fz d)) τ
    | some (.exc n) => .ok (.cl (.exc n)) τ
    | some (.scr ns) => .ok (.cl (.scr ns)) τ
    | some (.lst _ false ds) => .ok (.cl (.fz (.list ds))) (τ.set i (some (.fz (.list ds))))
    | _ => .stuck
  | .cl c, τ => .ok (.cl c) τ
def zV (a : ZD) : ZD := fun τ => (a τ).bind valL
theorem getElem?_set_obj {τ : Fr} {i j : Nat} {d : PyData} {c : Cell} (h : (τ.set i (some (.fz d)))[j]? = some (some c)) (o : c.obj = true) : j ≠ i ∧ τ[j]? = some (some c) := by
  by_cases e : i = j
  · subst e
    rw [List.getElem?_set] at h
    rw [if_pos rfl] at h
    split at h
    · cases h; cases o
    · cases h
  · rw [List.getElem?_set_ne e] at h
    exact ⟨fun z => e z.symm, h⟩
/-- a name's list is frozen -/
theorem Ex.freeze (s : SR K G τ σ H) {i : Nat} {b : Bool} {ds : List PyData} (h : τ[i]? = some (some (.lst b false ds))) :
    ∃ G', Ex K σ G τ H G' (τ.set i (some (.fz (.list ds)))) H ∧ ∀ v, σ[i]? = some (some v) → RD K G' v (.list ds) := by
  obtain ⟨v, e, a, vs, rfl, g, hh, q⟩ := s.cell i _ h
  have m : Sub G (upd G a (.lst vs)) := fun x u z => upd_none g u z
  have rd : RD K (upd G a (.lst vs)) (.ref a) (.list ds) := .lst upd_same (dps_mono m _ _ q)
  refine ⟨upd G a (.lst vs), ⟨⟨by rw [List.length_set]; exact s.len, fun x u z => ?_, fun j c z => ?_, fun j k cj ck w n zj zk oj ok sj => ?_, fun P hP => ?_⟩, ⟨m, fun x u z _ n => ⟨z, ?_⟩, fun _ z => z⟩, fun j c z o => ?_⟩, fun v' e' => by rw [e] at e'; cases e'; exact rd⟩
  · by_cases ex : x = a
    · subst ex; rw [upd_same] at z; cases z; exact hh
    · rw [upd_ne ex] at z; exact s.sub x u z
  · by_cases ej : i = j
    · subst ej
      rw [List.getElem?_set, if_pos rfl] at z
      split at z
      · cases z; exact ⟨_, e, rd⟩
      · cases z
    · rw [List.getElem?_set_ne ej] at z
      obtain ⟨v', e', r'⟩ := s.cell j c z
      refine ⟨v', e', r'.mono m fun x u hv o _ hx => ⟨hx, .inl (upd_ne ?_)⟩⟩
      rintro rfl
      exact s.sep i j _ _ _ ej h z rfl o e (by rw [e', hv])
  · exact s.sep j k cj ck w n (getElem?_set_obj zj oj).2 (getElem?_set_obj zk ok).2 oj ok sj
  · obtain ⟨t1, t2⟩ := s.tab P hP
    exact ⟨by rw [upd_ne (t2.ne hh nt_lst)]; exact t1, t2⟩
  · refine .inl (upd_ne ?_)
    rintro rfl
    exact n ⟨i, _, h, rfl, rfl, e⟩
  · exact ⟨c, (getElem?_set_obj z o).2, o, rfl, rfl⟩
theorem val_fin {Q : VK} (s : SR K G τ σ H) (x : Ex K σ G τ H G1 τ1 H1) (r : RL K σ H τ1 G1 H1 v l) (h : Fin K W σ G τ H (valL l τ1) Q) : Q v H1 := by
  cases l with
  | cl c => exact h G1 H1 v x r
  | sl i =>
    unfold valL at h
    dsimp only at h
    split at h
    · rename_i d e; exact h G1 H1 v x ⟨RL.cell x.sr r e, fun o => nomatch o⟩
    · rename_i n e; exact h G1 H1 v x ⟨RL.cell x.sr r (c := .exc n) e, fun o => nomatch o⟩
    · rename_i n e; exact h G1 H1 v x ⟨RL.cell x.sr r (c := .scr n) e, fun o => nomatch o⟩
    · rename_i b ds e
      obtain ⟨G', y, q⟩ := Ex.freeze x.sr (cellAt_some e)
      exact h G' H1 v (x.trans y) ⟨q v r, fun o => nomatch o⟩
    · exact h.elim
theorem ze_val {e : Expr} {a : ZD} (ha : ZE X W e a) : ZE X W e (zV a) := by
  refine ⟨⟨fun pins s σ H Q I h => ha.pe.run pins s σ H Q I ?_⟩⟩
  obtain ⟨G, τ, s, h⟩ := h
  exact nextE (Ex.refl s) h fun l τ2 G2 H2 v _ y r q => val_fin s y r q
/-- .. as data: an own list that is new is frozen, too -/
def datL : LR → Fr → Res LR := fun l τ => (valL l τ).bind fun l τ => match l with
  | .cl (.lst _ _ ds) => .ok (.cl (.fz (.list ds))) τ
  | .cl (.fz d) => .ok (.cl (.fz d)) τ
  | _ => .stuck
def zF (a : ZD) : ZD := fun τ => (a τ).bind datL
/-- a new own list is frozen -/
theorem Ex.freezeT (s : SR K G τ σ H) (x : Ex K σ G τ H G1 τ1 H1) {b k : Bool} {ds : List PyData} (r : RL K σ H τ1 G1 H1 v (.cl (.lst b k ds))) : ∃ G', Ex K σ G τ H G' τ1 H1 ∧ RD K G' v (.list ds) := by
  obtain ⟨⟨a, vs, rfl, g, hh, q⟩, n⟩ := r
  have ha := (n rfl).2.2 a rfl
  refine ⟨upd G1 a (.lst vs), ⟨x.sr.freezeT nt_lst g hh fun i c h o e => ?_, ⟨x.kp.1.trans fun y u z => upd_none g u z, fun y u z nt n => ?_, x.kp.2.2⟩, x.mode⟩, .lst upd_same (dps_mono (fun y u z => upd_none g u z) _ _ q)⟩
  · obtain ⟨c0, z1, z2, _, _⟩ := x.mode i c h o
    obtain ⟨p, u, w1, w2, w3⟩ := s.objAt z1 z2
    rw [e] at w1; cases w1
    rw [ha] at w3; cases w3
  · obtain ⟨z1, z2⟩ := x.kp.2.1 y u z nt n
    exact ⟨z1, z2.imp (fun e => by rw [upd_ne (ne_of_none z ha)]; exact e) id⟩
theorem dat_fin {Q : VK} (s : SR K G τ σ H) (x : Ex K σ G τ H G1 τ1 H1) (r : RL K σ H τ1 G1 H1 v l) (h : Fin K W σ G τ H (datL l τ1) Q) : Q v H1 := by
  unfold datL at h
  refine val_fin (W := W) (Q := Q) s x r ?_
  cases e : valL l τ1 with
  | stuck => rw [e] at h; exact h
  | exc n τ' => rw [e] at h; exact h
  | ok m τ2 =>
    rw [e] at h
    intro G' H' u y q
    cases m with
    | sl i => exact h.elim
    | cl c =>
      cases c with
      | fz d => exact h G' H' u y q
      | exc n => exact h.elim
      | scr n => exact h.elim
      | dct a b c d => exact h.elim
      | lst b k ds =>
        obtain ⟨G3, y3, q3⟩ := Ex.freezeT s y q
        exact h G3 H' u y3 ⟨q3, fun o => nomatch o⟩
theorem ze_dat {e : Expr} {a : ZD} (ha : ZE X W e a) : ZE X W e (zF a) := by
  refine ⟨⟨fun pins s σ H Q I h => ha.pe.run pins s σ H Q I ?_⟩⟩
  obtain ⟨G, τ, s, h⟩ := h
  exact nextE (Ex.refl s) h fun l τ2 G2 H2 v _ y r q => dat_fin s y r q
end
end Z

/-! Z3: operators on data. -/
namespace Z
open PySem PySem.Spec PyProof.Rows L2
variable [TB : Tabs]
/-- the outcome of an operation: data (a tuple may be new), a new own list -/
inductive RO where
  | sc (d : PyData)
  | nl (ds : List PyData)
def RO.cell : RO → Cell
  | .sc d => .fz d
  | .nl ds => .lst false false ds
/-- an operand -/
def VW (K : PySem.W.Frag) (G H : Hp) (v : V) (d : PyData) : Prop := RD K G v d ∨ ∃ ds a vs, d = .list ds ∧ v = .ref a ∧ H a = some (.lst vs) ∧ RDs K G vs ds
section
variable {X : Cx} {K : PySem.W.Frag} {W : WZ} {σ : Z.St} {G G1 G2 H H1 H2 : Hp} {τ τ1 τ2 : Fr} {v x y : V} {l : LR} {d e : PyData}
theorem VW.rd (s : Sub G H) (h : VW K G H v d) : RD K H v d := by
  rcases h with h | ⟨ds, a, vs, rfl, rfl, h, q⟩
  · exact dp_mono s _ _ h
  · exact .lst h (dps_mono s _ _ q)
theorem VW.dp (s : Sub G H) (h : VW K G H v d) : Dp K H v d := RD.dp _ _ (h.rd s)
theorem VW.int {i : Int} (h : VW K G H v (.int i)) : v = .int i := by
  rcases h with h | ⟨_, _, _, h, _⟩
  · cases h; rfl
  · cases h
theorem VW.bl {i : Bool} (h : VW K G H v (.bool i)) : v = .bl i := by
  rcases h with h | ⟨_, _, _, h, _⟩
  · cases h; rfl
  · cases h
theorem VW.non (h : VW K G H v .none) : v = .non := by
  rcases h with h | ⟨_, _, _, h, _⟩
  · cases h; rfl
  · cases h
theorem VW.str {z : Str} (h : VW K G H v (.str z)) : v = .str z := by
  rcases h with h | ⟨_, _, _, h, _⟩
  · cases h; rfl
  · cases h
theorem VW.lst {ds : List PyData} (s : Sub G H) (h : VW K G H v (.list ds)) : ∃ a vs, v = .ref a ∧ H a = some (.lst vs) ∧ RDs K G vs ds := by
  rcases h with h | ⟨ds', a, vs, e, rfl, h, q⟩
  · cases h with
    | lst h q => exact ⟨_, _, rfl, s _ _ h, q⟩
  · cases e; exact ⟨_, _, rfl, h, q⟩
theorem VW.tup {ds : List PyData} (s : Sub G H) (h : VW K G H v (.tuple ds)) : ∃ a vs, v = .ref a ∧ SqT K H a vs ∧ RDs K G vs ds := by
  rcases h with h | ⟨ds', a, vs, e, rfl, h, q⟩
  · cases h with
    | tup h q => exact ⟨_, _, rfl, SqT.of (s _ _ h), q⟩
  · cases e
theorem VW.tupH {ds : List PyData} (s : Sub G H) (h : VW K G H v (.tuple ds)) : ∃ a vs, v = .ref a ∧ H a = some (.tup vs) ∧ RDs K G vs ds := by
  rcases h with h | ⟨ds', a, vs, e, rfl, h, q⟩
  · cases h with
    | tup h q => exact ⟨_, _, rfl, s _ _ h, q⟩
  · cases e
theorem VW.tupG {ds : List PyData} (h : VW K G H v (.tuple ds)) : RD K G v (.tuple ds) := by
  rcases h with h | ⟨ds', a, vs, e, rfl, h, q⟩
  · exact h
  · cases e
theorem RL.view (x : SR K G1 τ1 σ H1) (r : RL K σ H τ1 G1 H1 v l) (h : rdD τ1 l = some d) : VW K G1 H1 v d := by
  obtain ⟨c, q, h⟩ := Option.bind_eq_some_iff.mp h
  have z := r.cell x q
  cases c with
  | fz d' => cases h; exact .inl z
  | lst a b ds => cases h; obtain ⟨p, vs, rfl, _, hh, q⟩ := z; exact .inr ⟨_, _, _, rfl, rfl, hh, q⟩
  | dct a b t kvs => cases h
  | exc n => cases h
  | scr n => cases h
/-- what is wanted of an outcome -/
def RoQ (K : PySem.W.Frag) (G H : Hp) (r : RO) (Q : VK) : Prop := match r with
  | .sc d => (∀ v, RD K G v d → Q v H) ∧ ∀ ds, d = .tuple ds → ∀ p vs, H p = none → RDs K G vs ds → Q (.ref p) (upd H p (.tup vs))
  | .nl ds => ∀ p vs, H p = none → RDs K G vs ds → Q (.ref p) (upd H p (.lst vs))
theorem roq_of {r : RO} {Q : VK} (x : Ex K σ G τ H G1 τ1 H1) (h : Fin K W σ G τ H (.ok (.cl r.cell) τ1) Q) : RoQ K G1 H1 r Q := by
  cases r with
  | sc d =>
    refine ⟨fun v q => h G1 H1 v x ⟨q, fun o => nomatch o⟩, fun ds e p vs hp q => ?_⟩
    subst e
    have y := Ex.laidF (K := K) (o := .tup vs) x.sr hp
    exact h _ _ _ (x.trans y) ⟨.tup upd_same (dps_mono y.kp.1 _ _ q), fun o => nomatch o⟩
  | nl ds =>
    intro p vs hp q
    have y := Ex.laid (K := K) (o := .lst vs) x.sr hp
    exact h _ _ _ (x.trans y) ⟨⟨p, vs, rfl, sub_none x.sr.sub hp, upd_same, q⟩, fun _ => ⟨rfl, rfl, fun a e => by cases e; exact x.kp.2.2 _ hp⟩⟩
/-- a rule by values serves an operation on data -/
def Op2 (K : PySem.W.Frag) (f : PyData → PyData → Option RO) (R : R2) : Prop :=
  ∀ (G H : Hp) (x y : V) (Q : VK) (d e : PyData) (r : RO), Sub G H → VW K G H x d → VW K G H y e → f d e = some r → RoQ K G H r Q → R x y H Q
def Op1 (K : PySem.W.Frag) (f : PyData → Option RO) (R : V → Hp → VK → Prop) : Prop :=
  ∀ (G H : Hp) (x : V) (Q : VK) (d : PyData) (r : RO), Sub G H → VW K G H x d → f d = some r → RoQ K G H r Q → R x H Q
def ret (o : Option RO) (τ : Fr) : Res LR := match o with
  | some r => .ok (.cl r.cell) τ
  | none => .stuck
theorem ret_some {o : Option RO} {Q : VK} (h : Fin K W σ G τ H (ret o τ1) Q) : ∃ r, o = some r ∧ Fin K W σ G τ H (.ok (.cl r.cell) τ1) Q := by
  cases o with
  | none => exact h.elim
  | some r => exact ⟨r, rfl, h⟩
def app2 (f : PyData → PyData → Option RO) (τ : Fr) (l m : LR) : Option RO := match rdD τ l, rdD τ m with
  | some d, some e => f d e
  | _, _ => none
def z2 (f : PyData → PyData → Option RO) (a b : ZD) : ZD := fun τ => (a τ).bind fun l τ1 => (b τ1).bind fun m τ2 => ret (app2 f τ2 l m) τ2
def app1 (f : PyData → Option RO) (τ : Fr) (l : LR) : Option RO := match rdD τ l with
  | some d => f d
  | none => none
def z1 (f : PyData → Option RO) (a : ZD) : ZD := fun τ => (a τ).bind fun l τ1 => ret (app1 f τ1 l) τ1
theorem tz_op2 {f : PyData → PyData → Option RO} {R : R2} {a b : ZD} {Q : VK} (hr : Op2 K f R) (h : tZ K W (z2 f a b) σ H Q) : tOp R (tZ K W a) (tZ K W b) σ H Q := by
  obtain ⟨G, τ, s, h⟩ := tZ_to h
  refine nextE (Ex.refl s) h fun l τ1 G1 H1 v e1 x1 r1 h1 => ?_
  refine nextE x1 h1 fun m τ2 G2 H2 u e2 x2 r2 h2 => ?_
  obtain ⟨r, er, h2⟩ := ret_some h2
  have x := x1.trans x2
  have r1' := r1.keep s x1 x2
  unfold app2 at er
  split at er
  · rename_i d e hd he
    exact hr G2 H2 v u Q d e r x.sr.sub (RL.view x.sr r1' hd) (RL.view x.sr r2 he) er (roq_of x h2)
  · cases er
theorem tz_op1 {f : PyData → Option RO} {R : V → Hp → VK → Prop} {a : ZD} {Q : VK} (hr : Op1 K f R) (h : tZ K W (z1 f a) σ H Q) : tUn R (tZ K W a) σ H Q := by
  obtain ⟨G, τ, s, h⟩ := tZ_to h
  refine nextE (Ex.refl s) h fun l τ1 G1 H1 v e1 x1 r1 h1 => ?_
  obtain ⟨r, er, h1⟩ := ret_some h1
  unfold app1 at er
  split at er
  · rename_i d hd
    exact hr G1 H1 v Q d r x1.sr.sub (RL.view x1.sr r1 hd) er (roq_of x1 h1)
  · cases er
theorem ze_op {a b : Expr} {op : Operator} {pos : Pos} {da db : ZD} {f : PyData → PyData → Option RO} {R : R2} (ho : OpR X (binaryOp op) R) (hr : Op2 X.K f R) (ha : ZE X W a da) (hb : ZE X W b db) : ZE X W (.BinOp a op b pos) (z2 f da db) :=
  ⟨⟨fun pins s σ H Q I h => (pe_op ho ha.pe hb.pe).run pins s σ H Q I (tz_op2 hr h)⟩⟩
theorem ze_un {a : Expr} {op : UnaryOp} {pos : Pos} {da : ZD} {f : PyData → Option RO} {R : V → Hp → VK → Prop} (ho : UnR X (unaryOp op) R) (hr : Op1 X.K f R) (ha : ZE X W a da) : ZE X W (.UnaryOp op a pos) (z1 f da) :=
  ⟨⟨fun pins s σ H Q I h => (pe_un ho ha.pe).run pins s σ H Q I (tz_op1 hr h)⟩⟩
theorem ze_cmp {a b : Expr} {op : CmpOp} {pos : Pos} {da db : ZD} {f : PyData → PyData → Option RO} {R : R2} (ho : OpR X (compareOp op) R) (hr : Op2 X.K f R) (ha : ZE X W a da) (hb : ZE X W b db) (hm : behindInMarks op b = false) :
    ZE X W (.Compare a [op] [b] pos) (z2 f da db) :=
  ⟨⟨fun pins s σ H Q I h => (pe_cmpR ho ha.pe hb.pe hm).run pins s σ H Q I (tz_op2 hr h)⟩⟩
theorem Op2.or {f : PyData → PyData → Option RO} {R R' : R2} (h : ∀ (G H : Hp) (x y : V) (Q : VK) (d e : PyData) (r : RO), Sub G H → VW K G H x d → VW K G H y e → f d e = some r → RoQ K G H r Q → R x y H Q ∨ R' x y H Q) :
    Op2 K f (fun x y H Q => R x y H Q ∨ R' x y H Q) := h

/-! ### the operators -/
def sInt (i : Int) : Option RO := some (.sc (.int i))
def sBl (b : Bool) : Option RO := some (.sc (.bool b))
def pAdd : PyData → PyData → Option RO
  | .int i, .int j => sInt (i + j)
  | .str x, .str y => if x.length + y.length ≤ sizeLine then some (.sc (.str (x ++ y))) else none
  | .list xs, .list ys => if xs.length + ys.length ≤ sizeLine then some (.nl (xs ++ ys)) else none
  | .tuple xs, .tuple ys => if xs.length + ys.length ≤ sizeLine then some (.sc (.tuple (xs ++ ys))) else none
  | _, _ => none
def rAddZ (K : PySem.W.Frag) : R2 := fun x y H Q => (∃ i j, x = .int i ∧ y = .int j ∧ Q (.int (i + j)) H) ∨ (∃ i j, x = .str i ∧ y = .str j ∧ i.length + j.length ≤ sizeLine ∧ Q (.str (i ++ j)) H) ∨ rCat x y H Q ∨ rCatA K x y H Q
theorem opr_add : OpR X (binaryOp .Add) (rAddZ X.K) := OpR.or op_add (OpR.or op_add_str (OpR.or op_cat op_catA))
theorem op2_add : Op2 K pAdd (rAddZ K) := by
  intro G H x y Q d e r s vx vy h q
  unfold pAdd at h
  split at h
  · cases h; exact .inl ⟨_, _, vx.int, vy.int, q.1 _ (.int _)⟩
  · split at h
    · cases h; rename_i hz; exact .inr (.inl ⟨_, _, vx.str, vy.str, hz, q.1 _ (.str _)⟩)
    · cases h
  · split at h
    · cases h
      rename_i hz
      obtain ⟨a, vs, rfl, h1, q1⟩ := vx.lst s
      obtain ⟨b, ws, rfl, h2, q2⟩ := vy.lst s
      refine .inr (.inr (.inl ⟨a, b, vs, ws, rfl, rfl, h1, h2, by rw [dps_len q1, dps_len q2]; exact hz, fun p hp => q p _ hp (dps_append q1 q2)⟩))
    · cases h
  · split at h
    · cases h
      rename_i xs ys hz
      obtain ⟨a, vs, rfl, h1, q1⟩ := vx.tup s
      obtain ⟨b, ws, rfl, h2, q2⟩ := vy.tup s
      refine .inr (.inr (.inr ⟨a, b, vs, ws, rfl, rfl, h1, h2, by rw [dps_len q1, dps_len q2]; exact hz, fun e => ?_, fun _ e => ?_, fun _ _ p hp => q.2 _ rfl p _ hp (dps_append q1 q2)⟩))
      · have e2 : xs = [] := List.eq_nil_of_length_eq_zero (by rw [← dps_len q1, e]; rfl)
        subst e2
        exact q.1 _ (by simpa using vy.tupG)
      · have e2 : ys = [] := List.eq_nil_of_length_eq_zero (by rw [← dps_len q2, e]; rfl)
        subst e2
        exact q.1 _ (by simpa using vx.tupG)
    · cases h
  · cases h
def pSub : PyData → PyData → Option RO
  | .int i, .int j => sInt (i - j)
  | _, _ => none
theorem op2_sub : Op2 K pSub (rI0 fun i j => .int (i - j)) := by
  intro G H x y Q d e r s vx vy h q
  unfold pSub at h
  split at h
  · cases h; exact ⟨_, _, vx.int, vy.int, q.1 _ (.int _)⟩
  · cases h
/-- the sizes up to which ints are multiplied -/
def mulOk (i j : Int) : Bool := decide (i.natAbs < 2 ^ 64) || decide (j.natAbs < 2 ^ 64) || decide (i.natAbs.log2 + j.natAbs.log2 < 1000000)
def pMul : PyData → PyData → Option RO
  | .int i, .int j => if mulOk i j then sInt (i * j) else none
  | .list xs, .int k => if -(2 ^ 63) ≤ k ∧ k < 2 ^ 63 ∧ xs.length * k.toNat ≤ sizeLine then some (.nl (List.replicate k.toNat xs).flatten) else none
  | .tuple xs, .int k => if xs ≠ [] ∧ 2 ≤ k ∧ k ≤ 1000 ∧ xs.length ≤ 1000 then some (.sc (.tuple (List.replicate k.toNat xs).flatten)) else none
  | _, _ => none
def rMulZ (K : PySem.W.Frag) : R2 := fun x y H Q => rI CMul (fun i j => .int (i * j)) x y H Q ∨ rI CMulW (fun i j => .int (i * j)) x y H Q ∨ rRep x y H Q ∨ rRepT K x y H Q
theorem opr_mul : OpR X (binaryOp .Mult) (rMulZ X.K) := OpR.or op_mul (OpR.or op_mulW (OpR.or op_rep op_repT))
theorem op2_mul : Op2 K pMul (rMulZ K) := by
  intro G H x y Q d e r s vx vy h q
  unfold pMul at h
  split at h
  · split at h
    · cases h
      rename_i i j hz
      unfold mulOk at hz
      simp only [Bool.or_eq_true, decide_eq_true_eq] at hz
      rcases hz with (hz | hz) | hz
      · exact .inl ⟨_, _, vx.int, vy.int, .inl ⟨by omega, by omega⟩, q.1 _ (.int _)⟩
      · exact .inl ⟨_, _, vx.int, vy.int, .inr ⟨by omega, by omega⟩, q.1 _ (.int _)⟩
      · exact .inr (.inl ⟨_, _, vx.int, vy.int, hz, q.1 _ (.int _)⟩)
    · cases h
  · split at h
    · cases h
      rename_i xs k hz
      obtain ⟨a, vs, rfl, h1, q1⟩ := vx.lst s
      exact .inr (.inr (.inl ⟨a, k, vs, rfl, vy.int, h1, hz.1, hz.2.1, by rw [dps_len q1]; exact hz.2.2, fun p hp => q p _ hp (dps_flat q1 _)⟩))
    · cases h
  · split at h
    · cases h
      rename_i xs k hz
      obtain ⟨a, vs, rfl, h1, q1⟩ := vx.tup s
      refine .inr (.inr (.inr ⟨a, k, vs, rfl, vy.int, h1, fun e => ?_, hz.2.1, hz.2.2.1, by rw [dps_len q1]; exact hz.2.2.2, fun p hp => q.2 _ rfl p _ hp (dps_flat q1 _)⟩))
      exact hz.1 (List.eq_nil_of_length_eq_zero (by rw [← dps_len q1, e]; rfl))
    · cases h
  · cases h
def divOk (j : Int) : Bool := decide (0 < j) && (decide (j < 1073741824) || decide (j.natAbs.log2 < 9000))
def pDiv : PyData → PyData → Option RO
  | .int i, .int j => if divOk j then sInt (i / j) else none
  | _, _ => none
def rDivZ : R2 := fun x y H Q => rI CDiv (fun i j => .int (i / j)) x y H Q ∨ rI CDivW (fun i j => .int (i / j)) x y H Q
theorem opr_div : OpR X (binaryOp .FloorDiv) rDivZ := OpR.or op_fdiv op_fdivW
theorem op2_div : Op2 K pDiv rDivZ := by
  intro G H x y Q d e r s vx vy h q
  unfold pDiv at h
  split at h
  · split at h
    · cases h
      rename_i i j hz
      unfold divOk at hz
      simp only [Bool.or_eq_true, Bool.and_eq_true, decide_eq_true_eq] at hz
      rcases hz with ⟨h0, hz | hz⟩
      · exact .inl ⟨_, _, vx.int, vy.int, ⟨h0, hz⟩, q.1 _ (.int _)⟩
      · exact .inr ⟨_, _, vx.int, vy.int, ⟨h0, hz⟩, q.1 _ (.int _)⟩
    · cases h
  · cases h
def pMod : PyData → PyData → Option RO
  | .int i, .int j => if 0 < j then sInt (i % j) else none
  | _, _ => none
theorem op2_mod : Op2 K pMod (rI (fun _ j => 0 < j) fun i j => .int (i % j)) := by
  intro G H x y Q d e r s vx vy h q
  unfold pMod at h
  split at h
  · split at h
    · cases h; rename_i hz; exact ⟨_, _, vx.int, vy.int, hz, q.1 _ (.int _)⟩
    · cases h
  · cases h
def pPow : PyData → PyData → Option RO
  | .int i, .int j => if 0 ≤ j ∧ j ≤ 1000000 ∧ i.natAbs < 2 ^ 64 then sInt (i ^ j.toNat) else none
  | _, _ => none
theorem op2_pow : Op2 K pPow (rI CPow fun i j => .int (i ^ j.toNat)) := by
  intro G H x y Q d e r s vx vy h q
  unfold pPow at h
  split at h
  · split at h
    · cases h; rename_i hz; exact ⟨_, _, vx.int, vy.int, hz, q.1 _ (.int _)⟩
    · cases h
  · cases h
def pShr : PyData → PyData → Option RO
  | .int i, .int j => if 0 ≤ j then sInt (i / 2 ^ j.toNat) else none
  | _, _ => none
theorem op2_shr : Op2 K pShr (rI (fun _ j => 0 ≤ j) fun i j => .int (i / 2 ^ j.toNat)) := by
  intro G H x y Q d e r s vx vy h q
  unfold pShr at h
  split at h
  · split at h
    · cases h; rename_i hz; exact ⟨_, _, vx.int, vy.int, hz, q.1 _ (.int _)⟩
    · cases h
  · cases h
def pShl : PyData → PyData → Option RO
  | .int i, .int j => if 0 ≤ j ∧ j ≤ 1000000 ∧ i.natAbs < 2 ^ 64 then sInt (i * 2 ^ j.toNat) else none
  | _, _ => none
theorem op2_shl : Op2 K pShl (rI CPow fun i j => .int (i * 2 ^ j.toNat)) := by
  intro G H x y Q d e r s vx vy h q
  unfold pShl at h
  split at h
  · split at h
    · cases h; rename_i hz; exact ⟨_, _, vx.int, vy.int, hz, q.1 _ (.int _)⟩
    · cases h
  · cases h
def pInt2 (f : Int → Int → Int) : PyData → PyData → Option RO
  | .int i, .int j => sInt (f i j)
  | _, _ => none
theorem op2_int2 {f : Int → Int → Int} : Op2 K (pInt2 f) (rI0 fun i j => .int (f i j)) := by
  intro G H x y Q d e r s vx vy h q
  unfold pInt2 at h
  split at h
  · cases h; exact ⟨_, _, vx.int, vy.int, q.1 _ (.int _)⟩
  · cases h
def pNeg : PyData → Option RO
  | .int i => sInt (-i)
  | _ => none
theorem op1_neg : Op1 K pNeg (rU fun i => .int (-i)) := by
  intro G H x Q d r s vx h q
  unfold pNeg at h
  split at h
  · cases h; exact ⟨_, vx.int, q.1 _ (.int _)⟩
  · cases h

/-! ### comparisons -/
def pEq (d e : PyData) : Option RO := if SeqAt.shaped d && SeqAt.shaped e then sBl (PyData.eqv d e) else none
def pNe (d e : PyData) : Option RO := if SeqAt.shaped d && SeqAt.shaped e then sBl (!PyData.eqv d e) else none
theorem op2_eq : Op2 K pEq (rEqD K) := by
  intro G H x y Q d e r s vx vy h q
  unfold pEq at h
  split at h
  · cases h
    rename_i hz
    rw [Bool.and_eq_true] at hz
    exact ⟨d, e, vx.dp s, vy.dp s, hz.1, hz.2, q.1 _ (.bl _)⟩
  · cases h
theorem op2_ne : Op2 K pNe (rNeD K) := by
  intro G H x y Q d e r s vx vy h q
  unfold pNe at h
  split at h
  · cases h
    rename_i hz
    rw [Bool.and_eq_true] at hz
    exact ⟨d, e, vx.dp s, vy.dp s, hz.1, hz.2, q.1 _ (.bl _)⟩
  · cases h
def pCmp (f : Int → Int → Bool) : PyData → PyData → Option RO
  | .int i, .int j => sBl (f i j)
  | _, _ => none
theorem op2_cmp {f : Int → Int → Bool} : Op2 K (pCmp f) (rI0 fun i j => .bl (f i j)) := by
  intro G H x y Q d e r s vx vy h q
  unfold pCmp at h
  split at h
  · cases h; exact ⟨_, _, vx.int, vy.int, q.1 _ (.bl _)⟩
  · cases h
def isNone : PyData → Bool
  | .none => true
  | _ => false
/-- is, is not: with None, or of two bools -/
def pIs (n : Bool) : PyData → PyData → Option RO
  | d, .none => sBl (isNone d != n)
  | .bool a, .bool b => sBl (decide (a = b) != n)
  | _, _ => none
def rIsZ : R2 := fun x y H Q => (y = .non ∧ Q (.bl (decide (x = .non))) H) ∨ rIsB x y H Q
def rIsNotZ : R2 := fun x y H Q => (y = .non ∧ Q (.bl (!decide (x = .non))) H) ∨ rNotB x y H Q
theorem opr_is : OpR X (compareOp .Is) rIsZ := OpR.or op_isN op_isBl
theorem opr_isNot : OpR X (compareOp .IsNot) rIsNotZ := OpR.or op_notN op_notBl
theorem VW.isNone (h : VW K G H v d) : decide (v = .non) = isNone d := by
  rcases h with h | ⟨ds, a, vs, rfl, rfl, h, q⟩
  · cases h <;> rfl
  · rfl
theorem op2_is : Op2 K (pIs false) rIsZ := by
  intro G H x y Q d e r s vx vy h q
  unfold pIs at h
  split at h
  · cases h
    refine .inl ⟨vy.non, ?_⟩
    rw [vx.isNone]
    have := q.1 _ (.bl _)
    rwa [Bool.bne_false] at this
  · cases h
    have := q.1 _ (.bl _)
    rw [Bool.bne_false] at this
    exact .inr ⟨_, _, vx.bl, vy.bl, this⟩
  · cases h
theorem op2_isNot : Op2 K (pIs true) rIsNotZ := by
  intro G H x y Q d e r s vx vy h q
  unfold pIs at h
  split at h
  · cases h
    refine .inl ⟨vy.non, ?_⟩
    rw [vx.isNone]
    have := q.1 _ (.bl _)
    rwa [Bool.bne_true] at this
  · cases h
    have := q.1 _ (.bl _)
    rw [Bool.bne_true] at this
    exact .inr ⟨_, _, vx.bl, vy.bl, this⟩
  · cases h
end
end Z

/-! Z4: tests, and | or | not, conditional expressions, chains, builtins, subscripts, displays. -/
namespace Z
open PySem PySem.Spec PyProof.Rows L2
variable [TB : Tabs]
theorem PE.or {X : Cx} {e : Expr} {t u : TE} (a : PE X e t) (b : PE X e u) : PE X e (fun σ H Q => t σ H Q ∨ u σ H Q) := ⟨fun pins s σ H Q I h => h.elim (a.run pins s σ H Q I) (b.run pins s σ H Q I)⟩
section
variable {X : Cx} {K : PySem.W.Frag} {W : WZ} {σ : Z.St} {G G1 G2 H H1 H2 : Hp} {τ τ1 τ2 : Fr} {v x y : V} {l : LR} {d e : PyData} {a b c : Expr} {pos : Pos} {da db dc : ZD}

/-! ### tests -/
abbrev ZTD := Fr → Res Bool
def FinT (K : PySem.W.Frag) (W : WZ) (σ : Z.St) (G : Hp) (τ : Fr) (H : Hp) (r : Res Bool) (Q : Bool → Hp → Prop) : Prop := match r with
  | .ok b τ' => ∀ G' H', Ex K σ G τ H G' τ' H' → Q b H'
  | .exc n τ' => ∀ G' H', Ex K σ G τ H G' τ' H' → W n σ H'
  | .stuck => False
def tZT (K : PySem.W.Frag) (W : WZ) (d : ZTD) : TT := fun σ H Q => ∃ G τ, SR K G τ σ H ∧ FinT K W σ G τ H (d τ) Q
structure ZT (X : Cx) (W : WZ) (e : Expr) (d : ZTD) : Prop where
  pt : PT X e (tZT X.K W d)
structure ZW (X : Cx) (W : WZ) (e : Expr) (d : ZTD) : Prop where
  pw : PW X e (tZT X.K W d)
theorem ZW.zt {d : ZTD} (h : ZW X W a d) : ZT X W a d := ⟨h.pw.pt⟩
/-- an expression that a test begins with -/
theorem nextT {β : ZD} {k : LR → Fr → Res Bool} {Q : Bool → Hp → Prop} {Q1 : VK} (x : Ex K σ G τ H G1 τ1 H1) (h : FinT K W σ G τ H ((β τ1).bind k) Q)
    (hk : ∀ l τ2 G2 H2 v, β τ1 = .ok l τ2 → Ex K σ G1 τ1 H1 G2 τ2 H2 → RL K σ H1 τ2 G2 H2 v l → FinT K W σ G τ H (k l τ2) Q → Q1 v H2) : tZ K W β σ H1 Q1 := by
  refine ⟨G1, τ1, x.sr, ?_⟩
  cases e : β τ1 with
  | ok l τ2 =>
    rw [e] at h
    exact fun G2 H2 v y r => hk l τ2 G2 H2 v e y r h
  | exc n τ2 =>
    rw [e] at h
    exact fun G2 H2 y => h G2 H2 (x.trans y)
  | stuck => rw [e] at h; exact h
/-- a test that a test begins with -/
theorem nextTT {β : ZTD} {k : Bool → Fr → Res Bool} {Q : Bool → Hp → Prop} {Q1 : Bool → Hp → Prop} (x : Ex K σ G τ H G1 τ1 H1) (h : FinT K W σ G τ H ((β τ1).bind k) Q)
    (hk : ∀ b τ2 G2 H2, β τ1 = .ok b τ2 → Ex K σ G1 τ1 H1 G2 τ2 H2 → FinT K W σ G τ H (k b τ2) Q → Q1 b H2) : tZT K W β σ H1 Q1 := by
  refine ⟨G1, τ1, x.sr, ?_⟩
  cases e : β τ1 with
  | ok l τ2 =>
    rw [e] at h
    exact fun G2 H2 y => hk l τ2 G2 H2 e y h
  | exc n τ2 =>
    rw [e] at h
    exact fun G2 H2 y => h G2 H2 (x.trans y)
  | stuck => rw [e] at h; exact h
/-- a test that an expression begins with -/
theorem nextET {β : ZTD} {k : Bool → Fr → Res LR} {Q : VK} {Q1 : Bool → Hp → Prop} (x : Ex K σ G τ H G1 τ1 H1) (h : Fin K W σ G τ H ((β τ1).bind k) Q)
    (hk : ∀ b τ2 G2 H2, β τ1 = .ok b τ2 → Ex K σ G1 τ1 H1 G2 τ2 H2 → Fin K W σ G τ H (k b τ2) Q → Q1 b H2) : tZT K W β σ H1 Q1 := by
  refine ⟨G1, τ1, x.sr, ?_⟩
  cases e : β τ1 with
  | ok l τ2 =>
    rw [e] at h
    exact fun G2 H2 y => hk l τ2 G2 H2 e y h
  | exc n τ2 =>
    rw [e] at h
    exact fun G2 H2 y => h G2 H2 (x.trans y)
  | stuck => rw [e] at h; exact h
/-- the rest, from a later point -/
theorem FinT.from {r : Res Bool} {Q : Bool → Hp → Prop} (x : Ex K σ G τ H G1 τ1 H1) (h : FinT K W σ G τ H r Q) : FinT K W σ G1 τ1 H1 r Q := by
  cases r with
  | ok b τ2 => exact fun G2 H2 y => h G2 H2 (x.trans y)
  | exc n τ2 => exact fun G2 H2 y => h G2 H2 (x.trans y)
  | stuck => exact h
theorem Fin.from {r : Res LR} {Q : VK} (x : Ex K σ G τ H G1 τ1 H1) (h : Fin K W σ G τ H r Q) : Fin K W σ G1 τ1 H1 r Q := by
  cases r with
  | ok b τ2 => exact fun G2 H2 v y q => h G2 H2 v (x.trans y) (q.up x)
  | exc n τ2 => exact fun G2 H2 y => h G2 H2 (x.trans y)
  | stuck => exact h
/-- truth -/
def truD : PyData → Option Bool
  | .none => some false
  | .bool b => some b
  | .int i => some (i != 0)
  | .str y => if y.length ≤ sizeLine then some ((y.length : Int) != 0) else none
  | .list ds => some (!ds.isEmpty)
  | .tuple ds => some (!ds.isEmpty)
  | .dict _ => none
theorem isEmpty_rds {vs : List V} {ds : List PyData} (q : RDs K G vs ds) : (!ds.isEmpty) = !vs.isEmpty := by cases q <;> rfl
theorem tru_view {k : Bool} (s : Sub G H) (h : VW K G H v d) (e : truD d = some k) : TruV K v H k := by
  cases d with
  | none => cases e; rw [h.non]; exact rfl
  | bool b => cases e; rw [h.bl]; exact rfl
  | int i => cases e; rw [h.int]; exact rfl
  | str z =>
    have e : (if z.length ≤ sizeLine then some ((z.length : Int) != 0) else none) = some k := e
    split at e
    · cases e; rename_i hz; rw [h.str]; exact ⟨hz, rfl⟩
    · cases e
  | list ds => cases e; obtain ⟨a, vs, rfl, h1, q⟩ := h.lst s; exact .inl ⟨vs, SqL.of h1, isEmpty_rds q⟩
  | tuple ds => cases e; obtain ⟨a, vs, rfl, h1, q⟩ := h.tup s; exact .inr (.inl ⟨vs, h1, isEmpty_rds q⟩)
  | dict _ => cases e
def truL (τ : Fr) (l : LR) : Option Bool := (rdD τ l).bind truD
def retB (o : Option Bool) (τ : Fr) : Res Bool := match o with
  | some b => .ok b τ
  | none => .stuck
def zTru (a : ZD) : ZTD := fun τ => (a τ).bind fun l τ1 => retB (truL τ1 l) τ1
theorem tz_tru {Q : Bool → Hp → Prop} (h : tZT K W (zTru da) σ H Q) : tZ K W da σ H fun x H' => ∃ k, TruV K x H' k ∧ Q k H' := by
  obtain ⟨G, τ, s, h⟩ := h
  refine nextT (Ex.refl s) h fun l τ1 G1 H1 v e1 x1 r1 h1 => ?_
  cases q : truL τ1 l with
  | none => rw [q] at h1; exact h1.elim
  | some k =>
    rw [q] at h1
    obtain ⟨d, q1, q2⟩ := Option.bind_eq_some_iff.mp q
    exact ⟨k, tru_view x1.sr.sub (RL.view x1.sr r1 q1) q2, h1 G1 H1 x1⟩
/-- by truth: names, calls, subscripts, .. -/
theorem zt_tru (ha : ZE X W a da) (he : ∀ whole, isTrue a X.env whole = (do let v ← whole; standAt a.pos; holding [v] (truthy v)) := by intro _; rfl) : ZT X W a (zTru da) :=
  ⟨⟨fun pins s σ H Q I h => (pt_truth ha.pe he).run pins s σ H Q I (tz_tru h)⟩⟩
/-- a comparison's answer as a test -/
def zB (a : ZD) : ZTD := fun τ => (a τ).bind fun l τ1 => match l with
  | .cl (.fz (.bool b)) => .ok b τ1
  | _ => .stuck
theorem tz_b {f : PyData → PyData → Option RO} {R : R2} {Q : Bool → Hp → Prop} (hr : Op2 K f R) (h : tZT K W (zB (z2 f da db)) σ H Q) : tTest (tOp R (tZ K W da) (tZ K W db)) σ H Q := by
  obtain ⟨G, τ, s, h⟩ := h
  unfold tTest
  refine tz_op2 hr (Q := fun x H' => ∃ k, x = .bl k ∧ Q k H') (tZ_of s ?_)
  unfold zB at h
  cases e : z2 f da db τ with
  | ok l τ1 =>
    rw [e] at h
    intro G' H' v y r
    dsimp only [Res.bind] at h
    split at h
    · cases r with
      | intro r _ => cases r; exact ⟨_, rfl, h G' H' y⟩
    · exact h.elim
  | exc n τ1 => rw [e] at h; exact h
  | stuck => rw [e] at h; exact h
theorem zt_cmp {op : CmpOp} {f : PyData → PyData → Option RO} {R : R2} (ho : OpR X (compareOp op) R) (hr : Op2 X.K f R) (ha : ZE X W a da) (hb : ZE X W b db) (hm : behindInMarks op b = false) : ZT X W (.Compare a [op] [b] pos) (zB (z2 f da db)) :=
  ⟨⟨fun pins s σ H Q I h => (pt_cmpR ho ha.pe hb.pe hm).run pins s σ H Q I (tz_b hr h)⟩⟩
/-- a op b op' c -/
def zChain (f g : PyData → PyData → Option RO) (a b c : ZD) : ZD := fun τ => (a τ).bind fun l τ1 => (b τ1).bind fun m τ2 => match app2 f τ2 l m with
  | some (.sc (.bool true)) => (c τ2).bind fun n τ3 => ret (app2 g τ3 m n) τ3
  | some (.sc (.bool false)) => .ok (.cl (.fz (.bool false))) τ2
  | _ => .stuck
theorem roq_bl {k : Bool} {Q : VK} (h : Q (.bl k) H) : RoQ K G H (.sc (.bool k)) Q := ⟨fun v q => by cases q; exact h, fun ds e => by cases e⟩
theorem app2_some {f : PyData → PyData → Option RO} {m : LR} {r : RO} (h : app2 f τ l m = some r) : ∃ d e, rdD τ l = some d ∧ rdD τ m = some e ∧ f d e = some r := by
  unfold app2 at h
  split at h
  · rename_i d e h1 h2; exact ⟨d, e, h1, h2, h⟩
  · cases h
theorem tz_chain {f g : PyData → PyData → Option RO} {R R' : R2} {Q : VK} (hr : Op2 K f R) (hr' : Op2 K g R') (h : tZ K W (zChain f g da db dc) σ H Q) : tChain R R' (tZ K W da) (tZ K W db) (tZ K W dc) σ H Q := by
  obtain ⟨G, τ, s, h⟩ := tZ_to h
  refine nextE (Ex.refl s) h fun l τ1 G1 H1 v e1 x1 r1 h1 => ?_
  refine nextE x1 h1 fun m τ2 G2 H2 u e2 x2 r2 h2 => ?_
  have x := x1.trans x2
  have r1' := r1.keep s x1 x2
  cases q : app2 f τ2 l m with
  | none => rw [q] at h2; exact h2.elim
  | some r =>
    rw [q] at h2
    obtain ⟨d, e, hd, he, q2⟩ := app2_some q
    refine hr G2 H2 v u _ d e r x.sr.sub (RL.view x.sr r1' hd) (RL.view x.sr r2 he) q2 ?_
    split at h2
    · rename_i e3
      cases e3
      refine roq_bl ⟨true, rfl, ?_⟩
      rw [if_pos rfl]
      refine nextE x h2 fun n τ3 G3 H3 w e3 x3 r3 h3 => ?_
      obtain ⟨r', er, h3⟩ := ret_some h3
      obtain ⟨d', e', hd', he', q3⟩ := app2_some er
      have y := x.trans x3
      exact hr' G3 H3 u w Q d' e' r' y.sr.sub (RL.view y.sr ((r2.up x1).keep s x x3) hd') (RL.view y.sr r3 he') q3 (roq_of y h3)
    · rename_i e3
      cases e3
      refine roq_bl ⟨false, rfl, ?_⟩
      rw [if_neg Bool.false_ne_true]
      exact h2 G2 H2 _ x ⟨.bl false, fun o => nomatch o⟩
    · exact h2.elim
theorem ze_chain {op op' : CmpOp} {f g : PyData → PyData → Option RO} {R R' : R2} (ho : OpR X (compareOp op) R) (hr : Op2 X.K f R) (ho' : OpR X (compareOp op') R') (hr' : Op2 X.K g R') (ha : ZE X W a da) (hb : ZE X W b db) (hc : ZE X W c dc)
    (hm : lastMarks [op, op'] [b, c] = false := by with_unfolding_all rfl) : ZE X W (.Compare a [op, op'] [b, c] pos) (zChain f g da db dc) :=
  ⟨⟨fun pins s σ H Q I h => (pe_chain ho ho' ha.pe hb.pe hc.pe hm).run pins s σ H Q I (tz_chain hr hr' h)⟩⟩
theorem zt_chain {op op' : CmpOp} {f g : PyData → PyData → Option RO} {R R' : R2} (ho : OpR X (compareOp op) R) (hr : Op2 X.K f R) (ho' : OpR X (compareOp op') R') (hr' : Op2 X.K g R') (ha : ZE X W a da) (hb : ZE X W b db) (hc : ZE X W c dc)
    (hm : lastMarks [op, op'] [b, c] = false := by with_unfolding_all rfl) : ZT X W (.Compare a [op, op'] [b, c] pos) (zB (zChain f g da db dc)) := by
  refine ⟨⟨fun pins s σ H Q I h => (pt_chain ho ho' ha.pe hb.pe hc.pe hm).run pins s σ H Q I ?_⟩⟩
  obtain ⟨G, τ, s, h⟩ := h
  unfold tTest
  refine tz_chain hr hr' (Q := fun x H' => ∃ k, x = .bl k ∧ Q k H') (tZ_of s ?_)
  unfold zB at h
  cases e : zChain f g da db dc τ with
  | ok l τ1 =>
    rw [e] at h
    intro G' H' v y r
    dsimp only [Res.bind] at h
    split at h
    · cases r with
      | intro r _ => cases r; exact ⟨_, rfl, h G' H' y⟩
    · exact h.elim
  | exc n τ1 => rw [e] at h; exact h
  | stuck => rw [e] at h; exact h

/-! ### and, or, not as tests -/
variable {ta tb : ZTD} {rest : List Expr}
def zAndT (a b : ZTD) : ZTD := fun τ => (a τ).bind fun k τ1 => if k = true then b τ1 else .ok false τ1
def zOrT (a b : ZTD) : ZTD := fun τ => (a τ).bind fun k τ1 => if k = true then .ok true τ1 else b τ1
def zNotT (a : ZTD) : ZTD := fun τ => (a τ).bind fun k τ1 => .ok (!k) τ1
theorem zw_and1 (ha : ZT X W a ta) : ZW X W (.BoolOp .And [a] pos) ta := ⟨⟨fun wh pins s σ H Q I h => (pw_and1 ha.pt).run wh pins s σ H Q I h⟩⟩
theorem zw_or1 (ha : ZT X W a ta) : ZW X W (.BoolOp .Or [a] pos) ta := ⟨⟨fun wh pins s σ H Q I h => (pw_or1 ha.pt).run wh pins s σ H Q I h⟩⟩
theorem zw_and (ha : ZT X W a ta) (hb : ZW X W (.BoolOp .And (b :: rest) pos) tb) : ZW X W (.BoolOp .And (a :: b :: rest) pos) (zAndT ta tb) := by
  refine ⟨⟨fun wh pins s σ H Q I h => (pw_and ha.pt hb.pw).run wh pins s σ H Q I ?_⟩⟩
  obtain ⟨G, τ, s, h⟩ := h
  refine nextTT (Ex.refl s) h fun k τ1 G1 H1 e1 x1 h1 => ?_
  cases k with
  | true => rw [if_pos rfl] at h1 ⊢; exact ⟨G1, τ1, x1.sr, h1.from x1⟩
  | false => rw [if_neg Bool.false_ne_true] at h1 ⊢; exact h1 G1 H1 x1
theorem zw_or (ha : ZT X W a ta) (hb : ZW X W (.BoolOp .Or (b :: rest) pos) tb) : ZW X W (.BoolOp .Or (a :: b :: rest) pos) (zOrT ta tb) := by
  refine ⟨⟨fun wh pins s σ H Q I h => (pw_or ha.pt hb.pw).run wh pins s σ H Q I ?_⟩⟩
  obtain ⟨G, τ, s, h⟩ := h
  refine nextTT (Ex.refl s) h fun k τ1 G1 H1 e1 x1 h1 => ?_
  cases k with
  | true => rw [if_pos rfl] at h1 ⊢; exact h1 G1 H1 x1
  | false => rw [if_neg Bool.false_ne_true] at h1 ⊢; exact ⟨G1, τ1, x1.sr, h1.from x1⟩
theorem zt_not (ha : ZT X W a ta) : ZT X W (.UnaryOp .Not a pos) (zNotT ta) := by
  refine ⟨⟨fun pins s σ H Q I h => (pt_not ha.pt).run pins s σ H Q I ?_⟩⟩
  obtain ⟨G, τ, s, h⟩ := h
  exact nextTT (Ex.refl s) h fun k τ1 G1 H1 e1 x1 h1 => h1 G1 H1 x1

/-! ### .. as values -/
def zAnd (a b : ZD) : ZD := fun τ => (zV a τ).bind fun l τ1 => match truL τ1 l with
  | some true => b τ1
  | some false => .ok l τ1
  | none => .stuck
def zOr (a b : ZD) : ZD := fun τ => (zV a τ).bind fun l τ1 => match truL τ1 l with
  | some true => .ok l τ1
  | some false => b τ1
  | none => .stuck
def zNot (a : ZD) : ZD := fun τ => (a τ).bind fun l τ1 => match truL τ1 l with
  | some k => .ok (.cl (.fz (.bool (!k)))) τ1
  | none => .stuck
theorem tru_of {k : Bool} (x : SR K G1 τ1 σ H1) (r : RL K σ H τ1 G1 H1 v l) (q : truL τ1 l = some k) : TruV K v H1 k := by
  obtain ⟨d, q1, q2⟩ := Option.bind_eq_some_iff.mp q
  exact tru_view x.sub (RL.view x r q1) q2
theorem ze_and1 {op : BoolOp} (ha : ZE X W a da) : ZE X W (.BoolOp op [a] pos) da := ⟨pe_one ha.pe⟩
theorem ze_and (ha : ZE X W a da) (hb : ZE X W (.BoolOp .And (b :: rest) pos) db) : ZE X W (.BoolOp .And (a :: b :: rest) pos) (zAnd da db) := by
  refine ⟨⟨fun pins s σ H Q I h => (pe_andT (ze_val ha).pe hb.pe).run pins s σ H Q I ?_⟩⟩
  obtain ⟨G, τ, s, h⟩ := tZ_to h
  refine nextE (Ex.refl s) h fun l τ1 G1 H1 v e1 x1 r1 h1 => ?_
  cases q : truL τ1 l with
  | none => rw [q] at h1; exact h1.elim
  | some k =>
    rw [q] at h1
    refine ⟨k, tru_of x1.sr r1 q, ?_⟩
    cases k with
    | true => rw [if_pos rfl]; exact tZ_of x1.sr (h1.from x1)
    | false => rw [if_neg Bool.false_ne_true]; exact h1 G1 H1 v x1 r1
theorem ze_or (ha : ZE X W a da) (hb : ZE X W (.BoolOp .Or (b :: rest) pos) db) : ZE X W (.BoolOp .Or (a :: b :: rest) pos) (zOr da db) := by
  refine ⟨⟨fun pins s σ H Q I h => (pe_orT (ze_val ha).pe hb.pe).run pins s σ H Q I ?_⟩⟩
  obtain ⟨G, τ, s, h⟩ := tZ_to h
  refine nextE (Ex.refl s) h fun l τ1 G1 H1 v e1 x1 r1 h1 => ?_
  cases q : truL τ1 l with
  | none => rw [q] at h1; exact h1.elim
  | some k =>
    rw [q] at h1
    refine ⟨k, tru_of x1.sr r1 q, ?_⟩
    cases k with
    | true => rw [if_pos rfl]; exact h1 G1 H1 v x1 r1
    | false => rw [if_neg Bool.false_ne_true]; exact tZ_of x1.sr (h1.from x1)
theorem ze_not (ha : ZE X W a da) : ZE X W (.UnaryOp .Not a pos) (zNot da) := by
  refine ⟨⟨fun pins s σ H Q I h => (pe_notT ha.pe).run pins s σ H Q I ?_⟩⟩
  obtain ⟨G, τ, s, h⟩ := tZ_to h
  refine nextE (Ex.refl s) h fun l τ1 G1 H1 v e1 x1 r1 h1 => ?_
  cases q : truL τ1 l with
  | none => rw [q] at h1; exact h1.elim
  | some k =>
    rw [q] at h1
    exact ⟨k, tru_of x1.sr r1 q, h1 G1 H1 _ x1 ⟨.bl _, fun o => nomatch o⟩⟩
/-- a if c else b -/
def zIf (c : ZTD) (a b : ZD) : ZD := fun τ => (c τ).bind fun k τ1 => if k = true then a τ1 else b τ1
theorem ze_if (hc : ZT X W c ta) (ha : ZE X W a da) (hb : ZE X W b db) : ZE X W (.IfExp c a b pos) (zIf ta da db) := by
  refine ⟨⟨fun pins s σ H Q I h => (pe_ifExp hc.pt ha.pe hb.pe).run pins s σ H Q I ?_⟩⟩
  obtain ⟨G, τ, s, h⟩ := tZ_to h
  refine nextET (Ex.refl s) h fun k τ1 G1 H1 e1 x1 h1 => ?_
  cases k with
  | true => rw [if_pos rfl] at h1 ⊢; exact tZ_of x1.sr (h1.from x1)
  | false => rw [if_neg Bool.false_ne_true] at h1 ⊢; exact tZ_of x1.sr (h1.from x1)

/-! ### builtins of one and two arguments -/
theorem pa1 {t : TE} (h : PE X a t) (hs : starEach [a] X.env = (false, eval a X.env) :: starEach [] X.env := by rfl) : PA X [a] (tCons t tNil) := pa_cons h pa_nil hs
theorem ze_callB1 {x : Str} {p : Pos} {id : String} {r : List V → Hp → VK → Prop} {f : PyData → Option RO} (hc : CallR X (.builtin id) r) (hr : Op1 X.K f fun x H Q => r [x] H Q) (hg : Gl X x) (hm : X.mg x = none) (hv : bootBuiltins x = some (.builtin id)) (ha : ZE X W a da)
    (hn : x ≠ "__name__" := by decide) (hdb : (x == ("__debug__" : Str)) = false := by decide) (he : starEach [a] X.env = (false, eval a X.env) :: starEach [] X.env := by rfl) : ZE X W (.Call (.Name x p) [a] [] pos) (z1 f da) :=
  ⟨⟨fun pins s σ H Q I h => (pe_callB hc hg hm hv (pa1 ha.pe he) hn hdb he (by rfl)).run pins s σ H Q I (tz_op1 hr h)⟩⟩
theorem ze_callT1 {x : Str} {p : Pos} {T : String} {r : List V → Hp → VK → Prop} {f : PyData → Option RO} (hc : CallR X (.type T) r) (hr : Op1 X.K f fun x H Q => r [x] H Q) (hg : Gl X x) (hm : X.mg x = none) (hv : bootBuiltins x = some (.type T)) (ha : ZE X W a da)
    (hn : x ≠ "__name__" := by decide) (hdb : (x == ("__debug__" : Str)) = false := by decide) (he : starEach [a] X.env = (false, eval a X.env) :: starEach [] X.env := by rfl) : ZE X W (.Call (.Name x p) [a] [] pos) (z1 f da) :=
  ⟨⟨fun pins s σ H Q I h => (pe_callTy hc hg hm hv (pa1 ha.pe he) hn hdb he (by rfl)).run pins s σ H Q I (tz_op1 hr h)⟩⟩
theorem ze_callB2 {x : Str} {p : Pos} {id : String} {r : List V → Hp → VK → Prop} {f : PyData → PyData → Option RO} (hc : CallR X (.builtin id) r) (hr : Op2 X.K f fun x y H Q => r [x, y] H Q) (hg : Gl X x) (hm : X.mg x = none) (hv : bootBuiltins x = some (.builtin id)) (ha : ZE X W a da) (hb : ZE X W b db)
    (hn : x ≠ "__name__" := by decide) (hdb : (x == ("__debug__" : Str)) = false := by decide) (he : starEach [a, b] X.env = (false, eval a X.env) :: starEach [b] X.env := by rfl) (he2 : starEach [b] X.env = (false, eval b X.env) :: starEach [] X.env := by rfl)
    (hpl : (backTo pos (starEach [b] X.env)).any (·.1) = false := by rfl) : ZE X W (.Call (.Name x p) [a, b] [] pos) (z2 f da db) :=
  ⟨⟨fun pins s σ H Q I h => (pe_callB hc hg hm hv (pa_cons ha.pe (pa_cons hb.pe pa_nil he2) he) hn hdb he hpl).run pins s σ H Q I (tz_op2 hr h)⟩⟩
def pLen : PyData → Option RO
  | .str z => if z.length ≤ sizeLine then sInt z.length else none
  | .list ds => sInt ds.length
  | .tuple ds => sInt ds.length
  | _ => none
theorem op1_len : Op1 K pLen fun x H Q => (∃ p ys, [x] = [V.ref p] ∧ (SqL K H p ys ∨ SqT K H p ys) ∧ Q (.int ys.length) H) ∨ ∃ z, [x] = [V.str z] ∧ z.length ≤ sizeLine ∧ Q (.int z.length) H := by
  intro G H x Q d r s vx h q
  unfold pLen at h
  split at h
  · split at h
    · cases h; rename_i hz; exact .inr ⟨_, by rw [vx.str], hz, q.1 _ (.int _)⟩
    · cases h
  · cases h
    obtain ⟨a, vs, rfl, h1, q1⟩ := vx.lst s
    exact .inl ⟨a, vs, rfl, .inl (SqL.of h1), by rw [dps_len q1]; exact q.1 _ (.int _)⟩
  · cases h
    obtain ⟨a, vs, rfl, h1, q1⟩ := vx.tup s
    exact .inl ⟨a, vs, rfl, .inr h1, by rw [dps_len q1]; exact q.1 _ (.int _)⟩
  · cases h
theorem CallR.or {f : Value} {r r' : List V → Hp → VK → Prop} (h : CallR X f r) (h' : CallR X f r') : CallR X f (fun xs H Q => r xs H Q ∨ r' xs H Q) := by
  intro pins s σ H xs us Q I r q
  rcases q with q | q
  · exact h pins s σ H xs us Q I r q
  · exact h' pins s σ H xs us Q I r q
theorem cr_len : CallR X (.builtin "len") (fun xs H Q => (∃ p ys, xs = [V.ref p] ∧ (SqL X.K H p ys ∨ SqT X.K H p ys) ∧ Q (.int ys.length) H) ∨ ∃ z, xs = [V.str z] ∧ z.length ≤ sizeLine ∧ Q (.int z.length) H) := CallR.or call_len_seq call_len_str
def pAbs : PyData → Option RO
  | .int i => sInt (if i < 0 then -i else i)
  | _ => none
theorem op1_abs : Op1 K pAbs fun x H Q => ∃ i, [x] = [V.int i] ∧ Q (.int (if i < 0 then -i else i)) H := by
  intro G H x Q d r s vx h q
  unfold pAbs at h
  split at h
  · cases h; exact ⟨_, by rw [vx.int], q.1 _ (.int _)⟩
  · cases h
def pToInt : PyData → Option RO
  | .int i => sInt i
  | .bool k => sInt (if k then 1 else 0)
  | _ => none
theorem op1_toInt : Op1 K pToInt fun x H Q => (∃ i, [x] = [V.int i] ∧ Q (.int i) H) ∨ ∃ k, [x] = [V.bl k] ∧ Q (.int (if k then 1 else 0)) H := by
  intro G H x Q d r s vx h q
  unfold pToInt at h
  split at h
  · cases h; exact .inl ⟨_, by rw [vx.int], q.1 _ (.int _)⟩
  · cases h; exact .inr ⟨_, by rw [vx.bl], q.1 _ (.int _)⟩
  · cases h
def pMax2 : PyData → PyData → Option RO
  | .int i, .int j => sInt (if j > i then j else i)
  | _, _ => none
def pMin2 : PyData → PyData → Option RO
  | .int i, .int j => sInt (if j < i then j else i)
  | _, _ => none
theorem op2_max2 : Op2 K pMax2 fun x y H Q => ∃ i j, [x, y] = [V.int i, .int j] ∧ Q (.int (if j > i then j else i)) H := by
  intro G H x y Q d e r s vx vy h q
  unfold pMax2 at h
  split at h
  · cases h; exact ⟨_, _, by rw [vx.int, vy.int], q.1 _ (.int _)⟩
  · cases h
theorem op2_min2 : Op2 K pMin2 fun x y H Q => ∃ i j, [x, y] = [V.int i, .int j] ∧ Q (.int (if j < i then j else i)) H := by
  intro G H x y Q d e r s vx vy h q
  unfold pMin2 at h
  split at h
  · cases h; exact ⟨_, _, by rw [vx.int, vy.int], q.1 _ (.int _)⟩
  · cases h
/-- tuple(x), list(x) of a list or tuple -/
def pTuple : PyData → Option RO
  | .list ds => some (.sc (.tuple ds))
  | .tuple ds => some (.sc (.tuple ds))
  | _ => none
def pList : PyData → Option RO
  | .list ds => some (.nl ds)
  | .tuple ds => some (.nl ds)
  | _ => none
theorem op1_tuple : Op1 K pTuple fun x H Q => ∃ p ys, [x] = [V.ref p] ∧ ((SqL K H p ys ∧ ∀ l, H l = none → Q (.ref l) (upd H l (.tup ys))) ∨ (SqT K H p ys ∧ Q (.ref p) H)) := by
  intro G H x Q d r s vx h q
  unfold pTuple at h
  split at h
  · cases h
    obtain ⟨a, vs, rfl, h1, q1⟩ := vx.lst s
    exact ⟨a, vs, rfl, .inl ⟨SqL.of h1, fun l hl => q.2 _ rfl l _ hl q1⟩⟩
  · cases h
    obtain ⟨a, vs, rfl, h1, q1⟩ := vx.tup s
    exact ⟨a, vs, rfl, .inr ⟨h1, q.1 _ vx.tupG⟩⟩
  · cases h
theorem op1_list : Op1 K pList fun x H Q => ∃ p ys, [x] = [V.ref p] ∧ (SqL K H p ys ∨ SqT K H p ys) ∧ ∀ l, H l = none → Q (.ref l) (upd H l (.lst ys)) := by
  intro G H x Q d r s vx h q
  unfold pList at h
  split at h
  · cases h
    obtain ⟨a, vs, rfl, h1, q1⟩ := vx.lst s
    exact ⟨a, vs, rfl, .inl (SqL.of h1), fun l hl => q l _ hl q1⟩
  · cases h
    obtain ⟨a, vs, rfl, h1, q1⟩ := vx.tup s
    exact ⟨a, vs, rfl, .inr h1, fun l hl => q l _ hl q1⟩
  · cases h

/-! ### isinstance -/
def tyD : PyData → String
  | .none => "NoneType"
  | .bool _ => "bool"
  | .int _ => "int"
  | .str _ => "str"
  | .list _ => "list"
  | .tuple _ => "tuple"
  | .dict _ => "dict"
def isiD (c : String) (d : PyData) : Bool := tyD d == c || (tyD d == "bool" && c == "int")
end
end Z

/-! Z5: isinstance, in, subscripts, slices, displays. -/
namespace Z
open PySem PySem.Spec PyProof.Rows L2
variable [TB : Tabs]
section
variable {X : Cx} {K : PySem.W.Frag} {W : WZ} {σ : Z.St} {G G1 G2 H H1 H2 : Hp} {τ τ1 τ2 : Fr} {v x y : V} {l : LR} {d e : PyData} {a b c : Expr} {pos : Pos} {da db dc : ZD}

/-! ### isinstance -/
def isiTab (t c : String) : Bool := t == c || (t == "bool" && c == "int")
theorem kitB_tab : ∀ t ∈ ["NoneType", "bool", "int", "str", "list", "tuple", "dict"], ∀ c ∈ ["bool", "int", "str", "list", "tuple", "dict"], kitB t c = some (isiTab t c) := by decide +kernel
theorem tyD_mem (d : PyData) : tyD d ∈ ["NoneType", "bool", "int", "str", "list", "tuple", "dict"] := by cases d <;> simp [tyD]
theorem tyX_view (s : Sub G H) (h : VW K G H v d) : TyX K H v (.type (tyD d)) := by
  cases d with
  | none => rw [h.non]; exact .base .non
  | bool b => rw [h.bl]; exact .base (.bl b)
  | int i => rw [h.int]; exact .base (.int i)
  | str z => rw [h.str]; exact .base (.str z)
  | list ds => obtain ⟨a, vs, rfl, h1, q⟩ := h.lst s; exact .base (.lst h1)
  | tuple ds =>
    obtain ⟨a, vs, rfl, h1, q⟩ := h.tup s
    rcases h1 with (h1 | ⟨o, h1⟩) | ⟨o, its, n, h1, h2, _⟩
    · exact .base (.tup h1)
    · exact .fTuple h1
    · exact .kTuple h1 h2
  | dict kvs =>
    rcases h with h | ⟨ds, a, vs, e, _⟩
    · cases h
    · cases e
def zIsi (c : String) (a : ZD) : ZD := fun τ => (a τ).bind fun l τ1 => match rdD τ1 l with
  | some d => .ok (.cl (.fz (.bool (isiTab (tyD d) c)))) τ1
  | none => .stuck
theorem ze_isi {x y : Str} {p p2 : Pos} {c : String} (hg : Gl X x) (hm : X.mg x = none) (hv : bootBuiltins x = some (.builtin "isinstance")) (hgc : Gl X y) (hmc : X.mg y = none) (hvc : bootBuiltins y = some (.type c)) (hc : c ∈ ["bool", "int", "str", "list", "tuple", "dict"])
    (ha : ZE X W a da) (hn : x ≠ "__name__" := by decide) (hdb : (x == ("__debug__" : Str)) = false := by decide) (hn2 : y ≠ "__name__" := by decide) (hdb2 : (y == ("__debug__" : Str)) = false := by decide)
    (he : starEach [a, .Name y p2] X.env = (false, eval a X.env) :: starEach [.Name y p2] X.env := by rfl) (he2 : starEach [.Name y p2] X.env = (false, eval (.Name y p2) X.env) :: starEach [] X.env := by rfl)
    (hpl : (backTo pos (starEach [.Name y p2] X.env)).any (·.1) = false := by rfl) : ZE X W (.Call (.Name x p) [a, .Name y p2] [] pos) (zIsi c da) := by
  refine ⟨⟨fun pins s σ H Q I h => (pe_callB call_isi hg hm hv (pa_cons ha.pe (pa_cons (pe_bltn (v := .ty c) hgc hmc hvc rfl hn2 hdb2) pa_nil he2) he) hn hdb he hpl).run pins s σ H Q I ?_⟩⟩
  obtain ⟨G, τ, s, h⟩ := tZ_to h
  refine nextE (Ex.refl s) h fun l τ1 G1 H1 v e1 x1 r1 h1 => ?_
  cases q : rdD τ1 l with
  | none => rw [q] at h1; exact h1.elim
  | some d =>
    rw [q] at h1
    exact ⟨v, .ty c, .type (tyD d), .type c, _, rfl, .ty c, tyX_view x1.sr.sub (RL.view x1.sr r1 q), kit_ty (kitB_tab _ (tyD_mem d) _ hc), h1 G1 H1 _ x1 ⟨.bl _, fun o => nomatch o⟩⟩

/-! ### in, not in -/
def pIn (n : Bool) : PyData → PyData → Option RO
  | d, .list ds => if SeqAt.shaped d && SeqAt.shaped (.list ds) then sBl ((ds.any fun z => PyData.eqv z d) != n) else none
  | d, .tuple ds => if SeqAt.shaped d && SeqAt.shaped (.tuple ds) then sBl ((ds.any fun z => PyData.eqv z d) != n) else none
  | .str i, .str j => sBl ((!(Builtin.Str.occurrences j i 0 j.length 1).isEmpty) != n)
  | _, _ => none
def rInTup (K : PySem.W.Frag) (n : Bool) : R2 := fun x y H Q => ∃ d ds, Dp K H x d ∧ Dp K H y (.tuple ds) ∧ SeqAt.shaped d = true ∧ SeqAt.shaped (.tuple ds) = true ∧ Q (.bl ((ds.any fun z => PyData.eqv z d) != n)) H
theorem room_inT {A : Around} {d : PyData} {ds : List PyData} (hd : SeqAt.shaped d = true) (hu : A.units + 65 < cLine) : A.units + 1 + min (PyData.depthAll ds) d.depth < cLine := by
  have := SeqAt.depth_of_shaped hd
  omega
theorem op_inTup (hu : X.A.units + 65 < cLine) : OpR X (compareOp .In) (rInTup X.K false) := by
  intro pins s σ H x y v u Q I rx ry h
  obtain ⟨d, ds, hd, he, sd, se, q⟩ := h
  obtain ⟨as, r1⟩ := Dp.reads I d x v hd rx
  obtain ⟨bs, r2⟩ := Dp.reads I (.tuple ds) y u he ry
  exact SeqAt.in_tuple_reads r2 r1 (SeqAt.canLay_of_shaped se) (SeqAt.canLay_of_shaped sd) (room_inT sd hu) ⟨.bl _, H, I, rfl, by rw [Bool.bne_false] at q; exact q⟩
theorem op_notInTup (hu : X.A.units + 65 < cLine) : OpR X (compareOp .NotIn) (rInTup X.K true) := by
  intro pins s σ H x y v u Q I rx ry h
  obtain ⟨d, ds, hd, he, sd, se, q⟩ := h
  obtain ⟨as, r1⟩ := Dp.reads I d x v hd rx
  obtain ⟨bs, r2⟩ := Dp.reads I (.tuple ds) y u he ry
  exact SeqAt.notIn_tuple_reads r2 r1 (SeqAt.canLay_of_shaped se) (SeqAt.canLay_of_shaped sd) (room_inT sd hu) ⟨.bl _, H, I, rfl, by rw [Bool.bne_true] at q; exact q⟩
def rInZ (K : PySem.W.Frag) : R2 := fun x y H Q => rInD K x y H Q ∨ rInTup K false x y H Q ∨ ∃ i j, x = .str i ∧ y = .str j ∧ Q (.bl (!(Builtin.Str.occurrences j i 0 j.length 1).isEmpty)) H
def rNotInZ (K : PySem.W.Frag) : R2 := fun x y H Q => rNotInD K x y H Q ∨ rInTup K true x y H Q ∨ ∃ i j, x = .str i ∧ y = .str j ∧ Q (.bl (!(!(Builtin.Str.occurrences j i 0 j.length 1).isEmpty))) H
theorem opr_in (hu : X.A.units + 65 < cLine) : OpR X (compareOp .In) (rInZ X.K) := OpR.or (op_inD hu) (OpR.or (op_inTup hu) op_in_str)
theorem opr_notIn (hu : X.A.units + 65 < cLine) : OpR X (compareOp .NotIn) (rNotInZ X.K) := OpR.or (op_notInD hu) (OpR.or (op_notInTup hu) op_notin_str)
theorem op2_in : Op2 K (pIn false) (rInZ K) := by
  intro G H x y Q d e r s vx vy h q
  unfold pIn at h
  split at h
  · split at h
    · cases h
      rename_i hz
      rw [Bool.and_eq_true] at hz
      have := q.1 _ (.bl _)
      rw [Bool.bne_false] at this
      exact .inl ⟨_, _, vx.dp s, vy.dp s, hz.1, hz.2, this⟩
    · cases h
  · split at h
    · cases h
      rename_i hz
      rw [Bool.and_eq_true] at hz
      exact .inr (.inl ⟨_, _, vx.dp s, vy.dp s, hz.1, hz.2, q.1 _ (.bl _)⟩)
    · cases h
  · cases h
    have := q.1 _ (.bl _)
    rw [Bool.bne_false] at this
    exact .inr (.inr ⟨_, _, vx.str, vy.str, this⟩)
  · cases h
theorem op2_notIn : Op2 K (pIn true) (rNotInZ K) := by
  intro G H x y Q d e r s vx vy h q
  unfold pIn at h
  split at h
  · split at h
    · cases h
      rename_i hz
      rw [Bool.and_eq_true] at hz
      have := q.1 _ (.bl _)
      rw [Bool.bne_true] at this
      exact .inl ⟨_, _, vx.dp s, vy.dp s, hz.1, hz.2, this⟩
    · cases h
  · split at h
    · cases h
      rename_i hz
      rw [Bool.and_eq_true] at hz
      exact .inr (.inl ⟨_, _, vx.dp s, vy.dp s, hz.1, hz.2, q.1 _ (.bl _)⟩)
    · cases h
  · cases h
    have := q.1 _ (.bl _)
    rw [Bool.bne_true] at this
    exact .inr (.inr ⟨_, _, vx.str, vy.str, this⟩)
  · cases h

/-! ### sequences that are read, the script among them -/
def Cell.datS : Cell → Option PyData
  | .scr ns => some (.list (ns.map .int))
  | c => c.dat
def rdS (τ : Fr) (l : LR) : Option PyData := (rdL τ l).bind Cell.datS
/-- a sequence that is read -/
def VS (K : PySem.W.Frag) (G H : Hp) (v : V) (d : PyData) : Prop := VW K G H v d ∨ ∃ (ns : List Int) (a : Addr), d = .list (ns.map .int) ∧ v = .ref a ∧ SqL K G a (ns.map V.int)
theorem rds_ints : ∀ ns : List Int, RDs K G (ns.map V.int) (ns.map .int)
  | [] => .nil
  | n :: ns => .cons (.int n) (rds_ints ns)
theorem VS.lst {ds : List PyData} (s : Sub G H) (h : VS K G H v (.list ds)) : ∃ a vs, v = .ref a ∧ SqL K H a vs ∧ RDs K G vs ds := by
  rcases h with h | ⟨ns, a, e, rfl, h⟩
  · obtain ⟨a, vs, e, h1, q⟩ := h.lst s; exact ⟨a, vs, e, SqL.of h1, q⟩
  · cases e; exact ⟨a, _, rfl, sql_mono s h, rds_ints ns⟩
theorem VS.vw (h : VS K G H v d) (n : ∀ ds, d ≠ .list ds) : VW K G H v d := by
  rcases h with h | ⟨ns, a, e, rfl, h⟩
  · exact h
  · exact (n _ e).elim
theorem RL.viewS (x : SR K G1 τ1 σ H1) (r : RL K σ H τ1 G1 H1 v l) (h : rdS τ1 l = some d) : VS K G1 H1 v d := by
  obtain ⟨c, q, h⟩ := Option.bind_eq_some_iff.mp h
  cases c with
  | scr ns =>
    cases h
    obtain ⟨a, e, z⟩ := r.cell x q
    exact .inr ⟨ns, a, rfl, e, z⟩
  | fz d' => exact .inl (RL.view x r (by unfold rdD; rw [q]; exact h))
  | lst b k ds => exact .inl (RL.view x r (by unfold rdD; rw [q]; exact h))
  | dct b k t kvs => cases h
  | exc n => cases h
def Op1S (K : PySem.W.Frag) (f : PyData → Option RO) (R : V → Hp → VK → Prop) : Prop :=
  ∀ (G H : Hp) (x : V) (Q : VK) (d : PyData) (r : RO), Sub G H → VS K G H x d → f d = some r → RoQ K G H r Q → R x H Q
def Op2S (K : PySem.W.Frag) (f : PyData → PyData → Option RO) (R : R2) : Prop :=
  ∀ (G H : Hp) (x y : V) (Q : VK) (d e : PyData) (r : RO), Sub G H → VS K G H x d → VW K G H y e → f d e = some r → RoQ K G H r Q → R x y H Q
def app1S (f : PyData → Option RO) (τ : Fr) (l : LR) : Option RO := match rdS τ l with
  | some d => f d
  | none => none
def z1S (f : PyData → Option RO) (a : ZD) : ZD := fun τ => (a τ).bind fun l τ1 => ret (app1S f τ1 l) τ1
def app2S (f : PyData → PyData → Option RO) (τ : Fr) (l m : LR) : Option RO := match rdS τ l, rdD τ m with
  | some d, some e => f d e
  | _, _ => none
def z2S (f : PyData → PyData → Option RO) (a b : ZD) : ZD := fun τ => (a τ).bind fun l τ1 => (b τ1).bind fun m τ2 => ret (app2S f τ2 l m) τ2
theorem tz_op1S {f : PyData → Option RO} {R : V → Hp → VK → Prop} {Q : VK} (hr : Op1S K f R) (h : tZ K W (z1S f da) σ H Q) : tUn R (tZ K W da) σ H Q := by
  obtain ⟨G, τ, s, h⟩ := tZ_to h
  refine nextE (Ex.refl s) h fun l τ1 G1 H1 v e1 x1 r1 h1 => ?_
  obtain ⟨r, er, h1⟩ := ret_some h1
  unfold app1S at er
  split at er
  · rename_i d hd
    exact hr G1 H1 v Q d r x1.sr.sub (RL.viewS x1.sr r1 hd) er (roq_of x1 h1)
  · cases er
theorem tz_op2S {f : PyData → PyData → Option RO} {R : R2} {Q : VK} (hr : Op2S K f R) (h : tZ K W (z2S f da db) σ H Q) : tOp R (tZ K W da) (tZ K W db) σ H Q := by
  obtain ⟨G, τ, s, h⟩ := tZ_to h
  refine nextE (Ex.refl s) h fun l τ1 G1 H1 v e1 x1 r1 h1 => ?_
  refine nextE x1 h1 fun m τ2 G2 H2 u e2 x2 r2 h2 => ?_
  obtain ⟨r, er, h2⟩ := ret_some h2
  have x := x1.trans x2
  have r1' := r1.keep s x1 x2
  unfold app2S at er
  split at er
  · rename_i d e hd he
    exact hr G2 H2 v u Q d e r x.sr.sub (RL.viewS x.sr r1' hd) (RL.view x.sr r2 he) er (roq_of x h2)
  · cases er
theorem op1S_len : Op1S K pLen fun x H Q => (∃ p ys, [x] = [V.ref p] ∧ (SqL K H p ys ∨ SqT K H p ys) ∧ Q (.int ys.length) H) ∨ ∃ z, [x] = [V.str z] ∧ z.length ≤ sizeLine ∧ Q (.int z.length) H := by
  intro G H x Q d r s vx h q
  cases d with
  | list ds =>
    cases h
    obtain ⟨a, vs, rfl, h1, q1⟩ := vx.lst s
    exact .inl ⟨a, vs, rfl, .inl h1, by rw [dps_len q1]; exact q.1 _ (.int _)⟩
  | _ => exact op1_len G H x Q _ r s (vx.vw (fun ds z => by cases z)) h q
theorem ze_len {x : Str} {p : Pos} (hg : Gl X x) (hm : X.mg x = none) (hv : bootBuiltins x = some (.builtin "len")) (ha : ZE X W a da) (hn : x ≠ "__name__" := by decide) (hdb : (x == ("__debug__" : Str)) = false := by decide)
    (he : starEach [a] X.env = (false, eval a X.env) :: starEach [] X.env := by rfl) : ZE X W (.Call (.Name x p) [a] [] pos) (z1S pLen da) :=
  ⟨⟨fun pins s σ H Q I h => (pe_callB cr_len hg hm hv (pa1 ha.pe he) hn hdb he (by rfl)).run pins s σ H Q I (tz_op1S op1S_len h)⟩⟩

/-! ### subscripts -/
def pIx : PyData → PyData → Option RO
  | .list ds, .int i => (atI ds i).map .sc
  | .tuple ds, .int i => (atI ds i).map .sc
  | .str z, .int i => if z.length ≤ sizeLine then (atI z.cps.toList i).map fun c => .sc (.str ⟨#[c]⟩) else none
  | _, _ => none
theorem rds_atI {vs : List V} {ds : List PyData} {i : Int} (q : RDs K G vs ds) (h : atI ds i = some d) : ∃ v, atI vs i = some v ∧ RD K G v d := by
  unfold atI at h ⊢
  obtain ⟨j, h1, h2⟩ := Option.bind_eq_some_iff.mp h
  obtain ⟨v, h3, h4⟩ := dps_get q h2
  exact ⟨v, by rw [dps_len q, h1]; exact h3, h4⟩
theorem op2S_ix : Op2S K pIx (rIx K) := by
  intro G H x y Q d e r s vx vy h q
  unfold pIx at h
  split at h
  · obtain ⟨d', h1, rfl⟩ := Option.map_eq_some_iff.mp h
    obtain ⟨a, vs, rfl, h2, q1⟩ := vx.lst s
    obtain ⟨u, h3, h4⟩ := rds_atI q1 h1
    exact .inl ⟨a, vs, _, u, rfl, vy.int, h2, h3, q.1 _ h4⟩
  · obtain ⟨d', h1, rfl⟩ := Option.map_eq_some_iff.mp h
    obtain ⟨a, vs, rfl, h2, q1⟩ := (vx.vw (fun ds z => by cases z)).tup s
    obtain ⟨u, h3, h4⟩ := rds_atI q1 h1
    exact .inr (.inl ⟨a, vs, _, u, rfl, vy.int, h2, h3, q.1 _ h4⟩)
  · split at h
    · rename_i hz
      obtain ⟨c, h1, rfl⟩ := Option.map_eq_some_iff.mp h
      exact .inr (.inr ⟨_, _, c, (vx.vw (fun ds z => by cases z)).str, vy.int, hz, h1, q.1 _ (.str _)⟩)
    · cases h
  · cases h
theorem ze_ix (ha : ZE X W a da) (hb : ZE X W b db) (hs : PlainIx b := by exact fun _ _ => rfl) : ZE X W (.Subscript a b pos) (z2S pIx da db) :=
  ⟨⟨fun pins s σ H Q I h => (pe_ix ix_seq ha.pe hb.pe hs).run pins s σ H Q I (tz_op2S op2S_ix h)⟩⟩

/-! ### slices -/
abbrev ZO := Fr → Res (Option Int)
def FinO (K : PySem.W.Frag) (W : WZ) (σ : Z.St) (G : Hp) (τ : Fr) (H : Hp) (r : Res (Option Int)) (Q : Option Int → Hp → Prop) : Prop := match r with
  | .ok b τ' => ∀ G' H', Ex K σ G τ H G' τ' H' → Q b H'
  | .exc n τ' => ∀ G' H', Ex K σ G τ H G' τ' H' → W n σ H'
  | .stuck => False
structure ZOp (X : Cx) (W : WZ) (e : Option Expr) (d : ZO) : Prop where
  po : PO X e fun σ H Q => ∃ G τ, SR X.K G τ σ H ∧ FinO X.K W σ G τ H (d τ) Q
def zNoP : ZO := fun τ => .ok none τ
def zP (a : ZD) : ZO := fun τ => (a τ).bind fun l τ1 => match rdD τ1 l with
  | some (.int i) => .ok (some i) τ1
  | _ => .stuck
theorem zo_none : ZOp X W none zNoP := ⟨⟨fun pins s σ H Q I h => po_none.run pins s σ H Q I (by obtain ⟨G, τ, r, h⟩ := h; exact h G H (Ex.refl r))⟩⟩
theorem zo_some (ha : ZE X W a da) : ZOp X W (some a) (zP da) := by
  refine ⟨⟨fun pins s σ H Q I h => (po_some ha.pe).run pins s σ H Q I ?_⟩⟩
  obtain ⟨G, τ, s, h⟩ := h
  refine ⟨G, τ, s, ?_⟩
  cases e : da τ with
  | ok l τ2 =>
    have h : FinO X.K W σ G τ H ((da τ).bind fun l τ1 => match rdD τ1 l with
      | some (.int i) => .ok (some i) τ1
      | _ => .stuck) Q := h
    rw [e] at h
    intro G2 H2 v y r
    dsimp only [Res.bind] at h
    split at h
    · rename_i i hi
      exact ⟨i, (RL.view y.sr r hi).int, h G2 H2 y⟩
    · exact h.elim
  | exc n τ2 =>
    have h : FinO X.K W σ G τ H ((da τ).bind fun l τ1 => match rdD τ1 l with
      | some (.int i) => .ok (some i) τ1
      | _ => .stuck) Q := h
    rw [e] at h
    exact h
  | stuck =>
    have h : FinO X.K W σ G τ H ((da τ).bind fun l τ1 => match rdD τ1 l with
      | some (.int i) => .ok (some i) τ1
      | _ => .stuck) Q := h
    rw [e] at h; exact h
/-- the cut of a list of anything -/
def cutD {α : Type} (xs : List α) (lo hi : Option Int) : List α := (xs.drop (HT.sIx xs.length 0 lo)).take (HT.sIx xs.length xs.length hi - HT.sIx xs.length 0 lo)
def pSl (lo hi : Option Int) : PyData → Option RO
  | .list ds => some (.nl (cutD ds lo hi))
  | .tuple ds => some (.sc (.tuple (cutD ds lo hi)))
  | .str z => if z.length ≤ sizeLine then some (.sc (.str (cutS z lo hi))) else none
  | _ => none
theorem rds_cut {vs : List V} {ds : List PyData} (q : RDs K G vs ds) (lo hi : Option Int) : RDs K G (cutV vs lo hi) (cutD ds lo hi) := by
  unfold cutV cutD
  rw [dps_len q]
  exact dps_take _ (dps_drop _ q)
def rSlZ (K : PySem.W.Frag) : V → Option Int → Option Int → Hp → VK → Prop := fun x lo hi H Q => rSlL K x lo hi H Q ∨ rSlA K x lo hi H Q ∨ rSlS x lo hi H Q
theorem slr_all : SlR X (rSlZ X.K) := SlR.or sl_list (SlR.or sl_tupA sl_str)
theorem cut_whole {α : Type} {xs : List α} {lo hi : Option Int} (h : HT.sIx xs.length 0 lo = 0 ∧ HT.sIx xs.length xs.length hi = xs.length) : cutD xs lo hi = xs := by
  unfold cutD
  rw [h.1, h.2]
  simp
theorem op1S_sl {lo hi : Option Int} : Op1S K (pSl lo hi) fun x H Q => rSlZ K x lo hi H Q := by
  intro G H x Q d r s vx h q
  unfold pSl at h
  split at h
  · cases h
    obtain ⟨a, vs, rfl, h2, q1⟩ := vx.lst s
    exact .inl ⟨a, vs, rfl, h2, fun p hp => q p _ hp (rds_cut q1 lo hi)⟩
  · cases h
    have vt := vx.vw (fun ds z => by cases z)
    obtain ⟨a, vs, rfl, h2, q1⟩ := vt.tup s
    refine .inr (.inl ⟨a, vs, rfl, h2, fun w => ?_, fun _ p hp => q.2 _ rfl p _ hp (rds_cut q1 lo hi)⟩)
    rw [dps_len q1] at w
    refine q.1 _ ?_
    rw [cut_whole w]
    exact vt.tupG
  · split at h
    · cases h
      rename_i hz
      exact .inr (.inr ⟨_, (vx.vw (fun ds z => by cases z)).str, hz, q.1 _ (.str _)⟩)
    · cases h
  · cases h
def zSl (a : ZD) (lo hi : ZO) : ZD := fun τ => (a τ).bind fun l τ1 => (lo τ1).bind fun i τ2 => (hi τ2).bind fun j τ3 => ret (app1S (pSl i j) τ3 l) τ3
/-- a bound that an expression goes on with -/
theorem nextO {β : ZO} {k : Option Int → Fr → Res LR} {Q : VK} {Q1 : Option Int → Hp → Prop} (x : Ex K σ G τ H G1 τ1 H1) (h : Fin K W σ G τ H ((β τ1).bind k) Q)
    (hk : ∀ b τ2 G2 H2, β τ1 = .ok b τ2 → Ex K σ G1 τ1 H1 G2 τ2 H2 → Fin K W σ G τ H (k b τ2) Q → Q1 b H2) : ∃ G τ, SR K G τ σ H1 ∧ FinO K W σ G τ H1 (β τ) Q1 := by
  refine ⟨G1, τ1, x.sr, ?_⟩
  cases e : β τ1 with
  | ok l τ2 =>
    rw [e] at h
    exact fun G2 H2 y => hk l τ2 G2 H2 e y h
  | exc n τ2 =>
    rw [e] at h
    exact fun G2 H2 y => h G2 H2 (x.trans y)
  | stuck => rw [e] at h; exact h
theorem ze_sl {lo hi : Option Expr} {p2 : Pos} {dl dh : ZO} (ha : ZE X W a da) (hl : ZOp X W lo dl) (hh : ZOp X W hi dh) : ZE X W (.Subscript a (.Slice lo hi none p2) pos) (zSl da dl dh) := by
  refine ⟨⟨fun pins s σ H Q I h => (pe_slice slr_all ha.pe hl.po hh.po).run pins s σ H Q I ?_⟩⟩
  obtain ⟨G, τ, s, h⟩ := tZ_to h
  refine nextE (Ex.refl s) h fun l τ1 G1 H1 v e1 x1 r1 h1 => ?_
  refine nextO x1 h1 fun i τ2 G2 H2 e2 x2 h2 => ?_
  have y2 := x1.trans x2
  refine nextO y2 h2 fun j τ3 G3 H3 e3 x3 h3 => ?_
  have y3 := y2.trans x3
  have r3 := r1.keep s x1 (x2.trans x3)
  obtain ⟨r, er, h3⟩ := ret_some h3
  unfold app1S at er
  split at er
  · rename_i d hd
    exact op1S_sl G3 H3 v Q d r y3.sr.sub (RL.viewS y3.sr r3 hd) er (roq_of y3 h3)
  · cases er

/-! ### displays -/
abbrev ZAD := Fr → Res (List PyData)
def FinA (K : PySem.W.Frag) (W : WZ) (σ : Z.St) (G : Hp) (τ : Fr) (H : Hp) (r : Res (List PyData)) (Q : List V → Hp → Prop) : Prop := match r with
  | .ok ds τ' => ∀ G' H' vs, Ex K σ G τ H G' τ' H' → RDs K G' vs ds → Q vs H'
  | .exc n τ' => ∀ G' H', Ex K σ G τ H G' τ' H' → W n σ H'
  | .stuck => False
def tZA (K : PySem.W.Frag) (W : WZ) (d : ZAD) : TA := fun σ H Q => ∃ G τ, SR K G τ σ H ∧ FinA K W σ G τ H (d τ) Q
structure ZA (X : Cx) (W : WZ) (es : List Expr) (d : ZAD) : Prop where
  pa : PA X es (tZA X.K W d)
def zaN : ZAD := fun τ => .ok [] τ
def zaC (a : ZD) (r : ZAD) : ZAD := fun τ => (zF a τ).bind fun l τ1 => match l with
  | .cl (.fz d) => (r τ1).bind fun ds τ2 => .ok (d :: ds) τ2
  | _ => .stuck
theorem za_nil : ZA X W [] zaN := ⟨⟨fun pos pins s σ H Q I h => pa_nil.run pos pins s σ H Q I (by obtain ⟨G, τ, r, h⟩ := h; exact h G H [] (Ex.refl r) .nil)⟩⟩
theorem za_cons {es : List Expr} {dr : ZAD} (ha : ZE X W a da) (hr : ZA X W es dr) (hs : starEach (a :: es) X.env = (false, eval a X.env) :: starEach es X.env := by rfl) : ZA X W (a :: es) (zaC da dr) := by
  refine ⟨⟨fun pos pins s σ H Q I h => (pa_cons (ze_dat ha).pe hr.pa hs).run pos pins s σ H Q I ?_⟩⟩
  obtain ⟨G, τ, s, h⟩ := h
  refine ⟨G, τ, s, ?_⟩
  unfold zaC at h
  cases e : zF da τ with
  | stuck => rw [e] at h; exact h
  | exc n τ2 => rw [e] at h; exact h
  | ok l τ1 =>
    rw [e] at h
    intro G1 H1 v x1 r1
    cases l with
    | sl i => exact h.elim
    | cl c =>
      cases c with
      | lst _ _ _ => exact h.elim
      | dct _ _ _ _ => exact h.elim
      | exc _ => exact h.elim
      | scr _ => exact h.elim
      | fz d =>
        refine ⟨G1, τ1, x1.sr, ?_⟩
        dsimp only [Res.bind] at h
        cases e2 : dr τ1 with
        | stuck => rw [e2] at h; exact h
        | exc n τ2 => rw [e2] at h; exact fun G2 H2 y => h G2 H2 (x1.trans y)
        | ok ds τ2 =>
          rw [e2] at h
          exact fun G2 H2 vs y q => h G2 H2 (v :: vs) (x1.trans y) (.cons (dp_mono y.kp.1 _ _ r1.1) q)
def zTup (a : ZAD) : ZD := fun τ => (a τ).bind fun ds τ1 => if ds.length ≤ sizeLine then .ok (.cl (.fz (.tuple ds))) τ1 else .stuck
def zLst (a : ZAD) : ZD := fun τ => (a τ).bind fun ds τ1 => if ds.length ≤ sizeLine then .ok (.cl (.lst false false ds)) τ1 else .stuck
theorem nextA {β : ZAD} {k : List PyData → Fr → Res LR} {Q : VK} {Q1 : List V → Hp → Prop} (x : Ex K σ G τ H G1 τ1 H1) (h : Fin K W σ G τ H ((β τ1).bind k) Q)
    (hk : ∀ ds τ2 G2 H2 vs, β τ1 = .ok ds τ2 → Ex K σ G1 τ1 H1 G2 τ2 H2 → RDs K G2 vs ds → Fin K W σ G τ H (k ds τ2) Q → Q1 vs H2) : tZA K W β σ H1 Q1 := by
  refine ⟨G1, τ1, x.sr, ?_⟩
  cases e : β τ1 with
  | ok l τ2 =>
    rw [e] at h
    exact fun G2 H2 vs y q => hk l τ2 G2 H2 vs e y q h
  | exc n τ2 =>
    rw [e] at h
    exact fun G2 H2 y => h G2 H2 (x.trans y)
  | stuck => rw [e] at h; exact h
theorem ze_tup {es : List Expr} {k : Nat} {dr : ZAD} (ha : ZA X W es dr) : ZE X W (.Tuple es k pos) (zTup dr) := by
  refine ⟨⟨fun pins s σ H Q I h => (pe_tup ha.pa).run pins s σ H Q I ?_⟩⟩
  obtain ⟨G, τ, s, h⟩ := tZ_to h
  refine nextA (Ex.refl s) h fun ds τ1 G1 H1 vs e1 x1 q1 h1 => ?_
  split at h1
  · rename_i hz
    exact ⟨by rw [dps_len q1]; exact hz, fun p hp => (roq_of (r := .sc (.tuple ds)) x1 h1).2 _ rfl p vs hp q1⟩
  · exact h1.elim
theorem ze_lst {es : List Expr} {dr : ZAD} (ha : ZA X W es dr) : ZE X W (.List es pos) (zLst dr) := by
  refine ⟨⟨fun pins s σ H Q I h => (pe_lst ha.pa).run pins s σ H Q I ?_⟩⟩
  obtain ⟨G, τ, s, h⟩ := tZ_to h
  refine nextA (Ex.refl s) h fun ds τ1 G1 H1 vs e1 x1 q1 h1 => ?_
  split at h1
  · rename_i hz
    exact ⟨by rw [dps_len q1]; exact hz, fun p hp => (roq_of (r := .nl ds) x1 h1) p vs hp q1⟩
  · exact h1.elim
end
end Z

/-! Z6: statements, while, for. -/
namespace Z
open PySem PySem.Spec PyProof.Rows L2
variable [TB : Tabs]
inductive Fl where
  | nx
  | rt (c : Cell)
  | bk
  | ct
abbrev ZSD := Fr → Res Fl
/-- what a statement does -/
structure Sx (K : PySem.W.Frag) (G : Hp) (τ : Fr) (σ : Z.St) (H : Hp) (G' : Hp) (τ' : Fr) (σ' : Z.St) (H' : Hp) : Prop where
  sr : SR K G' τ' σ' H'
  kp : Kp (Ownd τ σ) G H G' H'
  ownN : ∀ a, OwnN τ' σ' a → OwnN τ σ a ∨ H a = none
  keepL : ∀ (i : Nat) (c' : Cell), τ'[i]? = some (some c') → c'.obj = true → (c'.lent = true ∨ c'.lk = true) → ∃ c : Cell, τ[i]? = some (some c) ∧ c.obj = true ∧ c.lent = c'.lent ∧ c.lk = c'.lk ∧ σ'[i]? = σ[i]?
section
variable {X : Cx} {K : PySem.W.Frag} {W : WZ} {σ σ1 σ2 : Z.St} {G G1 G2 H H1 H2 : Hp} {τ τ1 τ2 : Fr} {v x y : V} {l : LR} {d e : PyData} {a b c : Expr} {pos : Pos} {da db dc : ZD}
theorem Ex.ownN (x : Ex K σ G τ H G1 τ1 H1) {a : Addr} (h : OwnN τ1 σ a) : OwnN τ σ a := by
  obtain ⟨i, c, h1, h2, h3, h4, h5⟩ := h
  obtain ⟨c0, z1, z2, z3, z4⟩ := x.mode i c h1 h2
  exact ⟨i, c0, z1, z2, z4.trans h3, z3.trans h4, h5⟩
theorem Ex.sx (x : Ex K σ G τ H G1 τ1 H1) : Sx K G τ σ H G1 τ1 σ H1 :=
  ⟨x.sr, x.kp, fun a h => .inl (x.ownN h), fun i c h o _ => by
    obtain ⟨c0, z1, z2, z3, z4⟩ := x.mode i c h o
    exact ⟨c0, z1, z2, z3, z4, rfl⟩⟩
theorem Sx.refl (s : SR K G τ σ H) : Sx K G τ σ H G τ σ H := (Ex.refl s).sx
theorem Sx.own (x : Sx K G τ σ H G1 τ1 σ1 H1) {a : Addr} (h : Ownd τ1 σ1 a) : Ownd τ σ a ∨ H a = none := by
  obtain ⟨i, c, h1, h2, h3, h5⟩ := h
  cases e : c.lent with
  | false => exact (x.ownN a ⟨i, c, h1, h2, h3, e, h5⟩).imp OwnN.ownd id
  | true =>
    obtain ⟨c0, z1, z2, z3, z4, z5⟩ := x.keepL i c h1 h2 (.inl e)
    exact .inl ⟨i, c0, z1, z2, z4.trans h3, by rw [← z5]; exact h5⟩
theorem Sx.trans (x : Sx K G τ σ H G1 τ1 σ1 H1) (y : Sx K G1 τ1 σ1 H1 G2 τ2 σ2 H2) : Sx K G τ σ H G2 τ2 σ2 H2 :=
  ⟨y.sr, x.kp.trans y.kp fun a h => x.own h, fun a h => by
    rcases y.ownN a h with h | h
    · exact x.ownN a h
    · exact .inr (x.kp.2.2 a h), fun i c h o m => by
    obtain ⟨c1, z1, z2, z3, z4, z5⟩ := y.keepL i c h o m
    obtain ⟨c0, w1, w2, w3, w4, w5⟩ := x.keepL i c1 z1 z2 (by rw [z3, z4]; exact m)
    exact ⟨c0, w1, w2, w3.trans z3, w4.trans z4, z5.trans w5⟩⟩
/-- a value that is handed back: an own thing is the frame's own, or new -/
def RtOk (K : PySem.W.Frag) (τ : Fr) (σ : Z.St) (H G' H' : Hp) (v : V) (c : Cell) : Prop :=
  CR K G' H' v c ∧ (c.obj = true → c.lent = false ∧ c.lk = false ∧ ∀ a, v = .ref a → OwnN τ σ a ∨ H a = none)
def FinS (K : PySem.W.Frag) (W : WZ) (σ : Z.St) (G : Hp) (τ : Fr) (H : Hp) (r : Res Fl) (D : Ends) : Prop := match r with
  | .ok .nx τ' => ∀ G' σ' H', Sx K G τ σ H G' τ' σ' H' → D.nx σ' H'
  | .ok .bk τ' => ∀ G' σ' H', Sx K G τ σ H G' τ' σ' H' → D.bk σ' H'
  | .ok .ct τ' => ∀ G' σ' H', Sx K G τ σ H G' τ' σ' H' → D.ct σ' H'
  | .ok (.rt c) τ' => ∀ G' σ' H' v, Sx K G τ σ H G' τ' σ' H' → RtOk K τ σ H G' H' v c → D.rt v H'
  | .exc n τ' => ∀ G' σ' H', Sx K G τ σ H G' τ' σ' H' → W n σ' H'
  | .stuck => False
def tZS (K : PySem.W.Frag) (W : WZ) (d : ZSD) : TS := fun D σ H => ∃ G τ, SR K G τ σ H ∧ FinS K W σ G τ H (d τ) D
structure ZS (X : Cx) (W : WZ) (st : Stmt) (d : ZSD) : Prop where
  ps : PS X st (tZS X.K W d)
structure ZSs (X : Cx) (W : WZ) (st : List Stmt) (d : ZSD) : Prop where
  ps : PSs X st (tZS X.K W d)
theorem RtOk.back (x : Sx K G τ σ H G1 τ1 σ1 H1) {c : Cell} (r : RtOk K τ1 σ1 H1 G2 H2 v c) : RtOk K τ σ H G2 H2 v c :=
  ⟨r.1, fun o => ⟨(r.2 o).1, (r.2 o).2.1, fun a e => by
    rcases (r.2 o).2.2 a e with h | h
    · exact x.ownN a h
    · exact .inr (x.kp.2.2 a h)⟩⟩
theorem FinS.from {r : Res Fl} {D : Ends} (x : Sx K G τ σ H G1 τ1 σ1 H1) (h : FinS K W σ G τ H r D) : FinS K W σ1 G1 τ1 H1 r D := by
  cases r with
  | ok f τ2 =>
    cases f with
    | nx => exact fun G2 σ2 H2 y => h G2 σ2 H2 (x.trans y)
    | bk => exact fun G2 σ2 H2 y => h G2 σ2 H2 (x.trans y)
    | ct => exact fun G2 σ2 H2 y => h G2 σ2 H2 (x.trans y)
    | rt c => exact fun G2 σ2 H2 v y q => h G2 σ2 H2 v (x.trans y) (q.back x)
  | exc n τ2 => exact fun G2 σ2 H2 y => h G2 σ2 H2 (x.trans y)
  | stuck => exact h
def Res.bindE {α : Type} (r : Res α) (f : α → Fr → Res Fl) : Res Fl := r.bind f
theorem nextS {β : ZD} {k : LR → Fr → Res Fl} {D : Ends} {Q1 : VK} (x : Sx K G τ σ H G1 τ1 σ1 H1) (h : FinS K W σ G τ H ((β τ1).bind k) D)
    (hk : ∀ l τ2 G2 H2 v, β τ1 = .ok l τ2 → Ex K σ1 G1 τ1 H1 G2 τ2 H2 → RL K σ1 H1 τ2 G2 H2 v l → FinS K W σ G τ H (k l τ2) D → Q1 v H2) : tZ K W β σ1 H1 Q1 := by
  refine ⟨G1, τ1, x.sr, ?_⟩
  cases e : β τ1 with
  | ok l τ2 =>
    rw [e] at h
    exact fun G2 H2 v y r => hk l τ2 G2 H2 v e y r h
  | exc n τ2 =>
    rw [e] at h
    exact fun G2 H2 y => h G2 σ1 H2 (x.trans y.sx)
  | stuck => rw [e] at h; exact h
theorem nextST {β : ZTD} {k : Bool → Fr → Res Fl} {D : Ends} {Q1 : Bool → Hp → Prop} (x : Sx K G τ σ H G1 τ1 σ1 H1) (h : FinS K W σ G τ H ((β τ1).bind k) D)
    (hk : ∀ l τ2 G2 H2, β τ1 = .ok l τ2 → Ex K σ1 G1 τ1 H1 G2 τ2 H2 → FinS K W σ G τ H (k l τ2) D → Q1 l H2) : tZT K W β σ1 H1 Q1 := by
  refine ⟨G1, τ1, x.sr, ?_⟩
  cases e : β τ1 with
  | ok l τ2 =>
    rw [e] at h
    exact fun G2 H2 y => hk l τ2 G2 H2 e y h
  | exc n τ2 =>
    rw [e] at h
    exact fun G2 H2 y => h G2 σ1 H2 (x.trans y.sx)
  | stuck => rw [e] at h; exact h

/-! ### blocks, if, return -/
def zNx : ZSD := fun τ => .ok .nx τ
def zSeq (p q : ZSD) : ZSD := fun τ => match p τ with
  | .ok .nx τ1 => q τ1
  | .ok f τ1 => .ok f τ1
  | .exc n τ1 => .exc n τ1
  | .stuck => .stuck
theorem zss_nil : ZSs X W [] zNx := ⟨⟨fun pins s σ H D I h => pss_nil.run pins s σ H D I (by obtain ⟨G, τ, r, h⟩ := h; exact h G σ H (Sx.refl r))⟩⟩
theorem zss_one {st : Stmt} {p : ZSD} (h : ZS X W st p) : ZSs X W [st] p := ⟨pss_one h.ps⟩
theorem zss_cons {st : Stmt} {rest : List Stmt} {p q : ZSD} (h1 : ZS X W st p) (h2 : ZSs X W rest q) : ZSs X W (st :: rest) (zSeq p q) := by
  refine ⟨⟨fun pins s σ H D I h => (pss_cons h1.ps h2.ps).run pins s σ H D I ?_⟩⟩
  obtain ⟨G, τ, s, h⟩ := h
  refine ⟨G, τ, s, ?_⟩
  unfold zSeq at h
  cases e : p τ with
  | stuck => rw [e] at h; exact h
  | exc n τ1 => rw [e] at h; exact h
  | ok f τ1 =>
    rw [e] at h
    cases f with
    | nx => exact fun G1 σ1 H1 x => ⟨G1, τ1, x.sr, h.from x⟩
    | bk => exact h
    | ct => exact h
    | rt c => exact h
def zBk : ZSD := fun τ => .ok .bk τ
def zCt : ZSD := fun τ => .ok .ct τ
theorem zs_pass : ZS X W (.Pass pos) zNx := ⟨⟨fun pins s σ H D I h => ps_pass.run pins s σ H D I (by obtain ⟨G, τ, r, h⟩ := h; exact h G σ H (Sx.refl r))⟩⟩
theorem zs_break : ZS X W (.Break pos) zBk := ⟨⟨fun pins s σ H D I h => ps_break.run pins s σ H D I (by obtain ⟨G, τ, r, h⟩ := h; exact h G σ H (Sx.refl r))⟩⟩
theorem zs_continue : ZS X W (.Continue pos) zCt := ⟨⟨fun pins s σ H D I h => ps_continue.run pins s σ H D I (by obtain ⟨G, τ, r, h⟩ := h; exact h G σ H (Sx.refl r))⟩⟩
theorem zs_doc {x j pos pos'} : ZS X W (.Expr (.Constant (.str x) j pos) pos') zNx := ⟨⟨fun pins s σ H D I h => ps_doc.run pins s σ H D I (by obtain ⟨G, τ, r, h⟩ := h; exact h G σ H (Sx.refl r))⟩⟩
def zExpr (a : ZD) : ZSD := fun τ => (a τ).bind fun _ τ1 => .ok .nx τ1
theorem zs_expr (ha : ZE X W a da) (hs : swapsWith a none pos.line X.env = pure false := by rfl) : ZS X W (.Expr a pos) (zExpr da) := by
  refine ⟨⟨fun pins s σ H D I h => (ps_expr ha.pe hs).run pins s σ H D I ?_⟩⟩
  obtain ⟨G, τ, s, h⟩ := h
  exact nextS (Sx.refl s) h fun l τ1 G1 H1 v e x r h => h G1 σ H1 x.sx
def zIfS (c : ZTD) (p q : ZSD) : ZSD := fun τ => (c τ).bind fun k τ1 => if k = true then p τ1 else q τ1
theorem zs_if {ss tt : List Stmt} {ta : ZTD} {p q : ZSD} (hc : ZT X W c ta) (hp : ZSs X W ss p) (hq : ZSs X W tt q) : ZS X W (.If c ss tt pos) (zIfS ta p q) := by
  refine ⟨⟨fun pins s σ H D I h => (ps_if hc.pt hp.ps hq.ps).run pins s σ H D I ?_⟩⟩
  obtain ⟨G, τ, s, h⟩ := h
  refine nextST (Sx.refl s) h fun k τ1 G1 H1 e x h => ?_
  cases k with
  | true => rw [if_pos rfl] at h ⊢; exact ⟨G1, τ1, x.sr, h.from x.sx⟩
  | false => rw [if_neg Bool.false_ne_true] at h ⊢; exact ⟨G1, τ1, x.sr, h.from x.sx⟩
/-- return e -/
def zRet (a : ZD) : ZSD := fun τ => (zV a τ).bind fun l τ1 => match l with
  | .cl c => .ok (.rt c) τ1
  | _ => .stuck
def zRetN : ZSD := fun τ => .ok (.rt (.fz .none)) τ
theorem zs_ret (ha : ZE X W a da) : ZS X W (.Return (some a) pos) (zRet da) := by
  refine ⟨⟨fun pins s σ H D I h => (ps_ret (ze_val ha).pe).run pins s σ H D I ?_⟩⟩
  obtain ⟨G, τ, s, h⟩ := h
  refine nextS (Sx.refl s) h fun l τ1 G1 H1 v e x r h => ?_
  cases l with
  | sl i => exact h.elim
  | cl c => exact h G1 σ H1 v x.sx ⟨r.1, fun o => ⟨(r.2 o).1, (r.2 o).2.1, fun a e => .inr ((r.2 o).2.2 a e)⟩⟩
theorem zs_retN : ZS X W (.Return none pos) zRetN := by
  refine ⟨⟨fun pins s σ H D I h => ps_retN.run pins s σ H D I ?_⟩⟩
  obtain ⟨G, τ, s, h⟩ := h
  exact h G σ H _ (Sx.refl s) ⟨.non, fun o => nomatch o⟩
/-- return x: an own thing of the frame goes -/
def zRetM (i : Nat) : ZSD := fun τ => match cellAt τ i with
  | some (.lst false false ds) => .ok (.rt (.lst false false ds)) τ
  | some (.dct false false t kvs) => .ok (.rt (.dct false false t kvs)) τ
  | _ => zRet (zN i) τ
theorem zs_retM {i : Nat} {x : Str} {p : Pos} (hN : X.N[i]? = some x) (hv : Vis X.env.scope x) (hd : (x == ("__debug__" : Str)) = false := by decide) (hcd : (x == ("__classdict__" : Str)) = false := by decide) : ZS X W (.Return (some (.Name x p)) pos) (zRetM i) := by
  refine ⟨⟨fun pins s σ H D I h => ?_⟩⟩
  obtain ⟨G, τ, s1, h⟩ := id h
  unfold zRetM at h
  split at h
  · rename_i ds e
    refine (ps_ret (pe_var hN hv hd hcd)).run pins s σ H D I ?_
    obtain ⟨v, z, q⟩ := s1.cell i _ (cellAt_some e)
    exact ⟨v, z, h G σ H v (Sx.refl s1) ⟨q, fun _ => ⟨rfl, rfl, fun a ea => by subst ea; exact .inl ⟨i, _, cellAt_some e, rfl, rfl, rfl, z⟩⟩⟩⟩
  · rename_i t kvs e
    refine (ps_ret (pe_var hN hv hd hcd)).run pins s σ H D I ?_
    obtain ⟨v, z, q⟩ := s1.cell i _ (cellAt_some e)
    exact ⟨v, z, h G σ H v (Sx.refl s1) ⟨q, fun _ => ⟨rfl, rfl, fun a ea => by subst ea; exact .inl ⟨i, _, cellAt_some e, rfl, rfl, rfl, z⟩⟩⟩⟩
  · exact (zs_ret (ze_name hN hv hd hcd)).ps.run pins s σ H D I ⟨G, τ, s1, h⟩

/-! ### name = value -/
theorem getElem?_set_some {α : Type} {xs : List α} {i j : Nat} {a b : α} (h : (xs.set i a)[j]? = some b) : (j = i ∧ b = a ∧ i < xs.length) ∨ (j ≠ i ∧ xs[j]? = some b) := by
  by_cases e : i = j
  · subst e
    rw [List.getElem?_set, if_pos rfl] at h
    split at h
    · rename_i hl; cases h; exact .inl ⟨rfl, rfl, hl⟩
    · cases h
  · rw [List.getElem?_set_ne e] at h
    exact .inr ⟨fun z => e z.symm, h⟩
/-- a new value is stored in slot i -/
theorem Sx.set (s : SR K G τ σ H) (x : Ex K σ G τ H G1 τ1 H1) {c : Cell} (r : RL K σ H τ1 G1 H1 v (.cl c)) (i : Nat) : Sx K G τ σ H G1 (τ1.set i (some c)) (σ.set i (some v)) H1 := by
  have hlen := x.sr.len
  have fresh : ∀ (j : Nat) (cj : Cell) (a : Addr), τ1[j]? = some (some cj) → cj.obj = true → c.obj = true → v = .ref a → σ[j]? ≠ some (some v) := fun j cj a h o oc e z => by
    obtain ⟨c0, z1, z2, _, _⟩ := x.mode j cj h o
    obtain ⟨p, u, w1, _, w3⟩ := s.objAt z1 z2
    rw [z] at w1
    have : v = .ref p := by simpa using w1
    have h0 := (r.2 oc).2.2 p this
    rw [h0] at w3; cases w3
  refine ⟨⟨by rw [List.length_set, List.length_set]; exact hlen, x.sr.sub, fun j cj h => ?_, fun j k cj ck w n hj hk oj ok sj => ?_, x.sr.tab⟩, x.kp, fun a h => ?_, fun j cj h o m => ?_⟩
  · rcases getElem?_set_some h with ⟨e1, e2, hl⟩ | ⟨e1, h⟩
    · cases e2
      subst e1
      refine ⟨v, ?_, r.1⟩
      rw [List.getElem?_set, if_pos rfl, if_pos (by rw [← hlen]; exact hl)]
    · obtain ⟨w, z1, z2⟩ := x.sr.cell j cj h
      exact ⟨w, by rw [List.getElem?_set_ne (fun z => e1 z.symm)]; exact z1, z2⟩
  · rcases getElem?_set_some hj with ⟨e1, e2, hl⟩ | ⟨e1, hj'⟩
    · cases e2
      subst e1
      rcases getElem?_set_some hk with ⟨e3, _, _⟩ | ⟨e3, hk'⟩
      · exact (n e3.symm).elim
      · rw [List.getElem?_set, if_pos rfl, if_pos (by rw [← hlen]; exact hl)] at sj
        cases sj
        rw [List.getElem?_set_ne (fun z => e3 z.symm)]
        obtain ⟨a, u, ev, _⟩ := r.1.there oj
        exact fresh k ck a hk' ok oj ev
    · rw [List.getElem?_set_ne (fun z => e1 z.symm)] at sj
      rcases getElem?_set_some hk with ⟨e3, e4, hl⟩ | ⟨e3, hk'⟩
      · cases e4
        subst e3
        rw [List.getElem?_set, if_pos rfl, if_pos (by rw [← hlen]; exact hl)]
        intro z
        cases z
        obtain ⟨a, u, ev, _⟩ := r.1.there ok
        exact fresh j cj a hj' oj ok ev sj
      · rw [List.getElem?_set_ne (fun z => e3 z.symm)]
        exact x.sr.sep j k cj ck w n hj' hk' oj ok sj
  · obtain ⟨j, cj, h1, h2, h3, h4, h5⟩ := h
    rcases getElem?_set_some h1 with ⟨e1, e2, hl⟩ | ⟨e1, h1⟩
    · cases e2
      subst e1
      rw [List.getElem?_set, if_pos rfl, if_pos (by rw [← hlen]; exact hl)] at h5
      cases h5
      exact .inr ((r.2 h2).2.2 _ rfl)
    · rw [List.getElem?_set_ne (fun z => e1 z.symm)] at h5
      exact .inl (x.ownN ⟨j, cj, h1, h2, h3, h4, h5⟩)
  · rcases getElem?_set_some h with ⟨e1, e2, hl⟩ | ⟨e1, h⟩
    · cases e2
      rcases m with m | m
      · rw [(r.2 o).1] at m; cases m
      · rw [(r.2 o).2.1] at m; cases m
    · obtain ⟨c0, z1, z2, z3, z4⟩ := x.mode j cj h o
      exact ⟨c0, z1, z2, z3, z4, by rw [List.getElem?_set_ne (fun z => e1 z.symm)]⟩
def zSet (i : Nat) (a : ZD) : ZSD := fun τ => (zV a τ).bind fun l τ1 => match l with
  | .cl c => .ok .nx (τ1.set i (some c))
  | _ => .stuck
theorem zs_set {i : Nat} {x : Str} {p : Pos} (hN : X.N.Nodup) (hi : X.N[i]? = some x) (hx : Loc X.env.scope x) (ha : ZE X W a da) (hs : swapsWith a (some (.Name x p)) pos.line X.env = pure false := by rfl)
    (hf : X.fn x = true ∨ X.env.scope.names.lookup x = some .local := by first | exact .inl rfl | exact .inr rfl | assumption) : ZS X W (.Assign [.Name x p] a pos) (zSet i da) := by
  refine ⟨⟨fun pins s σ H D I h => (ps_set hN hi hx (ze_val ha).pe hs hf).run pins s σ H D I ?_⟩⟩
  obtain ⟨G, τ, s, h⟩ := h
  refine nextS (Sx.refl s) h fun l τ1 G1 H1 v e x r h => ?_
  cases l with
  | sl i => exact h.elim
  | cl c => exact h G1 _ H1 (Sx.set s x r i)

/-! ### while -/
def zWhile (c : ZTD) (p : ZSD) : Nat → ZSD
  | 0, _ => .stuck
  | n + 1, τ => (c τ).bind fun k τ1 => if k = true then (match p τ1 with
      | .ok .nx τ2 => zWhile c p n τ2
      | .ok .ct τ2 => zWhile c p n τ2
      | .ok .bk τ2 => .ok .nx τ2
      | .ok (.rt c) τ2 => .ok (.rt c) τ2
      | .exc n τ2 => .exc n τ2
      | .stuck => .stuck) else .ok .nx τ1
theorem zs_while {body : List Stmt} {ta : ZTD} {p : ZSD} (n : Nat) (hp : PassesOwn (model X.prog X.w) X.A X.env X.xe) (hc : ZT X W c ta) (hb : ZSs X W body p) : ZS X W (.While c body [] pos) (zWhile ta p n) := by
  refine ⟨⟨fun pins s σ H D I h => (ps_while hp hc.pt hb.ps).run pins s σ H D I ?_⟩⟩
  obtain ⟨G, τ, s, h⟩ := h
  refine ⟨fun m σ' H' => ∃ G' τ', Sx X.K G τ σ H G' τ' σ' H' ∧ FinS X.K W σ G τ H (zWhile ta p m τ') D, ⟨n, G, τ, Sx.refl s, h⟩, ?_⟩
  rintro m σ1 H1 ⟨G1, τ1, x1, h1⟩
  cases m with
  | zero => exact h1.elim
  | succ m =>
    refine nextST x1 h1 fun k τ2 G2 H2 e x h2 => ?_
    have x2 := x1.trans x.sx
    cases k with
    | false => rw [if_neg Bool.false_ne_true] at h2 ⊢; exact h2 G2 _ H2 x2
    | true =>
      rw [if_pos rfl] at h2 ⊢
      refine ⟨fun σ' H' => ∃ G' τ', Sx X.K G τ σ H G' τ' σ' H' ∧ FinS X.K W σ G τ H (zWhile ta p m τ') D, fun σ' H' z => ⟨m, Nat.lt_succ_self m, z⟩, G2, τ2, x2.sr, ?_⟩
      cases e2 : p τ2 with
      | stuck => rw [e2] at h2; exact h2
      | exc n τ3 => rw [e2] at h2; exact fun G3 σ3 H3 y => h2 G3 σ3 H3 (x2.trans y)
      | ok f τ3 =>
        rw [e2] at h2
        cases f with
        | nx => exact fun G3 σ3 H3 y => ⟨G3, τ3, x2.trans y, h2⟩
        | ct => exact fun G3 σ3 H3 y => ⟨G3, τ3, x2.trans y, h2⟩
        | bk => exact fun G3 σ3 H3 y => h2 G3 σ3 H3 (x2.trans y)
        | rt c => exact fun G3 σ3 H3 v y q => h2 G3 σ3 H3 v (x2.trans y) (q.back x2)
end
end Z

/-! Z7: targets, what is walked, for. -/
namespace Z
open PySem PySem.Spec PyProof.Rows L2
variable [TB : Tabs]
section
variable {X : Cx} {K : PySem.W.Frag} {W : WZ} {σ σ1 σ2 : Z.St} {G G1 G2 H H1 H2 : Hp} {τ τ1 τ2 : Fr} {v x y : V} {l : LR} {d e : PyData} {a b c : Expr} {pos : Pos} {da db dc : ZD}

/-! ### targets -/
abbrev ZGD := PyData → Fr → Option Fr
/-- slots but those at ts are as they were -/
def Same (ts : List Nat) (σ σ' : Z.St) : Prop := σ'.length = σ.length ∧ ∀ j, j ∉ ts → σ'[j]? = σ[j]?
def tZG (K : PySem.W.Frag) (ts : List Nat) (g : ZGD) : TG := fun v σ H Q => ∃ G τ d, SR K G τ σ H ∧ RD K G v d ∧ match g d τ with
    | some τ' => ∀ σ', Sx K G τ σ H G τ' σ' H → Same ts σ σ' → Q σ' H
    | none => False
/-- a target writes at ts alone -/
def Out (ts : List Nat) (g : ZGD) : Prop := ∀ d τ τ', g d τ = some τ' → ∀ j : Nat, j ∉ ts → τ'[j]? = τ[j]?
def OutS (ts : List Nat) (g : List PyData → Fr → Option Fr) : Prop := ∀ d τ τ', g d τ = some τ' → ∀ j : Nat, j ∉ ts → τ'[j]? = τ[j]?
structure ZG (X : Cx) (tg : Expr) (ts : List Nat) (g : ZGD) : Prop where
  pg : PG X tg (tZG X.K ts g)
  out : Out ts g
structure ZGs (X : Cx) (tgs : List Expr) (ts : List Nat) (g : List PyData → Fr → Option Fr) : Prop where
  pgs : PGs X tgs fun vs σ H Q => ∃ G τ ds, SR X.K G τ σ H ∧ RDs X.K G vs ds ∧ match g ds τ with
    | some τ' => ∀ σ', Sx X.K G τ σ H G τ' σ' H → Same ts σ σ' → Q σ' H
    | none => False
  out : OutS ts g
def gN (i : Nat) : ZGD := fun d τ => some (τ.set i (some (.fz d)))
theorem zg_name {i : Nat} {x : Str} {p : Pos} (hN : X.N.Nodup) (hi : X.N[i]? = some x) (hx : Loc X.env.scope x) (hf : X.fn x = true ∨ X.env.scope.names.lookup x = some .local := by first | exact .inl rfl | exact .inr rfl | assumption) : ZG X (.Name x p) [i] (gN i) := by
  refine ⟨⟨fun pins s σ H v u Q I r h => (pg_name hN hi hx hf).run pins s σ H v u Q I r ?_⟩, fun d τ τ' h j hj => by cases h; rw [List.getElem?_set_ne (fun e => hj (by simp [e]))]⟩
  obtain ⟨G, τ, d, s, q, h⟩ := h
  refine h _ (Sx.set s (Ex.refl s) (v := v) (c := .fz d) ⟨q, fun o => nomatch o⟩ i) ⟨List.length_set, fun j hj => ?_⟩
  rw [List.getElem?_set_ne]
  intro e
  exact hj (by simp [e])
def gsN : List PyData → Fr → Option Fr
  | [], τ => some τ
  | _ :: _, _ => none
def gsC (g : ZGD) (gs : List PyData → Fr → Option Fr) : List PyData → Fr → Option Fr
  | d :: ds, τ => (g d τ).bind (gs ds)
  | [], _ => none
theorem zgs_nil : ZGs X [] [] gsN := by
  refine ⟨⟨fun pins s σ H vs us Q I r h => pgs_nil.run pins s σ H vs us Q I r ?_⟩, fun d τ τ' h j hj => by cases d with | nil => cases h; rfl | cons _ _ => cases h⟩
  obtain ⟨G, τ, ds, s, q, h⟩ := h
  cases q with
  | nil => exact ⟨rfl, h σ (Sx.refl s) ⟨rfl, fun _ _ => rfl⟩⟩
  | cons _ _ => exact h.elim
theorem zgs_cons {e : Expr} {es : List Expr} {ts us : List Nat} {g : ZGD} {gs : List PyData → Fr → Option Fr} (h1 : ZG X e ts g) (h2 : ZGs X es us gs)
    (hs : (assignEach (e :: es) X.env).map (·.2) = assign e X.env :: (assignEach es X.env).map (·.2) := by rfl) : ZGs X (e :: es) (ts ++ us) (gsC g gs) := by
  refine ⟨⟨fun pins s σ H vs us Q I r h => (pgs_cons h1.pg h2.pgs hs).run pins s σ H vs us Q I r ?_⟩, fun d τ τ' h j hj => by
    cases d with
    | nil => cases h
    | cons d ds =>
      obtain ⟨τ1, e1, e2⟩ := Option.bind_eq_some_iff.mp h
      exact (h2.out ds τ1 τ' e2 j fun z => hj (List.mem_append_right _ z)).trans (h1.out d τ τ1 e1 j fun z => hj (List.mem_append_left _ z))⟩
  obtain ⟨G, τ, ds, s, q, h⟩ := h
  cases q with
  | nil => exact h.elim
  | @cons v vs d ds r1 r2 =>
    refine ⟨v, vs, rfl, G, τ, d, s, r1, ?_⟩
    cases e1 : g d τ with
    | none => simp only [gsC, e1, Option.bind_none] at h
    | some τ1 =>
      simp only [gsC, e1, Option.bind_some] at h
      intro σ1 x1 m1
      refine ⟨G, τ1, ds, x1.sr, r2, ?_⟩
      cases e2 : gs ds τ1 with
      | none => rw [e2] at h; exact h
      | some τ2 =>
        rw [e2] at h
        exact fun σ2 x2 m2 => h σ2 (x1.trans x2) ⟨m2.1.trans m1.1, fun j hj => (m2.2 j fun z => hj (List.mem_append_right _ z)).trans (m1.2 j fun z => hj (List.mem_append_left _ z))⟩
def gT (gs : List PyData → Fr → Option Fr) : ZGD
  | .tuple ds, τ => gs ds τ
  | .list ds, τ => gs ds τ
  | _, _ => none
theorem PG.or {tg : Expr} {t u : TG} (h : PG X tg t) (h' : PG X tg u) : PG X tg (fun v σ H Q => t v σ H Q ∨ u v σ H Q) := ⟨fun pins s σ H v w Q I r q => q.elim (h.run pins s σ H v w Q I r) (h'.run pins s σ H v w Q I r)⟩
/-- the length that a target's parts want -/
def LenOk (n : Nat) (gs : List PyData → Fr → Option Fr) : Prop := ∀ ds τ τ', gs ds τ = some τ' → ds.length = n
theorem lenOk_nil : LenOk 0 gsN := fun ds τ τ' h => by cases ds with | nil => rfl | cons _ _ => cases h
theorem lenOk_cons {n : Nat} {g : ZGD} {gs : List PyData → Fr → Option Fr} (h : LenOk n gs) : LenOk (n + 1) (gsC g gs) := fun ds τ τ' e => by
  cases ds with
  | nil => cases e
  | cons d ds =>
    obtain ⟨τ1, _, e2⟩ := Option.bind_eq_some_iff.mp e
    rw [List.length_cons, h ds τ1 τ' e2]
theorem zg_tup {es : List Expr} {k n : Nat} {ts : List Nat} {gs : List PyData → Fr → Option Fr} (hc : X.calm = true) (h : ZGs X es ts gs) (hl : LenOk n gs)
    (hn : (assignEach es X.env).length = n := by rfl) (hst : (assignEach es X.env).findIdx? (·.1) = none := by rfl) : ZG X (.Tuple es k pos) ts (gT gs) := by
  refine ⟨⟨fun pins s σ H v u Q I r h0 => (PG.or (pg_tup hc h.pgs hn hst) (pg_lst hc h.pgs hn hst)).run pins s σ H v u Q I r ?_⟩, fun d τ τ' e j hj => by
    cases d with
    | tuple ds => exact h.out ds τ τ' e j hj
    | list ds => exact h.out ds τ τ' e j hj
    | _ => cases e⟩
  obtain ⟨G, τ, d, s, q, h⟩ := h0
  cases d with
  | tuple ds =>
    cases q with
    | @tup a vs _ hs qs =>
      cases e : gs ds τ with
      | none => rw [show gT gs (.tuple ds) τ = gs ds τ from rfl, e] at h; exact h.elim
      | some τ' =>
        rw [show gT gs (.tuple ds) τ = gs ds τ from rfl, e] at h
        exact .inl ⟨a, vs, rfl, SqT.of (s.sub _ _ hs), by rw [dps_len qs]; exact hl _ _ _ e, G, τ, ds, s, qs, by rw [e]; exact h⟩
  | list ds =>
    cases q with
    | @lst a vs _ hs qs =>
      cases e : gs ds τ with
      | none => rw [show gT gs (.list ds) τ = gs ds τ from rfl, e] at h; exact h.elim
      | some τ' =>
        rw [show gT gs (.list ds) τ = gs ds τ from rfl, e] at h
        exact .inr ⟨a, vs, rfl, SqL.of (s.sub _ _ hs), by rw [dps_len qs]; exact hl _ _ _ e, G, τ, ds, s, qs, by rw [e]; exact h⟩
  | _ => exact h.elim

/-! ### what is walked -/
abbrev ZID := Fr → Res (List PyData × List Nat)
/-- the iterator goes over the items as long as the lists at Lk stand -/
structure ItOk (K : PySem.W.Frag) (G1 H1 : Hp) (Lk : Addr → Prop) (J : It) (items : List PyData) : Prop where
  ex : ∃ (Gd : Hp → Prop) (Y : Nat → Hp → V → Hp → Prop), Walk J items.length Gd Y ∧ (∀ G2 H2, Sub G1 G2 → Sub G2 H2 → (∀ a, Lk a → H2 a = H1 a) → Gd H2) ∧
    ∀ i x H2 H' G2, i < items.length → Sub G1 G2 → Sub G2 H2 → Y i H2 x H' → ∃ G3 d, items[i]? = some d ∧ RD K G3 x d ∧ Sub G2 G3 ∧ Sub G3 H' ∧ (∀ a o, H2 a = some o → H' a = some o ∧ GS G2 G3 a o) ∧ ∀ a, H' a = none → H2 a = none
def LkA (σ : Z.St) (ss : List Nat) (a : Addr) : Prop := ∃ i ∈ ss, σ[i]? = some (some (V.ref a))
def FinI (K : PySem.W.Frag) (W : WZ) (σ : Z.St) (G : Hp) (τ : Fr) (H : Hp) (r : Res (List PyData × List Nat)) (R : It → Hp → Prop) : Prop := match r with
  | .ok p τ' => ∀ G' H' J, Ex K σ G τ H G' τ' H' → (∀ i ∈ p.2, ∃ c : Cell, τ'[i]? = some (some c) ∧ c.lkb = true) → ItOk K G' H' (LkA σ p.2) J p.1 → R J H'
  | .exc n τ' => ∀ G' H', Ex K σ G τ H G' τ' H' → W n σ H'
  | .stuck => False
def tZI (K : PySem.W.Frag) (W : WZ) (d : ZID) : TI := fun σ H R => ∃ G τ, SR K G τ σ H ∧ FinI K W σ G τ H (d τ) R
structure ZI (X : Cx) (W : WZ) (tg iter : Expr) (d : ZID) : Prop where
  pi : PI X tg iter (tZI X.K W d)
theorem PI.or {tg it : Expr} {t u : TI} (h : PI X tg it t) (h' : PI X tg it u) : PI X tg it (fun σ H R => t σ H R ∨ u σ H R) := ⟨fun pins s σ H R I q => q.elim (h.run pins s σ H R I) (h'.run pins s σ H R I)⟩
def itemsD : PyData → Option (List PyData)
  | .list ds => some ds
  | .tuple ds => some ds
  | .str z => some (z.cps.toList.map fun c => .str ⟨#[c]⟩)
  | _ => none
/-- the items of what l says, and the slots that are to stand -/
def itL (τ : Fr) : LR → Option (List PyData × List Nat)
  | .sl i => match cellAt τ i with
    | some (.lst _ _ ds) => some (ds, [i])
    | some (.fz d) => (itemsD d).map fun ds => (ds, [])
    | some (.scr ns) => some (ns.map .int, [])
    | _ => none
  | .cl (.lst _ _ ds) => some (ds, [])
  | .cl (.fz d) => (itemsD d).map fun ds => (ds, [])
  | .cl (.scr ns) => some (ns.map .int, [])
  | _ => none
def retI (o : Option (List PyData × List Nat)) (τ : Fr) : Res (List PyData × List Nat) := match o with
  | some r => .ok r τ
  | none => .stuck
def zIt (a : ZD) : ZID := fun τ => (a τ).bind fun l τ1 => retI (itL τ1 l) τ1
theorem nextI {β : ZD} {k : LR → Fr → Res (List PyData × List Nat)} {R : It → Hp → Prop} {Q1 : VK} (x : Ex K σ G τ H G1 τ1 H1) (h : FinI K W σ G τ H ((β τ1).bind k) R)
    (hk : ∀ l τ2 G2 H2 v, β τ1 = .ok l τ2 → Ex K σ G1 τ1 H1 G2 τ2 H2 → RL K σ H1 τ2 G2 H2 v l → FinI K W σ G τ H (k l τ2) R → Q1 v H2) : tZ K W β σ H1 Q1 := by
  refine ⟨G1, τ1, x.sr, ?_⟩
  cases e : β τ1 with
  | ok l τ2 =>
    rw [e] at h
    exact fun G2 H2 v y r => hk l τ2 G2 H2 v e y r h
  | exc n τ2 =>
    rw [e] at h
    exact fun G2 H2 y => h G2 H2 (x.trans y)
  | stuck => rw [e] at h; exact h
theorem rds_getV {vs : List V} {ds : List PyData} {i : Nat} (q : RDs K G vs ds) (h : vs[i]? = some v) : ∃ d, ds[i]? = some d ∧ RD K G v d := dps_getV q h
/-- a list that stands -/
theorem itOk_list {Lk : Addr → Prop} {p : Addr} {vs : List V} {ds : List PyData} (h1 : ∀ G2 H2, Sub G1 G2 → Sub G2 H2 → (∀ a, Lk a → H2 a = H1 a) → SqL K H2 p vs) (q : RDs K G1 vs ds) : ItOk K G1 H1 Lk (Itl K p) ds := by
  refine ⟨_, _, (by rw [← dps_len q]; exact walk_list (K := K) (a := p) (xs := vs)), h1, fun i x H2 H' G2 hi m1 m2 y => ?_⟩
  obtain ⟨rfl, y⟩ := y
  obtain ⟨d, e1, e2⟩ := rds_getV q y
  exact ⟨G2, d, e1, dp_mono m1 _ _ e2, Sub.refl, m2, fun a o h => ⟨h, GS.rfl⟩, fun _ h => h⟩
theorem itOk_tup {Lk : Addr → Prop} {p : Addr} {vs : List V} {ds : List PyData} (h1 : SqT K G1 p vs) (q : RDs K G1 vs ds) : ItOk K G1 H1 Lk (Itt K p) ds := by
  refine ⟨_, _, (by rw [← dps_len q]; exact walk_tup (K := K) (a := p) (xs := vs)), fun G2 H2 m1 m2 _ => sqt_mono m2 (sqt_mono m1 h1), fun i x H2 H' G2 hi m1 m2 y => ?_⟩
  obtain ⟨rfl, y⟩ := y
  obtain ⟨d, e1, e2⟩ := rds_getV q y
  exact ⟨G2, d, e1, dp_mono m1 _ _ e2, Sub.refl, m2, fun a o h => ⟨h, GS.rfl⟩, fun _ h => h⟩
theorem itOk_str {Lk : Addr → Prop} {z : Str} : ItOk K G1 H1 Lk (Its z) (z.cps.toList.map fun c => .str ⟨#[c]⟩) := by
  refine ⟨_, _, (by rw [List.length_map, Array.length_toList]; exact walk_str (z := z)), fun _ _ _ _ _ => trivial, fun i x H2 H' G2 hi m1 m2 y => ?_⟩
  obtain ⟨rfl, c, y, rfl⟩ := y
  exact ⟨G2, _, by rw [List.getElem?_map, Array.getElem?_toList, y]; rfl, .str _, Sub.refl, m2, fun a o h => ⟨h, GS.rfl⟩, fun _ h => h⟩
theorem itOk_range {Lk : Addr → Prop} {lo : Int} {n : Nat} : ItOk K G1 H1 Lk (Itr lo n) ((List.range n).map fun (i : Nat) => .int (lo + i)) := by
  refine ⟨_, _, (by rw [List.length_map, List.length_range]; exact walk_range (lo := lo) (n := n)), fun _ _ _ _ _ => trivial, fun i x H2 H' G2 hi m1 m2 y => ?_⟩
  obtain ⟨rfl, rfl⟩ := y
  have hi' : i < n := by simpa using hi
  exact ⟨G2, .int (lo + i), by rw [List.getElem?_map, List.getElem?_range hi']; rfl, .int _, Sub.refl, m2, fun a o h => ⟨h, GS.rfl⟩, fun _ h => h⟩
theorem itOk_rangeC {Lk : Addr → Prop} {lo c : Int} {n : Nat} : ItOk K G1 H1 Lk (Itc lo c n) ((List.range n).map fun (i : Nat) => .int (lo + i * c)) := by
  refine ⟨_, _, (by rw [List.length_map, List.length_range]; exact walk_rangeC (lo := lo) (c := c) (n := n)), fun _ _ _ _ _ => trivial, fun i x H2 H' G2 hi m1 m2 y => ?_⟩
  obtain ⟨rfl, rfl⟩ := y
  have hi' : i < n := by simpa using hi
  exact ⟨G2, .int (lo + i * c), by rw [List.getElem?_map, List.getElem?_range hi']; rfl, .int _, Sub.refl, m2, fun a o h => ⟨h, GS.rfl⟩, fun _ h => h⟩
def iAny (K : PySem.W.Frag) (t : TE) : TI := fun σ H R => iList K t σ H R ∨ iTup K t σ H R ∨ iStr t σ H R
/-- over a list, a tuple, a text, the script -/
theorem zi_it {tg : Expr} (ha : ZE X W a da) : ZI X W tg a (zIt da) := by
  refine ⟨⟨fun pins s σ H R I h => (PI.or (pi_list ha.pe) (PI.or (pi_tup ha.pe) (pi_str ha.pe))).run pins s σ H R I ?_⟩⟩
  obtain ⟨G, τ, s, h⟩ := h
  -- which of the three: by the outcome
  have key : ∀ (P : V → Hp → Prop), (∀ l τ1 G1 H1 v, da τ = .ok l τ1 → Ex X.K σ G τ H G1 τ1 H1 → RL X.K σ H τ1 G1 H1 v l → FinI X.K W σ G τ H (retI (itL τ1 l) τ1) R → P v H1) → tZ X.K W da σ H P := fun P hP => nextI (Ex.refl s) h hP
  have fzc : ∀ (d : PyData) (l : LR) (τ1 : Fr), da τ = .ok l τ1 → itL τ1 l = (itemsD d).map (fun ds => (ds, [])) → (∀ G1 H1 v, Ex X.K σ G τ H G1 τ1 H1 → RL X.K σ H τ1 G1 H1 v l → RD X.K G1 v d) →
      (iList X.K (tZ X.K W da) σ H R ∨ iTup X.K (tZ X.K W da) σ H R ∨ iStr (tZ X.K W da) σ H R) := fun d l τ1 e1 e2 e3 => by
    have h' : FinI X.K W σ G τ H (retI (itL τ1 l) τ1) R := by unfold zIt at h; rw [e1] at h; exact h
    cases d with
    | list ds =>
      refine .inl (key _ fun l' τ1' G1 H1 v e x r _ => ?_)
      rw [e1] at e; cases e
      rw [e2] at h'
      have q := e3 G1 H1 v x r
      cases q with
      | @lst p vs _ hp qs =>
        exact ⟨p, rfl, ⟨vs, SqL.of (x.sr.sub _ _ hp)⟩, h' G1 H1 _ x (fun i hi => by cases hi) (itOk_list (fun G2 H2 m1 m2 _ => SqL.of (m2 _ _ (m1 _ _ hp))) qs)⟩
    | tuple ds =>
      refine .inr (.inl (key _ fun l' τ1' G1 H1 v e x r _ => ?_))
      rw [e1] at e; cases e
      rw [e2] at h'
      have q := e3 G1 H1 v x r
      cases q with
      | @tup p vs _ hp qs =>
        exact ⟨p, rfl, ⟨vs, SqT.of (x.sr.sub _ _ hp)⟩, h' G1 H1 _ x (fun i hi => by cases hi) (itOk_tup (SqT.of hp) qs)⟩
    | str z =>
      refine .inr (.inr (key _ fun l' τ1' G1 H1 v e x r _ => ?_))
      rw [e1] at e; cases e
      rw [e2] at h'
      have q := e3 G1 H1 v x r
      cases q
      exact ⟨z, rfl, h' G1 H1 _ x (fun i hi => by cases hi) itOk_str⟩
    | none => rw [e2] at h'; exact h'.elim
    | bool _ => rw [e2] at h'; exact h'.elim
    | int _ => rw [e2] at h'; exact h'.elim
    | dict _ => rw [e2] at h'; exact h'.elim
  have scc : ∀ (ns : List Int) (l : LR) (τ1 : Fr), da τ = .ok l τ1 → itL τ1 l = some (ns.map .int, []) → (∀ G1 H1 v, Ex X.K σ G τ H G1 τ1 H1 → RL X.K σ H τ1 G1 H1 v l → CR X.K G1 H1 v (.scr ns)) →
      (iList X.K (tZ X.K W da) σ H R ∨ iTup X.K (tZ X.K W da) σ H R ∨ iStr (tZ X.K W da) σ H R) := fun ns l τ1 e1 e2 e3 => by
    have h' : FinI X.K W σ G τ H (retI (itL τ1 l) τ1) R := by unfold zIt at h; rw [e1] at h; exact h
    refine .inl (key _ fun l' τ1' G1 H1 v e x r _ => ?_)
    rw [e1] at e; cases e
    rw [e2] at h'
    obtain ⟨p, ev, hp⟩ := e3 G1 H1 v x r
    exact ⟨p, ev, ⟨_, sql_mono x.sr.sub hp⟩, h' G1 H1 _ x (fun i hi => by cases hi) (itOk_list (fun G2 H2 m1 m2 _ => sql_mono m2 (sql_mono m1 hp)) (rds_ints ns))⟩
  cases e1 : da τ with
  | stuck => unfold zIt at h; rw [e1] at h; exact h.elim
  | exc n τ1 =>
    refine .inl (key _ fun l' τ1' G1 H1 v e x r _ => ?_)
    rw [e1] at e; cases e
  | ok l τ1 =>
    have h' : FinI X.K W σ G τ H (retI (itL τ1 l) τ1) R := by unfold zIt at h; rw [e1] at h; exact h
    cases l with
    | sl i =>
      cases ec : cellAt τ1 i with
      | none => rw [show itL τ1 (.sl i) = none by simp only [itL, ec]] at h'; exact h'.elim
      | some c =>
        cases c with
        | fz d => exact fzc d _ τ1 e1 (by simp only [itL, ec]) fun G1 H1 v x r => r.cell x.sr ec
        | scr ns => exact scc ns _ τ1 e1 (by simp only [itL, ec]) fun G1 H1 v x r => r.cell x.sr ec
        | exc n => rw [show itL τ1 (.sl i) = none by simp only [itL, ec]] at h'; exact h'.elim
        | dct _ _ _ _ => rw [show itL τ1 (.sl i) = none by simp only [itL, ec]] at h'; exact h'.elim
        | lst b k ds =>
          rw [show itL τ1 (.sl i) = some (ds, [i]) by simp only [itL, ec]] at h'
          refine .inl (key _ fun l' τ1' G1 H1 v e x r _ => ?_)
          rw [e1] at e; cases e
          obtain ⟨p, vs, rfl, g, hp, qs⟩ := r.cell x.sr ec
          refine ⟨p, rfl, ⟨vs, SqL.of hp⟩, h' G1 H1 _ x (fun j hj => ?_) (itOk_list (fun G2 H2 m1 m2 hk => SqL.of ((hk p ⟨i, by simp, r⟩).trans hp)) qs)⟩
          rw [List.mem_singleton.mp hj]
          exact ⟨_, cellAt_some ec, rfl⟩
    | cl c =>
      cases c with
      | fz d => exact fzc d _ τ1 e1 rfl fun G1 H1 v x r => r.1
      | scr ns => exact scc ns _ τ1 e1 rfl fun G1 H1 v x r => r.1
      | exc n => exact h'.elim
      | dct _ _ _ _ => exact h'.elim
      | lst b k ds =>
        refine .inl (key _ fun l' τ1' G1 H1 v e x r _ => ?_)
        rw [e1] at e; cases e
        obtain ⟨G3, y, q⟩ := Ex.freezeT s x r
        cases q with
        | @lst p vs _ hp qs =>
          exact ⟨p, rfl, ⟨vs, SqL.of (y.sr.sub _ _ hp)⟩, h' G3 H1 _ y (fun i hi => by cases hi) (itOk_list (fun G2 H2 m1 m2 _ => SqL.of (m2 _ _ (m1 _ _ hp))) qs)⟩
end
end Z

/-! Z8: locks, for, ranges. -/
namespace Z
open PySem PySem.Spec PyProof.Rows L2
variable [TB : Tabs]
def Cell.setLk (k : Bool) : Cell → Cell
  | .lst l _ ds => .lst l k ds
  | c => c
/-- the lists at ss are walked -/
def lockAll (ss : List Nat) (τ : Fr) : Fr := τ.mapIdx fun i o => if i ∈ ss then o.map (Cell.setLk true) else o
/-- .. and stand free again, as they did ahead -/
def unlock1 (c0 : Option (Option Cell)) : Option Cell → Option Cell
  | some c => match c0 with
    | some (some c0) => some (if c.lk then c.setLk c0.lk else c)
    | _ => some c
  | none => none
def unlock (τ0 : Fr) (ss : List Nat) (τ : Fr) : Fr := τ.mapIdx fun i o => if i ∈ ss then unlock1 τ0[i]? o else o
section
variable {X : Cx} {K : PySem.W.Frag} {W : WZ} {σ σ1 σ2 : Z.St} {G G1 G2 H H1 H2 : Hp} {τ τ1 τ2 : Fr} {v x y : V} {l : LR} {d e : PyData} {a b c : Expr} {pos : Pos} {da db dc : ZD}
theorem setLk_obj (c : Cell) (k : Bool) : (c.setLk k).obj = c.obj := by cases c <;> rfl
theorem setLk_lent (c : Cell) (k : Bool) : (c.setLk k).lent = c.lent := by cases c <;> rfl
theorem setLk_lkT {c : Cell} (h : c.lkb = true) : (c.setLk true).lk = true := by cases c <;> first | rfl | exact h | cases h
/-- what is walked is free again as it was -/
theorem setLk_back {c c0 : Cell} (h0 : c0.lkb = true) (hk : c.lk = true) (hn : ∀ l k ds l' t kvs, c0 = .lst l k ds → c = .dct l' true t kvs → False) : (c.setLk c0.lk).lk = c0.lk := by
  cases c with
  | lst l k ds => rfl
  | dct l k t kvs =>
    cases c0 with
    | lst l' k' ds => cases hk; exact (hn _ _ _ _ _ _ rfl rfl).elim
    | dct l' k' t' kvs' => exact hk.trans h0.symm
    | fz _ => cases h0
    | exc _ => cases h0
    | scr _ => cases h0
  | fz _ => cases hk
  | exc _ => cases hk
  | scr _ => cases hk
theorem CR.setLk {c : Cell} {k : Bool} (h : CR K G H v c) : CR K G H v (c.setLk k) := by cases c <;> exact h
theorem CR.unLk {c : Cell} {k : Bool} (h : CR K G H v (c.setLk k)) : CR K G H v c := by cases c <;> exact h
theorem setLk_id (c : Cell) : c.setLk c.lk = c := by cases c <;> rfl
theorem lockAll_get (ss : List Nat) (τ : Fr) (i : Nat) : (lockAll ss τ)[i]? = τ[i]?.map fun o => if i ∈ ss then o.map (Cell.setLk true) else o := by
  unfold lockAll
  rw [List.getElem?_mapIdx]
theorem unlock_get (τ0 : Fr) (ss : List Nat) (τ : Fr) (i : Nat) : (unlock τ0 ss τ)[i]? = τ[i]?.map fun o => if i ∈ ss then unlock1 τ0[i]? o else o := by
  unfold unlock
  rw [List.getElem?_mapIdx]
/-- only the locks differ -/
def LkEq (τ τ' : Fr) : Prop := τ'.length = τ.length ∧ ∀ (i : Nat) (c' : Cell), τ'[i]? = some (some c') → ∃ (c : Cell) (k : Bool), τ[i]? = some (some c) ∧ c' = c.setLk k
theorem SR.lkEq (s : SR K G τ σ H) (x : LkEq τ τ1) : SR K G τ1 σ H := by
  refine ⟨x.1.trans s.len, s.sub, fun i c h => ?_, fun i j ci cj w n hi hj oi oj si => ?_, s.tab⟩
  · obtain ⟨c0, k, h0, rfl⟩ := x.2 i c h
    obtain ⟨v, z, q⟩ := s.cell i c0 h0
    exact ⟨v, z, q.setLk⟩
  · obtain ⟨c0, k, h0, rfl⟩ := x.2 i ci hi
    obtain ⟨c1, k1, h1, rfl⟩ := x.2 j cj hj
    rw [setLk_obj] at oi oj
    exact s.sep i j _ _ w n h0 h1 oi oj si
theorem lockAll_inv {ss : List Nat} {i : Nat} {c' : Cell} (h : (lockAll ss τ)[i]? = some (some c')) : ∃ c : Cell, τ[i]? = some (some c) ∧ ((i ∈ ss ∧ c' = c.setLk true) ∨ (i ∉ ss ∧ c' = c)) := by
  rw [lockAll_get] at h
  obtain ⟨o, h1, h2⟩ := Option.map_eq_some_iff.mp h
  split at h2
  · rename_i hi
    cases o with
    | none => cases h2
    | some c => cases h2; exact ⟨c, h1, .inl ⟨hi, rfl⟩⟩
  · rename_i hi
    subst h2
    exact ⟨c', h1, .inr ⟨hi, rfl⟩⟩
theorem lockAll_eq (ss : List Nat) (τ : Fr) : LkEq τ (lockAll ss τ) := by
  refine ⟨by unfold lockAll; rw [List.length_mapIdx], fun i c' h => ?_⟩
  obtain ⟨c, h1, ⟨_, e⟩ | ⟨_, e⟩⟩ := lockAll_inv h
  · exact ⟨c, true, h1, e⟩
  · exact ⟨c, c.lk, h1, by rw [setLk_id]; exact e⟩
theorem unlock_inv {τ0 : Fr} {ss : List Nat} {i : Nat} {c' : Cell} (h : (unlock τ0 ss τ)[i]? = some (some c')) :
    ∃ c : Cell, τ[i]? = some (some c) ∧ ((i ∈ ss ∧ c.lk = true ∧ ∃ c0 : Cell, τ0[i]? = some (some c0) ∧ c' = c.setLk c0.lk) ∨ (c' = c ∧ (i ∈ ss → c.lk = true → ∀ c0 : Cell, τ0[i]? ≠ some (some c0)))) := by
  rw [unlock_get] at h
  obtain ⟨o, h1, h2⟩ := Option.map_eq_some_iff.mp h
  split at h2
  · rename_i hi
    cases o with
    | none => cases h2
    | some c =>
      unfold unlock1 at h2
      dsimp only at h2
      split at h2
      · rename_i c0 e0
        by_cases hk : c.lk = true
        · rw [if_pos hk] at h2
          cases h2
          exact ⟨c, h1, .inl ⟨hi, hk, c0, e0, rfl⟩⟩
        · rw [if_neg hk] at h2
          cases h2
          exact ⟨_, h1, .inr ⟨rfl, fun _ z => (hk z).elim⟩⟩
      · rename_i hn
        cases h2
        exact ⟨_, h1, .inr ⟨rfl, fun _ _ c0 z => hn c0 z⟩⟩
  · rename_i hi
    subst h2
    exact ⟨c', h1, .inr ⟨rfl, fun z => (hi z).elim⟩⟩
theorem unlock_eq (τ0 : Fr) (ss : List Nat) (τ : Fr) : LkEq τ (unlock τ0 ss τ) := by
  refine ⟨by unfold unlock; rw [List.length_mapIdx], fun i c' h => ?_⟩
  obtain ⟨c, h1, ⟨_, _, c0, _, e⟩ | ⟨e, _⟩⟩ := unlock_inv h
  · exact ⟨c, _, h1, e⟩
  · exact ⟨c, c.lk, h1, by rw [setLk_id]; exact e⟩
/-- what is walked is not owned -/
theorem keptL {ss : List Nat} (s1 : SR K G1 τ1 σ H1) (hs : ∀ i ∈ ss, ∃ c : Cell, τ1[i]? = some (some c) ∧ c.lkb = true) {i : Nat} (hi : i ∈ ss) {a : Addr} (e4 : σ[i]? = some (some (V.ref a))) : ¬ Ownd (lockAll ss τ1) σ a := fun ⟨j, cj, q1, q2, q3, q4⟩ => by
  obtain ⟨c, h1, h2⟩ := hs i hi
  obtain ⟨c0, w1, ⟨hj, w2⟩ | ⟨hn, w2⟩⟩ := lockAll_inv q1
  · obtain ⟨c', h1', h2'⟩ := hs j hj
    rw [w1] at h1'; cases h1'
    rw [w2, setLk_lkT h2'] at q3
    cases q3
  · subst w2
    by_cases ij : i = j
    · subst ij; exact hn hi
    · exact s1.sep i j c cj _ ij h1 w1 (Cell.lkb_obj h2) q2 e4 q4
/-- a run over the locked frame, then the locks taken away -/
theorem Sx.unlocked {ss : List Nat} (s1 : SR K G1 τ1 σ H1) (hs : ∀ i ∈ ss, ∃ c : Cell, τ1[i]? = some (some c) ∧ c.lkb = true) (y : Sx K G1 (lockAll ss τ1) σ H1 G2 τ2 σ2 H2) : Sx K G1 τ1 σ H1 G2 (unlock τ1 ss τ2) σ2 H2 := by
  have hs' : ∀ i ∈ ss, ∀ c0 : Cell, τ1[i]? = some (some c0) → c0.lkb = true := fun i hi c0 h0 => by
    obtain ⟨c, h1, h2⟩ := hs i hi
    rw [h1] at h0; cases h0; exact h2
  have back : ∀ (i : Nat) (c c0 : Cell), i ∈ ss → τ2[i]? = some (some c) → c.lk = true → τ1[i]? = some (some c0) → σ2[i]? = σ[i]? → (c.setLk c0.lk).lk = c0.lk := fun i c c0 hi h2 hk h1 hσ => by
    refine setLk_back (hs' i hi c0 h1) hk fun l k ds l' t kvs e0 e1 => ?_
    subst e0 e1
    obtain ⟨v, z1, a, vs, rfl, _, ha, _⟩ := s1.cell i _ h1
    obtain ⟨v', z2, b, e, _, hb⟩ := y.sr.cell i _ h2
    rw [hσ, z1] at z2
    cases z2
    cases e
    have q := (y.kp.2.1 a _ ha nt_lst (keptL s1 hs hi z1)).1
    unfold DctR at hb
    split at hb
    · obtain ⟨ks, hb, _⟩ := hb
      rw [AtK, if_pos rfl] at hb
      obtain ⟨o, hb⟩ := hb
      rw [q] at hb; cases hb
    · obtain ⟨ks, hb, _⟩ := hb
      rw [AtK, if_pos rfl] at hb
      obtain ⟨o, hb⟩ := hb
      rw [q] at hb; cases hb
  -- what is not locked in the locked frame
  have low : ∀ (i : Nat) (c : Cell), (lockAll ss τ1)[i]? = some (some c) → c.obj = true → c.lk = false → τ1[i]? = some (some c) := fun i c h o k => by
    obtain ⟨c0, h0, ⟨hi, e⟩ | ⟨_, e⟩⟩ := lockAll_inv h
    · rw [e, setLk_lkT (hs' i hi c0 h0)] at k
      cases k
    · rw [e]; exact h0
  have any : ∀ (i : Nat) (c : Cell), (lockAll ss τ1)[i]? = some (some c) → c.obj = true → ∃ c0 : Cell, τ1[i]? = some (some c0) ∧ c0.obj = true ∧ c0.lent = c.lent ∧ (i ∉ ss → c0 = c) := fun i c h o => by
    obtain ⟨c0, h0, ⟨hi, e⟩ | ⟨_, e⟩⟩ := lockAll_inv h
    · rw [e, setLk_obj] at o
      exact ⟨c0, h0, o, by rw [e, setLk_lent], fun z => (z hi).elim⟩
    · subst e; exact ⟨_, h0, o, rfl, fun _ => rfl⟩
  refine ⟨y.sr.lkEq (unlock_eq _ _ _), y.kp.imp fun a ⟨i, c, h1, h2, h3, h5⟩ => .inl ⟨i, c, low i c h1 h2 h3, h2, h3, h5⟩, fun a h => ?_, fun i c' h o m => ?_⟩
  · obtain ⟨i, c', h1, h2, h3, h4, h5⟩ := h
    obtain ⟨c, w1, ⟨hi, wl, c0, z1, e⟩ | ⟨e, _⟩⟩ := unlock_inv h1
    · subst e
      rw [setLk_obj] at h2
      rw [setLk_lent] at h4
      obtain ⟨cl, q1, q2, q3, q4, q5⟩ := y.keepL i c w1 h2 (.inr wl)
      rw [back i c c0 hi w1 wl z1 q5] at h3
      obtain ⟨c1, p1, p2, p3, _⟩ := any i cl q1 q2
      rw [z1] at p1; cases p1
      exact .inl ⟨i, c0, z1, p2, h3, p3.trans (q3.trans h4), by rw [← q5]; exact h5⟩
    · subst e
      rcases y.ownN a ⟨i, _, w1, h2, h3, h4, h5⟩ with z | z
      · obtain ⟨j, c, r1, r2, r3, r4, r5⟩ := z
        exact .inl ⟨j, c, low j c r1 r2 r3, r2, r3, r4, r5⟩
      · exact .inr z
  · obtain ⟨c, w1, ⟨hi, wl, c0, z1, e⟩ | ⟨e, hn⟩⟩ := unlock_inv h
    · subst e
      rw [setLk_obj] at o
      obtain ⟨cl, q1, q2, q3, q4, q5⟩ := y.keepL i c w1 o (.inr wl)
      obtain ⟨c1, p1, p2, p3, _⟩ := any i cl q1 q2
      rw [z1] at p1; cases p1
      exact ⟨c0, z1, p2, by rw [setLk_lent]; exact p3.trans q3, (back i c c0 hi w1 wl z1 q5).symm, q5⟩
    · subst e
      obtain ⟨cl, q1, q2, q3, q4, q5⟩ := y.keepL i c' w1 o m
      obtain ⟨c1, p1, p2, p3, p4⟩ := any i cl q1 q2
      by_cases hi : i ∈ ss
      · -- it was locked; so it is locked, and unlock would have freed it
        obtain ⟨c2, r1, ⟨_, e2⟩ | ⟨n2, _⟩⟩ := lockAll_inv q1
        · have hk : cl.lk = true := by rw [e2]; exact setLk_lkT (hs' i hi c2 r1)
          exact (hn hi (q4.symm.trans hk) c2 r1).elim
        · exact (n2 hi).elim
      · have e2 := p4 hi
        subst e2
        exact ⟨_, p1, p2, q3, q4, q5⟩

/-! ### for -/
/-- the turns -/
def zTurns (g : ZGD) (p : ZSD) : List PyData → ZSD
  | [], τ => .ok .nx τ
  | d :: ds, τ => match g d τ with
    | none => .stuck
    | some τ1 => match p τ1 with
      | .ok .nx τ2 => zTurns g p ds τ2
      | .ok .ct τ2 => zTurns g p ds τ2
      | .ok .bk τ2 => .ok .nx τ2
      | .ok (.rt c) τ2 => .ok (.rt c) τ2
      | .exc n τ2 => .exc n τ2
      | .stuck => .stuck
def onFr (f : Fr → Fr) : Res Fl → Res Fl
  | .ok a τ => .ok a (f τ)
  | .exc n τ => .exc n (f τ)
  | .stuck => .stuck
def zFor (it : ZID) (g : ZGD) (p : ZSD) : ZSD := fun τ => (it τ).bind fun r τ1 => onFr (unlock τ1 r.2) (zTurns g p r.1 (lockAll r.2 τ1))
theorem zs_for {tg iter : Expr} {body : List Stmt} {ts : List Nat} {it : ZID} {g : ZGD} {p : ZSD} (hp : PassesOwn (model X.prog X.w) X.A X.env X.xe) (hc : X.calm = true) (hi : ZI X W tg iter it) (hg : ZG X tg ts g) (hb : ZSs X W body p)
    (hs : ∀ x, foldedSetIterable iter X.env x = pure x := by intro _; rfl) : ZS X W (.For tg iter body [] pos) (zFor it g p) := by
  refine ⟨⟨fun pins s σ H D I h => (ps_for hp hc hi.pi hg.pg hb.ps hs).run pins s σ H D I ?_⟩⟩
  obtain ⟨G, τ, s, h⟩ := h
  refine ⟨G, τ, s, ?_⟩
  unfold zFor at h
  cases e : it τ with
  | stuck => rw [e] at h; exact h
  | exc n τ1 => rw [e] at h; exact fun G1 H1 x => h G1 σ H1 x.sx
  | ok r τ1 =>
    rw [e] at h
    obtain ⟨items, ss⟩ := r
    intro G1 H1 J x hss ok
    have h : FinS X.K W σ G τ H (onFr (unlock τ1 ss) (zTurns g p items (lockAll ss τ1))) D := h
    obtain ⟨Gd, Y, wk, stab, yl⟩ := ok.ex
    -- all is said from the locked frame
    have hL : FinS X.K W σ G1 (lockAll ss τ1) H1 (zTurns g p items (lockAll ss τ1)) D := by
      cases e2 : zTurns g p items (lockAll ss τ1) with
      | stuck => rw [e2] at h; exact h
      | exc n τ2 => rw [e2] at h; exact fun G2 σ2 H2 y => h G2 σ2 H2 (x.sx.trans (Sx.unlocked x.sr hss y))
      | ok f τ2 =>
        rw [e2] at h
        cases f with
        | nx => exact fun G2 σ2 H2 y => h G2 σ2 H2 (x.sx.trans (Sx.unlocked x.sr hss y))
        | bk => exact fun G2 σ2 H2 y => h G2 σ2 H2 (x.sx.trans (Sx.unlocked x.sr hss y))
        | ct => exact fun G2 σ2 H2 y => h G2 σ2 H2 (x.sx.trans (Sx.unlocked x.sr hss y))
        | rt c =>
          refine fun G2 σ2 H2 v y q => h G2 σ2 H2 v (x.sx.trans (Sx.unlocked x.sr hss y)) ?_
          refine RtOk.back x.sx ⟨q.1, fun o => ⟨(q.2 o).1, (q.2 o).2.1, fun a ea => ?_⟩⟩
          rcases (q.2 o).2.2 a ea with ⟨i, c0, h1, h2, h3, h4, h5⟩ | z
          · obtain ⟨c1, q0, ⟨hi, e3⟩ | ⟨_, e3⟩⟩ := lockAll_inv h1
            · obtain ⟨c', h1', h2'⟩ := hss i hi
              rw [q0] at h1'; cases h1'
              rw [e3, setLk_lkT h2'] at h3
              cases h3
            · subst e3
              exact .inl ⟨i, _, q0, h2, h3, h4, h5⟩
          · exact .inr z
    have sL : SR X.K G1 (lockAll ss τ1) σ H1 := x.sr.lkEq (lockAll_eq _ _)
    have keep : ∀ {G2 : Hp} {τ2 : Fr} {σ2 : Z.St} {H2 : Hp}, Sx X.K G1 (lockAll ss τ1) σ H1 G2 τ2 σ2 H2 → ∀ a, LkA σ ss a → H2 a = H1 a := fun {G2 τ2 σ2 H2} y a ⟨i, hi, e4⟩ => by
      obtain ⟨c, h1, h2⟩ := hss i hi
      obtain ⟨p, u, z1, _, z3, nt⟩ := x.sr.objAtN h1 (Cell.lkb_obj h2)
      rw [e4] at z1; cases z1
      rw [z3]
      exact (y.kp.2.1 a u z3 nt (keptL x.sr hss hi e4)).1
    refine for_it (g := tZG X.K ts g) (tb := tZS X.K W p) (D := D) wk (fun i σ' H' => ∃ G' τ', Sx X.K G1 (lockAll ss τ1) σ H1 G' τ' σ' H' ∧ FinS X.K W σ G1 (lockAll ss τ1) H1 (zTurns g p (items.drop i) τ') D) ⟨G1, _, Sx.refl sL, by rw [List.drop_zero]; exact hL⟩
      (fun i σ' H' _ ⟨G', τ', y, _⟩ => stab G' H' y.kp.1 y.sr.sub (keep y)) (fun i u σ2 H2 H3 hlt pv hy => ?_) fun σ2 H2 pv => ?_
    · obtain ⟨G2, τ2, y, hf⟩ := pv
      obtain ⟨G3, d, hd, rd, m1, m2, m3, m4⟩ := yl i u H2 H3 G2 hlt y.kp.1 y.sr.sub hy
      rw [List.drop_eq_getElem_cons hlt] at hf
      have ed : items[i] = d := by rw [List.getElem?_eq_getElem hlt] at hd; exact Option.some.inj hd
      rw [ed] at hf
      have y3 : Sx X.K G1 (lockAll ss τ1) σ H1 G3 τ2 σ2 H3 := by
        exact y.trans (Ex.stepIt y.sr m1 m2 m3 m4).sx
      refine ⟨G3, τ2, d, y3.sr, rd, ?_⟩
      cases e3 : g d τ2 with
      | none => simp only [zTurns, e3] at hf; exact hf.elim
      | some τ3 =>
        intro σ4 x4 _
        have y4 := y3.trans x4
        refine ⟨G3, τ3, x4.sr, ?_⟩
        cases e4 : p τ3 with
        | stuck => simp only [zTurns, e3, e4] at hf; exact hf
        | exc n τ4 => simp only [zTurns, e3, e4] at hf; exact fun G5 σ5 H5 z => hf G5 σ5 H5 (y4.trans z)
        | ok f τ4 =>
          cases f with
          | nx => simp only [zTurns, e3, e4] at hf; exact fun G5 σ5 H5 z => ⟨G5, τ4, y4.trans z, hf⟩
          | ct => simp only [zTurns, e3, e4] at hf; exact fun G5 σ5 H5 z => ⟨G5, τ4, y4.trans z, hf⟩
          | bk => simp only [zTurns, e3, e4] at hf; exact fun G5 σ5 H5 z => hf G5 σ5 H5 (y4.trans z)
          | rt c => simp only [zTurns, e3, e4] at hf; exact fun G5 σ5 H5 v z q => hf G5 σ5 H5 v (y4.trans z) (q.back y4)
    · obtain ⟨G2, τ2, y, hf⟩ := pv
      rw [List.drop_length] at hf
      exact hf G2 σ2 H2 y
end
end Z

/-! Z9: defs and their calls. -/
namespace Z
open PySem PySem.Spec PyProof.Rows L2
variable [TB : Tabs]
abbrev Mir := List Cell → Res Cell
/-- what is wished of exceptions, by their names -/
def wz (mg : Str → Option Value) (W : WZ) : WX := fun cls d σ H => d = none ∧ ∃ n, mg n = some cls ∧ W n σ H
/-- the heap's frozen part, the tables -/
def Okh (G H : Hp) : Prop := Sub G H ∧ ∀ P, Tabs.t P → G P = none ∧ TabO H P
theorem SR.okh {K : PySem.W.Frag} {G H : Hp} {τ : Fr} {σ : Z.St} (s : SR K G τ σ H) : Okh G H := ⟨s.sub, s.tab⟩
structure ArgOk (K : PySem.W.Frag) (G H : Hp) (vs : List V) (cs : List Cell) : Prop where
  len : vs.length = cs.length
  okh : Okh G H
  cr : ∀ (i : Nat) (v : V) (c : Cell), vs[i]? = some v → cs[i]? = some c → CR K G H v c
  lent : ∀ (i : Nat) (c : Cell), cs[i]? = some c → c.obj = true → c.lent = true
  sep : ∀ (i j : Nat) (ci cj : Cell) (v : V), i ≠ j → cs[i]? = some ci → cs[j]? = some cj → ci.obj = true → cj.obj = true → vs[i]? = some v → vs[j]? ≠ some v
def ArgOwn (vs : List V) (cs : List Cell) (a : Addr) : Prop := ∃ (i : Nat) (c : Cell), cs[i]? = some c ∧ c.obj = true ∧ c.lk = false ∧ vs[i]? = some (V.ref a)
/-- a def's promise by its mirror -/
def spZ (K : PySem.W.Frag) (mg : Str → Option Value) (np : Nat) (φ : Mir) : Sp := fun vs H Q E => vs.length = np ∧ ∃ G cs, ArgOk K G H vs cs ∧ match φ cs with
  | .ok c τ' => ∀ G' H' v, Kp (ArgOwn vs cs) G H G' H' → Okh G' H' → CR K G' H' v c → (c.obj = true → c.lent = false ∧ c.lk = false ∧ ∀ a, v = .ref a → H a = none) →
      (∀ (i : Nat) (w : V) (c' : Cell), vs[i]? = some w → τ'[i]? = some (some c') → c'.obj = true → c'.lent = true → CR K G' H' w c') → Q v H'
  | .exc n _ => ∀ G' H' cls, Kp (ArgOwn vs cs) G H G' H' → Okh G' H' → mg n = some cls → E cls none H'
  | .stuck => False
/-- a body as a mirror; n: the slots -/
def frame0 (n : Nat) (cs : List Cell) : Fr := cs.map some ++ List.replicate (n - cs.length) none
def runB (n : Nat) (d : ZSD) : Mir := fun cs => match d (frame0 n cs) with
  | .ok (.rt c) τ' => .ok c τ'
  | .ok .nx τ' => .ok (.fz .none) τ'
  | .exc n τ' => .exc n τ'
  | _ => .stuck
def wE (mg : Str → Option Value) (E : XK) : WZ := fun n _ H => ∀ cls, mg n = some cls → E cls none H
section
variable {K : PySem.W.Frag} {σ : Z.St} {G G1 G2 H H1 H2 : Hp} {τ τ1 τ2 : Fr}
theorem frame0_get {n : Nat} {cs : List Cell} {i : Nat} {c : Cell} (h : (frame0 n cs)[i]? = some (some c)) : cs[i]? = some c := by
  unfold frame0 at h
  by_cases hi : i < cs.length
  · rw [List.getElem?_append_left (by simpa using hi), List.getElem?_map] at h
    cases e : cs[i]? with
    | none => rw [e] at h; cases h
    | some c' => rw [e] at h; cases h; rfl
  · rw [List.getElem?_append_right (by simpa using hi), List.getElem?_replicate] at h
    split at h <;> cases h
theorem start_get {N : List Str} {vs : List V} {i : Nat} {v : V} (h : vs[i]? = some v) : (L2.start N vs)[i]? = some (some v) := by
  have hi := (List.getElem?_eq_some_iff.mp h).1
  unfold L2.start
  rw [List.getElem?_append_left (by simpa using hi), List.getElem?_map, h]
  rfl
theorem start_inv {N : List Str} {vs : List V} {i : Nat} {v : V} (h : (L2.start N vs)[i]? = some (some v)) : vs[i]? = some v := by
  unfold L2.start at h
  by_cases hi : i < vs.length
  · rw [List.getElem?_append_left (by simpa using hi), List.getElem?_map] at h
    cases e : vs[i]? with
    | none => rw [e] at h; cases h
    | some c' => rw [e] at h; cases h; rfl
  · rw [List.getElem?_append_right (by simpa using hi), List.getElem?_replicate] at h
    split at h <;> cases h
theorem SR.start {N : List Str} {vs : List V} {cs : List Cell} (a : ArgOk K G H vs cs) : SR K G (frame0 N.length cs) (L2.start N vs) H := by
  refine ⟨?_, a.okh.1, fun i c h => ?_, fun i j ci cj v n hi hj oi oj si sj => ?_, a.okh.2⟩
  · unfold frame0 L2.start
    simp [a.len]
  · have hc := frame0_get h
    have hl := (List.getElem?_eq_some_iff.mp hc).1
    have : i < vs.length := by rw [a.len]; exact hl
    exact ⟨vs[i], start_get (List.getElem?_eq_getElem this), a.cr i _ c (List.getElem?_eq_getElem this) hc⟩
  · exact a.sep i j ci cj v n (frame0_get hi) (frame0_get hj) oi oj (start_inv si) (start_inv sj)
theorem own_start {N : List Str} {vs : List V} {cs : List Cell} {a : Addr} (h : Ownd (frame0 N.length cs) (L2.start N vs) a) : ArgOwn vs cs a := by
  obtain ⟨i, c, h1, h2, h3, h4⟩ := h
  exact ⟨i, c, frame0_get h1, h2, h3, start_inv h4⟩
end
/-! ### arguments -/
/-- results from the left: an own thing is new at its time, and stands at the next -/
inductive RLs (K : PySem.W.Frag) (σ : Z.St) (τ' : Fr) (G' H' : Hp) : Hp → List V → List LR → Prop
  | nil {H : Hp} : RLs K σ τ' G' H' H [] []
  | cons {H H1 : Hp} {v : V} {l : LR} {vs : List V} {ls : List LR} : RL K σ H τ' G' H' v l → (∀ a, H1 a = none → H a = none) → (∀ (c : Cell) (a : Addr), l = .cl c → c.obj = true → v = .ref a → H1 a ≠ none) → RLs K σ τ' G' H' H1 vs ls → RLs K σ τ' G' H' H (v :: vs) (l :: ls)
abbrev ZLD := Fr → Res (List LR)
section
variable {X : Cx} {K : PySem.W.Frag} {W : WZ} {σ : Z.St} {G G1 G2 H H1 H2 : Hp} {τ τ1 τ2 : Fr} {v x y : V} {l : LR} {a : Expr} {es : List Expr} {pos : Pos} {da : ZD}
def FinL (K : PySem.W.Frag) (W : WZ) (σ : Z.St) (G : Hp) (τ : Fr) (H : Hp) (r : Res (List LR)) (Q : List V → Hp → Prop) : Prop := match r with
  | .ok ls τ' => ∀ G' H' vs, Ex K σ G τ H G' τ' H' → RLs K σ τ' G' H' H vs ls → Q vs H'
  | .exc n τ' => ∀ G' H', Ex K σ G τ H G' τ' H' → W n σ H'
  | .stuck => False
def tZL (K : PySem.W.Frag) (W : WZ) (d : ZLD) : TA := fun σ H Q => ∃ G τ, SR K G τ σ H ∧ FinL K W σ G τ H (d τ) Q
structure ZL (X : Cx) (W : WZ) (es : List Expr) (d : ZLD) : Prop where
  pa : PA X es (tZL X.K W d)
def zlN : ZLD := fun τ => .ok [] τ
def zlC (a : ZD) (r : ZLD) : ZLD := fun τ => (a τ).bind fun l τ1 => (r τ1).bind fun ls τ2 => .ok (l :: ls) τ2
theorem zl_nil : ZL X W [] zlN := ⟨⟨fun pos pins s σ H Q I h => pa_nil.run pos pins s σ H Q I (by obtain ⟨G, τ, r, h⟩ := h; exact h G H [] (Ex.refl r) .nil)⟩⟩
theorem zl_cons {dr : ZLD} (ha : ZE X W a da) (hr : ZL X W es dr) (hs : starEach (a :: es) X.env = (false, eval a X.env) :: starEach es X.env := by rfl) : ZL X W (a :: es) (zlC da dr) := by
  refine ⟨⟨fun pos pins s σ H Q I h => (pa_cons ha.pe hr.pa hs).run pos pins s σ H Q I ?_⟩⟩
  obtain ⟨G, τ, s, h⟩ := h
  refine ⟨G, τ, s, ?_⟩
  unfold zlC at h
  cases e : da τ with
  | stuck => rw [e] at h; exact h
  | exc n τ2 => rw [e] at h; exact h
  | ok l τ1 =>
    rw [e] at h
    intro G1 H1 v x1 r1
    refine ⟨G1, τ1, x1.sr, ?_⟩
    dsimp only [Res.bind] at h
    cases e2 : dr τ1 with
    | stuck => rw [e2] at h; exact h
    | exc n τ2 => rw [e2] at h; exact fun G2 H2 y => h G2 H2 (x1.trans y)
    | ok ls τ2 =>
      rw [e2] at h
      refine fun G2 H2 vs y q => h G2 H2 (v :: vs) (x1.trans y) (.cons (r1.keep s x1 y) x1.kp.2.2 (fun c p ec o ev => ?_) q)
      subst ec
      obtain ⟨b, u, e3, _, h3⟩ := r1.1.there o
      rw [ev] at e3
      cases e3
      rw [h3]
      exact fun z => nomatch z
theorem RLs.len {vs : List V} {ls : List LR} (h : RLs K σ τ1 G1 H1 H vs ls) : vs.length = ls.length := by
  induction h with
  | nil => rfl
  | cons _ _ _ _ ih => simp [ih]
theorem RLs.get {vs : List V} {ls : List LR} (h : RLs K σ τ1 G1 H1 H vs ls) : ∀ {i : Nat} {v : V} {l : LR}, vs[i]? = some v → ls[i]? = some l → RL K σ H τ1 G1 H1 v l := by
  induction h with
  | nil => intro i v l e; simp at e
  | @cons H H2 v l vs ls r m _ _ ih =>
    intro i v' l' e1 e2
    cases i with
    | zero => simp at e1 e2; subst e1; subst e2; exact r
    | succ i =>
      have q := ih (by simpa using e1) (by simpa using e2)
      cases l' with
      | sl j => exact q
      | cl c => exact ⟨q.1, fun o => ⟨(q.2 o).1, (q.2 o).2.1, fun a e => m a ((q.2 o).2.2 a e)⟩⟩
/-- two own things stand apart -/
theorem RLs.apart {vs : List V} {ls : List LR} (h : RLs K σ τ1 G1 H1 H vs ls) : ∀ {i j : Nat} {ci cj : Cell} {v : V}, i < j → ls[i]? = some (.cl ci) → ls[j]? = some (.cl cj) → ci.obj = true → cj.obj = true → vs[i]? = some v → vs[j]? ≠ some v := by
  induction h with
  | nil => intro i j ci cj v _ e; simp at e
  | @cons H H2 v l vs ls r m n t ih =>
    intro i j ci cj w hij e1 e2 oi oj s1 s2
    cases j with
    | zero => omega
    | succ j =>
      have e2 : ls[j]? = some (.cl cj) := by simpa using e2
      have s2 : vs[j]? = some w := by simpa using s2
      cases i with
      | zero =>
        simp at e1 s1
        subst e1; subst s1
        have q := t.get s2 e2
        obtain ⟨p, u, e3, _, _⟩ := q.1.there oj
        exact n ci p rfl oi e3 ((q.2 oj).2.2 p e3)
      | succ i => exact ih (Nat.lt_of_succ_lt_succ hij) (by simpa using e1) e2 oi oj (by simpa using s1) s2
def toArg : Cell → Cell
  | .lst _ k ds => .lst true k ds
  | .dct _ k t kvs => .dct true k t kvs
  | c => c
def argCells (τ : Fr) : List LR → Option (List Cell)
  | [] => some []
  | l :: ls => match rdL τ l, argCells τ ls with
    | some c, some cs => some (toArg c :: cs)
    | _, _ => none
def isSl (i : Nat) : LR → Bool
  | .sl j => j == i
  | _ => false
def objAt (τ : Fr) (i : Nat) : Bool := match cellAt τ i with
  | some c => c.obj
  | none => false
def okArgs (τ : Fr) : List LR → Bool
  | [] => true
  | .sl i :: r => !(objAt τ i && r.any (isSl i)) && okArgs τ r
  | .cl _ :: r => okArgs τ r
def merge (c : Cell) (o : Option (Option Cell)) : Option Cell := match c, o with
  | .lst l k _, some (some (.lst true _ ds)) => some (.lst l k ds)
  | .dct l k _ _, some (some (.dct true k' t kvs)) => if k' = k then some (.dct l k t kvs) else none
  | _, _ => none
def back1 (ls : List LR) (τ' : Fr) (i : Nat) : Option Cell → Option Cell
  | some c => if c.obj = true then (match ls.findIdx? (isSl i) with
    | some k => merge c τ'[k]?
    | none => some c) else some c
  | none => none
def backF (ls : List LR) (τ' : Fr) (τ : Fr) : Fr := τ.mapIdx fun i o => back1 ls τ' i o
def lose1 (ls : List LR) (i : Nat) : Option Cell → Option Cell
  | some c => if c.obj = true && ls.any (isSl i) then none else some c
  | none => none
def loseF (ls : List LR) (τ : Fr) : Fr := τ.mapIdx fun i o => lose1 ls i o
def zCall (φ : Mir) (np : Nat) (da : ZLD) : ZD := fun τ => (da τ).bind fun ls τ1 => match argCells τ1 ls with
  | none => .stuck
  | some cs => if okArgs τ1 ls = true ∧ cs.length = np then (match φ cs with
    | .ok c τ' => .ok (.cl c) (backF ls τ' τ1)
    | .exc n _ => .exc n (loseF ls τ1)
    | .stuck => .stuck) else .stuck
theorem argCells_len : ∀ {ls : List LR} {cs : List Cell}, argCells τ ls = some cs → cs.length = ls.length
  | [], _, h => by cases h; rfl
  | l :: ls, cs, h => by
    unfold argCells at h
    split at h
    · rename_i c cs' e1 e2
      cases h
      simp [argCells_len e2]
    · cases h
theorem argCells_get : ∀ {ls : List LR} {cs : List Cell} {i : Nat} {c' : Cell}, argCells τ ls = some cs → cs[i]? = some c' → ∃ l c, ls[i]? = some l ∧ rdL τ l = some c ∧ c' = toArg c
  | [], _, _, _, h, e => by cases h; simp at e
  | l :: ls, cs, i, c', h, e => by
    unfold argCells at h
    split at h
    · rename_i c cs' e1 e2
      cases h
      cases i with
      | zero => simp at e; exact ⟨l, c, rfl, e1, e.symm⟩
      | succ i =>
        obtain ⟨l2, c2, h1, h2, h3⟩ := argCells_get e2 (i := i) (c' := c') (by simpa using e)
        exact ⟨l2, c2, by simpa using h1, h2, h3⟩
    · cases h
theorem okArgs_apart : ∀ {ls : List LR} {i j k : Nat}, okArgs τ ls = true → i < j → ls[i]? = some (.sl k) → ls[j]? = some (.sl k) → objAt τ k = true → False
  | [], i, j, k, _, _, e, _, _ => by simp at e
  | l :: ls, i, j, k, h, hij, e1, e2, o => by
    cases j with
    | zero => omega
    | succ j =>
      have e2 : ls[j]? = some (.sl k) := by simpa using e2
      cases i with
      | zero =>
        simp at e1
        subst e1
        unfold okArgs at h
        rw [Bool.and_eq_true, Bool.not_eq_true'] at h
        have h1 := h.1
        rw [o, Bool.true_and] at h1
        have : ls.any (isSl k) = true := List.any_eq_true.mpr ⟨.sl k, List.mem_of_getElem? e2, by simp [isSl]⟩
        rw [this] at h1
        cases h1
      | succ i =>
        have h' : okArgs τ ls = true := by
          cases l with
          | sl m => unfold okArgs at h; exact (Bool.and_eq_true_iff.mp h).2
          | cl c => unfold okArgs at h; exact h
        exact okArgs_apart h' (Nat.lt_of_succ_lt_succ hij) (by simpa using e1) e2 o
theorem toArg_obj (c : Cell) : (toArg c).obj = c.obj := by cases c <;> rfl
theorem toArg_lk (c : Cell) : (toArg c).lk = c.lk := by cases c <;> rfl
theorem toArg_lent {c : Cell} (h : c.obj = true) : (toArg c).lent = true := by cases c <;> first | rfl | cases h
theorem CR.toArg {c : Cell} (h : CR K G H v c) : CR K G H v (toArg c) := by cases c <;> exact h
/-- the arguments are as a callee wants them -/
theorem argOk (s : SR K G τ σ H) (x : Ex K σ G τ H G1 τ1 H1) {vs : List V} {ls : List LR} {cs : List Cell} (r : RLs K σ τ1 G1 H1 H vs ls) (ha : argCells τ1 ls = some cs) (ok : okArgs τ1 ls = true) : ArgOk K G1 H1 vs cs := by
  have hl := argCells_len ha
  refine ⟨r.len.trans hl.symm, x.sr.okh, fun i v c' hv hc => ?_, fun i c' hc o => ?_, fun i j ci cj v n hi hj oi oj si sj => ?_⟩
  · obtain ⟨l, c, h1, h2, rfl⟩ := argCells_get ha hc
    exact (RL.cell x.sr (r.get hv h1) h2).toArg
  · obtain ⟨l, c, h1, h2, rfl⟩ := argCells_get ha hc
    rw [toArg_obj] at o
    exact toArg_lent o
  · obtain ⟨l, c, h1, h2, rfl⟩ := argCells_get ha hi
    obtain ⟨m, e, w1, w2, rfl⟩ := argCells_get ha hj
    rw [toArg_obj] at oi oj
    have q1 := r.get si h1
    have q2 := r.get sj w1
    cases l with
    | sl p =>
      cases m with
      | sl q =>
        by_cases pq : p = q
        · subst pq
          have op : objAt τ1 p = true := by
            unfold objAt
            rw [show cellAt τ1 p = some c from h2]
            exact oi
          rcases Nat.lt_or_gt_of_ne n with z | z
          · exact okArgs_apart ok z h1 w1 op
          · exact okArgs_apart ok z w1 h1 op
        · exact x.sr.sep p q c e v pq (cellAt_some h2) (cellAt_some w2) oi oj q1 q2
      | cl e' =>
        cases w2
        obtain ⟨c0, z1, z2, _, _⟩ := x.mode p c (cellAt_some h2) oi
        obtain ⟨b, u, z3, _, z4⟩ := s.objAt z1 z2
        rw [show σ[p]? = some (some v) from q1] at z3
        cases z3
        rw [(q2.2 oj).2.2 b rfl] at z4
        cases z4
    | cl c' =>
      cases h2
      cases m with
      | sl q =>
        obtain ⟨c0, z1, z2, _, _⟩ := x.mode q e (cellAt_some w2) oj
        obtain ⟨b, u, z3, _, z4⟩ := s.objAt z1 z2
        rw [show σ[q]? = some (some v) from q2] at z3
        cases z3
        rw [(q1.2 oi).2.2 b rfl] at z4
        cases z4
      | cl e' =>
        cases w2
        rcases Nat.lt_or_gt_of_ne n with z | z
        · exact r.apart z h1 w1 oi oj si sj
        · exact r.apart z w1 h1 oj oi sj si
theorem merge_mode {c c' : Cell} {o : Option (Option Cell)} (h : merge c o = some c') : c'.obj = true ∧ c.obj = true ∧ c.lent = c'.lent ∧ c.lk = c'.lk ∧ ∃ e : Cell, o = some (some e) ∧ e.obj = true ∧ e.lent = true ∧ ∀ K G H v, CR K G H v e → CR K G H v c' := by
  unfold merge at h
  split at h
  · cases h; exact ⟨rfl, rfl, rfl, rfl, _, rfl, rfl, rfl, fun _ _ _ _ q => q⟩
  · split at h
    · rename_i hk
      subst hk
      cases h; exact ⟨rfl, rfl, rfl, rfl, _, rfl, rfl, rfl, fun _ _ _ _ q => q⟩
    · cases h
  · cases h
/-- behind a call: the own things of the callee's arguments may be other ones -/
theorem Ex.called (s : SR K G τ σ H) (x : Ex K σ G τ H G1 τ1 H1) {vs : List V} {ls : List LR} {cs : List Cell} (r : RLs K σ τ1 G1 H1 H vs ls) (ha : argCells τ1 ls = some cs) {f : Nat → Option Cell → Option Cell}
    (kp : Kp (ArgOwn vs cs) G1 H1 G2 H2) (sub : Okh G2 H2)
    (hf : ∀ (i : Nat) (c c' : Cell), τ1[i]? = some (some c) → f i (some c) = some c' → (c' = c ∧ (c.obj = true → ls.any (isSl i) = false)) ∨ (c'.obj = true ∧ c.obj = true ∧ c.lent = c'.lent ∧ c.lk = c'.lk ∧ ∃ v, σ[i]? = some (some v) ∧ CR K G2 H2 v c'))
    (hn : ∀ i, f i none = none) : Ex K σ G τ H G2 (τ1.mapIdx fun i o => f i o) H2 := by
  have get : ∀ (i : Nat) (c' : Cell), (τ1.mapIdx fun i o => f i o)[i]? = some (some c') → ∃ c : Cell, τ1[i]? = some (some c) ∧ f i (some c) = some c' := fun i c' h => by
    rw [List.getElem?_mapIdx] at h
    obtain ⟨o, h1, h2⟩ := Option.map_eq_some_iff.mp h
    cases o with
    | none => rw [hn] at h2; cases h2
    | some c => exact ⟨c, h1, h2⟩
  have objOf : ∀ (i : Nat) (c c' : Cell), τ1[i]? = some (some c) → f i (some c) = some c' → c'.obj = true → c.obj = true := fun i c c' h1 h2 o => by
    rcases hf i c c' h1 h2 with ⟨e, _⟩ | ⟨_, z, _⟩
    · rw [← e]; exact o
    · exact z
  refine ⟨⟨by rw [List.length_mapIdx]; exact x.sr.len, sub.1, fun i c' h => ?_, fun i j ci cj v n hi hj oi oj si => ?_, sub.2⟩, x.kp.trans kp fun a ha' => ?_, fun i c' h o => ?_⟩
  · obtain ⟨c, h1, h2⟩ := get i c' h
    rcases hf i c c' h1 h2 with ⟨rfl, hno⟩ | ⟨_, _, _, _, v, z, q⟩
    · obtain ⟨v, z, q⟩ := x.sr.cell i _ h1
      refine ⟨v, z, q.mono kp.1 fun a o ev oc nt hh => kp.2.1 a o hh nt fun own => ?_⟩
      subst ev
      obtain ⟨k, ck, q1, q2, q3, q4⟩ := own
      obtain ⟨l, c0, w1, w2, rfl⟩ := argCells_get ha q1
      have rk := r.get q4 w1
      rw [toArg_obj] at q2
      cases l with
      | sl p =>
        by_cases pi : p = i
        · subst pi
          have : ls.any (isSl p) = true := List.any_eq_true.mpr ⟨.sl p, List.mem_of_getElem? w1, by simp [isSl]⟩
          rw [hno oc] at this
          cases this
        · exact x.sr.sep p i c0 _ _ pi (cellAt_some w2) h1 q2 oc rk z
      | cl e =>
        cases w2
        obtain ⟨c1, z1, z2, _, _⟩ := x.mode i _ h1 oc
        obtain ⟨b, u, z3, _, z4⟩ := s.objAt z1 z2
        rw [z] at z3
        cases z3
        rw [(rk.2 q2).2.2 _ rfl] at z4
        cases z4
    · exact ⟨v, z, q⟩
  · obtain ⟨c1, h1, h2⟩ := get i ci hi
    obtain ⟨c2, w1, w2⟩ := get j cj hj
    exact x.sr.sep i j c1 c2 v n h1 w1 (objOf i c1 ci h1 h2 oi) (objOf j c2 cj w1 w2 oj) si
  · obtain ⟨k, ck, q1, q2, q3, q4⟩ := ha'
    obtain ⟨l, c0, w1, w2, rfl⟩ := argCells_get ha q1
    have rk := r.get q4 w1
    rw [toArg_obj] at q2
    rw [toArg_lk] at q3
    cases l with
    | sl p => exact .inl (x.own ⟨p, c0, cellAt_some w2, q2, q3, rk⟩)
    | cl e =>
      cases w2
      exact .inr ((rk.2 q2).2.2 a rfl)
  · obtain ⟨c, h1, h2⟩ := get i c' h
    rcases hf i c c' h1 h2 with ⟨rfl, _⟩ | ⟨z1, z2, z3, z4, _⟩
    · exact x.mode i _ h1 o
    · obtain ⟨c0, y1, y2, y3, y4⟩ := x.mode i c h1 z2
      exact ⟨c0, y1, y2, y3.trans z3, y4.trans z4⟩
theorem findIdx_some {ls : List LR} {i k : Nat} (h : ls.findIdx? (isSl i) = some k) : ls[k]? = some (.sl i) := by
  obtain ⟨hk, h1, _⟩ := List.findIdx?_eq_some_iff_getElem.mp h
  rw [List.getElem?_eq_getElem hk]
  generalize ls[k] = m at h1 ⊢
  cases m with
  | sl j => simp [isSl] at h1; rw [h1]
  | cl c => simp [isSl] at h1
theorem findIdx_none {ls : List LR} {i : Nat} (h : ls.findIdx? (isSl i) = none) : ls.any (isSl i) = false := by
  rw [List.findIdx?_eq_none_iff] at h
  exact List.any_eq_false.mpr fun x hx => by rw [h x hx]; decide
/-- THE RULE: a call of a def -/
theorem ze_call {x : Str} {p : Pos} {e : Expr} {f : Addr} {fd : FuncData} {ps : List Str} {k : Nat} {φ : Mir} {da : ZLD} (F : FnOk X.prog X.w X.K X.mg X.base (L2N.CX X.prog X.w) k f fd ps (spZ X.K X.mg ps.length φ)) (hr : Room k X.A) (tk : L2N.Takes X (wz X.mg W))
    (hg : Gl X x) (hm : X.mg x = some (.ref f)) (hk : PySem.W.keepIn X.K (.ref f) = true) (hb : Binds X.K fd ps []) (ha : ZL X W (e :: es) da) (hdb : (x == ("__debug__" : Str)) = false := by decide)
    (he : starEach (e :: es) X.env = (false, eval e X.env) :: starEach es X.env := by rfl) (hpl : (backTo pos (starEach es X.env)).any (·.1) = false := by rfl) : ZE X W (.Call (.Name x p) (e :: es) [] pos) (zCall φ ps.length da) := by
  refine ⟨⟨fun pins s σ H Q I h => (pe_callS (E := WE (wz X.mg W)) F hr hg hm hk hb (fun σ => L2N.passAt tk σ) ha.pa hdb he hpl).run pins s σ H Q I ?_⟩⟩
  obtain ⟨G, τ, s, h⟩ := tZ_to h
  refine ⟨G, τ, s, ?_⟩
  unfold zCall at h
  cases e1 : da τ with
  | stuck => rw [e1] at h; exact h
  | exc n τ1 => rw [e1] at h; exact h
  | ok ls τ1 =>
    rw [e1] at h
    intro G1 H1 vs x1 r
    dsimp only [Res.bind] at h
    cases ea : argCells τ1 ls with
    | none => rw [ea] at h; exact h.elim
    | some cs =>
      rw [ea] at h
      dsimp only at h
      by_cases ho : okArgs τ1 ls = true ∧ cs.length = ps.length
      · rw [if_pos ho] at h
        have hl : vs.length = ps.length := by rw [r.len, ← argCells_len ea]; exact ho.2
        refine ⟨hl, G1, cs, argOk s x1 r ea ho.1, ?_⟩
        cases eφ : φ cs with
        | stuck => rw [eφ] at h; exact h.elim
        | exc n τ' =>
          rw [eφ] at h
          intro G2 H2 cls kp sub hn
          refine ⟨rfl, n, hn, h G2 H2 (Ex.called s x1 r ea (f := lose1 ls) kp sub (fun i c c' _ h2 => ?_) fun _ => rfl)⟩
          unfold lose1 at h2
          dsimp only at h2
          split at h2
          · cases h2
          · rename_i hb
            cases h2
            refine .inl ⟨rfl, fun o => ?_⟩
            cases q : ls.any (isSl i) with
            | false => rfl
            | true => exact (hb (by simp [o, q])).elim
        | ok c τ' =>
          rw [eφ] at h
          intro G2 H2 v kp sub cr fr outs
          refine h G2 H2 v (Ex.called s x1 r ea (f := back1 ls τ') kp sub (fun i c c' h1 h2 => ?_) fun _ => rfl) ⟨cr, fun o => ⟨(fr o).1, (fr o).2.1, fun a e => x1.kp.2.2 a ((fr o).2.2 a e)⟩⟩
          unfold back1 at h2
          dsimp only at h2
          split at h2
          · rename_i oc
            split at h2
            · rename_i k hk
              obtain ⟨m1, m2, m3, m4, e', m5, m6, m7, m8⟩ := merge_mode h2
              have hls := findIdx_some hk
              have hkl := (List.getElem?_eq_some_iff.mp hls).1
              obtain ⟨vk, hv⟩ : ∃ vk, vs[k]? = some vk := ⟨_, List.getElem?_eq_getElem (show k < vs.length by rw [r.len]; exact hkl)⟩
              exact .inr ⟨m1, m2, m3, m4, vk, r.get hv hls, m8 _ _ _ _ (outs k vk e' hv m5 m6 m7)⟩
            · rename_i hk
              cases h2
              exact .inl ⟨rfl, fun _ => findIdx_none hk⟩
          · rename_i oc
            cases h2
            exact .inl ⟨rfl, fun o => absurd o oc⟩
      · rw [if_neg ho] at h
        exact h.elim
end
end Z

/-! Z10: list comprehensions. -/
namespace Z
open PySem PySem.Spec PyProof.Rows L2
variable [TB : Tabs]
abbrev wF : WZ := fun _ _ _ => False
theorem takesF {X : Cx} {mg : Str → Option Value} : L2N.Takes X (wz mg wF) := fun _ _ x => by
  obtain ⟨_, _, _, _, _, _, _, _, _, _, _, _, _, _, _, _, _, _, _, z⟩ := x
  exact z.elim
def wipeF (vs : List Nat) (τ : Fr) : Fr := τ.mapIdx fun i o => if i ∈ vs then none else o
/-- the slots at vs as they were in τ0 -/
def restF (vs : List Nat) (τ0 τ : Fr) : Fr := τ.mapIdx fun i o => if i ∈ vs then cellAt τ0 i else o
def lcTurns (vs : List Nat) (g : ZGD) (tt : ZTD) (te : ZD) : List PyData → Fr → List PyData → Res (List PyData)
  | [], τ, acc => .ok acc τ
  | d :: ds, τ, acc => match g d τ with
    | none => .stuck
    | some τ1 => match tt τ1 with
      | .ok true τ2 => (match zF te τ2 with
        | .ok (.cl (.fz r)) τ3 => if acc.length < sizeLine then lcTurns vs g tt te ds (wipeF vs τ3) (acc ++ [r]) else .stuck
        | _ => .stuck)
      | .ok false τ2 => lcTurns vs g tt te ds (wipeF vs τ2) acc
      | _ => .stuck
def zLc (it : ZID) (vs : List Nat) (g : ZGD) (tt : ZTD) (te : ZD) : ZD := fun τ => (it τ).bind fun r τ1 => match lcTurns vs g tt te r.1 (wipeF vs (lockAll r.2 τ1)) [] with
  | .ok acc τ2 => .ok (.cl (.lst false false acc)) (restF vs τ1 (unlock τ1 r.2 τ2))
  | _ => .stuck
structure ZTs (X : Cx) (W : WZ) (ifs : List Expr) (d : ZTD) : Prop where
  pts : PTs X ifs (tZT X.K W d)
def zYes : ZTD := fun τ => .ok true τ
section
variable {X : Cx} {K : PySem.W.Frag} {W : WZ} {σ σ1 σ2 : Z.St} {G G1 G2 H H1 H2 : Hp} {τ τ1 τ2 : Fr} {v x y : V} {l : LR} {d e : PyData} {a b c : Expr} {pos : Pos} {da db dc : ZD}
theorem zts_nil : ZTs X W [] zYes := ⟨⟨fun pins s σ H Q I h => pts_nil.run pins s σ H Q I (by obtain ⟨G, τ, r, h⟩ := h; exact h G H (Ex.refl r))⟩⟩
theorem zts_one {t : ZTD} (h : ZT X W c t) : ZTs X W [c] t := ⟨pts_one h.pt⟩
theorem wipe_get (σ : Z.St) (vs : List Nat) (i : Nat) : (wipe σ vs)[i]? = if i ∈ vs then σ[i]?.map (fun _ => none) else σ[i]? := by
  induction vs with
  | nil => rfl
  | cons v vs ih =>
    show ((wipe σ vs).set v none)[i]? = _
    by_cases e : v = i
    · subst e
      rw [List.getElem?_set, if_pos rfl, if_pos (by simp : v ∈ v :: vs)]
      rw [wipe_length]
      by_cases h : v < σ.length
      · rw [if_pos h, List.getElem?_eq_getElem h]; rfl
      · rw [if_neg h, List.getElem?_eq_none (by omega)]; rfl
    · rw [List.getElem?_set_ne e, ih]
      have : i ∈ v :: vs ↔ i ∈ vs := ⟨fun h => (List.mem_cons.mp h).elim (fun z => (e z.symm).elim) id, fun h => List.mem_cons_of_mem _ h⟩
      by_cases h : i ∈ vs
      · rw [if_pos h, if_pos (this.mpr h)]
      · rw [if_neg h, if_neg fun z => h (this.mp z)]
theorem wipe_same {vs : List Nat} (hl : σ1.length = σ.length) (h : ∀ j, j ∉ vs → σ1[j]? = σ[j]?) : wipe σ1 vs = wipe σ vs := by
  apply List.ext_getElem?
  intro i
  rw [wipe_get, wipe_get]
  by_cases hi : i ∈ vs
  · rw [if_pos hi, if_pos hi]
    by_cases h2 : i < σ.length
    · rw [List.getElem?_eq_getElem h2, List.getElem?_eq_getElem (by omega)]; rfl
    · rw [List.getElem?_eq_none (by omega), List.getElem?_eq_none (by omega)]
  · rw [if_neg hi, if_neg hi]; exact h i hi
theorem wipeF_inv {vs : List Nat} {i : Nat} {c : Cell} (h : (wipeF vs τ)[i]? = some (some c)) : i ∉ vs ∧ τ[i]? = some (some c) := by
  unfold wipeF at h
  rw [List.getElem?_mapIdx] at h
  obtain ⟨o, h1, h2⟩ := Option.map_eq_some_iff.mp h
  split at h2
  · cases h2
  · rename_i hi; subst h2; exact ⟨hi, h1⟩
theorem wipeF_len (vs : List Nat) (τ : Fr) : (wipeF vs τ).length = τ.length := by unfold wipeF; rw [List.length_mapIdx]
/-- the frame of a block: other slots, fewer cells -/
theorem SR.wiped (s : SR K G τ σ1 H) {vs : List Nat} (hl : σ.length = σ1.length) (h : ∀ j, j ∉ vs → σ1[j]? = σ[j]?) : SR K G (wipeF vs τ) σ H := by
  refine ⟨by rw [wipeF_len, hl]; exact s.len, s.sub, fun i c hc => ?_, fun i j ci cj v n hi hj oi oj si => ?_, s.tab⟩
  · obtain ⟨h1, h2⟩ := wipeF_inv hc
    obtain ⟨v, z, q⟩ := s.cell i c h2
    exact ⟨v, by rw [← h i h1]; exact z, q⟩
  · obtain ⟨h1, h2⟩ := wipeF_inv hi
    obtain ⟨h3, h4⟩ := wipeF_inv hj
    rw [← h i h1] at si
    rw [← h j h3]
    exact s.sep i j ci cj v n h2 h4 oi oj si
theorem Ex.sub0 (s : SR K G τ σ H) {D : Addr} {o : HO} (hD : H D = none) (x : Ex K σ G τ H G1 τ1 H1) (gD : G1 D = none) (h1D : ∃ u, H1 D = some u ∧ NT u) : Ex K σ G τ H G1 τ1 (upd H1 D o) := by
  have ne : ∀ (i : Nat) (c : Cell) (p : Addr), τ1[i]? = some (some c) → c.obj = true → σ[i]? = some (some (V.ref p)) → p ≠ D := fun i c p h ho e z => by
    obtain ⟨c0, z1, z2, _, _⟩ := x.mode i c h ho
    obtain ⟨b, u, w1, _, w3⟩ := s.objAt z1 z2
    rw [e] at w1; cases w1
    rw [z, hD] at w3; cases w3
  refine ⟨⟨x.sr.len, fun p u h => ?_, fun i c h => ?_, x.sr.sep, fun P hP => ?_⟩, ⟨x.kp.1, fun p u h nt n => ?_, fun p h => ?_⟩, x.mode⟩
  · have : p ≠ D := fun z => by rw [z, gD] at h; cases h
    rw [upd_ne this]; exact x.sr.sub p u h
  · obtain ⟨v, z, q⟩ := x.sr.cell i c h
    refine ⟨v, z, q.mono Sub.refl fun p u ev ho _ hh => ⟨?_, GS.rfl⟩⟩
    subst ev
    rw [upd_ne (ne i c p h ho z)]; exact hh
  · obtain ⟨t1, t2⟩ := x.sr.tab P hP
    obtain ⟨u, hu, nt⟩ := h1D
    have := t2.ne hu nt
    obtain ⟨ps, t2, t3⟩ := t2
    exact ⟨t1, ps, by rw [upd_ne this]; exact t2, t3⟩
  · have : p ≠ D := fun z => by rw [z, hD] at h; cases h
    rw [upd_ne this]; exact x.kp.2.1 p u h nt n
  · by_cases e : p = D
    · rw [e, upd_same] at h; cases h
    · rw [upd_ne e] at h; exact x.kp.2.2 p h
theorem cellAt_eq {i : Nat} {c : Cell} : cellAt τ i = some c ↔ τ[i]? = some (some c) := by
  refine ⟨cellAt_some, fun h => ?_⟩
  unfold cellAt
  rw [h]
/-- a block's frame, behind the block -/
theorem Ex.unblock {ss vs : List Nat} (s1 : SR K G1 τ1 σ H1) (hss : ∀ i ∈ ss, ∃ c : Cell, τ1[i]? = some (some c) ∧ c.lkb = true) (y : Ex K (wipe σ vs) G1 (wipeF vs (lockAll ss τ1)) H1 G2 τ2 H2) : Ex K σ G1 τ1 H1 G2 (restF vs τ1 (unlock τ1 ss τ2)) H2 := by
  have sameB : ∀ j, j ∉ vs → (wipe σ vs)[j]? = σ[j]? := fun j hj => by rw [wipe_get, if_neg hj]
  have inv : ∀ (i : Nat) (c' : Cell), (restF vs τ1 (unlock τ1 ss τ2))[i]? = some (some c') → (i ∈ vs ∧ τ1[i]? = some (some c')) ∨ (i ∉ vs ∧ (unlock τ1 ss τ2)[i]? = some (some c')) := fun i c' h => by
    unfold restF at h
    rw [List.getElem?_mapIdx] at h
    obtain ⟨o, h1, h2⟩ := Option.map_eq_some_iff.mp h
    split at h2
    · rename_i hi; exact .inl ⟨hi, cellAt_some h2⟩
    · rename_i hi; subst h2; exact .inr ⟨hi, h1⟩
  -- a cell of the block's frame that is an object, in τ1
  have old : ∀ (i : Nat) (c : Cell), τ2[i]? = some (some c) → c.obj = true → i ∉ vs ∧ ∃ c1 : Cell, τ1[i]? = some (some c1) ∧ c1.obj = true ∧ c1.lent = c.lent ∧ ((i ∈ ss ∧ c.lk = true) ∨ (i ∉ ss ∧ c1.lk = c.lk)) := fun i c h o => by
    obtain ⟨cB, w1, w2, w3, w4⟩ := y.mode i c h o
    obtain ⟨hi, w1⟩ := wipeF_inv w1
    obtain ⟨c1, q1, ⟨hs, e⟩ | ⟨hs, e⟩⟩ := lockAll_inv w1
    · subst e
      obtain ⟨c', h1', h2'⟩ := hss i hs
      rw [q1] at h1'; cases h1'
      rw [setLk_obj] at w2
      rw [setLk_lent] at w3
      rw [setLk_lkT h2'] at w4
      exact ⟨hi, c1, q1, w2, w3, .inl ⟨hs, w4.symm⟩⟩
    · subst e
      exact ⟨hi, _, q1, w2, w3, .inr ⟨hs, w4⟩⟩
  have sub : ∀ a, Ownd (wipeF vs (lockAll ss τ1)) (wipe σ vs) a → ∃ (i : Nat) (c : Cell), i ∉ vs ∧ τ1[i]? = some (some c) ∧ c.obj = true ∧ c.lk = false ∧ σ[i]? = some (some (V.ref a)) := fun a ⟨i, c, h1, h2, h3, h4⟩ => by
    obtain ⟨hi, h1⟩ := wipeF_inv h1
    rw [sameB i hi] at h4
    obtain ⟨c1, q1, ⟨hs, e⟩ | ⟨_, e⟩⟩ := lockAll_inv h1
    · subst e
      obtain ⟨c', h1', h2'⟩ := hss i hs
      rw [q1] at h1'; cases h1'
      rw [setLk_lkT h2'] at h3
      cases h3
    · subst e
      exact ⟨i, _, hi, q1, h2, h3, h4⟩
  have backB : ∀ (i : Nat) (c c0 : Cell), i ∉ vs → i ∈ ss → τ2[i]? = some (some c) → c.lk = true → τ1[i]? = some (some c0) → (c.setLk c0.lk).lk = c0.lk := fun i c c0 hv hi h2 hk h1 => by
    obtain ⟨c', h1', h2'⟩ := hss i hi
    rw [h1] at h1'; cases h1'
    refine setLk_back h2' hk fun l k ds l' t kvs e0 e1 => ?_
    subst e0 e1
    obtain ⟨v, z1, a, vs', rfl, _, ha, _⟩ := s1.cell i _ h1
    obtain ⟨v', z2, b, e, _, hb⟩ := y.sr.cell i _ h2
    rw [sameB i hv, z1] at z2
    cases z2
    cases e
    have no : ¬ Ownd (wipeF vs (lockAll ss τ1)) (wipe σ vs) a := fun own => by
      obtain ⟨j, cj, hj, w1, w2, w3, w4⟩ := sub a own
      by_cases ij : i = j
      · subst ij
        obtain ⟨i2, c2, q1, q2, q3, q4⟩ := own
        obtain ⟨hi2, q1⟩ := wipeF_inv q1
        rw [sameB i2 hi2] at q4
        obtain ⟨c3, r1, ⟨hs3, e3⟩ | ⟨hn3, e3⟩⟩ := lockAll_inv q1
        · obtain ⟨c4, r2, r3⟩ := hss i2 hs3
          rw [r1] at r2; cases r2
          rw [e3, setLk_lkT r3] at q3
          cases q3
        · subst e3
          by_cases i2e : i = i2
          · subst i2e; exact hn3 hi
          · exact s1.sep i i2 _ _ _ i2e h1 r1 rfl q2 z1 q4
      · exact s1.sep i j _ cj _ ij h1 w1 rfl w2 z1 w4
    have q := (y.kp.2.1 a _ ha nt_lst no).1
    unfold DctR at hb
    split at hb
    · obtain ⟨ks, hb, _⟩ := hb
      rw [AtK, if_pos rfl] at hb
      obtain ⟨o, hb⟩ := hb
      rw [q] at hb; cases hb
    · obtain ⟨ks, hb, _⟩ := hb
      rw [AtK, if_pos rfl] at hb
      obtain ⟨o, hb⟩ := hb
      rw [q] at hb; cases hb
  have objs : ∀ (i : Nat) (c' : Cell), (restF vs τ1 (unlock τ1 ss τ2))[i]? = some (some c') → c'.obj = true → ∃ c1 : Cell, τ1[i]? = some (some c1) ∧ c1.obj = true ∧ c1.lent = c'.lent ∧ c1.lk = c'.lk := fun i c' h o => by
    rcases inv i c' h with ⟨_, h⟩ | ⟨hi, h⟩
    · exact ⟨c', h, o, rfl, rfl⟩
    · obtain ⟨c, w1, ⟨his, wl, c0, z1, e⟩ | ⟨e, hn⟩⟩ := unlock_inv h
      · subst e
        rw [setLk_obj] at o
        obtain ⟨_, c1, p1, p2, p3, _⟩ := old i c w1 o
        rw [z1] at p1; cases p1
        exact ⟨c0, z1, p2, by rw [setLk_lent]; exact p3, (backB i c c0 hi his w1 wl z1).symm⟩
      · subst e
        obtain ⟨_, c1, p1, p2, p3, ⟨p4, p5⟩ | ⟨p4, p5⟩⟩ := old i _ w1 o
        · exact (hn p4 p5 c1 p1).elim
        · exact ⟨c1, p1, p2, p3, p5⟩
  refine ⟨⟨?_, y.sr.sub, fun i c' h => ?_, fun i j ci cj v n hi hj oi oj si => ?_, y.sr.tab⟩, y.kp.imp fun a ha => ?_, objs⟩
  · unfold restF unlock
    rw [List.length_mapIdx, List.length_mapIdx, y.sr.len, wipe_length]
  · rcases inv i c' h with ⟨hi, h⟩ | ⟨hi, h⟩
    · obtain ⟨v, z, q⟩ := s1.cell i c' h
      refine ⟨v, z, q.mono y.kp.1 fun a o ev oc nt hh => y.kp.2.1 a o hh nt fun own => ?_⟩
      obtain ⟨j, c, w1, w2, w3, _, w4⟩ := sub a own
      subst ev
      exact s1.sep i j c' c _ (fun e => w1 (e ▸ hi)) h w2 oc w3 z w4
    · obtain ⟨c, w1, ⟨_, _, c0, _, e⟩ | ⟨e, _⟩⟩ := unlock_inv h
      · obtain ⟨v, z, q⟩ := y.sr.cell i c w1
        rw [sameB i hi] at z
        exact ⟨v, z, by rw [e]; exact q.setLk⟩
      · obtain ⟨v, z, q⟩ := y.sr.cell i c w1
        rw [sameB i hi] at z
        exact ⟨v, z, by rw [e]; exact q⟩
  · obtain ⟨c1, p1, p2, _⟩ := objs i ci hi oi
    obtain ⟨c2, q1, q2, _⟩ := objs j cj hj oj
    exact s1.sep i j c1 c2 v n p1 q1 p2 q2 si
  · obtain ⟨i, c, _, w2, w3, w4, w5⟩ := sub a ha
    exact .inl ⟨i, c, w2, w3, w4, w5⟩
/-- THE RULE, on readings -/
theorem tz_lc {it : ZID} {vs ts : List Nat} {g : ZGD} {tt : ZTD} {te : ZD} {Q : VK} (hout : Out ts g) (hts : ∀ i ∈ ts, i ∈ vs) (h : tZ K W (zLc it vs g tt te) σ H Q) : tLc (tZI K W it) (tZG K ts g) (tZT K wF tt) (tZ K wF (zF te)) vs σ H Q := by
  obtain ⟨G, τ, s, h⟩ := tZ_to h
  refine ⟨G, τ, s, ?_⟩
  unfold zLc at h
  cases e : it τ with
  | stuck => rw [e] at h; exact h
  | exc n τ1 => rw [e] at h; exact h
  | ok r τ1 =>
    rw [e] at h
    obtain ⟨items, ss⟩ := r
    intro G1 H1 J x hss ok D hD
    dsimp only [Res.bind] at h
    obtain ⟨Gd, Y, wk, stab, yl⟩ := ok.ex
    have le := lockAll_eq ss τ1
    have sL : SR K G1 (lockAll ss τ1) σ H1 := x.sr.lkEq le
    have lenw : (wipe σ vs).length = σ.length := wipe_length _ _
    have sameB : ∀ j, j ∉ vs → (wipe σ vs)[j]? = σ[j]? := fun j hj => by rw [wipe_get, if_neg hj]
    have sB : SR K G1 (wipeF vs (lockAll ss τ1)) (wipe σ vs) H1 := sL.wiped lenw fun j hj => (sameB j hj).symm
    have gD : G1 D = none := sub_none x.sr.sub hD
    have notOwnB : ∀ p, LkA σ ss p → ¬ Ownd (wipeF vs (lockAll ss τ1)) (wipe σ vs) p := fun p ⟨i, hi, e4⟩ z => by
      obtain ⟨j, cj, q1, q2, q3, q4⟩ := z
      obtain ⟨hj, q1⟩ := wipeF_inv q1
      rw [sameB j hj] at q4
      obtain ⟨c, h1, h2⟩ := hss i hi
      obtain ⟨c0, w1, ⟨hs3, w2⟩ | ⟨hn, w2⟩⟩ := lockAll_inv q1
      · obtain ⟨c4, r2, r3⟩ := hss j hs3
        rw [w1] at r2; cases r2
        rw [w2, setLk_lkT r3] at q3
        cases q3
      · subst w2
        by_cases ij : i = j
        · subst ij; exact hn hi
        · exact x.sr.sep i j c _ _ ij h1 w1 (Cell.lkb_obj h2) q2 e4 q4
    cases er : lcTurns vs g tt te items (wipeF vs (lockAll ss τ1)) [] with
    | stuck => rw [er] at h; exact h.elim
    | exc n τ2 => rw [er] at h; exact h.elim
    | ok acc0 τ0 =>
      rw [er] at h
      refine lc_it (g := tZG K ts g) (tt := tZT K wF tt) (te := tZ K wF (zF te)) wk
        (fun i H' => ∃ G' τ' acc va, Ex K (wipe σ vs) G1 (wipeF vs (lockAll ss τ1)) H1 G' τ' H' ∧ G' D = none ∧ H' D = some (.lst va) ∧ RDs K G' va acc ∧ lcTurns vs g tt te (items.drop i) τ' acc = .ok acc0 τ0)
        ⟨G1, _, [], [], (Ex.refl sB).trans (Ex.laid sB hD), gD, upd_same, .nil, by rw [List.drop_zero]; exact er⟩
        (fun i H' _ ⟨G', τ', acc, va, y, _⟩ => stab G' H' y.kp.1 y.sr.sub fun p hp => ?_) (fun i u H2 H3 hlt pv hy => ?_) fun H2 pv => ?_
      · -- what is walked stands
        obtain ⟨i, hi, e4⟩ := id hp
        obtain ⟨c, h1, h2⟩ := hss i hi
        obtain ⟨b, w, z1, _, z3, nt⟩ := x.sr.objAtN h1 (Cell.lkb_obj h2)
        rw [e4] at z1; cases z1
        rw [z3]
        exact (y.kp.2.1 p w z3 nt (notOwnB p hp)).1
      · obtain ⟨G2, τ2, acc, va, y, gd2, hd2, rd2, ht⟩ := pv
        obtain ⟨G3, d, hd, rd, m1, m2, m3, m4⟩ := yl i u H2 H3 G2 hlt y.kp.1 y.sr.sub hy
        rw [List.drop_eq_getElem_cons hlt] at ht
        have ed : items[i] = d := by rw [List.getElem?_eq_getElem hlt] at hd; exact Option.some.inj hd
        rw [ed] at ht
        -- behind the step of the iterator
        have y3 : Ex K (wipe σ vs) G1 (wipeF vs (lockAll ss τ1)) H1 G3 τ2 H3 := by
          exact y.trans (Ex.stepIt y.sr m1 m2 m3 m4)
        have gd3 : G3 D = none := (m3 D _ hd2).2.nl.trans gd2
        have hd3 : H3 D = some (.lst va) := (m3 D _ hd2).1
        have rd3 : RDs K G3 va acc := dps_mono m1 _ _ rd2
        refine ⟨G3, τ2, d, y3.sr, rd, ?_⟩
        cases e3 : g d τ2 with
        | none => simp only [lcTurns, e3] at ht; cases ht
        | some τ3 =>
          intro σ3 x3 sm
          have hl3 : σ3.length = σ.length := sm.1.trans lenw
          have out3 : ∀ j, j ∉ vs → σ3[j]? = (wipe σ vs)[j]? := fun j hj => sm.2 j fun z => hj (hts j z)
          refine ⟨by rw [wipe_same hl3 fun j hj => (out3 j hj).trans (sameB j hj)], ?_⟩
          -- from a later point of the turn back to the block's frame
          have close : ∀ {G4 : Hp} {τ4 : Fr} {H4 : Hp}, Ex K σ3 G3 τ3 H3 G4 τ4 H4 → Ex K (wipe σ vs) G1 (wipeF vs (lockAll ss τ1)) H1 G4 (wipeF vs τ4) H4 := fun {G4 τ4 H4} z => by
            refine ⟨z.sr.wiped (by rw [lenw, hl3]) out3, y3.kp.trans (z.kp) fun a ha => ?_, fun j c hj o => ?_⟩
            · rcases x3.own ha with q | q
              · exact .inl (y3.own q)
              · exact .inr (y3.kp.2.2 a q)
            · obtain ⟨h1, h2⟩ := wipeF_inv hj
              obtain ⟨c1, w1, w2, w3, w4⟩ := z.mode j c h2 o
              rw [hout d τ2 τ3 e3 j fun q => h1 (hts j q)] at w1
              obtain ⟨c2, p1, p2, p3, p4⟩ := y3.mode j c1 w1 w2
              exact ⟨c2, p1, p2, p3.trans w3, p4.trans w4⟩
          have keepD : ∀ {G4 : Hp} {τ4 : Fr} {H4 : Hp}, Ex K σ3 G3 τ3 H3 G4 τ4 H4 → G4 D = none ∧ H4 D = some (.lst va) ∧ RDs K G4 va acc := fun {G4 τ4 H4} z => by
            obtain ⟨q1, q2⟩ := z.kp.2.1 D _ hd3 nt_lst fun ha => by
              rcases x3.own ha with q | q
              · obtain ⟨j, c, p1, p2, p3, p4⟩ := y3.own q
                obtain ⟨b, w, z1, _, z3⟩ := sB.objAt p1 p2
                rw [p4] at z1; cases z1
                rw [hD] at z3; cases z3
              · rw [hd3] at q; cases q
            exact ⟨q2.nl.trans gd3, q1, dps_mono z.kp.1 _ _ rd3⟩
          refine ⟨G3, τ3, x3.sr, ?_⟩
          cases e4 : tt τ3 with
          | stuck => simp only [lcTurns, e3, e4] at ht; cases ht
          | exc n τ4 => simp only [lcTurns, e3, e4] at ht; cases ht
          | ok bb τ4 =>
            intro G4 H4 x4
            cases bb with
            | false =>
              rw [if_neg Bool.false_ne_true]
              simp only [lcTurns, e3, e4] at ht
              obtain ⟨k1, k2, k3⟩ := keepD x4
              exact ⟨G4, _, acc, va, close x4, k1, k2, k3, ht⟩
            | true =>
              rw [if_pos rfl]
              simp only [lcTurns, e3, e4] at ht
              refine ⟨G4, τ4, x4.sr, ?_⟩
              cases e5 : zF te τ4 with
              | stuck => simp only [e5] at ht; cases ht
              | exc n τ5 => simp only [e5] at ht; cases ht
              | ok l τ5 =>
                cases l with
                | sl i => simp only [e5] at ht; cases ht
                | cl c =>
                  cases c with
                  | lst _ _ _ => simp only [e5] at ht; cases ht
                  | dct _ _ _ _ => simp only [e5] at ht; cases ht
                  | exc _ => simp only [e5] at ht; cases ht
                  | scr _ => simp only [e5] at ht; cases ht
                  | fz r =>
                    simp only [e5] at ht
                    intro G5 H5 yv x5 r5
                    have x45 := x4.trans x5
                    obtain ⟨k1, k2, k3⟩ := keepD x45
                    split at ht
                    · rename_i hz
                      refine ⟨va, k2, by rw [dps_len k3]; exact hz, G5, _, acc ++ [r], va ++ [yv], Ex.sub0 sB hD (close x45) k1 ⟨_, k2, nt_lst⟩, k1, upd_same, dps_append k3 (.cons r5.1 .nil), ht⟩
                    · cases ht
      · obtain ⟨G2, τ2, acc, va, y, gd2, hd2, rd2, ht⟩ := pv
        rw [List.drop_length] at ht
        cases ht
        refine h G2 H2 (.ref D) ?_ ⟨⟨D, va, rfl, gd2, hd2, rd2⟩, fun _ => ⟨rfl, rfl, fun p ep => by cases ep; exact x.kp.2.2 _ hD⟩⟩
        exact x.trans (Ex.unblock x.sr hss y)
end
end Z

/-! Z11: list comprehensions as rules; iterables. -/
namespace Z
open PySem PySem.Spec PyProof.Rows L2
variable [TB : Tabs]
section
variable {X : Cx} {K : PySem.W.Frag} {W : WZ} {σ σ1 σ2 : Z.St} {G G1 G2 H H1 H2 : Hp} {τ τ1 τ2 : Fr} {v x y : V} {l : LR} {d e : PyData} {a b c : Expr} {pos : Pos} {da db dc : ZD}
/-- of a block, whatever its start -/
abbrev InBlk (X : Cx) (scope : Scope) (P : Cx → Prop) : Prop := ∀ (s : Shared) (H : Hp) (C : Addr) (cl : List (Str × Addr)) (fp : List Addr), P (X.blk s H scope (compEnvC scope cl C X.env) fp)
theorem ze_lc {elt tg iter : Expr} {ifs : List Expr} {scope : Scope} {own : List (Str × Nat)} {it : ZID} {ts : List Nat} {g : ZGD} {tt : ZTD} {te : ZD} (hc : X.calm = true) (hN : X.N.Nodup) (hi : ZI X W tg iter it) (ok : BlkOk X.N X.env.scope scope own) (hts : ∀ i ∈ ts, i ∈ own.map (·.2))
    (hg : InBlk X scope fun B => ZG B tg ts g) (ht : InBlk X scope fun B => ZTs B wF ifs tt) (he : InBlk X scope fun B => ZE B wF elt te) (hs : ∀ x, foldedSetIterable iter X.env x = pure x := by intro _; rfl) :
    ZE X W (.ListComp elt [⟨tg, iter, ifs, 0⟩] scope pos) (zLc it (own.map (·.2)) g tt te) :=
  ⟨⟨fun pins s σ H Q I h => (pe_lc hc hN hi.pi ok (fun s H C cl fp => (hg s H C cl fp).pg) (fun s H C cl fp => (ht s H C cl fp).pts) (fun s H C cl fp => (ze_dat (he s H C cl fp)).pe) hs).run pins s σ H Q I
    (tz_lc (hg s H 0 [] []).out hts h)⟩⟩
/-- name = [..] -/
theorem zs_setLc {i : Nat} {nm : Str} {py : Pos} {elt tg iter : Expr} {ifs : List Expr} {scope : Scope} {own : List (Str × Nat)} {spos : Pos} {it : ZID} {ts : List Nat} {g : ZGD} {tt : ZTD} {te : ZD} (hc : X.calm = true) (hN : X.N.Nodup) (hy : X.N[i]? = some nm) (hyl : X.env.scope.names.lookup nm = some .local)
    (hsw : swapsWith (.ListComp elt [⟨tg, iter, ifs, 0⟩] scope pos) (some (.Name nm py)) spos.line X.env = pure true) (hi : ZI X W tg iter it) (ok : BlkOk X.N X.env.scope scope own) (hts : ∀ i ∈ ts, i ∈ own.map (·.2))
    (hg : InBlk X scope fun B => ZG B tg ts g) (ht : InBlk X scope fun B => ZTs B wF ifs tt) (he : InBlk X scope fun B => ZE B wF elt te) (hs : ∀ x, foldedSetIterable iter X.env x = pure x := by intro _; rfl) :
    ZS X W (.Assign [.Name nm py] (.ListComp elt [⟨tg, iter, ifs, 0⟩] scope pos) spos) (zSet i (zLc it (own.map (·.2)) g tt te)) := by
  refine ⟨⟨fun pins s σ H D I h => (ps_setLc (g := tZG X.K ts g) (tt := tZT X.K wF tt) (te := tZ X.K wF (zF te)) hc hN hy hyl hsw hi.pi ok (fun s H C cl fp => (hg s H C cl fp).pg) (fun s H C cl fp => (ht s H C cl fp).pts) (fun s H C cl fp => (ze_dat (he s H C cl fp)).pe) hs).run pins s σ H D I ?_⟩⟩
  show tLc (tZI X.K W it) (tZG X.K ts g) (tZT X.K wF tt) (tZ X.K wF (zF te)) (own.map (·.2)) σ H (fun x H1 => D.nx (σ.set i (some x)) H1)
  refine tz_lc (W := W) (Q := fun x H1 => D.nx (σ.set i (some x)) H1) (hg s H 0 [] []).out hts ?_
  obtain ⟨G, τ, s, h⟩ := h
  have h : FinS X.K W σ G τ H (((zLc it (own.map (·.2)) g tt te τ).bind valL).bind fun l τ1 => match l with
    | .cl c => .ok .nx (τ1.set i (some c))
    | _ => .stuck) D := h
  refine tZ_of s ?_
  cases e : zLc it (own.map (·.2)) g tt te τ with
  | stuck => rw [e] at h; exact h
  | exc n τ1 => rw [e] at h; exact fun G' H' x => h G' _ H' x.sx
  | ok l τ1 =>
    rw [e] at h
    cases l with
    | sl j => 
      unfold zLc at e
      cases e2 : it τ with
      | stuck => rw [e2] at e; cases e
      | exc n τ1 => rw [e2] at e; cases e
      | ok r τ1 =>
        rw [e2] at e
        dsimp only [Res.bind] at e
        split at e <;> cases e
    | cl c => exact fun G1 H1 v x r => h G1 _ H1 (Sx.set s x r i)
end
end Z

/-! Z12: generator expressions: the block, its start. -/
namespace Z
open PySem PySem.Spec PyProof.Rows L2 GenW
variable [TB : Tabs]
/-- a generator expression's scope -/
structure GxOk (N : List Str) (sc scope : Scope) (own : List (Str × Nat)) : Prop where
  kind : scope.kind = .function
  co : scope.isCoroutine = false
  nocell : ∀ y ∈ scope.names, y.2 ≠ .cell
  dot : scope.names.lookup (".0" : Str) = some NameKind.local
  uniq : ∀ y ∈ scope.names, scope.names.lookup y.1 = some y.2
  ix : ∀ p ∈ own, N[p.2]? = some p.1
  free : ∀ y ∈ scope.names, y.2 = .free → sc.names.lookup y.1 = some .cell ∨ sc.names.lookup y.1 = some .free
  own : ∀ y ∈ scope.names, y.2 = .local → y.1 ∈ own.map (·.1) ∨ y.1 ∉ N
/-- the context of a generator expression's block -/
abbrev gblk (X : Cx) (B : Around) (s : Shared) (H : Hp) (cenv : Env) (fp : List Addr) (pn : List (Addr × Obj)) : Cx :=
  { X with A := B.deeper cenv, s_0 := s, H_0 := H, env := cenv, outer := X.stack, stack := cenv :: X.stack, ex := fp, fn := fun _ => false, pn := pn, xe := fun _ _ => False }
section
variable {X : Cx} {pins : List (Addr × Obj)} {σ : Z.St} {H : Hp} {s : Shared}
theorem gx_start {scope : Scope} {own : List (Str × Nat)} {fp : List Addr} {B : Around} {pn : List (Addr × Obj)} {code : Value} {s5 : Shared} (I : Inv X pins σ H s) (ok : GxOk X.N X.env.scope scope own) (hN : X.N.Nodup) (hfp : ∀ b ∈ fp, FpOk X pins H b ∧ b < s.heap.objs.size)
    (hB : B.handled = none) (hBf : B.frames = some X.stack) (kp : ∀ b o, s.heap.get? b = some o → s5.heap.get? b = some o) (hns : ∃ m, s5.heap.Ns s.heap.objs.size m) (hos : s5.os = s.os) (hg : AllBare s5.gens)
    (hpn : ∀ p ∈ pn, s5.heap.get? p.1 = some p.2 ∧ s.heap.objs.size < p.1 ∧ ∀ v, p.2.data ≠ .cell v) :
    Inv (gblk X B s H (genEnv scope (cloFrom X.env.cells scope.names []) s.heap.objs.size code builtinsNs X.env) fp pn) [] (wipe σ (own.map (·.2))) H s5 := by
  have hfree : ∀ y ∈ scope.names, y.2 = .free → ∃ c, X.env.cells.lookup y.1 = some c := fun y hy e => by
    rcases ok.free y hy e with k | k
    · exact I.ok.has _ (.inl k)
    · exact I.ok.has _ (.inr k)
  generalize hcenv : genEnv scope (cloFrom X.env.cells scope.names []) s.heap.objs.size code builtinsNs X.env = cenv
  have hL : cenv.locals = s.heap.objs.size := by rw [← hcenv]; rfl
  have hcl : cenv.cells = cloFrom X.env.cells scope.names [] := by rw [← hcenv]; rfl
  have hsc : cenv.scope = scope := by rw [← hcenv]; rfl
  have cm : ∀ {y c}, (y, c) ∈ cloFrom X.env.cells scope.names [] → X.env.cells.lookup y = some c ∧ c < s.heap.objs.size := fun {y c} hm => by
    rcases cloFrom_mem hm with hm | ⟨h1, rfl⟩
    · cases hm
    · obtain ⟨c, hc⟩ := hfree _ h1 rfl
      rw [hc]
      obtain ⟨w, z⟩ := I.cell _ _ hc
      exact ⟨rfl, z.lt⟩
  have mem : ∀ {y c}, cenv.cells.lookup y = some c → X.env.cells.lookup y = some c ∧ c < s.heap.objs.size := fun {y c} e => by
    rw [hcl] at e
    exact cm (PySem.mem_of_lookup e)
  have look : ∀ {y}, scope.names.lookup y = some .free → ∃ c, cenv.cells.lookup y = some c ∧ X.env.cells.lookup y = some c := fun {y} hl => by
    have hy : (y, NameKind.free) ∈ scope.names := PySem.mem_of_lookup hl
    obtain ⟨c', e'⟩ := mem_lookup (cloFrom_has (cells := X.env.cells) (acc := []) hy)
    rw [← hcl] at e'
    exact ⟨c', e', (mem e').1⟩
  have nocell : ∀ y, scope.names.lookup y ≠ some .cell := fun y e => ok.nocell _ (PySem.mem_of_lookup e) rfl
  have okB : (gblk X B s H cenv fp pn).Ok := by
    refine ⟨I.ok.mod, by show cenv.scope.kind = _; rw [hsc]; exact ok.kind, by show cenv.globals = _; rw [← hcenv]; exact I.ok.glob, by show cenv.builtins = _; rw [← hcenv]; rfl, by show s.heap.objs.size ≤ cenv.locals; rw [hL]; exact Nat.le_refl _,
      fun y z c e1 e2 => I.ok.inj y z c (mem e1).1 (mem e2).1, fun y hy => ?_, fun y c z e => (nomatch z), fun _ => hB, Around.frames_deeper hBf, .inr ⟨rfl, ?_⟩, fun b hb => ⟨?_, fun y c e z => ?_⟩, I.bs, Nat.le_trans I.ok.bsz I.sz, fun b o e hb => ?_, fun b hb z => ?_, I.stack, I.stkFree⟩
    · have hy : cenv.scope.names.lookup y = some .cell ∨ cenv.scope.names.lookup y = some .free := hy
      rw [hsc] at hy
      rcases hy with hy | hy
      · exact (nocell y hy).elim
      · obtain ⟨c, h1, _⟩ := look hy
        exact ⟨c, h1⟩
    · show cenv.frame = some cenv.locals
      rw [← hcenv]; rfl
    · show b ≠ cenv.locals
      rw [hL]; exact Nat.ne_of_lt (hfp b hb).2
    · exact (hfp b hb).1.2.2.2.2.1 y c (mem e).1 z
    · rcases (hfp b hb).1.2.2.2.1 with z | z
      · exact I.ok.noex b o e z
      · exact absurd (Nat.lt_of_lt_of_le (Heap.lt_size e) (Nat.le_trans I.ok.bsz z)) (Nat.lt_irrefl _)
    · rcases List.mem_cons.mp (I.stkSub b z) with z | z
      · exact (hfp b hb).1.2.1 z
      · exact (hfp b hb).1.2.2.1 z
  obtain ⟨m0, hns⟩ := hns
  refine ⟨okB, hos, hg, Un.kept kp, ⟨m0, ?_, fun i y av e1 e2 e3 => ?_⟩, fun y c e => ?_, ?_, fun y c e => I.freeC y c (mem e).1, fun p hp => ?_, I.hok.kept kp, by rw [wipe_length]; exact I.len⟩
  · show Heap.Ns _ cenv.locals _
    rw [hL]
    exact hns
  · obtain ⟨e2, hne⟩ := wipe_some e2
    have e3 : cenv.scope.names.lookup y = some .local ∨ cenv.scope.names.lookup y = some .cell ∨ cenv.scope.names.lookup y = some .free := e3
    rw [hsc] at e3
    have hfr : scope.names.lookup y = some .free := by
      rcases e3 with e3 | e3 | e3
      · rcases ok.own _ (PySem.mem_of_lookup e3) rfl with e' | e'
        · obtain ⟨p, hp, hpy⟩ := List.mem_map.mp e'
          have e4 := ok.ix p hp
          have : p.1 = y := hpy
          rw [this] at e4
          exact (hne (List.mem_map.mpr ⟨p, hp, nodup_ix hN e4 e1⟩)).elim
        · exact (e' (List.mem_of_getElem? e1)).elim
      · exact (nocell y e3).elim
      · exact e3
    obtain ⟨m, hn, hl⟩ := I.loc
    have hvis : Vis X.env.scope y := (ok.free _ (PySem.mem_of_lookup hfr) rfl).elim (fun k => .inr (.inl k)) (fun k => .inr (.inr k))
    obtain ⟨w, r, q⟩ := hl i y av e1 e2 hvis
    obtain ⟨c, h1, h2⟩ := look hfr
    refine ⟨w, r, .inr ⟨.inr (by show cenv.scope.names.lookup y = _; rw [hsc]; exact hfr), c, h1, ?_⟩⟩
    rcases q with ⟨k, _⟩ | ⟨_, c', e', z⟩
    · have k : X.env.scope.names.lookup y = some .local := k
      rcases ok.free _ (PySem.mem_of_lookup hfr) rfl with k' | k' <;> rw [show X.env.scope.names.lookup y = _ from k'] at k <;> cases k
    · rw [h2] at e'; cases e'
      exact z.keeps kp
  · obtain ⟨w, z⟩ := I.cell y c (mem e).1
    exact ⟨w, z.keeps kp⟩
  · show H cenv.locals = none
    rw [hL]; exact I.hok.fresh (Nat.le_refl _)
  · have hp : p ∈ pn := by simpa using hp
    obtain ⟨h1, h2, h3⟩ := hpn p hp
    refine ⟨h1, I.hok.fresh (Nat.le_of_lt h2), ?_, fun z => ?_, h3⟩
    · show p.1 ≠ cenv.locals
      rw [hL]; exact Nat.ne_of_gt h2
    · have z : p.1 ∈ frs X.stack := z
      rcases List.mem_cons.mp (I.stkSub _ z) with z | z
      · have := I.lt
        rw [z] at h2
        exact absurd (Nat.lt_trans h2 this) (Nat.lt_irrefl _)
      · exact I.nofs (Nat.le_of_lt h2) z
end
end Z

/-! Z13: a generator expression's turns. -/
namespace Z
open PySem PySem.Spec PyProof.Rows L2 GenW
variable [TB : Tabs]
/-- one turn: the element, if the tests let it pass -/
def gxTurn (vs : List Nat) (g : ZGD) (tt : ZTD) (te : ZD) (d : PyData) (τ : Fr) : Res (Option PyData) := match g d τ with
  | none => .stuck
  | some τ1 => match tt τ1 with
    | .ok true τ2 => (match zF te τ2 with
      | .ok (.cl (.fz r)) τ3 => .ok (some r) (wipeF vs τ3)
      | _ => .stuck)
    | .ok false τ2 => .ok none (wipeF vs τ2)
    | _ => .stuck
theorem over_gen {A : Around} {elt : Expr} {gens : List Comprehension} {scope : Scope} {pos : Pos} {it acc : Value} {env : Env} : A.over (.compLoop (.GeneratorExp elt gens scope pos) 0 it acc env) [] = A.deeper env := by
  first
    | rfl
    | (obtain ⟨hd, d, fr, gs, u⟩ := A; simp [Around.over, Around.deeper, marksOver, frameCount, unitsOf, envsOf, guardsOf, pushEnvs, pushGuards, Code.envs, Code.env?, Code.isFrame, Code.guards, Code.isGuard, Code.weight, Code.frames, Code.isCreation, Code.isCaller, Code.cUnits])
theorem over_gen0 {A : Around} {elt : Expr} {gens : List Comprehension} {scope : Scope} {pos : Pos} {it acc : Value} {env : Env} : A.over (.compStart (.GeneratorExp elt gens scope pos) 0 it acc env) [] = A.deeper env := by
  first
    | rfl
    | (obtain ⟨hd, d, fr, gs, u⟩ := A; simp [Around.over, Around.deeper, marksOver, frameCount, unitsOf, envsOf, guardsOf, pushEnvs, pushGuards, Code.envs, Code.env?, Code.isFrame, Code.guards, Code.isGuard, Code.weight, Code.frames, Code.isCreation, Code.isCaller, Code.cUnits])
/-- what is fixed through a generator expression's life -/
structure GxF where
  X : Cx
  vs : List Nat
  σ : Z.St
  G0 : Hp
  τ0 : Fr
  H0 : Hp
  fp : List Addr
  it : Addr
  tn : Nat → Heap → Prop
  items : List PyData
  tg : Expr
  g : ZGD
  tt : ZTD
  te : ZD
  Φ : Nat → Fr → Prop
  Ψ : PyData → Nat → Fr → Prop
  Ω : Fr → Prop
def GxF.st (F : GxF) (i : Nat) (τ : Fr) (G H : Hp) (s : Shared) : Prop :=
  i ≤ F.items.length ∧ Inv F.X [] (wipe F.σ F.vs) H s ∧ Ex F.X.K (wipe F.σ F.vs) F.G0 F.τ0 F.H0 G τ H ∧ F.tn i s.heap ∧ ∀ b ∈ F.fp, H b = none
def GxF.Y (F : GxF) : Protocol := fun n s₀ v s kap =>
  ∃ d i τ G H x, RelV x v ∧ RD F.X.K G x d ∧ F.st i τ G H s ∧ F.items.length ≤ n + i ∧ F.Ψ d i τ ∧ (F.Φ i τ → ∀ s'' G'' H'', F.st i τ G'' H'' s'' → kap (.send .none) s'')
def GxF.fin (F : GxF) (s : Shared) : Prop := ∃ τ G H, Inv F.X [] (wipe F.σ F.vs) H s ∧ Ex F.X.K (wipe F.σ F.vs) F.G0 F.τ0 F.H0 G τ H ∧ F.Ω τ
def GxF.R (F : GxF) : GenEnd := fun n s₀ r s => r = .ok .next ∧ F.fin s
structure GxOkF (F : GxF) (elt iter : Expr) (ifs : List Expr) (ts : List Nat) (J : It) (Lk : Addr → Prop) (Gd : Hp → Prop) (Yd : Nat → Hp → V → Hp → Prop) : Prop where
  calm : F.X.calm = true
  xe : F.X.xe = fun _ _ => False
  ex : F.X.ex = F.fp
  pn : ∀ p ∈ F.X.pn, ∀ b ∈ F.fp, p.1 ≠ b
  hg : ZG F.X F.tg ts F.g
  ht : ZTs F.X wF ifs F.tt
  he : ZE F.X wF elt F.te
  hts : ∀ i ∈ ts, i ∈ F.vs
  T : Turn F.X.prog F.X.w F.X.K F.tg J F.fp F.it F.tn
  wk : Walk J F.items.length Gd Yd
  sr : SR F.X.K F.G0 F.τ0 (wipe F.σ F.vs) F.H0
  stab : ∀ G2 H2, Sub F.G0 G2 → Sub G2 H2 → (∀ a, Lk a → H2 a = F.H0 a) → Gd H2
  yl : ∀ i x H2 H' G2, i < F.items.length → Sub F.G0 G2 → Sub G2 H2 → Yd i H2 x H' → ∃ G3 d, F.items[i]? = some d ∧ RD F.X.K G3 x d ∧ Sub G2 G3 ∧ Sub G3 H' ∧ (∀ a o, H2 a = some o → H' a = some o ∧ GS G2 G3 a o) ∧ ∀ a, H' a = none → H2 a = none
  keepLk : ∀ G2 τ2 H2, Ex F.X.K (wipe F.σ F.vs) F.G0 F.τ0 F.H0 G2 τ2 H2 → ∀ a, Lk a → H2 a = F.H0 a
  hΦ : ∀ i τ d, F.items[i]? = some d → F.Φ i τ → match gxTurn F.vs F.g F.tt F.te d τ with
    | .ok none τ' => F.Φ (i + 1) τ'
    | .ok (some r) τ' => F.Ψ r (i + 1) τ'
    | _ => False
  hΩ : ∀ τ, F.Φ F.items.length τ → F.Ω τ
section
variable {F : GxF} {elt iter : Expr} {ifs : List Expr} {ts : List Nat} {J : It} {Lk : Addr → Prop} {Gd : Hp → Prop} {Yd : Nat → Hp → V → Hp → Prop} {scope : Scope} {pos : Pos} {B : Around}
theorem seg_gx (hco : F.X.env.scope.isCoroutine = false) (hA : B.deeper F.X.env = F.X.A) (o : GxOkF F elt iter ifs ts J Lk Gd Yd) : ∀ (k i n : Nat) (s₀ s : Shared) (τ : Fr) (G H : Hp), F.items.length - i = k → F.items.length ≤ n + i → F.st i τ G H s → F.Φ i τ →
    Seg (model F.X.prog F.X.w) B F.R F.Y n s₀ (.compLoop (.GeneratorExp elt [⟨F.tg, iter, ifs, 0⟩] scope pos) 0 (.ref F.it) .none F.X.env) ((model F.X.prog F.X.w).den (.compLoop (.GeneratorExp elt [⟨F.tg, iter, ifs, 0⟩] scope pos) 0 (.ref F.it) .none F.X.env)) [] s := by
  intro k
  have ov : B.over (.compLoop (.GeneratorExp elt [⟨F.tg, iter, ifs, 0⟩] scope pos) 0 (.ref F.it) .none F.X.env) [] = F.X.A := over_gen.trans hA
  have stat : ∀ {σ' : Z.St} {H' : Hp} {s' : Shared}, Inv F.X [] σ' H' s' → (∀ b ∈ F.fp, H' b = none) → ∀ b ∈ F.fp, FpOk F.X [] H' b := fun {σ' H' s'} I' hn b hb => by
    have hb' : b ∈ F.X.ex := by rw [o.ex]; exact hb
    exact ⟨hn b hb, (I'.ok.exf b hb').1, I'.ok.exfs b hb', .inl hb', fun x c e => (I'.ok.exf b hb').2 x c e, fun p hp => o.pn p (by simpa using hp) b hb⟩
  have xeF : ∀ {α : Type} {t : Sem α} {Q Q' : α → Shared → Prop} {E' : Value → Shared → Prop} {s : Shared}, wpAny (model F.X.prog F.X.w) F.X.A t Q F.X.xe s → (∀ a s, Q a s → Q' a s) → wpAny (model F.X.prog F.X.w) F.X.A t Q' E' s := fun {α t Q Q' E' s} h hQ => by
    rw [o.xe] at h
    exact thnF h hQ
  induction k with
  | zero =>
    intro i n s₀ s τ G H hk hn hst hΦ
    obtain ⟨hi, I, y, st, fr⟩ := hst
    have hin : i = F.items.length := by omega
    subst hin
    show Seg _ B _ _ _ s₀ _ ((compTurn (.GeneratorExp elt [⟨F.tg, iter, ifs, 0⟩] scope pos) 0 (.ref F.it) .none F.X.env).onRaise (leaving F.X.env)) [] s
    rw [compTurn_gen, Sem.onRaise_eq_wrap]
    refine seg_bind_wrap (wpAny_standAt ?_)
    refine seg_bind_wrap ?_
    rw [ov]
    refine thnF (o.T.done F.X rfl rfl rfl o.calm F.items.length [] s _ H (fun _ _ => False) I (stat I fr) st (o.wk.stops H (o.stab G H y.kp.1 y.sr.sub (o.keepLk G τ H y)))) fun r s1 ⟨hr, I1⟩ => ?_
    subst hr
    exact seg_end (.ok .next) ⟨rfl, τ, G, H, I1, y, o.hΩ τ hΦ⟩
  | succ k ih =>
    intro i n s₀ s τ G H hk hn hst hΦ
    obtain ⟨hi, I, y, st, fr⟩ := hst
    have hlt : i < F.items.length := by omega
    show Seg _ B _ _ _ s₀ _ ((compTurn (.GeneratorExp elt [⟨F.tg, iter, ifs, 0⟩] scope pos) 0 (.ref F.it) .none F.X.env).onRaise (leaving F.X.env)) [] s
    rw [compTurn_gen, Sem.onRaise_eq_wrap]
    refine seg_bind_wrap (wpAny_standAt ?_)
    refine seg_bind_wrap ?_
    rw [ov]
    have hGd := o.stab G H y.kp.1 y.sr.sub (o.keepLk G τ H y)
    refine thnF (o.T.item F.X rfl rfl rfl o.calm i [] s _ H (fun _ _ => False) I (stat I fr) st (o.wk.goes i H hlt hGd)) fun r s6 ⟨u, hr, h6⟩ => ?_
    subst hr
    refine seg_bind_wrap ?_
    rw [ov]
    refine thnF h6 fun _ s7 ⟨x, H7, I7, r7, y7, st7, n7⟩ => ?_
    obtain ⟨G3, d, hd, rd, m1, m2, m3, m4⟩ := o.yl i x H H7 G hlt y.kp.1 y.sr.sub (o.wk.yields i H x H7 hlt hGd y7)
    have y3 : Ex F.X.K (wipe F.σ F.vs) F.G0 F.τ0 F.H0 G3 τ H7 := y.trans (Ex.stepIt y.sr m1 m2 m3 m4)
    have hT := o.hΦ i τ d hd hΦ
    have I7' := I7.pinned (stat I7 n7) (o.T.obj _ _ st7)
    unfold gxTurn at hT
    cases e3 : F.g d τ with
    | none => rw [e3] at hT; exact hT.elim
    | some τ3 =>
    rw [e3] at hT
    dsimp only at hT
    refine seg_bind_wrap ?_
    rw [ov]
    refine xeF (o.hg.pg.run _ s7 _ H7 x u (fun σ3 H3 => H3 = H7 ∧ Sx F.X.K G3 τ (wipe F.σ F.vs) H7 G3 τ3 σ3 H7 ∧ Same ts (wipe F.σ F.vs) σ3) I7' r7 ⟨G3, τ, d, y3.sr, rd, by rw [e3]; exact fun σ' x1 x2 => ⟨rfl, x1, x2⟩⟩) fun _ s8 ⟨σ8, H8, I8, eH, x3, sm⟩ => ?_
    subst eH
    have lenw : (wipe F.σ F.vs).length = F.σ.length := wipe_length _ _
    have hl3 : σ8.length = F.σ.length := sm.1.trans lenw
    have out3 : ∀ j, j ∉ F.vs → σ8[j]? = (wipe F.σ F.vs)[j]? := fun j hj => sm.2 j fun z => hj (o.hts j z)
    have sameB : ∀ j, j ∉ F.vs → (wipe F.σ F.vs)[j]? = F.σ[j]? := fun j hj => by rw [wipe_get, if_neg hj]
    have hw8 : wipe σ8 F.vs = wipe F.σ F.vs := wipe_same hl3 fun j hj => (out3 j hj).trans (sameB j hj)
    -- from a later point of the turn back to the block's frame
    have close : ∀ {G4 : Hp} {τ4 : Fr} {H4 : Hp}, Ex F.X.K σ8 G3 τ3 H8 G4 τ4 H4 → Ex F.X.K (wipe F.σ F.vs) F.G0 F.τ0 F.H0 G4 (wipeF F.vs τ4) H4 := fun {G4 τ4 H4} z => by
      refine ⟨z.sr.wiped (by rw [lenw, hl3]) out3, y3.kp.trans (z.kp) fun a ha => ?_, fun j c hj ho => ?_⟩
      · rcases x3.own ha with q | q
        · exact .inl (y3.own q)
        · exact .inr (y3.kp.2.2 a q)
      · obtain ⟨h1, h2⟩ := wipeF_inv hj
        obtain ⟨c1, w1, w2, w3, w4⟩ := z.mode j c h2 ho
        rw [o.hg.out d τ τ3 e3 j fun q => h1 (o.hts j q)] at w1
        obtain ⟨c2, p1, p2, p3, p4⟩ := y3.mode j c1 w1 w2
        exact ⟨c2, p1, p2, p3.trans w3, p4.trans w4⟩
    -- the turn's end
    have fin : ∀ {s' : Shared} {H' : Hp}, Inv F.X ([] ++ pinsAt F.fp s7.heap) σ8 H' s' → Inv F.X [] (wipe F.σ F.vs) H' s' ∧ F.tn (i + 1) s'.heap ∧ ∀ b ∈ F.fp, H' b = none := fun {s' H'} I' => by
      have pin' : ∀ b ∈ F.fp, ∀ o, s7.heap.get? b = some o → s'.heap.get? b = some o ∧ H' b = none := fun b hb o e =>
        let z := I'.pin (b, o) (List.mem_append_right _ (List.mem_append_right _ (mem_pinsAt hb e)))
        ⟨z.1, z.2.1⟩
      have hl : (wipe F.σ F.vs).length = σ8.length := by rw [lenw, hl3]
      refine ⟨(I'.unpinned (pins := [])).weak hl (fun j v e => ?_), o.T.keep _ _ _ st7 fun b hb o e => (pin' b hb o e).1, fun b hb => ?_⟩
      · rw [← hw8] at e
        exact (wipe_some e).1
      · obtain ⟨o', e, _⟩ := o.T.obj _ _ st7 b hb
        exact (pin' b hb o' e).2
    refine seg_bind_wrap ?_
    rw [ov]
    have hq4 : tZT F.X.K wF F.tt σ8 H8 fun b H4 => ∃ G4 τ4, Ex F.X.K σ8 G3 τ3 H8 G4 τ4 H4 ∧ F.tt τ3 = .ok b τ4 := by
      refine ⟨G3, τ3, x3.sr, ?_⟩
      cases e4 : F.tt τ3 with
      | stuck => rw [e4] at hT; exact hT.elim
      | exc n τ4 => rw [e4] at hT; exact hT.elim
      | ok bb τ4 => exact fun G4 H4 x4 => ⟨G4, τ4, x4, rfl⟩
    refine xeF (o.ht.pts.run _ s8 σ8 H8 _ I8 hq4) fun ok s9 ⟨H9, I9, G9, τ9, x9, e9⟩ => ?_
    rw [e9] at hT
    cases ok with
    | false =>
      dsimp only at hT
      simp only [Bool.false_eq_true, if_false]
      obtain ⟨f1, f2, f3⟩ := fin I9
      exact seg_again rfl (ih (i + 1) n s₀ s9 _ G9 H9 (by omega) (by omega) ⟨hlt, f1, close x9, f2, f3⟩ hT)
    | true =>
      dsimp only at hT
      simp only [if_true]
      have hyo : ∀ v, yieldOut F.X.env v = yieldValue v := fun v => by simp only [yieldOut, hco, Bool.false_eq_true, if_false]
      simp only [hyo]
      rw [Sem.bind_eq_wrap', Sem.bind_eq_wrap', Sem.wrap_wrap, Sem.wrap_wrap]
      refine seg_wrap ?_
      rw [ov]
      have hq5 : tZ F.X.K wF (zF F.te) σ8 H9 fun v H5 => ∃ G5 τ5 r, Ex F.X.K σ8 G3 τ3 H8 G5 τ5 H5 ∧ RD F.X.K G5 v r ∧ F.Ψ r (i + 1) (wipeF F.vs τ5) := by
        refine ⟨G9, τ9, x9.sr, ?_⟩
        cases e5 : zF F.te τ9 with
        | stuck => rw [e5] at hT; exact hT.elim
        | exc n τ5 => rw [e5] at hT; exact hT.elim
        | ok l τ5 =>
          rw [e5] at hT
          cases l with
          | sl j => exact hT.elim
          | cl c =>
            cases c with
            | lst _ _ _ => exact hT.elim
            | dct _ _ _ _ => exact hT.elim
            | exc _ => exact hT.elim
            | scr _ => exact hT.elim
            | fz r => exact fun G5 H5 v x5 r5 => ⟨G5, τ5, r, x9.trans x5, r5.1, hT⟩
      refine xeF ((ze_dat o.he).pe.run _ s9 σ8 H9 _ I9 hq5) fun w s10 ⟨yv, H10, I10, r10, G10, τ10, r, x10, rd10, hΨ⟩ => ?_
      obtain ⟨f1, f2, f3⟩ := fin I10
      obtain ⟨m, rfl⟩ : ∃ m, n = m + 1 := ⟨n - 1, by omega⟩
      refine seg_at (seg_yield rfl rfl rfl ⟨r, i + 1, wipeF F.vs τ10, G10, H10, yv, r10, rd10, ⟨hlt, f1, close x10, f2, f3⟩, by omega, hΨ, fun hΦ' s'' G'' H'' hst'' => ?_⟩)
      exact seg_again rfl (ih (i + 1) m s'' s'' _ G'' H'' (by omega) (by omega) hst'' hΦ')
end
end Z

/-! Z14: a generator expression's pulls; all, any. -/
namespace Z
open PySem PySem.Spec PyProof.Rows L2 GenW
variable [TB : Tabs]
/-- truth at any around; but for tokens nothing changes -/
theorem truthy_dat {X : Cx} {pins : List (Addr × Obj)} {σ : Z.St} {H : Hp} {s : Shared} {x : V} {v : Value} {k : Bool} {A : Around} {Q : Bool → Shared → Prop} {E : Value → Shared → Prop} (I : Inv X pins σ H s) (rx : RelV x v) (e : TruV X.K x H k) (q : ∀ t, Q k { s with toks := t }) :
    wpAny (model X.prog X.w) A (truthy v) Q E s := by
  have hl := line63
  have hs : sizeLine = 16777216 := sizeLine_eq
  have q0 : Q k s := q s.toks
  cases x with
  | non =>
    cases rx
    have e' : k = false := e
    subst e'
    exact truthy_none q0
  | bl b =>
    cases rx
    have e' : k = b := e
    subst e'
    exact wpAny_truthy_bool q0
  | int i =>
    obtain ⟨t, rfl⟩ := rx
    have e' : k = (i != 0) := e
    subst e'
    exact PySem.P.truthy_int q0
  | str y =>
    obtain ⟨t, rfl⟩ := rx
    obtain ⟨hy, e'⟩ : y.length ≤ sizeLine ∧ k = ((y.length : Int) != 0) := e
    subst e'
    exact PySem.P.truthy_str (by omega) (q _)
  | byt y =>
    obtain ⟨t, rfl⟩ := rx
    obtain ⟨hy, e'⟩ : y.size ≤ sizeLine ∧ k = ((y.size : Int) != 0) := e
    subst e'
    exact PySem.W.truthy_bytes (by omega) (q _)
  | ref p =>
    cases rx
    have e' : (∃ xs, SqL X.K H p xs ∧ k = !xs.isEmpty) ∨ (∃ xs, SqT X.K H p xs ∧ k = !xs.isEmpty) ∨ ∃ kvs, H p = some (.dK kvs) ∧ k = !kvs.isEmpty := e
    rcases e' with ⟨xs, hx, e'⟩ | ⟨xs, hx, e'⟩ | ⟨kvs, hx, e'⟩
    · subst e'
      obtain ⟨its, r, pl, hz⟩ := I.list hx
      have hlen := r.length
      exact wpAny_truthy_list pl.isList (by simp only [List.size_toArray]; omega) (by rw [isEmpty_of r]; exact q _)
    · subst e'
      obtain ⟨its, r, pl, hz⟩ := I.tuple hx
      have hlen := r.length
      exact truthy_tuple pl (by simp only [List.size_toArray]; omega) (by rw [isEmpty_of r]; exact q _)
    · subst e'
      obtain ⟨hz, hS, vs, r, m⟩ : kvs.length ≤ sizeLine ∧ (p == sysModules) = false ∧ ∃ vs, KV kvs vs ∧ s.heap.DictOf (mixKind X.prog X.w) p vs := I.hok p _ hx
      have hlen : kvs.length = vs.length := Paired.length r
      exact wpAny_truthy_dict hS m (by omega) (by rw [isEmpty_kv r]; exact q _)
  | _ => exact (show False from e).elim
theorem inv_gens {X : Cx} {pins : List (Addr × Obj)} {σ : Z.St} {H : Hp} {s : Shared} (I : Inv X pins σ H s) {G : Array GenState} (h : AllBare G) : Inv X pins σ H { s with gens := G } :=
  ⟨I.ok, I.os, h, I.base, I.loc, I.cell, I.free, I.freeC, I.pin, I.hok, I.len⟩
theorem inv_setGen {X : Cx} {pins : List (Addr × Obj)} {σ : Z.St} {H : Hp} {s : Shared} (I : Inv X pins σ H s) {g : Nat} {x : GenState} (h : x.bare = true) : Inv X pins σ H (s.setGen g x) :=
  inv_gens I (allBare_setGen I.bare h)
section
variable {F : GxF} {elt iter : Expr} {ifs : List Expr} {ts : List Nat} {J : It} {Lk : Addr → Prop} {Gd : Hp → Prop} {Yd : Nat → Hp → V → Hp → Prop} {scope : Scope} {pos : Pos} {A B : Around} {a : Addr} {g : Nat}
theorem seg_gx0 (hco : F.X.env.scope.isCoroutine = false) (hA : B.deeper F.X.env = F.X.A) (o : GxOkF F elt iter ifs ts J Lk Gd Yd) {i n : Nat} {s₀ s : Shared} {τ : Fr} {G H : Hp} (hn : F.items.length ≤ n + i) (hst : F.st i τ G H s) (hΦ : F.Φ i τ) :
    Seg (model F.X.prog F.X.w) B F.R F.Y n s₀ (.compStart (.GeneratorExp elt [⟨F.tg, iter, ifs, 0⟩] scope pos) 0 (.ref F.it) .none F.X.env) ((model F.X.prog F.X.w).den (.compStart (.GeneratorExp elt [⟨F.tg, iter, ifs, 0⟩] scope pos) 0 (.ref F.it) .none F.X.env)) [] s := by
  have loop := seg_gx (scope := scope) (pos := pos) hco hA o _ i n s₀ s τ G H rfl hn hst hΦ
  show Seg _ B _ _ _ s₀ _ ((compStart (.GeneratorExp elt [⟨F.tg, iter, ifs, 0⟩] scope pos) 0 (.ref F.it) .none F.X.env).onRaise (leaving F.X.env)) [] s
  unfold compStart
  rw [Sem.onRaise_eq_wrap]
  show Seg _ B _ _ _ s₀ _ ((ask >>= _).wrap _ _ _ _) [] s
  refine seg_bind_wrap (wpAny_askSetting ?_)
  split
  · exact seg_again rfl loop
  · first
      | exact seg_bind_wrap (wpAny_rule (seg_bind_wrap (wpAny_standAt (seg_bind_wrap (o.T.self _ i s _ _ hst.2.2.2.1 (seg_again rfl loop))))))
      | (refine seg_bind_wrap (wpAny_rule ?_); show Seg _ B _ _ _ s₀ _ ((standAt iter.pos >>= _).wrap _ _ _ _) [] s; exact seg_bind_wrap (wpAny_standAt (seg_bind_wrap (o.T.self _ i s _ _ hst.2.2.2.1 (seg_again rfl loop)))))
/-- the generator stands ready -/
def GxF.rdy (F : GxF) (B : Around) (g n i : Nat) (τ : Fr) (s : Shared) : Prop :=
  ∃ gs, s.gens[g]? = some gs ∧ ∀ s'' G'' H'', F.st i τ G'' H'' s'' → gs.Goes (model F.X.prog F.X.w) B F.R F.Y n (.send .none) s''
theorem GxF.st_tok {i : Nat} {τ : Fr} {G H : Hp} {s : Shared} (h : F.st i τ G H s) (t : Nat) : F.st i τ G H { s with toks := t } := ⟨h.1, h.2.1.tok t, h.2.2.1, h.2.2.2.1, h.2.2.2.2⟩
theorem GxF.st_gen {i : Nat} {τ : Fr} {G H : Hp} {s : Shared} (h : F.st i τ G H s) {g : Nat} {x : GenState} (hx : x.bare = true) : F.st i τ G H (s.setGen g x) := ⟨h.1, inv_setGen h.2.1 hx, h.2.2.1, h.2.2.2.1, h.2.2.2.2⟩
theorem GxF.rdy_tok {n i : Nat} {τ : Fr} {s : Shared} (h : F.rdy B g n i τ s) (t : Nat) : F.rdy B g n i τ { s with toks := t } := h
/-- the generator's own object: pinned -/
structure GxG (F : GxF) (a : Addr) (g : Nat) : Prop where
  pn : ∃ o, (a, o) ∈ F.X.pn ∧ ∃ nm qn, o.cls = .type "generator" ∧ o.data = .fields #[.int g 0, nm, qn] ∧ o.slots = #[]
theorem GxG.isGen (h : GxG F a g) {pins : List (Addr × Obj)} {σ : Z.St} {H : Hp} {s : Shared} (I : Inv F.X pins σ H s) : s.heap.IsGen a g := by
  obtain ⟨o, ho, nm, qn, h1, h2, h3⟩ := h.pn
  exact ⟨o, nm, qn, (I.pin (a, o) (List.mem_append_left _ ho)).1, h1, h2, h3⟩
/-- a pull -/
theorem gx_pull {E : Value → Shared → Prop} (hh : A.handled = none) (hroom : A.depth < recursionLimit) (hg : GxG F a g) {n i : Nat} {s : Shared} {τ : Fr} {G H : Hp} (hst : F.st i τ G H s) (hr : F.rdy A.in1 g n i τ s) :
    wpAny (model F.X.prog F.X.w) A (pyNext (.ref a)) (fun r s' => match r with
      | some v => ∃ d i' τ' G' H' x, RelV x v ∧ RD F.X.K G' x d ∧ F.st i' τ' G' H' s' ∧ F.Ψ d i' τ' ∧ (F.Φ i' τ' → ∃ m, n = m + 1 ∧ F.rdy A.in1 g m i' τ' s')
      | none => F.fin s') E s := by
  obtain ⟨gs, hgs, hgo⟩ := hr
  have hgl : g < s.gens.size := (Array.getElem?_eq_some_iff.mp hgs).1
  refine wpAny_gsz (n := g + 1) hgl ?_
  refine wpAny_pyNext_genexpQ (P := fun _ _ s₁ => F.fin s₁) (Y := F.Y) hh hst.2.1.nolimit hroom (hg.isGen hst.2.1) hgs (hgo _ G H (GxF.st_gen hst rfl)) (fun v s₁ gs' hb hv => ?_) (fun s₁ hp h' hk => ?_)
  · intro hsz
    obtain ⟨d, i', τ', G', H', x, r, rd, st, hn, hΨ, hkap⟩ := hv
    refine ⟨d, i', τ', G', H', x, r, rd, GxF.st_gen st hb, hΨ, fun hΦ => ?_⟩
    have hsz1 : g < s₁.gens.size := by
      have q : (s₁.setGen g gs').gens.size = s₁.gens.size := setGen_size _ _ _
      have hsz' : g + 1 ≤ (s₁.setGen g gs').gens.size := hsz
      omega
    cases n with
    | zero => exact (hkap hΦ s₁ G' H' st).elim
    | succ m => exact ⟨m, rfl, gs', setGen_at hsz1, fun s'' G'' H'' st'' => hkap hΦ s'' G'' H'' st''⟩
  · intro _
    obtain ⟨τ', G', H', I, y, hΩ⟩ := hp
    refine ⟨τ', G', H', ?_, y, hΩ⟩
    exact (inv_setGen (g := g) (x := .finished) I rfl).kept (t' := s₁.toks) hk
end

/-! ### all, any -/
/-- q = true: all; false: any -/
def qT (q : Bool) (vs : List Nat) (g : ZGD) (tt : ZTD) (te : ZD) : List PyData → Fr → Res Bool
  | [], τ => .ok q τ
  | d :: ds, τ => match gxTurn vs g tt te d τ with
    | .ok none τ' => qT q vs g tt te ds τ'
    | .ok (some r) τ' => (match truD r with
      | some t => if t = q then qT q vs g tt te ds τ' else .ok (!q) τ'
      | none => .stuck)
    | _ => .stuck
/-- the ghost of all, any: where the rest leads to -/
def qΦ (q : Bool) (vs : List Nat) (g : ZGD) (tt : ZTD) (te : ZD) (items : List PyData) (b0 : Bool) (τe : Fr) (i : Nat) (τ : Fr) : Prop := qT q vs g tt te (items.drop i) τ = .ok b0 τe
def qΨ (q : Bool) (vs : List Nat) (g : ZGD) (tt : ZTD) (te : ZD) (items : List PyData) (b0 : Bool) (τe : Fr) (r : PyData) (i : Nat) (τ : Fr) : Prop := ∃ t, truD r = some t ∧ if t = q then qΦ q vs g tt te items b0 τe i τ else b0 = !q ∧ τe = τ
def qΩ (q : Bool) (b0 : Bool) (τe : Fr) (τ : Fr) : Prop := b0 = q ∧ τe = τ
theorem q_step {q : Bool} {vs : List Nat} {g : ZGD} {tt : ZTD} {te : ZD} {items : List PyData} {b0 : Bool} {τe : Fr} : ∀ i τ d, items[i]? = some d → qΦ q vs g tt te items b0 τe i τ → match gxTurn vs g tt te d τ with
    | .ok none τ' => qΦ q vs g tt te items b0 τe (i + 1) τ'
    | .ok (some r) τ' => qΨ q vs g tt te items b0 τe r (i + 1) τ'
    | _ => False := fun i τ d hd h => by
  unfold qΦ at h
  obtain ⟨hi, ed⟩ := List.getElem?_eq_some_iff.mp hd
  rw [List.drop_eq_getElem_cons hi, ed] at h
  unfold qT at h
  split at h
  · exact h
  · split at h
    · rename_i t et
      refine ⟨t, et, ?_⟩
      split at h
      · rename_i ht; rw [if_pos ht]; exact h
      · rename_i ht; rw [if_neg ht]; cases h; exact ⟨rfl, rfl⟩
    · cases h
  · cases h
theorem RD.tru {K : PySem.W.Frag} {G H : Hp} {v : V} {d : PyData} {k : Bool} (r : RD K G v d) (s : Sub G H) (e : truD d = some k) : TruV K v H k := tru_view s (.inl r) e
/-- behind the consumer: the generator rests, at the frame τe -/
def GxF.rest (F : GxF) (τe : Fr) (s : Shared) : Prop := ∃ G H, Inv F.X [] (wipe F.σ F.vs) H s ∧ Ex F.X.K (wipe F.σ F.vs) F.G0 F.τ0 F.H0 G τe H
theorem q_end {q : Bool} {vs : List Nat} {g : ZGD} {tt : ZTD} {te : ZD} {items : List PyData} {b0 : Bool} {τe : Fr} : ∀ τ, qΦ q vs g tt te items b0 τe items.length τ → qΩ q b0 τe τ := fun τ h => by
  unfold qΦ at h
  rw [List.drop_length] at h
  cases h
  exact ⟨rfl, rfl⟩
section
variable {Γ : GxF} {A : Around} {a : Addr} {g : Nat} {b0 : Bool} {τe : Fr}
theorem all_loop {R : Result → Shared → Prop} (hh : A.handled = none) (hroom : A.depth < recursionLimit) (hg : GxG Γ a g) (hΦ : Γ.Φ = qΦ true Γ.vs Γ.g Γ.tt Γ.te Γ.items b0 τe) (hΨ : Γ.Ψ = qΨ true Γ.vs Γ.g Γ.tt Γ.te Γ.items b0 τe) (hΩ : Γ.Ω = qΩ true b0 τe)
    (hR : ∀ s', Γ.rest τe s' → R (.ok (.ret (.bool b0))) s') : ∀ (n i : Nat) (s : Shared) (τ : Fr) (G H : Hp), Γ.st i τ G H s → Γ.rdy A.in1.in1 g n i τ s →
    codeAny (model Γ.X.prog Γ.X.w) A (.builtin "all.loop" ⟨[.ref a], []⟩) R s := by
  intro n
  induction n using Nat.strongRecOn with
  | ind n ih =>
    intro i s τ G H hst hr
    refine codeAny_builtin F.entry_all_loop ?_
    rw [Around.under_plainId F.plain_all_loop _]
    show wpAny _ A.in1 (pyNext (.ref a) >>= _) _ _ s
    refine wpAny_bind (wpAny_mono (gx_pull (A := A.in1) (E := fun _ _ => False) hh hroom hg hst hr) (fun r s' h => ?_) fun _ _ z => z.elim)
    cases r with
    | none =>
      obtain ⟨τ', G', H', I, y, hw⟩ := h
      rw [hΩ] at hw
      obtain ⟨rfl, rfl⟩ := hw
      exact wpAny_bind (wpAny_rule (wpAny_pure (hR s' ⟨G', H', I, y⟩)))
    | some v =>
      obtain ⟨d, i', τ', G', H', x, rx, rd, st, hp, hk⟩ := h
      rw [hΨ] at hp
      obtain ⟨t, et, hp⟩ := hp
      refine wpAny_bind (wpAny_holding (truthy_dat st.2.1 rx (RD.tru rd st.2.2.1.sr.sub et) fun tk => ?_))
      refine wpAny_bind (wpAny_letGo ?_)
      cases t with
      | true =>
        rw [if_pos rfl] at hp
        simp only [if_true]
        obtain ⟨m, rfl, hr'⟩ := hk (by rw [hΦ]; exact hp)
        exact wpAny_pure ⟨plainId_quiet F.plain_all_loop _, ih m (Nat.lt_succ_self m) i' _ τ' G' H' (GxF.st_tok st tk) (GxF.rdy_tok hr' tk)⟩
      | false =>
        rw [if_neg (by decide)] at hp
        obtain ⟨rfl, rfl⟩ := hp
        simp only [Bool.false_eq_true, if_false]
        exact wpAny_bind (wpAny_rule (wpAny_pure (hR _ ⟨G', H', (GxF.st_tok st tk).2.1, st.2.2.1⟩)))
theorem any_loop {R : Result → Shared → Prop} (hh : A.handled = none) (hroom : A.depth < recursionLimit) (hg : GxG Γ a g) (hΦ : Γ.Φ = qΦ false Γ.vs Γ.g Γ.tt Γ.te Γ.items b0 τe) (hΨ : Γ.Ψ = qΨ false Γ.vs Γ.g Γ.tt Γ.te Γ.items b0 τe) (hΩ : Γ.Ω = qΩ false b0 τe)
    (hR : ∀ s', Γ.rest τe s' → R (.ok (.ret (.bool b0))) s') : ∀ (n i : Nat) (s : Shared) (τ : Fr) (G H : Hp), Γ.st i τ G H s → Γ.rdy A.in1.in1 g n i τ s →
    codeAny (model Γ.X.prog Γ.X.w) A (.builtin "any.loop" ⟨[.ref a], []⟩) R s := by
  intro n
  induction n using Nat.strongRecOn with
  | ind n ih =>
    intro i s τ G H hst hr
    refine codeAny_builtin F.entry_any_loop ?_
    rw [Around.under_plainId F.plain_any_loop _]
    show wpAny _ A.in1 (pyNext (.ref a) >>= _) _ _ s
    refine wpAny_bind (wpAny_mono (gx_pull (A := A.in1) (E := fun _ _ => False) hh hroom hg hst hr) (fun r s' h => ?_) fun _ _ z => z.elim)
    cases r with
    | none =>
      obtain ⟨τ', G', H', I, y, hw⟩ := h
      rw [hΩ] at hw
      obtain ⟨rfl, rfl⟩ := hw
      exact wpAny_bind (wpAny_rule (wpAny_pure (hR s' ⟨G', H', I, y⟩)))
    | some v =>
      obtain ⟨d, i', τ', G', H', x, rx, rd, st, hp, hk⟩ := h
      rw [hΨ] at hp
      obtain ⟨t, et, hp⟩ := hp
      refine wpAny_bind (wpAny_holding (truthy_dat st.2.1 rx (RD.tru rd st.2.2.1.sr.sub et) fun tk => ?_))
      refine wpAny_bind (wpAny_letGo ?_)
      cases t with
      | false =>
        rw [if_pos rfl] at hp
        simp only [Bool.false_eq_true, if_false]
        obtain ⟨m, rfl, hr'⟩ := hk (by rw [hΦ]; exact hp)
        exact wpAny_pure ⟨plainId_quiet F.plain_any_loop _, ih m (Nat.lt_succ_self m) i' _ τ' G' H' (GxF.st_tok st tk) (GxF.rdy_tok hr' tk)⟩
      | true =>
        rw [if_neg (by decide)] at hp
        obtain ⟨rfl, rfl⟩ := hp
        simp only [if_true]
        exact wpAny_bind (wpAny_rule (wpAny_pure (hR _ ⟨G', H', (GxF.st_tok st tk).2.1, st.2.2.1⟩)))
theorem call_all_gx {E Q} (hh : A.handled = none) (hroom : A.depth < recursionLimit) (hg : GxG Γ a g) (hΦ : Γ.Φ = qΦ true Γ.vs Γ.g Γ.tt Γ.te Γ.items b0 τe) (hΨ : Γ.Ψ = qΨ true Γ.vs Γ.g Γ.tt Γ.te Γ.items b0 τe) (hΩ : Γ.Ω = qΩ true b0 τe)
    {n i : Nat} {s : Shared} {τ : Fr} {G H : Hp} (hst : Γ.st i τ G H s) (hr : Γ.rdy A.in1.in1 g n i τ s) (hR : ∀ s', Γ.rest τe s' → Q (.bool b0) s') :
    wpAny (model Γ.X.prog Γ.X.w) A (call (.builtin "all") [.ref a]) Q E s := by
  refine call_function_tree F.kind_all F.plain_all F.entry_all (F.args_all1 _) ?_
  unfold Builtin.«all»
  refine wpAny_bind (m := oneArg "all" _) (wpAny_pure ?_)
  refine wpAny_bind (wpAny_pyIter_gen (hg.isGen hst.2.1) ?_)
  exact wpAny_pure ⟨plainId_quiet F.plain_all_loop _, all_loop hh hroom hg hΦ hΨ hΩ hR n i s τ G H hst hr⟩
theorem call_any_gx {E Q} (hh : A.handled = none) (hroom : A.depth < recursionLimit) (hg : GxG Γ a g) (hΦ : Γ.Φ = qΦ false Γ.vs Γ.g Γ.tt Γ.te Γ.items b0 τe) (hΨ : Γ.Ψ = qΨ false Γ.vs Γ.g Γ.tt Γ.te Γ.items b0 τe) (hΩ : Γ.Ω = qΩ false b0 τe)
    {n i : Nat} {s : Shared} {τ : Fr} {G H : Hp} (hst : Γ.st i τ G H s) (hr : Γ.rdy A.in1.in1 g n i τ s) (hR : ∀ s', Γ.rest τe s' → Q (.bool b0) s') :
    wpAny (model Γ.X.prog Γ.X.w) A (call (.builtin "any") [.ref a]) Q E s := by
  refine call_function_tree F.kind_any F.plain_any F.entry_any (F.args_any1 _) ?_
  unfold Builtin.«any»
  refine wpAny_bind (m := oneArg "any" _) (wpAny_pure ?_)
  refine wpAny_bind (wpAny_pyIter_gen (hg.isGen hst.2.1) ?_)
  exact wpAny_pure ⟨plainId_quiet F.plain_any_loop _, any_loop hh hroom hg hΦ hΨ hΩ hR n i s τ G H hst hr⟩
end
end Z

/-! Z15: a generator expression is made; all(..), any(..). -/
namespace Z
open PySem PySem.Spec PyProof.Rows L2 GenW
variable [TB : Tabs]
/-- of a generator expression's block, whatever its start -/
abbrev InGx (X : Cx) (scope : Scope) (k : Nat) (P : Cx → Prop) : Prop := ∀ (B : Around) (s : Shared) (H : Hp) (C : Addr) (cl : List (Str × Addr)) (code : Value) (fp : List Addr) (pn : List (Addr × Obj)), Room k (B.deeper (genEnv scope cl C code builtinsNs X.env)) →
  P (gblk X B s H (genEnv scope cl C code builtinsNs X.env) fp pn)
section
variable {X : Cx} {pins : List (Addr × Obj)} {σ : Z.St} {H : Hp} {s : Shared}
theorem gx_make {c P : Addr} {elt tg iter : Expr} {ifs : List Expr} {gpos : Pos} {scope : Scope} {own : List (Str × Nat)} {wi : TI} {R0 : It → Hp → Prop} {k : Nat} {Q' : Value → Shared → Prop}
    (hr : Room (k + 1) X.A) (T : LamX.TabB X.base X.mg c P) (hcode : X.env.code = .ref c) (ok : GxOk X.N X.env.scope scope own) (hN : X.N.Nodup) (hi : PI X tg iter wi) (hs : ∀ v, genFold iter X.env v = pure v) (I : Inv X pins σ H s) (h : wi σ H R0)
    (hP : ∀ J H2, R0 J H2 → TabO H2 P)
    (hQ : ∀ (J : It) (H2 : Hp) (it : Addr) (fp : List Addr) (tn : Nat → Heap → Prop) (s3 s5 : Shared) (ps' : Array Value) (code : Value) (a : Addr) (g : Nat) (o : Obj), R0 J H2 → Turn X.prog X.w X.K tg J fp it tn → TriplesOk ps'.toList →
      Inv X pins σ (upd H2 P (.tbl ps')) s3 → (∀ b ∈ fp, FpOk X pins (upd H2 P (.tbl ps')) b) → tn 0 s5.heap →
      Inv (gblk X X.A.in1.in1 s3 (upd H2 P (.tbl ps')) (genEnv scope (cloFrom X.env.cells scope.names []) s3.heap.objs.size code builtinsNs X.env) fp [(a, o)]) [] (wipe σ (own.map (·.2))) (upd H2 P (.tbl ps')) s5 →
      (∃ nm qn, o.cls = .type "generator" ∧ o.data = .fields #[.int g 0, nm, qn] ∧ o.slots = #[]) → (∀ b ∈ fp, a ≠ b) →
      s5.gens[g]? = some (.fresh (.compStart (.GeneratorExp elt [⟨tg, iter, ifs, 0⟩] scope gpos) 0 (.ref it) .none (genEnv scope (cloFrom X.env.cells scope.names []) s3.heap.objs.size code builtinsNs X.env))) → Q' (.ref a) s5) :
    wpAny (model X.prog X.w) X.A (eval (.GeneratorExp elt [⟨tg, iter, ifs, 0⟩] scope gpos) X.env) Q' X.xe s := by
  have hfree : ∀ y ∈ scope.names, y.2 = .free → ∃ c, X.env.cells.lookup y.1 = some c := fun y hy e => by
    rcases ok.free y hy e with k | k
    · exact I.ok.has _ (.inl k)
    · exact I.ok.has _ (.inr k)
  refine wpAny_GeneratorExp_make ok.co (closure_ok hfree) ok.nocell ok.dot ok.kind hr.depth ?_ hs
  refine thn (hi.run pins s σ H _ I h) fun xv s1 hx => thn hx fun itv s2 h2 => ?_
  obtain ⟨it, fp, tn, J, H2, rfl, I2, Tn, st2, f2, q⟩ := h2
  refine ⟨I2.nolimit, ?_⟩
  obtain ⟨ps, hPH, ht⟩ := hP J H2 q
  have hPs : s2.heap.get? P = some { cls := .none, data := .fields ps } := I2.hok P _ hPH
  have cd : PySem.W.CodeHd s2.heap c P := T.code.keeps I2.bk
  have cont : ∀ (code : Value) (h3 : Heap) (tk : Nat) (ps' : Array Value), Heap.ExtBut P s2.heap h3 → h3.get? P = some { cls := .none, data := .fields ps' } → (∃ more, ps' = ps ++ more) → TriplesOk ps'.toList →
      wpAny (model X.prog X.w) X.A (builtinsFor X.env.globals X.env.builtins) (fun bi s₄ =>
        ∀ h', h'.Ns s₄.heap.objs.size (fun y => if y = ".0" then some (.ref it) else none) → Heap.SameBut s₄.heap.objs.size (s₄.heap.push { cls := .type "frame", data := .dict #[] }) h' →
          Q' (.ref h'.objs.size) { s₄ with
            gens := s₄.gens.push (.fresh (.compStart (.GeneratorExp elt [⟨tg, iter, ifs, 0⟩] scope gpos) 0 (.ref it) .none (genEnv scope (cloFrom X.env.cells scope.names []) s₄.heap.objs.size code bi X.env))),
            toks := s₄.toks + 1 + 1 + 1,
            heap := h'.push { cls := .type "generator", data := .fields #[.int s₄.gens.size 0, .str "<genexpr>" (s₄.toks + 1), .str (X.env.qual ++ "<genexpr>") (s₄.toks + 1 + 1)] } }) X.xe { s2 with heap := h3, toks := tk } := by
    intro code h3 tk ps' hx hP3 hmore ht3
    obtain ⟨more, rfl⟩ := hmore
    have I3 : Inv X pins σ (upd H2 P (.tbl (ps ++ more))) { s2 with heap := h3, toks := tk } := GxR.inv_tab (g' := s2.gens) (d' := s2.drawn) (t' := tk) I2 hPH (fun b o hb e => hx b o hb e) hP3 I2.bare
    generalize hs3 : ({ s2 with heap := h3, toks := tk } : Shared) = s3 at I3 ⊢
    have e3 : s3.heap = h3 := by rw [← hs3]
    have g3 : s3.gens = s2.gens := by rw [← hs3]
    obtain ⟨bm, ob, e1, e2, _, e4, e5, e6, e7, e8⟩ := T.bm
    refine wpAny_builtinsFor (m := X.mg) (by rw [I3.ok.glob]; exact I3.mod.glob.keeps I3.bk) e1 e2 (I3.bk _ _ e5) e6 e7 e8 ?_
    intro h' hn' hs'
    have hsz : h'.objs.size = s3.heap.objs.size + 1 := by rw [hs'.1, Heap.size_push]
    have keep' : ∀ b o, s3.heap.get? b = some o → h'.get? b = some o := fun b o e => hs'.extBut b o (Nat.ne_of_lt (Heap.lt_size e)) (Heap.get?_push_of_some _ e)
    have nP : ∀ b, H2 b = none → b ≠ P := fun b e z => by rw [z, hPH] at e; cases e
    have fp2 : ∀ b ∈ fp, ∃ o, s2.heap.get? b = some o := fun b hb => let ⟨o, e, _⟩ := Tn.obj _ _ st2 b hb; ⟨o, e⟩
    have k23 : ∀ b ∈ fp, ∀ o, s2.heap.get? b = some o → s3.heap.get? b = some o := fun b hb o e => by rw [e3]; exact hx b o (nP b (f2 b hb).1) e
    have f3 : ∀ b ∈ fp, FpOk X pins (upd H2 P (.tbl (ps ++ more))) b := fun b hb => ⟨by rw [upd_ne (nP b (f2 b hb).1)]; exact (f2 b hb).1, (f2 b hb).2⟩
    have l3 : ∀ b ∈ fp, b < s3.heap.objs.size := fun b hb => by
      obtain ⟨o, e⟩ := fp2 b hb
      exact Heap.lt_size (k23 b hb o e)
    have kp5 : ∀ (ob : Obj) b o, s3.heap.get? b = some o → (h'.push ob).get? b = some o := fun ob b o e => Heap.get?_push_of_some _ (keep' b o e)
    refine hQ J H2 it fp tn s3 _ (ps ++ more) code h'.objs.size s3.gens.size { cls := .type "generator", data := .fields #[.int s3.gens.size 0, .str "<genexpr>" (s3.toks + 1), .str (X.env.qual ++ "<genexpr>") (s3.toks + 1 + 1)] } q Tn ht3 I3 f3 ?_ ?_ ⟨_, _, rfl, rfl, rfl⟩ (fun b hb => ?_) (Array.getElem?_push_size ..)
    · exact Tn.keep _ _ _ st2 fun b hb o e => kp5 _ b o (k23 b hb o e)
    · refine gx_start I3 ok hN (fun b hb => ⟨f3 b hb, l3 b hb⟩) hr.hd ?_ (kp5 _) ⟨_, hn'.push _⟩ rfl (I3.bare.push rfl) fun p hp => ?_
      · show X.A.frames = _
        exact I.ok.frames
      · rcases List.mem_cons.mp hp with hp | hp
        · subst hp
          refine ⟨Heap.get?_push_size _ rfl, ?_, fun v z => by cases z⟩
          show s3.heap.objs.size < h'.objs.size
          omega
        · cases hp
    · have := l3 b hb
      intro z
      rw [← z, hsz] at this
      exact absurd this (Nat.not_lt.mpr (Nat.le_succ _))
  cases hf : codeAmong gpos ps.toList with
  | none =>
    refine wpAny_genexprCodeX hcode (cd.code hPs ht) (cd.tab hPs) hf fun c' h' tk hx hge hlt hco' _ htab' _ => ?_
    obtain ⟨o1, vs, f1, tf, fl, tg', inF, tx, tt, op, _, _, _, _, _, _, _, _, _, htr, _⟩ := hco'
    exact cont _ h' tk _ hx htab'.2 ⟨_, rfl⟩ htr
  | some cv =>
    refine wpAny_genexprCode_hit hcode (cd.code hPs ht) hf ?_
    exact cont cv s2.heap s2.toks ps (Heap.ExtBut.refl _ _) hPs ⟨#[], by simp⟩ ht
end
/-- the table grows -/
theorem Ex.tabbed {K : PySem.W.Frag} {σ : Z.St} {G H : Hp} {τ : Fr} (s : SR K G τ σ H) {P : Addr} (hP : Tabs.t P) {ps : Array Value} (ht : TriplesOk ps.toList) : Ex K σ G τ H G τ (upd H P (.tbl ps)) := by
  have ne : ∀ a o, H a = some o → NT o → a ≠ P := fun a o h n e => ((s.tab P hP).2.ne h n) e.symm
  have gp := (s.tab P hP).1
  refine ⟨⟨s.len, fun a o h => ?_, fun i c h => ?_, s.sep, fun P' hP' => ?_⟩, ⟨Sub.refl, fun a o h n _ => ⟨by rw [upd_ne (ne a o h n)]; exact h, GS.rfl⟩, fun a h => ?_⟩, fun i c h o => ⟨c, h, o, rfl, rfl⟩⟩
  · have : a ≠ P := fun e => by rw [e, gp] at h; cases h
    rw [upd_ne this]; exact s.sub a o h
  · obtain ⟨v, e, r⟩ := s.cell i c h
    exact ⟨v, e, r.mono Sub.refl fun a o _ _ n h => ⟨by rw [upd_ne (ne a o h n)]; exact h, GS.rfl⟩⟩
  · obtain ⟨t1, ps', t2, t3⟩ := s.tab P' hP'
    refine ⟨t1, ?_⟩
    by_cases e : P' = P
    · exact ⟨ps, by rw [e, upd_same], ht⟩
    · exact ⟨ps', by rw [upd_ne e]; exact t2, t3⟩
  · by_cases e : a = P
    · rw [e, upd_same] at h; cases h
    · rw [upd_ne e] at h; exact h
/-- what is walked is not the frame's to change -/
theorem notOwnB {K : PySem.W.Frag} {σ : Z.St} {G1 H1 : Hp} {τ1 : Fr} (s1 : SR K G1 τ1 σ H1) {ss vs : List Nat} (hss : ∀ i ∈ ss, ∃ c : Cell, τ1[i]? = some (some c) ∧ c.lkb = true) : ∀ p, LkA σ ss p → ¬ Ownd (wipeF vs (lockAll ss τ1)) (wipe σ vs) p := fun p ⟨i, hi, e4⟩ z => by
  obtain ⟨j, cj, q1, q2, q3, q4⟩ := z
  obtain ⟨hj, q1⟩ := wipeF_inv q1
  rw [wipe_get, if_neg hj] at q4
  obtain ⟨c, h1, h2⟩ := hss i hi
  obtain ⟨c0, w1, ⟨hs3, w2⟩ | ⟨hn, w2⟩⟩ := lockAll_inv q1
  · obtain ⟨c4, r2, r3⟩ := hss j hs3
    rw [w1] at r2; cases r2
    rw [w2, setLk_lkT r3] at q3
    cases q3
  · subst w2
    by_cases ij : i = j
    · subst ij; exact hn hi
    · exact s1.sep i j c _ _ ij h1 w1 (Cell.lkb_obj h2) q2 e4 q4
section
variable {X : Cx} {W : WZ} {pins : List (Addr × Obj)} {σ : Z.St} {G H : Hp} {τ : Fr} {s : Shared}
abbrev mkG (X : Cx) (s3 : Shared) (H3 : Hp) (cenv : Env) (fp : List Addr) (a : Addr) (o : Obj) (vs : List Nat) (σ : Z.St) (G1 : Hp) (τ0 : Fr) (it : Addr) (tn : Nat → Heap → Prop) (items : List PyData) (tg : Expr) (g : ZGD) (tt : ZTD) (te : ZD) (Φ : Nat → Fr → Prop) (Ψ : PyData → Nat → Fr → Prop) (Ω : Fr → Prop) : GxF :=
  ⟨gblk X X.A.in1.in1 s3 H3 cenv fp [(a, o)], vs, σ, G1, τ0, H3, fp, it, tn, items, tg, g, tt, te, Φ, Ψ, Ω⟩
theorem Room.gx {k : Nat} {A : Around} (r : Room (k + 1) A) (env : Env) : Room k (A.in1.in1.deeper env) :=
  ⟨r.hd, by have := r.dp; show A.depth + 1 + 3 * k + 5 < _; omega, by have := r.un; show A.units + 1 + 1 + 3 + 16 * k + 200 < _; omega⟩
/-- a generator expression is made, its items known -/
theorem gx_core {c P : Addr} {elt tg iter : Expr} {ifs : List Expr} {gpos : Pos} {scope : Scope} {own : List (Str × Nat)} {it : ZID} {ts : List Nat} {g : ZGD} {tt : ZTD} {te : ZD} {k : Nat} {Q' : Value → Shared → Prop} {items : List PyData} {ss : List Nat} {τ1 : Fr} {Φ : Nat → Fr → Prop} {Ψ : PyData → Nat → Fr → Prop} {Ω : Fr → Prop}
    (hr : Room (k + 1) X.A) (T : LamX.TabB X.base X.mg c P) (hT : Tabs.t P) (hcode : X.env.code = .ref c) (hc : X.calm = true) (hN : X.N.Nodup) (ok : GxOk X.N X.env.scope scope own) (hts : ∀ i ∈ ts, i ∈ own.map (·.2)) (hi : ZI X W tg iter it)
    (hg : InGx X scope k fun B => ZG B tg ts g) (ht : InGx X scope k fun B => ZTs B wF ifs tt) (he : InGx X scope k fun B => ZE B wF elt te) (hs : ∀ v, genFold iter X.env v = pure v)
    (I : Inv X pins σ H s) (s0 : SR X.K G τ σ H) (e0 : it τ = .ok (items, ss) τ1)
    (hΦ : ∀ i τ d, items[i]? = some d → Φ i τ → match gxTurn (own.map (·.2)) g tt te d τ with
      | .ok none τ' => Φ (i + 1) τ'
      | .ok (some r) τ' => Ψ r (i + 1) τ'
      | _ => False) (hΩ : ∀ τ, Φ items.length τ → Ω τ) (hΦ0 : Φ 0 (wipeF (own.map (·.2)) (lockAll ss τ1)))
    (hQ : ∀ (Γ : GxF) (a : Addr) (gn n : Nat) (s5 : Shared) (G5 H5 : Hp), Γ.X.prog = X.prog → Γ.X.w = X.w → Γ.vs = own.map (·.2) → Γ.g = g → Γ.tt = tt → Γ.te = te → Γ.items = items → Γ.Φ = Φ → Γ.Ψ = Ψ → Γ.Ω = Ω → GxG Γ a gn →
      Γ.st 0 (wipeF (own.map (·.2)) (lockAll ss τ1)) G5 H5 s5 → Γ.rdy X.A.in1.in1 gn n 0 (wipeF (own.map (·.2)) (lockAll ss τ1)) s5 →
      (∀ τe s', Γ.rest τe s' → ∃ G' H', Inv X pins σ H' s' ∧ Ex X.K σ G τ H G' (restF (own.map (·.2)) τ1 (unlock τ1 ss τe)) H') → Q' (.ref a) s5) :
    wpAny (model X.prog X.w) X.A (eval (.GeneratorExp elt [⟨tg, iter, ifs, 0⟩] scope gpos) X.env) Q' X.xe s := by
  refine gx_make (own := own) (R0 := fun J H2 => ∃ G1, Ex X.K σ G τ H G1 τ1 H2 ∧ (∀ i ∈ ss, ∃ c : Cell, τ1[i]? = some (some c) ∧ c.lkb = true) ∧ ItOk X.K G1 H2 (LkA σ ss) J items) hr T hcode ok hN hi.pi hs I ⟨G, τ, s0, ?_⟩ (fun J H2 ⟨G1, x, _⟩ => (x.sr.tab P hT).2) ?_
  · rw [e0]
    exact fun G1 H1 J x hss io => ⟨G1, x, hss, io⟩
  · intro J H2 it' fp tn s3 s5 ps' code a gn o ⟨G1, x, hss, io⟩ Tn htr I3 f3 st5 I5 ho hap hgs
    obtain ⟨Gd, Yd, wk, stab, yl⟩ := io.ex
    have x3 : Ex X.K σ G1 τ1 H2 G1 τ1 (upd H2 P (.tbl ps')) := Ex.tabbed x.sr hT htr
    generalize hH3 : upd H2 P (.tbl ps') = H3 at I3 f3 I5 x3
    generalize hce : genEnv scope (cloFrom X.env.cells scope.names []) s3.heap.objs.size code builtinsNs X.env = cenv at I5 hgs
    have lkP : ∀ p, LkA σ ss p → H3 p = H2 p := fun p ⟨i, hi, e4⟩ => by
      obtain ⟨c, h1, h2⟩ := hss i hi
      obtain ⟨b, w, z1, _, z3, nt⟩ := x.sr.objAtN h1 (Cell.lkb_obj h2)
      rw [e4] at z1; cases z1
      rw [← hH3, upd_ne]
      intro e
      exact (x.sr.tab P hT).2.ne z3 nt e.symm
    have sB : SR X.K G1 (wipeF (own.map (·.2)) (lockAll ss τ1)) (wipe σ (own.map (·.2))) H3 :=
      SR.wiped (σ := wipe σ (own.map (·.2))) (x3.sr.lkEq (lockAll_eq ss τ1)) (wipe_length _ _) fun j hj => by rw [wipe_get, if_neg hj]
    have hrB : Room k (X.A.in1.in1.deeper cenv) := Room.gx hr cenv
    have oF : GxOkF (mkG X s3 H3 cenv fp a o (own.map (·.2)) σ G1 (wipeF (own.map (·.2)) (lockAll ss τ1)) it' tn items tg g tt te Φ Ψ Ω) elt iter ifs ts J (LkA σ ss) Gd Yd := by
      refine ⟨hc, rfl, rfl, fun p hp b hb => ?_, ?_, ?_, ?_, hts, Tn, wk, sB, fun G2 H2' m1 m2 h => stab G2 H2' m1 m2 fun p hp => (h p hp).trans (lkP p hp), yl, fun G2 τ2 H2' y p hp => ?_, hΦ, hΩ⟩
      · have hp : p = (a, o) := by simpa using hp
        subst hp
        exact hap b hb
      · subst hce; exact hg _ _ _ _ _ _ _ _ hrB
      · subst hce; exact ht _ _ _ _ _ _ _ _ hrB
      · subst hce; exact he _ _ _ _ _ _ _ _ hrB
      · obtain ⟨i, hi, e4⟩ := id hp
        obtain ⟨c, h1, h2⟩ := hss i hi
        obtain ⟨b, w, z1, _, z3, nt⟩ := x3.sr.objAtN h1 (Cell.lkb_obj h2)
        rw [e4] at z1; cases z1
        show H2' p = H3 p
        rw [z3]
        exact (y.kp.2.1 p w z3 nt (notOwnB x3.sr hss p hp)).1
    have st0 : (mkG X s3 H3 cenv fp a o (own.map (·.2)) σ G1 (wipeF (own.map (·.2)) (lockAll ss τ1)) it' tn items tg g tt te Φ Ψ Ω).st 0 (wipeF (own.map (·.2)) (lockAll ss τ1)) G1 H3 s5 :=
      ⟨Nat.zero_le _, I5, Ex.refl sB, st5, fun b hb => (f3 b hb).1⟩
    refine hQ _ a gn items.length s5 G1 H3 rfl rfl rfl rfl rfl rfl rfl rfl rfl rfl ⟨o, List.mem_cons_self, ho⟩ st0 ⟨_, hgs, fun s'' G'' H'' st'' => ⟨rfl, ?_⟩⟩ fun τe s' ⟨G', H', I', y⟩ => ⟨G', H', ?_, ?_⟩
    · have hco : cenv.scope.isCoroutine = false := by rw [← hce]; exact ok.co
      exact seg_gx0 (scope := scope) (pos := gpos) hco rfl oF (i := 0) (n := items.length) (by exact Nat.le_refl _) st'' hΦ0
    · exact I3.call' (ch := fp) I'.os I'.base I'.hok I'.bare fun b hb => ⟨(f3 b hb).2.2.2.1, (f3 b hb).2.1, (f3 b hb).2.2.2.2.1, (f3 b hb).2.2.2.2.2⟩
    · refine (x.trans x3).trans (Ex.unblock x3.sr hss ?_)
      exact y
end
end Z

/-! Z16: all(..), any(..). -/
namespace Z
open PySem PySem.Spec PyProof.Rows L2 GenW
variable [TB : Tabs]
/-- q = true: all(te for g in it if tt); false: any -/
def zQ (q : Bool) (it : ZID) (vs : List Nat) (g : ZGD) (tt : ZTD) (te : ZD) : ZD := fun τ => (it τ).bind fun r τ1 => match qT q vs g tt te r.1 (wipeF vs (lockAll r.2 τ1)) with
  | .ok b τ2 => .ok (.cl (.fz (.bool b))) (restF vs τ1 (unlock τ1 r.2 τ2))
  | _ => .stuck
section
variable {X : Cx} {W : WZ} {c P : Addr} {elt tg iter : Expr} {ifs : List Expr} {p pos gpos : Pos} {scope : Scope} {own : List (Str × Nat)} {it : ZID} {ts : List Nat} {g : ZGD} {tt : ZTD} {te : ZD} {k : Nat}
theorem ze_all (hr : Room (k + 1) X.A) (hgl : Gl X "all") (hm : X.mg "all" = none) (T : LamX.TabB X.base X.mg c P) (hT : Tabs.t P) (hcode : X.env.code = .ref c) (hc : X.calm = true) (hN : X.N.Nodup) (ok : GxOk X.N X.env.scope scope own) (hts : ∀ i ∈ ts, i ∈ own.map (·.2)) (hi : ZI X W tg iter it)
    (hg : InGx X scope k fun B => ZG B tg ts g) (ht : InGx X scope k fun B => ZTs B wF ifs tt) (he : InGx X scope k fun B => ZE B wF elt te) (hs : ∀ v, genFold iter X.env v = pure v := by intro _; rfl)
    (hst : starEach [.GeneratorExp elt [⟨tg, iter, ifs, 0⟩] scope gpos] X.env = (false, eval (.GeneratorExp elt [⟨tg, iter, ifs, 0⟩] scope gpos) X.env) :: starEach [] X.env := by rfl) :
    ZE X W (.Call (.Name "all" p) [.GeneratorExp elt [⟨tg, iter, ifs, 0⟩] scope gpos] [] pos) (zQ true it (own.map (·.2)) g tt te) := by
  refine ⟨⟨fun pins s σ H Q I h => ?_⟩⟩
  refine wpAny_Call_Name_kw (ld_blt I hgl hm boot_all ?_)
  refine PyProof.Rows.callWith_builtin1 ?_ hst (by rfl)
  rw [hst]
  show wpAny _ _ (spliced ((false, eval (.GeneratorExp elt [⟨tg, iter, ifs, 0⟩] scope gpos) X.env) :: backTo pos (starEach [] X.env))) _ _ s
  refine Calls.spliced_cons ?_
  obtain ⟨G, τ, s0, h⟩ := tZ_to h
  unfold zQ at h
  cases e0 : it τ with
  | stuck => rw [e0] at h; exact h.elim
  | exc n τ1 =>
    rw [e0] at h
    refine gx_make (own := own) (R0 := fun _ _ => False) hr T hcode ok hN hi.pi hs I ⟨G, τ, s0, ?_⟩ (fun _ _ z => z.elim) fun _ _ _ _ _ _ _ _ _ _ _ _ z => z.elim
    rw [e0]
    exact h
  | ok r τ1 =>
    obtain ⟨items, ss⟩ := r
    rw [e0] at h
    dsimp only [Res.bind] at h
    cases eq : qT true (own.map (·.2)) g tt te items (wipeF (own.map (·.2)) (lockAll ss τ1)) with
    | stuck => rw [eq] at h; exact h.elim
    | exc n τ2 => rw [eq] at h; exact h.elim
    | ok b τe =>
      rw [eq] at h
      refine gx_core (Φ := qΦ true (own.map (·.2)) g tt te items b τe) (Ψ := qΨ true (own.map (·.2)) g tt te items b τe) (Ω := qΩ true b τe) hr T hT hcode hc hN ok hts hi hg ht he hs I s0 e0 q_step q_end (by unfold qΦ; rw [List.drop_zero]; exact eq) ?_
      intro Γ a gn n s5 G5 H5 e1 e2 e3 e4 e5 e6 e7 e8 e9 e10 hG st rd back
      refine Calls.spliced_nil ?_
      rw [← e1, ← e2]
      refine call_all_gx (b0 := b) (τe := τe) hr.hd hr.depth hG (by rw [e3, e4, e5, e6, e7]; exact e8) (by rw [e3, e4, e5, e6, e7]; exact e9) e10 st rd fun s' rs => ?_
      obtain ⟨G', H', I', y⟩ := back τe s' rs
      exact ⟨.bl b, H', I', rfl, h G' H' _ y ⟨.bl b, fun o => nomatch o⟩⟩
theorem ze_any (hr : Room (k + 1) X.A) (hgl : Gl X "any") (hm : X.mg "any" = none) (T : LamX.TabB X.base X.mg c P) (hT : Tabs.t P) (hcode : X.env.code = .ref c) (hc : X.calm = true) (hN : X.N.Nodup) (ok : GxOk X.N X.env.scope scope own) (hts : ∀ i ∈ ts, i ∈ own.map (·.2)) (hi : ZI X W tg iter it)
    (hg : InGx X scope k fun B => ZG B tg ts g) (ht : InGx X scope k fun B => ZTs B wF ifs tt) (he : InGx X scope k fun B => ZE B wF elt te) (hs : ∀ v, genFold iter X.env v = pure v := by intro _; rfl)
    (hst : starEach [.GeneratorExp elt [⟨tg, iter, ifs, 0⟩] scope gpos] X.env = (false, eval (.GeneratorExp elt [⟨tg, iter, ifs, 0⟩] scope gpos) X.env) :: starEach [] X.env := by rfl) :
    ZE X W (.Call (.Name "any" p) [.GeneratorExp elt [⟨tg, iter, ifs, 0⟩] scope gpos] [] pos) (zQ false it (own.map (·.2)) g tt te) := by
  refine ⟨⟨fun pins s σ H Q I h => ?_⟩⟩
  refine wpAny_Call_Name_kw (ld_blt I hgl hm boot_any ?_)
  refine PyProof.Rows.callWith_builtin1 ?_ hst (by rfl)
  rw [hst]
  show wpAny _ _ (spliced ((false, eval (.GeneratorExp elt [⟨tg, iter, ifs, 0⟩] scope gpos) X.env) :: backTo pos (starEach [] X.env))) _ _ s
  refine Calls.spliced_cons ?_
  obtain ⟨G, τ, s0, h⟩ := tZ_to h
  unfold zQ at h
  cases e0 : it τ with
  | stuck => rw [e0] at h; exact h.elim
  | exc n τ1 =>
    rw [e0] at h
    refine gx_make (own := own) (R0 := fun _ _ => False) hr T hcode ok hN hi.pi hs I ⟨G, τ, s0, ?_⟩ (fun _ _ z => z.elim) fun _ _ _ _ _ _ _ _ _ _ _ _ z => z.elim
    rw [e0]
    exact h
  | ok r τ1 =>
    obtain ⟨items, ss⟩ := r
    rw [e0] at h
    dsimp only [Res.bind] at h
    cases eq : qT false (own.map (·.2)) g tt te items (wipeF (own.map (·.2)) (lockAll ss τ1)) with
    | stuck => rw [eq] at h; exact h.elim
    | exc n τ2 => rw [eq] at h; exact h.elim
    | ok b τe =>
      rw [eq] at h
      refine gx_core (Φ := qΦ false (own.map (·.2)) g tt te items b τe) (Ψ := qΨ false (own.map (·.2)) g tt te items b τe) (Ω := qΩ false b τe) hr T hT hcode hc hN ok hts hi hg ht he hs I s0 e0 q_step q_end (by unfold qΦ; rw [List.drop_zero]; exact eq) ?_
      intro Γ a gn n s5 G5 H5 e1 e2 e3 e4 e5 e6 e7 e8 e9 e10 hG st rd back
      refine Calls.spliced_nil ?_
      rw [← e1, ← e2]
      refine call_any_gx (b0 := b) (τe := τe) hr.hd hr.depth hG (by rw [e3, e4, e5, e6, e7]; exact e8) (by rw [e3, e4, e5, e6, e7]; exact e9) e10 st rd fun s' rs => ?_
      obtain ⟨G', H', I', y⟩ := back τe s' rs
      exact ⟨.bl b, H', I', rfl, h G' H' _ y ⟨.bl b, fun o => nomatch o⟩⟩
end
end Z

/-! Z17: range, enumerate, zip, reversed. -/
namespace PySem
open Sem (wp)
set_option maxHeartbeats 1000000 in
theorem meets_enumerate_new1B {v : Value} {o : Obj} {H : Heap → Prop} (B : Begins v o H) :
    Meets (Builtin.«enumerate.__new__» ⟨[.type "enumerate", v], []⟩) (fun _ R s => H s.heap ∧
      R (.ok (.ret (.ref (s.heap.push o).objs.size))) { s with heap := (s.heap.push o).push { cls := .type "enumerate", data := .fields #[.none, .bool false, .ref s.heap.objs.size, rawInt 0, .none, .none] } }) :=
  .of_wp fun prog w A R s h => by
    obtain ⟨hp, g, d, tk, os⟩ := s; obtain ⟨h1, h⟩ := h
    have hsub := sub_enumerate
    have q1 : ∀ {A' : Around} {E : Value → Shared → Prop} {Q : Value → Shared → Prop}, Q (.ref hp.objs.size) ⟨hp.push o, g, d, tk, os⟩ → wpAny (model prog w) A' (pyIter v) Q E ⟨hp, g, d, tk, os⟩ :=
      fun q => B.iter prog w _ _ ⟨hp, g, d, tk, os⟩ _ h1 q
    wp_walk using q1
    refine wpAny_stack_any fun st => wpAny_pure ?_
    split
    · rename_i c _ _ _ _ _
      cases (c == Value.type "enumerate")
      · wp_walk using q1
        exact ⟨_, rfl, h⟩
      · wp_walk using q1
        exact ⟨_, rfl, h⟩
    · wp_walk using q1
      exact ⟨_, rfl, h⟩
theorem enum_begins1 {prog : Program} {w : World} {A : Around} {E : Value → Shared → Prop} {s : Shared} {v : Value} {o : Obj} {H : Heap → Prop} {Q : Value → Shared → Prop} (B : Begins v o H) (h1 : H s.heap)
    (h : ∀ h', IsEnum h' (s.heap.objs.size + 1) s.heap.objs.size 0 .none → h'.get? s.heap.objs.size = some o → h'.objs.size = s.heap.objs.size + 2 →
      (∀ b o, s.heap.get? b = some o → h'.get? b = some o) → Q (.ref (s.heap.objs.size + 1)) { s with heap := h' }) :
    wpAny (model prog w) A (call (.type "enumerate") [v]) Q E s := by
  refine callType_new F.called_enumerate (by decide) (F.typeCall_enumerate_1 _) (F.newCall_enumerate_1 _) (fun obj => F.args_object_init_2 obj _) F.entry_enumerate_new
    (meets_enumerate_new1B B) ⟨h1, ?_⟩
  have hz : (s.heap.push o).objs.size = s.heap.objs.size + 1 := Heap.size_push ..
  show _ ∧ _
  rw [hz]
  have he : IsEnum ((s.heap.push o).push { cls := .type "enumerate", data := .fields #[.none, .bool false, .ref s.heap.objs.size, rawInt 0, .none, .none] }) (s.heap.objs.size + 1) s.heap.objs.size 0 .none := by
    have := Heap.get?_push_size (s.heap.push o) (o := { cls := .type "enumerate", data := .fields #[.none, .bool false, .ref s.heap.objs.size, rawInt 0, .none, .none] }) rfl
    rw [hz] at this; exact this
  refine ⟨⟨_, he, rfl⟩, h _ he (Heap.get?_push_of_some _ (Heap.get?_push_size _ B.free)) (by rw [Heap.size_push, hz]) fun b o x => Heap.get?_push_of_some _ (Heap.get?_push_of_some _ x)⟩
theorem wpAny_pyNext_enum_endT {prog : Program} {w : World} {A : Around} {E : Value → Shared → Prop} {s : Shared} {e it t : Addr} {i : Nat} {items : Array Value} {c : Int} {old : Value} {Q : Option Value → Shared → Prop}
    (hh : A.handled = none) (he : IsEnum s.heap e it c old) (hit : s.heap.IsTupleIter it t i) (ht : s.heap.IsTuple t items) (hx : items[i]? = none)
    (hQ : ∀ h', Heap.ExtBut it s.heap h' → Q none { s with heap := h' }) : wpAny (model prog w) A (pyNext (.ref e)) Q E s := by
  have hT : s.TypeIs (.ref e) "enumerate" := ⟨_, he, rfl⟩
  unfold pyNext
  refine wpAny_bind (wpAny_attempt (wpAny_callSpecial?_slot (name := Str.ofString "__next__") hT F.slot_enumerate_next
    (wpAny_call_entry F.slot_enumerate_next hT F.entry_enumerate_next ?_ (F.args_enumerate_next_1 _))))
  show wpAny _ _ (field (.ref e) 2 >>= _) _ _ _
  refine wpAny_bind (wpAny_field he rfl (x := .ref it) rfl ?_)
  refine wpAny_bind (wpAny_nextOf_tuple_end (A := A.in1) hh hit ht hx fun h' x he' hx' => ?_)
  obtain ⟨o, ho, hc⟩ := hx'
  refine wpAny_bind (wpAny_isInstance (T := "StopIteration") (b := true) ⟨o, ho, hc⟩ isSubtype_stop ?_)
  exact wpAny_pure (hQ _ he')
end PySem
namespace Z
open PySem PySem.Spec PyProof.Rows L2
variable [TB : Tabs]

/-! ### enumerate(tuple) -/
def IteT (K : PySem.W.Frag) (a : Addr) : It :=
  ⟨fun i H => ∃ (xs : List V) (x : V), SqT K H a xs ∧ xs[i]? = some x, fun i H v H' => ∃ T x, v = .ref T ∧ H T = none ∧ H' = upd H T (.tup [.int (i : Nat), x]) ∧ ∀ xs, SqT K H a xs → xs[i]? = some x, fun i H => ∃ xs : List V, SqT K H a xs ∧ xs.length ≤ i⟩
theorem turn_enumT {P : Program} {w : World} {K : PySem.W.Frag} {elts : List Expr} {kk : Nat} {tpos : Pos} (a e it : Addr) (hai : a ≠ it) (hae : e ≠ a) :
    Turn P w K (.Tuple elts kk tpos) (IteT K a) [e, it] e (fun i h => (∃ old, IsEnum h e it ((i : Nat) : Int) old) ∧ h.IsTupleIter it a i ∧ e ≠ it) where
  mem := by simp
  obj := fun i h st b hb => by
    obtain ⟨⟨old, he⟩, ⟨o, ho, hc, hd⟩, _⟩ := st
    have e' : b = e ∨ b = it := by simpa using hb
    rcases e' with z | z
    · rw [z]; exact ⟨_, he, fun v q => nomatch q⟩
    · rw [z]; exact ⟨o, ho, fun v q => by rw [hd] at q; cases q⟩
  keep := fun i h h' st k => let ⟨⟨old, he⟩, hi, hne⟩ := st; ⟨⟨old, k e (by simp) _ he⟩, hi.at fun o q => k it (by simp) o q, hne⟩
  item := by
    intro X hP hw hK hc i pins s σ H E I hf st hg
    subst hP hw hK
    obtain ⟨⟨old, he⟩, hit, hne⟩ := st
    obtain ⟨xs, x, hq, hx⟩ := hg
    obtain ⟨its, rv, p, hz⟩ := I.tuple hq
    obtain ⟨u, hu, ru⟩ := rv.get hx
    have hel : e < s.heap.objs.size := Heap.lt_size he
    have hil : it < s.heap.objs.size := by obtain ⟨_, q, _⟩ := hit; exact Heap.lt_size q
    have D := Draws.tuple (prog := X.prog) (w := X.w) (A := X.A.in1) (I.ok.hd hc) it a hai its.toArray
    have hlt : i < its.toArray.size := by
      have := (List.getElem?_eq_some_iff.mp hu).1
      simpa using this
    refine wpAny_pyNext_enum_itemD D he ⟨hit, show s.heap.IsTuple a its.toArray from p⟩ hlt hne (by simp [hne, hae]) fun u' h' tk hP ho hs' hT hsz hk => ?_
    have eu : u' = u := by
      have hP : its.toArray[i]? = some u' := hP
      rw [List.getElem?_toArray, hu] at hP
      exact (Option.some.inj hP).symm
    subst eu
    obtain ⟨hit', _⟩ := hs'
    refine ⟨_, rfl, wpAny_letOwnedTupleGo_enum (s := { s with heap := h', toks := tk + 1 }) ho fun h'' he' sb => ?_⟩
    have hT2 : h''.get? s.heap.objs.size = some { cls := .type "tuple", data := .seq #[.int i tk, u'] } := (sb.2 _ (Nat.ne_of_gt hel)).trans hT
    have new : ObjOk X.prog X.w (upd H s.heap.objs.size (.tup [.int (i : Nat), x])) h'' s.heap.objs.size (.tup [.int (i : Nat), x]) :=
      ⟨by show 2 ≤ sizeLine; decide, [.int i tk, u'], .cons ⟨_, rfl⟩ (.cons ru .nil), ⟨_, hT2, rfl, _, rfl⟩⟩
    have I1 : Inv X pins σ (upd H s.heap.objs.size (.tup [.int (i : Nat), x])) { s with heap := h'', toks := tk + 1 } :=
      I.turnedNew (ch := [e, it]) (fun b ob hb q => (sb.2 b (fun z => hb (by simp [z]))).trans (hk b ob (fun z => hb (by simp [z])) (fun z => hb (by simp [z])) q)) hf (Nat.le_refl _) new
    refine ⟨.ref s.heap.objs.size, _, I1, rfl, ⟨_, x, rfl, I.hok.fresh (Nat.le_refl _), rfl, fun ys hy => by rw [I.tuple_inj hy hq]; exact hx⟩, ⟨⟨u', ?_⟩, hit'.at fun o q => (sb.2 it (Ne.symm hne)).trans q, hne⟩, fun b hb => ?_⟩
    · have e1 : ((i + 1 : Nat) : Int) = (i : Int) + 1 := by omega
      rw [e1]; exact he'
    · have hb' : b < s.heap.objs.size := by
        have e' : b = e ∨ b = it := by simpa using hb
        rcases e' with z | z
        · rw [z]; exact hel
        · rw [z]; exact hil
      rw [upd_ne (Nat.ne_of_lt hb')]
      exact (hf b hb).1
  done := by
    intro X hP hw hK hc i pins s σ H E I hf st hg
    subst hP hw hK
    obtain ⟨⟨old, he⟩, hit, hne⟩ := st
    obtain ⟨xs, hq, hx⟩ := hg
    obtain ⟨its, rv, p, hz⟩ := I.tuple hq
    obtain ⟨f0, f1, f2, f3, f4, f5⟩ := hf it (by simp)
    have hl := rv.length
    refine wpAny_pyNext_enum_endT (I.ok.hd hc) he hit p (by simp; omega) fun h' eb => ⟨rfl, I.turned (t' := s.toks) (fun b o hb q => eb b o hb q) f0 f1 f3 f4 f5⟩
  self := fun A i s Q E st h => let ⟨⟨_, he⟩, _⟩ := st; wpAny_pyIter_enum he h

section
variable {X : Cx} {K : PySem.W.Frag} {W : WZ} {σ σ1 σ2 : Z.St} {G G1 G2 H H1 H2 : Hp} {τ τ1 τ2 : Fr} {v x y : V} {l : LR} {d e : PyData} {a b c : Expr} {tg : Expr} {p pos : Pos} {da db dc : ZD}
theorem walk_enumT {a : Addr} {xs : List V} : Walk (IteT K a) xs.length (fun H => SqT K H a xs) (YPair (fun i => some (.int (i : Nat))) (fun i => xs[i]?)) := by
  refine ⟨fun i _ hi q => ⟨xs, xs[i], q, by simp [hi]⟩, fun _ q => ⟨xs, q, Nat.le_refl _⟩, fun i H v H' _ q y => ?_⟩
  obtain ⟨T, x, h1, h2, h3, h4⟩ := y
  exact ⟨T, .int (i : Nat), x, h1, h2, h3, rfl, h4 xs q⟩
def iEnumT (K : PySem.W.Frag) (ta : TA) : TI := fun σ H R => ta σ H fun vs H1 => ∃ a xs, vs = [.ref a] ∧ SqT K H1 a xs ∧ R (IteT K a) H1
theorem pi_enumT {elts : List Expr} {kk : Nat} {tpos : Pos} {e : Expr} {ta : TA} (hg : Gl X "enumerate") (hm : X.mg "enumerate" = none) (ha : PA X [e] ta) (hs : starEach [e] X.env = [(false, eval e X.env)] := by rfl) :
    PI X (.Tuple elts kk tpos) (.Call (.Name "enumerate" p) [e] [] pos) (iEnumT X.K ta) := by
  refine ⟨fun pins s σ H R I h => ?_⟩
  refine Call_ (ld_blt I hg hm boot_enumerate (PyProof.Rows.callWith_type1 (thn (ha.run pos pins s σ H _ I h) fun us s1 ⟨vs, H1, I1, r1, q1⟩ => ?_) hs rfl))
  obtain ⟨a, xs, ex, hq, q⟩ := q1
  subst ex
  cases r1 with
  | cons r rr =>
    cases rr
    cases r
    obtain ⟨its, rv, p', hz⟩ := I1.tuple hq
    obtain ⟨oa, hoa, _⟩ := id p'
    have hal : a < s1.heap.objs.size := Heap.lt_size hoa
    refine enum_begins1 (begins_tuple a its.toArray) (show s1.heap.IsTuple a its.toArray from p') fun h' he hit hsz hk => wpAny_pyIter_enum he ?_
    have I2 : Inv X pins σ H1 { s1 with heap := h' } := I1.kept (t' := s1.toks) hk
    refine ⟨s1.heap.objs.size + 1, [s1.heap.objs.size + 1, s1.heap.objs.size], _, _, H1, rfl, I2, turn_enumT a (s1.heap.objs.size + 1) s1.heap.objs.size (Nat.ne_of_lt hal) (Nat.ne_of_gt (Nat.lt_succ_of_lt hal)), ⟨⟨.none, he⟩, ⟨_, hit, rfl, rfl⟩, Nat.succ_ne_self _⟩, fun b hb => ?_, q⟩
    have e' : b = s1.heap.objs.size + 1 ∨ b = s1.heap.objs.size := by simpa using hb
    have hle : s1.heap.objs.size ≤ b := by
      rcases e' with z | z
      · rw [z]; exact Nat.le_add_right _ _
      · rw [z]; exact Nat.le_refl _
    exact I1.fpOk hle (I1.hok.fresh hle)
/-- new pairs -/
theorem itOk_pair {Lk : Addr → Prop} {J : It} {Gd : Hp → Prop} {n : Nat} {xs ys : Nat → Option V} {items : List PyData} (wk : Walk J n Gd (YPair xs ys)) (hn : items.length = n) (stab : ∀ G2 H2, Sub G1 G2 → Sub G2 H2 → (∀ a, Lk a → H2 a = H1 a) → Gd H2)
    (hy : ∀ (i : Nat) (x y : V), i < n → xs i = some x → ys i = some y → ∃ d e, items[i]? = some (.tuple [d, e]) ∧ RD K G1 x d ∧ RD K G1 y e) : ItOk K G1 H1 Lk J items := by
  subst hn
  refine ⟨Gd, _, wk, stab, fun i x H2 H' G2 hi m1 m2 y => ?_⟩
  obtain ⟨T, x1, y1, rfl, hT, rfl, e1, e2⟩ := y
  obtain ⟨d, e, e3, r1, r2⟩ := hy i x1 y1 hi e1 e2
  have gT := sub_none m2 hT
  have m3 : Sub G2 (upd G2 T (.tup [x1, y1])) := fun a o h => upd_none gT o h
  refine ⟨upd G2 T (.tup [x1, y1]), _, e3, .tup upd_same (.cons (dp_mono (m1.trans m3) _ _ r1) (.cons (dp_mono (m1.trans m3) _ _ r2) .nil)), m3, fun a o h => ?_, fun a o h => ⟨upd_none hT o h, .inl (by rw [upd_ne (ne_of_none h hT)])⟩, upd_gone hT⟩
  by_cases ea : a = T
  · subst ea; rw [upd_same] at h ⊢; exact h
  · rw [upd_ne ea] at h ⊢; exact m2 a o h

/-! ### range -/
theorem nextLI {β : ZLD} {k : List LR → Fr → Res (List PyData × List Nat)} {R : It → Hp → Prop} {Q1 : List V → Hp → Prop} (x : Ex K σ G τ H G1 τ1 H1) (h : FinI K W σ G τ H ((β τ1).bind k) R)
    (hk : ∀ ls τ2 G2 H2 vs, β τ1 = .ok ls τ2 → Ex K σ G1 τ1 H1 G2 τ2 H2 → RLs K σ τ2 G2 H2 H1 vs ls → FinI K W σ G τ H (k ls τ2) R → Q1 vs H2) : tZL K W β σ H1 Q1 := by
  refine ⟨G1, τ1, x.sr, ?_⟩
  cases e : β τ1 with
  | ok l τ2 =>
    rw [e] at h
    exact fun G2 H2 v y r => hk l τ2 G2 H2 v e y r h
  | exc n τ2 =>
    rw [e] at h
    exact fun G2 H2 y => h G2 H2 (x.trans y)
  | stuck => rw [e] at h; exact h
def rngL (lo : Int) (n : Nat) : List PyData := (List.range n).map fun (i : Nat) => .int (lo + i)
def okR (i : Int) : Bool := decide (-(2 ^ 62) ≤ i) && decide (i < 2 ^ 62)
/-- the ints of an argument list -/
def intsL (τ : Fr) : List LR → Option (List Int)
  | [] => some []
  | l :: ls => match rdD τ l, intsL τ ls with
    | some (.int i), some is => some (i :: is)
    | _, _ => none
def rngI : List Int → Option (List PyData)
  | [j] => if okR j then some (rngL 0 j.toNat) else none
  | [i, j] => if okR i && okR j then some (rngL i (j - i).toNat) else none
  | [i, j, c] => if okR i && okR j && (c == -1) then some ((List.range (i - j).toNat).map fun (k : Nat) => .int (i + k * (-1))) else none
  | _ => none
def zRng (a : ZLD) : ZID := fun τ => (a τ).bind fun ls τ1 => match (intsL τ1 ls).bind rngI with
  | some ds => .ok (ds, []) τ1
  | none => .stuck
theorem okR_of {i : Int} (h : okR i = true) : -(2 ^ 62) ≤ i ∧ i < 2 ^ 62 := by
  unfold okR at h
  simp only [Bool.and_eq_true, decide_eq_true_eq] at h
  exact h
theorem intsL_vs {ls : List LR} {vs : List V} {is : List Int} (x : SR K G1 τ1 σ H1) (r : RLs K σ τ1 G1 H1 H vs ls) (h : intsL τ1 ls = some is) : vs = is.map V.int := by
  induction r generalizing is with
  | nil => cases h; rfl
  | @cons H H2 v l vs ls rl m n t ih =>
    unfold intsL at h
    split at h
    · rename_i i is' e1 e2
      cases h
      rw [(RL.view x rl e1).int, ih e2]; rfl
    · cases h

theorem zi_range1 (hg : Gl X "range") (hm : X.mg "range" = none) (ha : ZE X W a da) (hs : starEach [a] X.env = (false, eval a X.env) :: starEach [] X.env := by rfl) : ZI X W tg (.Call (.Name "range" p) [a] [] pos) (zRng (zlC da zlN)) := by
  refine ⟨⟨fun pins s σ H R I h => (pi_range1 hg hm (zl_cons ha zl_nil hs).pa hs).run pins s σ H R I ?_⟩⟩
  obtain ⟨G, τ, s, h⟩ := h
  refine nextLI (Ex.refl s) h fun ls τ1 G1 H1 vs e x r h1 => ?_
  cases e1 : intsL τ1 ls with
  | none => rw [e1] at h1; exact h1.elim
  | some is =>
    rw [e1] at h1
    have ev := intsL_vs x.sr r e1
    match is, h1, ev with
    | [], h1, _ => exact h1.elim
    | [j], h1, ev =>
      dsimp only [Option.bind, rngI] at h1
      by_cases hj : okR j = true
      · rw [if_pos hj] at h1
        obtain ⟨q1, q2⟩ := okR_of hj
        exact ⟨j, ev, q1, q2, h1 G1 H1 _ x (fun i hi => by cases hi) itOk_range⟩
      · rw [if_neg hj] at h1; exact h1.elim
    | i :: j :: is, h1, ev =>
      -- one argument only
      exfalso
      have hl := r.len
      unfold zlC zlN at e
      cases e2 : da τ with
      | stuck => rw [e2] at e; cases e
      | exc n τ2 => rw [e2] at e; cases e
      | ok l τ2 => rw [e2] at e; cases e; rw [ev] at hl; simp at hl
theorem zi_range2 (hg : Gl X "range") (hm : X.mg "range" = none) (ha : ZE X W a da) (hb : ZE X W b db) (hs : starEach [a, b] X.env = (false, eval a X.env) :: starEach [b] X.env := by rfl) (hs2 : starEach [b] X.env = (false, eval b X.env) :: starEach [] X.env := by rfl) : ZI X W tg (.Call (.Name "range" p) [a, b] [] pos) (zRng (zlC da (zlC db zlN))) := by
  refine ⟨⟨fun pins s σ H R I h => (pi_range2 hg hm (zl_cons ha (zl_cons hb zl_nil hs2) hs).pa (by rw [hs, hs2]; rfl) hs2).run pins s σ H R I ?_⟩⟩
  obtain ⟨G, τ, s, h⟩ := h
  refine nextLI (Ex.refl s) h fun ls τ1 G1 H1 vs e x r h1 => ?_
  cases e1 : intsL τ1 ls with
  | none => rw [e1] at h1; exact h1.elim
  | some is =>
    rw [e1] at h1
    have ev := intsL_vs x.sr r e1
    have hl : is.length = 2 := by
      have hl := r.len
      rw [ev, List.length_map] at hl
      rw [hl]
      unfold zlC zlN at e
      cases e2 : da τ with
      | stuck => rw [e2] at e; cases e
      | exc n τ2 => rw [e2] at e; cases e
      | ok l τ2 =>
        rw [e2] at e
        dsimp only [Res.bind] at e
        cases e3 : db τ2 with
        | stuck => rw [e3] at e; cases e
        | exc n τ2 => rw [e3] at e; cases e
        | ok l τ2 => rw [e3] at e; cases e; rfl
    match is, h1, ev, hl with
    | [i, j], h1, ev, _ =>
      dsimp only [Option.bind, rngI] at h1
      by_cases hj : (okR i && okR j) = true
      · rw [if_pos hj] at h1
        obtain ⟨z1, z2⟩ := Bool.and_eq_true_iff.mp hj
        obtain ⟨q1, q2⟩ := okR_of z1
        obtain ⟨q3, q4⟩ := okR_of z2
        exact ⟨i, j, ev, ⟨q1, q2, q3, q4⟩, h1 G1 H1 _ x (fun i hi => by cases hi) itOk_range⟩
      · rw [if_neg hj] at h1; exact h1.elim
theorem zi_range3 (hg : Gl X "range") (hm : X.mg "range" = none) (ha : ZE X W a da) (hb : ZE X W b db) (hc : ZE X W c dc) (hs : starEach [a, b, c] X.env = (false, eval a X.env) :: starEach [b, c] X.env := by rfl) (hpl : (backTo pos (starEach [b, c] X.env)).any (·.1) = false := by rfl)
    (hs2 : starEach [b, c] X.env = (false, eval b X.env) :: starEach [c] X.env := by rfl) (hs3 : starEach [c] X.env = (false, eval c X.env) :: starEach [] X.env := by rfl) : ZI X W tg (.Call (.Name "range" p) [a, b, c] [] pos) (zRng (zlC da (zlC db (zlC dc zlN)))) := by
  refine ⟨⟨fun pins s σ H R I h => (pi_range3 hg hm (zl_cons ha (zl_cons hb (zl_cons hc zl_nil hs3) hs2) hs).pa hs hpl).run pins s σ H R I ?_⟩⟩
  obtain ⟨G, τ, s, h⟩ := h
  refine nextLI (Ex.refl s) h fun ls τ1 G1 H1 vs e x r h1 => ?_
  cases e1 : intsL τ1 ls with
  | none => rw [e1] at h1; exact h1.elim
  | some is =>
    rw [e1] at h1
    have ev := intsL_vs x.sr r e1
    have hl : is.length = 3 := by
      have hl := r.len
      rw [ev, List.length_map] at hl
      rw [hl]
      unfold zlC zlN at e
      cases e2 : da τ with
      | stuck => rw [e2] at e; cases e
      | exc n τ2 => rw [e2] at e; cases e
      | ok l τ2 =>
        rw [e2] at e
        dsimp only [Res.bind] at e
        cases e3 : db τ2 with
        | stuck => rw [e3] at e; cases e
        | exc n τ2 => rw [e3] at e; cases e
        | ok l τ2 =>
          rw [e3] at e
          dsimp only [Res.bind] at e
          cases e4 : dc τ2 with
          | stuck => rw [e4] at e; cases e
          | exc n τ2 => rw [e4] at e; cases e
          | ok l τ2 => rw [e4] at e; cases e; rfl
    match is, h1, ev, hl with
    | [i, j, k], h1, ev, _ =>
      dsimp only [Option.bind, rngI] at h1
      by_cases hj : (okR i && okR j && (k == -1)) = true
      · rw [if_pos hj] at h1
        obtain ⟨z1, z3⟩ := Bool.and_eq_true_iff.mp hj
        obtain ⟨z1, z2⟩ := Bool.and_eq_true_iff.mp z1
        obtain ⟨q1, q2⟩ := okR_of z1
        obtain ⟨q3, q4⟩ := okR_of z2
        have ek : k = -1 := by simpa using z3
        subst ek
        exact ⟨i, j, -1, (i - j).toNat, ev, RgC.neg q1 q2 q3 q4, h1 G1 H1 _ x (fun i hi => by cases hi) itOk_rangeC⟩
      · rw [if_neg hj] at h1; exact h1.elim

/-! ### enumerate, reversed, zip -/
/-- a list, a tuple: its items, the slots that are to stand, is it a list? -/
def seqL (τ : Fr) : LR → Option (List PyData × List Nat × Bool)
  | .sl i => match cellAt τ i with
    | some (.lst _ _ ds) => some (ds, [i], true)
    | some (.fz (.list ds)) => some (ds, [], true)
    | some (.fz (.tuple ds)) => some (ds, [], false)
    | some (.scr ns) => some (ns.map .int, [], true)
    | _ => none
  | .cl (.lst _ _ ds) => some (ds, [], true)
  | .cl (.fz (.list ds)) => some (ds, [], true)
  | .cl (.fz (.tuple ds)) => some (ds, [], false)
  | .cl (.scr ns) => some (ns.map .int, [], true)
  | _ => none
/-- what seqL tells; a new list is frozen -/
theorem seqL_ok (s : SR K G τ σ H) (x : Ex K σ G τ H G1 τ1 H1) (r : RL K σ H τ1 G1 H1 v l) {ds : List PyData} {ss : List Nat} {bl : Bool} (h : seqL τ1 l = some (ds, ss, bl)) :
    ∃ G3, Ex K σ G τ H G3 τ1 H1 ∧ (∀ i ∈ ss, ∃ c : Cell, τ1[i]? = some (some c) ∧ c.lkb = true) ∧ ∃ p vs, v = .ref p ∧ RDs K G3 vs ds ∧
      (if bl = true then SqL K H1 p vs ∧ (∀ G2 H2, Sub G3 G2 → Sub G2 H2 → (∀ a, LkA σ ss a → H2 a = H1 a) → SqL K H2 p vs) else SqT K G3 p vs) := by
  have nil : ∀ i ∈ ([] : List Nat), ∃ c : Cell, τ1[i]? = some (some c) ∧ c.lkb = true := fun i hi => by cases hi
  have fzl : ∀ {G3 : Hp} ds', Sub G3 H1 → RD K G3 v (.list ds') → ∃ p vs, v = .ref p ∧ RDs K G3 vs ds' ∧ SqL K H1 p vs ∧ (∀ G2 H2, Sub G3 G2 → Sub G2 H2 → (∀ a, LkA σ [] a → H2 a = H1 a) → SqL K H2 p vs) := fun {G3} ds' sb q => by
    cases q with
    | @lst p vs _ hp qs => exact ⟨p, vs, rfl, qs, SqL.of (sb _ _ hp), fun G2 H2 m1 m2 _ => SqL.of (m2 _ _ (m1 _ _ hp))⟩
  have fzt : ∀ ds', RD K G1 v (.tuple ds') → ∃ p vs, v = .ref p ∧ RDs K G1 vs ds' ∧ SqT K G1 p vs := fun ds' q => by
    cases q with
    | @tup p vs _ hp qs => exact ⟨p, vs, rfl, qs, SqT.of hp⟩
  have scl : ∀ ns, CR K G1 H1 v (.scr ns) → ∃ p vs, v = .ref p ∧ RDs K G1 vs (ns.map .int) ∧ SqL K H1 p vs ∧ (∀ G2 H2, Sub G1 G2 → Sub G2 H2 → (∀ a, LkA σ [] a → H2 a = H1 a) → SqL K H2 p vs) := fun ns ⟨p, e, q⟩ =>
    ⟨p, _, e, rds_ints ns, sql_mono x.sr.sub q, fun G2 H2 m1 m2 _ => sql_mono m2 (sql_mono m1 q)⟩
  unfold seqL at h
  split at h
  · rename_i i
    split at h
    · rename_i b k ds' e
      cases h
      obtain ⟨v', z, q⟩ := x.sr.cell i _ (cellAt_some e)
      have r : σ[i]? = some (some v) := r
      rw [r] at z; cases z
      obtain ⟨p, vs, ev, g, hh, qs⟩ := q
      refine ⟨G1, x, fun j hj => ?_, p, vs, ev, qs, ?_⟩
      · rw [List.mem_singleton.mp hj]; exact ⟨_, cellAt_some e, rfl⟩
      · rw [if_pos rfl]
        refine ⟨SqL.of hh, fun G2 H2 _ _ lk => SqL.of ?_⟩
        rw [lk p ⟨i, List.mem_singleton.mpr rfl, by rw [r, ev]⟩]; exact hh
    · rename_i ds' e
      cases h
      exact ⟨G1, x, nil, fzl _ x.sr.sub (RL.cell x.sr r (c := .fz (.list ds)) e)⟩
    · rename_i ds' e
      cases h
      exact ⟨G1, x, nil, fzt _ (RL.cell x.sr r (c := .fz (.tuple ds)) e)⟩
    · rename_i ns e
      cases h
      exact ⟨G1, x, nil, scl _ (RL.cell x.sr r (c := .scr ns) e)⟩
    · cases h
  · cases h
    obtain ⟨G3, y, q⟩ := Ex.freezeT s x r
    exact ⟨G3, y, nil, fzl _ y.sr.sub q⟩
  · cases h
    exact ⟨G1, x, nil, fzl _ x.sr.sub r.1⟩
  · cases h
    exact ⟨G1, x, nil, fzt _ r.1⟩
  · cases h
    exact ⟨G1, x, nil, scl _ r.1⟩
  · cases h
def enumL (ds : List PyData) : List PyData := ds.mapIdx fun i d => .tuple [.int (i : Nat), d]
def zEn (a : ZD) : ZID := fun τ => (a τ).bind fun l τ1 => match seqL τ1 l with
  | some (ds, ss, _) => .ok (enumL ds, ss) τ1
  | none => .stuck
theorem one_arg {Q : List V → Hp → Prop} (h : tZ K W da σ H fun v H' => Q [v] H') : tZL K W (zlC da zlN) σ H Q := by
  obtain ⟨G, τ, s, h⟩ := h
  refine ⟨G, τ, s, ?_⟩
  unfold zlC zlN
  cases e : da τ with
  | stuck => rw [e] at h; exact h
  | exc n τ1 => rw [e] at h; exact h
  | ok l τ1 =>
    rw [e] at h
    intro G' H' vs x r
    cases r with
    | cons r1 _ _ r2 =>
      cases r2
      exact h G' H' _ x r1
theorem zi_enum {elts : List Expr} {kk : Nat} {tpos : Pos} (hg : Gl X "enumerate") (hm : X.mg "enumerate" = none) (ha : ZE X W a da) (hs : starEach [a] X.env = (false, eval a X.env) :: starEach [] X.env := by rfl) : ZI X W (.Tuple elts kk tpos) (.Call (.Name "enumerate" p) [a] [] pos) (zEn da) := by
  refine ⟨⟨fun pins s σ H R I h => (PI.or (pi_enum hg hm (zl_cons ha zl_nil hs).pa hs) (pi_enumT hg hm (zl_cons ha zl_nil hs).pa hs)).run pins s σ H R I ?_⟩⟩
  obtain ⟨G, τ, s, h⟩ := h
  have key : ∀ (P : V → Hp → Prop), (∀ l τ1 G1 H1 v, da τ = .ok l τ1 → Ex X.K σ G τ H G1 τ1 H1 → RL X.K σ H τ1 G1 H1 v l → FinI X.K W σ G τ H (match seqL τ1 l with
    | some (ds, ss, _) => .ok (enumL ds, ss) τ1
    | none => .stuck) R → P v H1) → tZ X.K W da σ H P := fun P hP => nextI (Ex.refl s) h hP
  have items : ∀ {G3 : Hp} {vs : List V} {ds : List PyData}, RDs X.K G3 vs ds → ∀ (i : Nat) (x y : V), i < vs.length → (some (V.int (i : Nat))) = some x → vs[i]? = some y → ∃ d e, (enumL ds)[i]? = some (.tuple [d, e]) ∧ RD X.K G3 x d ∧ RD X.K G3 y e := fun {G3 vs ds} q i x y hi e1 e2 => by
    cases e1
    obtain ⟨d, h1, h2⟩ := dps_getV q e2
    exact ⟨.int (i : Nat), d, by unfold enumL; rw [List.getElem?_mapIdx, h1]; rfl, .int _, h2⟩
  cases e0 : da τ with
  | stuck => unfold zEn at h; rw [e0] at h; exact h.elim
  | exc n τ1 =>
    refine .inl (one_arg (key _ fun l' τ1' G1 H1 v e x r _ => ?_))
    rw [e0] at e; cases e
  | ok l τ1 =>
    cases e1 : seqL τ1 l with
    | none => unfold zEn at h; rw [e0] at h; dsimp only [Res.bind] at h; rw [e1] at h; exact h.elim
    | some p3 =>
      obtain ⟨ds, ss, bl⟩ := p3
      cases bl with
      | true =>
        refine .inl (one_arg (key _ fun l' τ1' G1 H1 v e x r h1 => ?_))
        rw [e0] at e; cases e
        rw [e1] at h1
        obtain ⟨G3, y, hss, p, vs, rfl, q, hq⟩ := seqL_ok s x r e1
        rw [if_pos rfl] at hq
        exact ⟨p, vs, rfl, hq.1, h1 G3 H1 _ y hss (itOk_pair walk_enum (by unfold enumL; rw [List.length_mapIdx, dps_len q]) hq.2 (items q))⟩
      | false =>
        refine .inr (one_arg (key _ fun l' τ1' G1 H1 v e x r h1 => ?_))
        rw [e0] at e; cases e
        rw [e1] at h1
        obtain ⟨G3, y, hss, p, vs, rfl, q, hq⟩ := seqL_ok s x r e1
        rw [if_neg Bool.false_ne_true] at hq
        exact ⟨p, vs, rfl, sqt_mono y.sr.sub hq, h1 G3 H1 _ y hss (itOk_pair walk_enumT (by unfold enumL; rw [List.length_mapIdx, dps_len q]) (fun G2 H2 m1 m2 _ => sqt_mono m2 (sqt_mono m1 hq)) (items q))⟩
def zRv (a : ZD) : ZID := fun τ => (a τ).bind fun l τ1 => match seqL τ1 l with
  | some (ds, ss, _) => .ok (ds.reverse, ss) τ1
  | none => .stuck
theorem walk_rt {a : Addr} {xs : List V} : Walk (RT.ItvT K a xs.length) xs.length (fun H => SqT K H a xs) (fun i H x H' => H' = H ∧ xs[xs.length - 1 - i]? = some x) :=
  ⟨fun i _ hi q => ⟨hi, xs, xs[xs.length - 1 - i]'(by omega), q, by simp [show xs.length - 1 - i < xs.length by omega]⟩, fun _ _ => Nat.le_refl _, fun _ _ _ _ _ q y => ⟨y.1, y.2 xs q⟩⟩
theorem itOk_rev {Lk : Addr → Prop} {J : It} {Gd : Hp → Prop} {xs : List V} {ds : List PyData} (wk : Walk J xs.length Gd (fun i H x H' => H' = H ∧ xs[xs.length - 1 - i]? = some x)) (stab : ∀ G2 H2, Sub G1 G2 → Sub G2 H2 → (∀ a, Lk a → H2 a = H1 a) → Gd H2) (q : RDs K G1 xs ds) : ItOk K G1 H1 Lk J ds.reverse := by
  have hl := dps_len q
  refine ⟨Gd, _, by rw [List.length_reverse, ← hl]; exact wk, stab, fun i x H2 H' G2 hi m1 m2 y => ?_⟩
  obtain ⟨rfl, y⟩ := y
  rw [List.length_reverse] at hi
  obtain ⟨d, e1, e2⟩ := dps_getV q y
  refine ⟨G2, d, ?_, dp_mono m1 _ _ e2, Sub.refl, m2, fun a o h => ⟨h, GS.rfl⟩, fun _ h => h⟩
  rw [List.getElem?_reverse hi, ← hl]; exact e1
theorem zi_rev (hg : Gl X "reversed") (hm : X.mg "reversed" = none) (ha : ZE X W a da) (hs : starEach [a] X.env = (false, eval a X.env) :: starEach [] X.env := by rfl) : ZI X W tg (.Call (.Name "reversed" p) [a] [] pos) (zRv da) := by
  refine ⟨⟨fun pins s σ H R I h => (RT.pi_revA hg hm ha.pe hs).run pins s σ H R I ?_⟩⟩
  obtain ⟨G, τ, s, h⟩ := h
  refine nextI (Ex.refl s) h fun l τ1 G1 H1 v e x r h1 => ?_
  cases e1 : seqL τ1 l with
  | none => rw [e1] at h1; exact h1.elim
  | some p3 =>
    obtain ⟨ds, ss, bl⟩ := p3
    rw [e1] at h1
    obtain ⟨G3, y, hss, p, vs, rfl, q, hq⟩ := seqL_ok s x r e1
    refine ⟨p, vs, rfl, ?_⟩
    cases bl with
    | true =>
      rw [if_pos rfl] at hq
      exact .inl ⟨hq.1, h1 G3 H1 _ y hss (itOk_rev walk_rev hq.2 q)⟩
    | false =>
      rw [if_neg Bool.false_ne_true] at hq
      exact .inr ⟨sqt_mono y.sr.sub hq, h1 G3 H1 _ y hss (itOk_rev walk_rt (fun G2 H2 m1 m2 _ => sqt_mono m2 (sqt_mono m1 hq)) q)⟩
end
end Z

/-! Z18: lists written: methods, items; unpacking; a, b = x, y. -/
namespace Z
open PySem PySem.Spec PyProof.Rows L2
variable [TB : Tabs]
section
variable {X : Cx} {K : PySem.W.Frag} {W : WZ} {σ σ1 σ2 : Z.St} {G G1 G2 H H1 H2 : Hp} {τ τ1 τ2 : Fr} {v x y w : V} {l : LR} {d e : PyData} {a b c : Expr} {tg : Expr} {p pos : Pos} {da db dc : ZD}
/-- an own list gets other items -/
theorem Ex.writeL (s : SR K G τ σ H) {i : Nat} {b : Bool} {ds ds' : List PyData} {q : Addr} {vs' : List V} (h : τ[i]? = some (some (.lst b false ds))) (hv : σ[i]? = some (some (.ref q))) (r : RDs K G vs' ds') :
    Ex K σ G τ H G (τ.set i (some (.lst b false ds'))) (upd H q (.lst vs')) := by
  obtain ⟨v, e, p, vs, rfl, g, hh, _⟩ := s.cell i _ h
  rw [e] at hv; cases hv
  have il : i < τ.length := (List.getElem?_eq_some_iff.mp h).1
  have own : Ownd τ σ q := ⟨i, _, h, rfl, rfl, e⟩
  have inv : ∀ (j : Nat) (c : Cell), (τ.set i (some (.lst b false ds')))[j]? = some (some c) → (j = i ∧ c = .lst b false ds') ∨ (j ≠ i ∧ τ[j]? = some (some c)) := fun j c hj => by
    rcases getElem?_set_some hj with ⟨e1, e2, _⟩ | ⟨e1, e2⟩
    · cases e2; exact .inl ⟨e1, rfl⟩
    · exact .inr ⟨e1, e2⟩
  refine ⟨⟨by rw [List.length_set]; exact s.len, fun a o z => ?_, fun j c hj => ?_, fun j k cj ck v n zj zk oj ok sj => ?_, fun P hP => ?_⟩, ⟨Sub.refl, fun a o z nt n => ?_, fun a z => ?_⟩, fun j c hj o => ?_⟩
  · have : a ≠ q := fun ea => by rw [ea, g] at z; cases z
    rw [upd_ne this]; exact s.sub a o z
  · rcases inv j c hj with ⟨rfl, rfl⟩ | ⟨ne, hj⟩
    · exact ⟨_, e, q, vs', rfl, g, upd_same, r⟩
    · obtain ⟨v', e', r'⟩ := s.cell j c hj
      refine ⟨v', e', r'.mono Sub.refl fun a o ev oc _ ha => ⟨?_, GS.rfl⟩⟩
      rw [upd_ne]; exact ha
      rintro rfl
      exact s.sep i j _ _ _ (Ne.symm ne) h hj rfl oc e (by rw [e', ev])
  · have old : ∀ (j : Nat) (c : Cell), (τ.set i (some (.lst b false ds')))[j]? = some (some c) → c.obj = true → ∃ c0 : Cell, τ[j]? = some (some c0) ∧ c0.obj = true := fun j c hj o => by
      rcases inv j c hj with ⟨rfl, rfl⟩ | ⟨_, hj⟩
      · exact ⟨_, h, rfl⟩
      · exact ⟨c, hj, o⟩
    obtain ⟨c1, h1, o1⟩ := old j cj zj oj
    obtain ⟨c2, h2, o2⟩ := old k ck zk ok
    exact s.sep j k c1 c2 v n h1 h2 o1 o2 sj
  · obtain ⟨t1, t2⟩ := s.tab P hP
    have ne := t2.ne hh nt_lst
    obtain ⟨ps, t2, t3⟩ := t2
    exact ⟨t1, ps, by rw [upd_ne ne]; exact t2, t3⟩
  · have : a ≠ q := fun ea => n (by rw [ea]; exact own)
    exact ⟨by rw [upd_ne this]; exact z, GS.rfl⟩
  · by_cases ea : a = q
    · rw [ea, upd_same] at z; cases z
    · rw [upd_ne ea] at z; exact z
  · rcases inv j c hj with ⟨rfl, rfl⟩ | ⟨_, hj⟩
    · exact ⟨_, h, rfl, rfl, rfl⟩
    · exact ⟨c, hj, o, rfl, rfl⟩

/-! ### methods of an own list -/
/-- what a method does: the items, the arguments; the answer, the items behind -/
abbrev LM := List PyData → List PyData → Option (PyData × List PyData)
def MethL (K : PySem.W.Frag) (f : LM) (r : V → List V → Hp → VK → Prop) : Prop :=
  ∀ (G H : Hp) (p : Addr) (vs ws : List V) (ds es : List PyData) (d : PyData) (ds' : List PyData) (Q : VK), Sub G H → H p = some (.lst vs) → G p = none → RDs K G vs ds → RDs K G ws es → f ds es = some (d, ds') →
    (∀ v vs', RD K G v d → RDs K G vs' ds' → Q v (upd H p (.lst vs'))) → r (.ref p) ws H Q
def mApp : LM := fun ds es => match es with
  | [e] => if ds.length < sizeLine then some (.none, ds ++ [e]) else none
  | _ => none
theorem meth_app : MethL K mApp rAppend := fun G H p vs ws ds es d ds' Q sb hp gp q qs e h => by
  unfold mApp at e
  split at e
  · rename_i e1
    split at e
    · rename_i hz
      cases e
      cases qs with
      | cons r t =>
        cases t
        exact ⟨p, vs, _, rfl, rfl, hp, by rw [dps_len q]; exact hz, h _ _ .non (dps_append q (.cons r .nil))⟩
    · cases e
  · cases e
def mPop : LM := fun ds es => match es with
  | [] => (ds[ds.length - 1]?).map fun d => (d, ds.dropLast)
  | _ => none
theorem meth_pop : MethL K mPop rPop := fun G H p vs ws ds es d ds' Q sb hp gp q qs e h => by
  unfold mPop at e
  split at e
  · obtain ⟨d0, e1, e2⟩ := Option.map_eq_some_iff.mp e
    cases e2
    cases qs
    rw [← dps_len q] at e1
    obtain ⟨v, h1, h2⟩ := dps_get q e1
    exact ⟨p, vs, v, rfl, rfl, hp, h1, h _ _ h2 (dps_dropLast q)⟩
  · cases e
def mRev : LM := fun ds es => match es with
  | [] => some (.none, ds.reverse)
  | _ => none
theorem meth_rev : MethL K mRev rReverse := fun G H p vs ws ds es d ds' Q sb hp gp q qs e h => by
  unfold mRev at e
  split at e
  · cases e
    cases qs
    exact ⟨p, vs, rfl, rfl, hp, h _ _ .non (dps_reverse q)⟩
  · cases e
def mExt : LM := fun ds es => match es with
  | [.list fs] => if ds.length + fs.length ≤ sizeLine then some (.none, ds ++ fs) else none
  | _ => none
theorem meth_ext : MethL K mExt rExtend := fun G H p vs ws ds es d ds' Q sb hp gp q qs e h => by
  unfold mExt at e
  split at e
  · rename_i fs
    split at e
    · rename_i hz
      cases e
      cases qs with
      | cons r t =>
        cases t
        cases r with
        | @lst b zs _ hb qz => exact ⟨p, b, vs, zs, rfl, rfl, hp, sb _ _ hb, by rw [dps_len q, dps_len qz]; exact hz, h _ _ .non (dps_append q qz)⟩
    · cases e
  · cases e
def mPopAt : LM := fun ds es => match es with
  | [.int i] => if -(2 ^ 63) ≤ i ∧ i < 2 ^ 63 then (seqIndex? i ds.length).bind fun k => (ds[k]?).map fun d => (d, ds.eraseIdx k) else none
  | _ => none
theorem meth_popAt : MethL K mPopAt rPopAt := fun G H p vs ws ds es d ds' Q sb hp gp q qs e h => by
  unfold mPopAt at e
  split at e
  · rename_i i
    split at e
    · rename_i hi
      obtain ⟨k, e1, e2⟩ := Option.bind_eq_some_iff.mp e
      obtain ⟨d0, e3, e4⟩ := Option.map_eq_some_iff.mp e2
      cases e4
      cases qs with
      | cons r t =>
        cases t
        cases r
        obtain ⟨v, h1, h2⟩ := dps_get q e3
        exact ⟨p, vs, i, k, v, rfl, rfl, hp, hi.1, hi.2, by rw [dps_len q]; exact e1, h1, h _ _ h2 (dps_erase k q)⟩
    · cases e
  · cases e
def mIns : LM := fun ds es => match es with
  | [.int i, e] => if ds.length < sizeLine ∧ 0 ≤ i ∧ i < 2 ^ 63 then some (.none, ds.take i.toNat ++ [e] ++ ds.drop i.toNat) else none
  | _ => none
theorem meth_ins : MethL K mIns (fun x vs H Q => ∃ (l : Addr) (xs : List V) (i : Int) (y : V), x = .ref l ∧ vs = [.int i, y] ∧ H l = some (.lst xs) ∧ xs.length < sizeLine ∧ 0 ≤ i ∧ i < 2 ^ 63 ∧
    Q .non (upd H l (.lst (xs.take i.toNat ++ [y] ++ xs.drop i.toNat)))) := fun G H p vs ws ds es d ds' Q sb hp gp q qs e h => by
  unfold mIns at e
  split at e
  · rename_i i e1
    split at e
    · rename_i hi
      cases e
      cases qs with
      | cons r t =>
        cases t with
        | cons r2 t =>
          cases t
          cases r
          exact ⟨p, vs, i, _, rfl, rfl, hp, by rw [dps_len q]; exact hi.1, hi.2.1, hi.2.2, h _ _ .non (dps_append (dps_append (dps_take _ q) (.cons r2 .nil)) (dps_drop _ q))⟩
    · cases e
  · cases e
/-- an argument list's data -/
def datsL (τ : Fr) : List LR → Option (List PyData)
  | [] => some []
  | .cl (.fz d) :: ls => (datsL τ ls).map (d :: ·)
  | _ => none
theorem datsL_rds {ls : List LR} {vs : List V} {ds : List PyData} (x : SR K G1 τ1 σ H1) (r : RLs K σ τ1 G1 H1 H vs ls) (h : datsL τ1 ls = some ds) : RDs K G1 vs ds := by
  induction r generalizing ds with
  | nil => cases h; exact .nil
  | @cons H H2 v l vs ls rl m n t ih =>
    cases l with
    | sl i => cases h
    | cl c =>
      cases c with
      | fz d =>
        obtain ⟨ds', e1, e2⟩ := Option.map_eq_some_iff.mp h
        cases e2
        exact .cons rl.1 (ih e1)
      | _ => cases h
/-- x.m(..), x an own list -/
def zMeth (f : LM) (i : Nat) (as : ZLD) : ZD := fun τ => match cellAt τ i with
  | some (.lst _ _ _) => (as τ).bind fun ls τ1 => (match cellAt τ1 i, datsL τ1 ls with
    | some (.lst b false ds), some es => (match f ds es with
      | some (d, ds') => .ok (.cl (.fz d)) (τ1.set i (some (.lst b false ds')))
      | none => .stuck)
    | _, _ => .stuck)
  | _ => .stuck
theorem meth_core {f : LM} {r : V → List V → Hp → VK → Prop} {i : Nat} {das : ZLD} {Q : VK} (hr : MethL K f r) (h : tZ K W (zMeth f i das) σ H Q) : tBM K "list" r (tZ K W (zN i)) (tZL K W das) σ H Q := by
  obtain ⟨G, τ, s, h⟩ := tZ_to h
  unfold zMeth at h
  cases ec : cellAt τ i with
  | none => rw [ec] at h; exact h.elim
  | some c0 =>
  cases c0 with
  | fz _ => rw [ec] at h; exact h.elim
  | dct _ _ _ _ => rw [ec] at h; exact h.elim
  | exc _ => rw [ec] at h; exact h.elim
  | scr _ => rw [ec] at h; exact h.elim
  | lst b0 k0 ds0 =>
  rw [ec] at h
  dsimp only at h
  refine ⟨G, τ, s, ?_⟩
  unfold zN
  rw [ec]
  intro G1 H1 v x1 r1
  have r1 : σ[i]? = some (some v) := r1
  obtain ⟨v', z, q0⟩ := x1.sr.cell i _ (cellAt_some ec)
  rw [r1] at z; cases z
  obtain ⟨p, vs0, rfl, g0, hh0, _⟩ := q0
  refine ⟨.inl ⟨rfl, vs0, SqL.of hh0⟩, G1, τ, x1.sr, ?_⟩
  cases ea : das τ with
  | stuck => rw [ea] at h; exact h
  | exc n τ1 => rw [ea] at h; exact fun G2 H2 y => h G2 H2 (x1.trans y)
  | ok ls τ1 =>
    rw [ea] at h
    intro G2 H2 ws x2 rs
    dsimp only [Res.bind] at h
    cases e2 : cellAt τ1 i with
    | none => rw [e2] at h; exact h.elim
    | some c =>
      cases c with
      | fz _ => rw [e2] at h; exact h.elim
      | dct _ _ _ _ => rw [e2] at h; exact h.elim
      | exc _ => rw [e2] at h; exact h.elim
      | scr _ => rw [e2] at h; exact h.elim
      | lst b k ds =>
        cases k with
        | true => rw [e2] at h; exact h.elim
        | false =>
          rw [e2] at h
          cases e3 : datsL τ1 ls with
          | none => rw [e3] at h; exact h.elim
          | some es =>
            rw [e3] at h
            dsimp only at h
            cases e4 : f ds es with
            | none => rw [e4] at h; exact h.elim
            | some r4 =>
              obtain ⟨d, ds'⟩ := r4
              rw [e4] at h
              obtain ⟨v', z, q⟩ := x2.sr.cell i _ (cellAt_some e2)
              rw [r1] at z; cases z
              obtain ⟨p', vs, ep, g, hh, qs⟩ := q
              cases ep
              refine hr G2 H2 p vs ws ds es d ds' Q x2.sr.sub hh g qs (datsL_rds x2.sr rs e3) e4 fun v vs' rv rvs => ?_
              have x3 := Ex.writeL x2.sr (cellAt_some e2) r1 rvs
              exact h G2 _ v ((x1.trans x2).trans x3) ⟨rv, fun o => nomatch o⟩
theorem ze_meth {f : LM} {r : V → List V → Hp → VK → Prop} {i : Nat} {nm name : Str} {id : String} {np apos cpos : Pos} {e : Expr} {es : List Expr} {das : ZLD} (hr : MethL X.K f r) (hN : X.N[i]? = some nm) (hv : Vis X.env.scope nm) (slot : Slot "list" name id) (hty : typeOf (.builtin id) = pure (.type "method_descriptor")) (hm : MtR X id r) (ha : ZL X W (e :: es) das)
    (hbase : attributeBase (.Name nm np) name X.env (eval (.Name nm np) X.env) = eval (.Name nm np) X.env := by rfl)
    (hfew : ((backTo cpos (starEach (e :: es) X.env)).all (fun x => !x.1) && (backToKw cpos (keywordEach [] X.env)).all (fun x => x.1.isSome)
      && decide ((e :: es).length + ([] : List Keyword).length + (if ([] : List Keyword).isEmpty then 0 else 1) < 30)) = true := by rfl)
    (hline : (apos.endLine == cpos.line) = true := by rfl) (hs : starEach (e :: es) X.env = (false, eval e X.env) :: starEach es X.env := by rfl) (hplain : (backTo cpos (starEach es X.env)).any (·.1) = false := by rfl) (hd : (nm == ("__debug__" : Str)) = false := by decide) (hcd : (nm == ("__classdict__" : Str)) = false := by decide) :
    ZE X W (.Call (.Attribute (.Name nm np) name apos) (e :: es) [] cpos) (zMeth f i das) :=
  ⟨⟨fun pins s σ H Q I h => (pe_bm PySem.F.plainAttrs_list slot hty hm (ze_name (W := W) hN hv hd hcd).pe ha.pa hbase hfew hline hs hplain).run pins s σ H Q I (meth_core hr h)⟩⟩
theorem ze_meth0 {f : LM} {r : V → List V → Hp → VK → Prop} {i : Nat} {nm name : Str} {id : String} {np apos cpos : Pos} (hr : MethL X.K f r) (hN : X.N[i]? = some nm) (hv : Vis X.env.scope nm) (slot : Slot "list" name id) (hty : typeOf (.builtin id) = pure (.type "method_descriptor")) (hm : MtR X id r)
    (hbase : attributeBase (.Name nm np) name X.env (eval (.Name nm np) X.env) = eval (.Name nm np) X.env := by rfl) (hline : (apos.endLine == cpos.line) = true := by rfl) (hd : (nm == ("__debug__" : Str)) = false := by decide) (hcd : (nm == ("__classdict__" : Str)) = false := by decide) :
    ZE X W (.Call (.Attribute (.Name nm np) name apos) [] [] cpos) (zMeth f i zlN) := by
  refine ⟨⟨fun pins s σ H Q I h => (pe_bm0 PySem.F.plainAttrs_list slot hty hm (ze_name (W := W) hN hv hd hcd).pe hbase hline).run pins s σ H Q I ?_⟩⟩
  have q := meth_core hr h
  unfold tBM at q
  unfold tBM0
  obtain ⟨G, τ, s, q⟩ := q
  refine ⟨G, τ, s, ?_⟩
  cases e : zN i τ with
  | stuck => rw [e] at q; exact q
  | exc n τ1 => rw [e] at q; exact q
  | ok l τ1 =>
    rw [e] at q
    intro G1 H1 v x r
    obtain ⟨q1, G2, τ2, s2, q2⟩ := q G1 H1 v x r
    exact ⟨q1, q2 G2 H1 [] (Ex.refl s2) .nil⟩
end
end Z

/-! Z19: unpacking, stores at an index, a, b = x, y. -/
namespace Z
open PySem PySem.Spec PyProof.Rows L2
variable [TB : Tabs]
section
variable {X : Cx} {K : PySem.W.Frag} {W : WZ} {σ σ1 σ2 : Z.St} {G G1 G2 H H1 H2 : Hp} {τ τ1 τ2 : Fr} {v x y w : V} {l : LR} {d e : PyData} {a b c : Expr} {tg : Expr} {p pos : Pos} {da db dc : ZD}
/-! ### a, b, .. = a list, a tuple -/
def zUnp (a : ZD) (gs : List PyData → Fr → Option Fr) : ZSD := fun τ => (a τ).bind fun l τ1 => match seqL τ1 l with
  | some (ds, _, _) => (match gs ds τ1 with
    | some τ2 => .ok .nx τ2
    | none => .stuck)
  | none => .stuck
theorem zs_unp {es : List Expr} {k n : Nat} {tpos : Pos} {ts : List Nat} {gs : List PyData → Fr → Option Fr} (hc : X.calm = true) (ha : ZE X W a da) (h : ZGs X es ts gs) (hl : LenOk n gs)
    (hn : (assignEach es X.env).length = n := by rfl) (hst : (assignEach es X.env).findIdx? (·.1) = none := by rfl)
    (hs : swapsWithSole [.Tuple es k tpos] a pos.line X.env = pure false := by rfl) (hw : swappedStores [.Tuple es k tpos] a X.env = pure none := by rfl) (h1 : (assignEach [.Tuple es k tpos] X.env).map (·.2) = [assign (.Tuple es k tpos) X.env] := by rfl) :
    ZS X W (.Assign [.Tuple es k tpos] a pos) (zUnp da gs) := by
  refine ⟨⟨fun pins s σ H D I h0 => (ps_asg ha.pe (PG.or (pg_tup hc h.pgs hn hst) (pg_lst hc h.pgs hn hst)) hs hw h1).run pins s σ H D I ?_⟩⟩
  obtain ⟨G, τ, s, h0⟩ := h0
  refine nextS (Sx.refl s) h0 fun l τ1 G1 H1 v e x r h0 => ?_
  cases e1 : seqL τ1 l with
  | none => rw [e1] at h0; exact h0.elim
  | some p3 =>
    obtain ⟨ds, ss, bl⟩ := p3
    rw [e1] at h0
    dsimp only at h0
    cases e2 : gs ds τ1 with
    | none => rw [e2] at h0; exact h0.elim
    | some τ2 =>
      rw [e2] at h0
      obtain ⟨G3, y, hss, p, vs, rfl, q, hq⟩ := seqL_ok s x r e1
      have hlen : vs.length = n := by rw [dps_len q]; exact hl _ _ _ e2
      have last : ∃ G τ ds, SR X.K G τ σ H1 ∧ RDs X.K G vs ds ∧ match gs ds τ with
          | some τ' => ∀ σ', Sx X.K G τ σ H1 G τ' σ' H1 → Same ts σ σ' → D.nx σ' H1
          | none => False := ⟨G3, τ1, ds, y.sr, q, by rw [e2]; exact fun σ' x2 _ => h0 G3 σ' H1 (y.sx.trans x2)⟩
      cases bl with
      | true => rw [if_pos rfl] at hq; exact .inr ⟨p, vs, rfl, hq.1, hlen, last⟩
      | false => rw [if_neg Bool.false_ne_true] at hq; exact .inl ⟨p, vs, rfl, sqt_mono y.sr.sub hq, hlen, last⟩

/-! ### xs[i] = v -/
def zSetIx (i : Nat) (ix : ZD) (a : ZD) : ZSD := fun τ => (zF a τ).bind fun l τ1 => match l with
  | .cl (.fz d) => (match cellAt τ1 i with
    | some (.lst _ _ _) => (ix τ1).bind fun m τ2 => (match cellAt τ2 i, rdD τ2 m with
      | some (.lst b false ds), some (.int k) => (match ixN ds.length k with
        | some j => .ok .nx (τ2.set i (some (.lst b false (ds.set j d))))
        | none => .stuck)
      | _, _ => .stuck)
    | _ => .stuck)
  | _ => .stuck
theorem zs_setIx {i : Nat} {nm : Str} {np tpos : Pos} (hN : X.N[i]? = some nm) (hv : Vis X.env.scope nm) (hb : ZE X W b db) (ha : ZE X W a da)
    (hasg : ∀ v, assign (.Subscript (.Name nm np) b tpos) X.env v = (do
      let ov ← holding [v] (eval (.Name nm np) X.env)
      let iv ← holding [v, ov] (eval b X.env)
      standAt tpos
      holding [v, ov, iv] (setItem ov iv v)
      release [v, ov, iv] []) := by intro _; rfl)
    (hs : swapsWithSole [.Subscript (.Name nm np) b tpos] a pos.line X.env = pure false := by rfl) (hw : swappedStores [.Subscript (.Name nm np) b tpos] a X.env = pure none := by rfl) (h1 : (assignEach [.Subscript (.Name nm np) b tpos] X.env).map (·.2) = [assign (.Subscript (.Name nm np) b tpos) X.env] := by rfl)
    (hd : (nm == ("__debug__" : Str)) = false := by decide) (hcd : (nm == ("__classdict__" : Str)) = false := by decide) :
    ZS X W (.Assign [.Subscript (.Name nm np) b tpos] a pos) (zSetIx i db da) := by
  refine ⟨⟨fun pins s σ H D I h => (ps_asg (ze_dat ha).pe (pg_sub (ze_name (W := W) hN hv hd hcd).pe hb.pe set_list hasg) hs hw h1).run pins s σ H D I ?_⟩⟩
  obtain ⟨G, τ, s, h⟩ := h
  refine nextS (Sx.refl s) h fun l τ1 G1 H1 v e x r h => ?_
  cases l with
  | sl j => exact h.elim
  | cl c =>
  cases c with
  | lst _ _ _ => exact h.elim
  | dct _ _ _ _ => exact h.elim
  | exc _ => exact h.elim
  | scr _ => exact h.elim
  | fz d =>
  dsimp only at h
  cases ec : cellAt τ1 i with
  | none => rw [ec] at h; exact h.elim
  | some c0 =>
  cases c0 with
  | fz _ => rw [ec] at h; exact h.elim
  | dct _ _ _ _ => rw [ec] at h; exact h.elim
  | exc _ => rw [ec] at h; exact h.elim
  | scr _ => rw [ec] at h; exact h.elim
  | lst b0 k0 ds0 =>
  rw [ec] at h
  dsimp only at h
  show tZ X.K W (zN i) σ H1 _
  refine ⟨G1, τ1, x.sr, ?_⟩
  unfold zN
  rw [ec]
  intro G2 H2 o x2 r2
  have r2 : σ[i]? = some (some o) := r2
  have x12 := x.trans x2
  refine ⟨G2, τ1, x2.sr, ?_⟩
  cases eb : db τ1 with
  | stuck => rw [eb] at h; exact h
  | exc n τ2 => rw [eb] at h; exact fun G3 H3 y => h G3 σ H3 (x12.trans y).sx
  | ok m τ2 =>
    rw [eb] at h
    dsimp only [Res.bind] at h
    intro G3 H3 iv x3 r3
    cases e2 : cellAt τ2 i with
    | none => rw [e2] at h; exact h.elim
    | some c =>
      cases c with
      | fz _ => rw [e2] at h; exact h.elim
      | dct _ _ _ _ => rw [e2] at h; exact h.elim
      | exc _ => rw [e2] at h; exact h.elim
      | scr _ => rw [e2] at h; exact h.elim
      | lst b k ds =>
        cases k with
        | true => rw [e2] at h; exact h.elim
        | false =>
          rw [e2] at h
          cases e3 : rdD τ2 m with
          | none => rw [e3] at h; exact h.elim
          | some dm =>
            rw [e3] at h
            cases dm with
            | int kk =>
              dsimp only at h
              cases e4 : ixN ds.length kk with
              | none => rw [e4] at h; exact h.elim
              | some j =>
                rw [e4] at h
                obtain ⟨v', z, q⟩ := x3.sr.cell i _ (cellAt_some e2)
                rw [r2] at z; cases z
                obtain ⟨p', vs, rfl, g, hh, qs⟩ := q
                have ei := (RL.view x3.sr r3 e3).int
                subst ei
                have rv : RD X.K G3 v d := dp_mono x3.kp.1 _ _ (dp_mono x2.kp.1 _ _ r.1)
                refine ⟨p', vs, kk, j, rfl, rfl, hh, by rw [dps_len qs]; exact e4, ?_⟩
                have x4 := Ex.writeL x3.sr (cellAt_some e2) r2 (dps_set rv j qs)
                exact h G3 σ _ ((x12.trans x3).trans x4).sx
            | _ => exact h.elim

/-! ### a, b = x, y -/
/-- a value more is stored -/
theorem Sx.setMore (z : Sx K G τ σ H G1 τ1 σ1 H1) {c : Cell} (cr : CR K G1 H1 w c) (ho : c.obj = true → c.lent = false ∧ c.lk = false ∧ ∀ a, w = .ref a → H a = none)
    (fresh : c.obj = true → ∀ (j : Nat) (cj : Cell), τ1[j]? = some (some cj) → cj.obj = true → σ1[j]? ≠ some (some w)) (i : Nat) : Sx K G τ σ H G1 (τ1.set i (some c)) (σ1.set i (some w)) H1 := by
  have hlen := z.sr.len
  refine ⟨⟨by rw [List.length_set, List.length_set]; exact hlen, z.sr.sub, fun j cj h => ?_, fun j k cj ck u n hj hk oj ok sj => ?_, z.sr.tab⟩, z.kp, fun a h => ?_, fun j cj h o m => ?_⟩
  · rcases getElem?_set_some h with ⟨e1, e2, hl⟩ | ⟨e1, h⟩
    · cases e2
      subst e1
      refine ⟨w, ?_, cr⟩
      rw [List.getElem?_set, if_pos rfl, if_pos (by rw [← hlen]; exact hl)]
    · obtain ⟨u, z1, z2⟩ := z.sr.cell j cj h
      exact ⟨u, by rw [List.getElem?_set_ne (fun q => e1 q.symm)]; exact z1, z2⟩
  · rcases getElem?_set_some hj with ⟨e1, e2, hl⟩ | ⟨e1, hj'⟩
    · cases e2
      subst e1
      rcases getElem?_set_some hk with ⟨e3, _, _⟩ | ⟨e3, hk'⟩
      · exact (n e3.symm).elim
      · rw [List.getElem?_set, if_pos rfl, if_pos (by rw [← hlen]; exact hl)] at sj
        cases sj
        rw [List.getElem?_set_ne (fun q => e3 q.symm)]
        exact fresh oj k ck hk' ok
    · rw [List.getElem?_set_ne (fun q => e1 q.symm)] at sj
      rcases getElem?_set_some hk with ⟨e3, e4, hl⟩ | ⟨e3, hk'⟩
      · cases e4
        subst e3
        rw [List.getElem?_set, if_pos rfl, if_pos (by rw [← hlen]; exact hl)]
        intro q
        cases q
        exact fresh ok j cj hj' oj sj
      · rw [List.getElem?_set_ne (fun q => e3 q.symm)]
        exact z.sr.sep j k cj ck u n hj' hk' oj ok sj
  · obtain ⟨j, cj, h1, h2, h3, h4, h5⟩ := h
    rcases getElem?_set_some h1 with ⟨e1, e2, hl⟩ | ⟨e1, h1⟩
    · cases e2
      subst e1
      rw [List.getElem?_set, if_pos rfl, if_pos (by rw [← hlen]; exact hl)] at h5
      cases h5
      exact .inr ((ho h2).2.2 _ rfl)
    · rw [List.getElem?_set_ne (fun q => e1 q.symm)] at h5
      exact z.ownN a ⟨j, cj, h1, h2, h3, h4, h5⟩
  · rcases getElem?_set_some h with ⟨e1, e2, hl⟩ | ⟨e1, h⟩
    · cases e2
      rcases m with m | m
      · rw [(ho o).1] at m; cases m
      · rw [(ho o).2.1] at m; cases m
    · obtain ⟨c0, z1, z2, z3, z4, z5⟩ := z.keepL j cj h o m
      exact ⟨c0, z1, z2, z3, z4, by rw [List.getElem?_set_ne (fun q => e1 q.symm)]; exact z5⟩
/-- a new value is none of the frame's -/
theorem RL.fresh (s : SR K G τ σ H) (x : Ex K σ G τ H G1 τ1 H1) {c : Cell} (r : RL K σ H τ1 G1 H1 w (.cl c)) (oc : c.obj = true) (j : Nat) (cj : Cell) (h : τ1[j]? = some (some cj)) (o : cj.obj = true) : σ[j]? ≠ some (some w) := fun z => by
  obtain ⟨a, u, e, _⟩ := r.1.there oc
  obtain ⟨c0, z1, z2, _, _⟩ := x.mode j cj h o
  obtain ⟨p, u, w1, _, w3⟩ := s.objAt z1 z2
  rw [z] at w1
  have : w = .ref p := by simpa using w1
  have h0 := (r.2 oc).2.2 p this
  rw [h0] at w3; cases w3
def zPar2 (i j : Nat) (as : ZLD) : ZSD := fun τ => (as τ).bind fun ls τ1 => match ls with
  | [.cl c1, .cl c2] => .ok .nx ((τ1.set i (some c1)).set j (some c2))
  | _ => .stuck
def zPar3 (i j k : Nat) (as : ZLD) : ZSD := fun τ => (as τ).bind fun ls τ1 => match ls with
  | [.cl c1, .cl c2, .cl c3] => .ok .nx (((τ1.set i (some c1)).set j (some c2)).set k (some c3))
  | _ => .stuck
theorem nextLS {β : ZLD} {k : List LR → Fr → Res Fl} {D : Ends} {Q1 : List V → Hp → Prop} (s : SR K G τ σ H) (h : FinS K W σ G τ H ((β τ).bind k) D)
    (hk : ∀ ls τ2 G2 H2 vs, β τ = .ok ls τ2 → Ex K σ G τ H G2 τ2 H2 → RLs K σ τ2 G2 H2 H vs ls → FinS K W σ G τ H (k ls τ2) D → Q1 vs H2) : tZL K W β σ H Q1 := by
  refine ⟨G, τ, s, ?_⟩
  cases e : β τ with
  | ok l τ2 =>
    rw [e] at h
    exact fun G2 H2 v y r => hk l τ2 G2 H2 v e y r h
  | exc n τ2 =>
    rw [e] at h
    exact fun G2 H2 y => h G2 σ H2 y.sx
  | stuck => rw [e] at h; exact h
theorem zs_par2 {i j : Nat} {nx ny : Str} {px py pt : Pos} {kt k2 : Nat} {pt2 : Pos} {das : ZLD} (hc : X.calm = true) (hN : X.N.Nodup) (hi : X.N[i]? = some nx) (hj : X.N[j]? = some ny) (hij : i ≠ j)
    (hx : X.env.scope.names.lookup nx = some .local) (hy : X.env.scope.names.lookup ny = some .local) (ha : ZL X W [a, b] das)
    (hw : swappedStores [.Tuple [.Name nx px, .Name ny py] kt pt] (.Tuple [a, b] k2 pt2) X.env = pure (some [nx, ny]) := by rfl)
    (hs : swapsWithSole [.Tuple [.Name nx px, .Name ny py] kt pt] (.Tuple [a, b] k2 pt2) pos.line X.env = pure false := by rfl) :
    ZS X W (.Assign [.Tuple [.Name nx px, .Name ny py] kt pt] (.Tuple [a, b] k2 pt2) pos) (zPar2 i j das) := by
  refine ⟨⟨fun pins s σ H D I h => (ps_par hc hN hi hj hij hx hy ha.pa hw hs).run pins s σ H D I ?_⟩⟩
  obtain ⟨G, τ, s, h⟩ := h
  refine nextLS s h fun ls τ1 G1 H1 vs e x r h => ?_
  split at h
  · rename_i c1 c2
    match vs, r with
    | [v, w], r =>
      have r1 := r.get (i := 0) rfl rfl
      have r2 := r.get (i := 1) rfl rfl
      refine ⟨v, w, rfl, h G1 _ H1 ?_⟩
      refine Sx.setMore (Sx.set s x r1 i) r2.1 r2.2 (fun o k ck hk ok => ?_) j
      rcases getElem?_set_some hk with ⟨e1, e2, hl⟩ | ⟨e1, hk⟩
      · cases e2
        subst e1
        rw [List.getElem?_set, if_pos rfl, if_pos (by rw [← x.sr.len]; exact hl)]
        intro z
        cases z
        exact r.apart (i := 0) (j := 1) (by decide) rfl rfl ok o rfl rfl
      · rw [List.getElem?_set_ne (fun q => e1 q.symm)]
        exact RL.fresh s x r2 o k ck hk ok
  · exact h.elim
theorem zs_par3 {i j k : Nat} {nx ny nz : Str} {px py pz pt : Pos} {kt k2 : Nat} {pt2 : Pos} {das : ZLD} (hc : X.calm = true) (hN : X.N.Nodup) (hi : X.N[i]? = some nx) (hj : X.N[j]? = some ny) (hk : X.N[k]? = some nz) (hij : i ≠ j) (hik : i ≠ k) (hjk : j ≠ k)
    (hx : X.env.scope.names.lookup nx = some .local) (hy : X.env.scope.names.lookup ny = some .local) (hz : X.env.scope.names.lookup nz = some .local) (ha : ZL X W [a, b, c] das)
    (hw : swappedStores [.Tuple [.Name nx px, .Name ny py, .Name nz pz] kt pt] (.Tuple [a, b, c] k2 pt2) X.env = pure (some [nx, ny, nz]) := by rfl)
    (hs : swapsWithSole [.Tuple [.Name nx px, .Name ny py, .Name nz pz] kt pt] (.Tuple [a, b, c] k2 pt2) pos.line X.env = pure false := by rfl) :
    ZS X W (.Assign [.Tuple [.Name nx px, .Name ny py, .Name nz pz] kt pt] (.Tuple [a, b, c] k2 pt2) pos) (zPar3 i j k das) := by
  refine ⟨⟨fun pins s σ H D I h => (ps_par3 hc hN hi hj hk hij hik hjk hx hy hz ha.pa hw hs).run pins s σ H D I ?_⟩⟩
  obtain ⟨G, τ, s, h⟩ := h
  refine nextLS s h fun ls τ1 G1 H1 vs e x r h => ?_
  split at h
  · rename_i c1 c2 c3
    match vs, r with
    | [v, w, u], r =>
      have r1 := r.get (i := 0) rfl rfl
      have r2 := r.get (i := 1) rfl rfl
      have r3 := r.get (i := 2) rfl rfl
      refine ⟨v, w, u, rfl, h G1 _ H1 ?_⟩
      have f2 : c2.obj = true → ∀ (j' : Nat) (cj : Cell), (τ1.set i (some c1))[j']? = some (some cj) → cj.obj = true → (σ.set i (some v))[j']? ≠ some (some w) := fun o k ck hk ok => by
        rcases getElem?_set_some hk with ⟨e1, e2, hl⟩ | ⟨e1, hk⟩
        · cases e2
          subst e1
          rw [List.getElem?_set, if_pos rfl, if_pos (by rw [← x.sr.len]; exact hl)]
          intro z
          cases z
          exact r.apart (i := 0) (j := 1) (by decide) rfl rfl ok o rfl rfl
        · rw [List.getElem?_set_ne (fun q => e1 q.symm)]
          exact RL.fresh s x r2 o k ck hk ok
      refine Sx.setMore (Sx.setMore (Sx.set s x r1 i) r2.1 r2.2 f2 j) r3.1 r3.2 (fun o k' ck hk' ok => ?_) k
      rcases getElem?_set_some hk' with ⟨e1, e2, hl⟩ | ⟨e1, hk'⟩
      · cases e2
        subst e1
        rw [List.length_set] at hl
        rw [List.getElem?_set, if_pos rfl, if_pos (by rw [List.length_set, ← x.sr.len]; exact hl)]
        intro z
        cases z
        exact r.apart (i := 1) (j := 2) (by decide) rfl rfl ok o rfl rfl
      · rw [List.getElem?_set_ne (fun q => e1 q.symm)]
        rcases getElem?_set_some hk' with ⟨e1, e2, hl⟩ | ⟨e1, hk'⟩
        · cases e2
          subst e1
          rw [List.getElem?_set, if_pos rfl, if_pos (by rw [← x.sr.len]; exact hl)]
          intro z
          cases z
          exact r.apart (i := 0) (j := 2) (by decide) rfl rfl ok o rfl rfl
        · rw [List.getElem?_set_ne (fun q => e1 q.symm)]
          exact RL.fresh s x r3 o k' ck hk' ok
  · exact h.elim
end
end Z

/-! Z20: max, min, sum of a list. -/
namespace Z
open PySem PySem.Spec PyProof.Rows L2
variable [TB : Tabs]
section
variable {X : Cx} {K : PySem.W.Frag} {G H : Hp} {v : V}
def intsD : List PyData → Option (List Int)
  | [] => some []
  | .int i :: ds => (intsD ds).map (i :: ·)
  | _ => none
theorem intsD_rds : ∀ {ds : List PyData} {vs : List V} {ns : List Int}, RDs K G vs ds → intsD ds = some ns → vs = ns.map V.int
  | [], _, ns, .nil, h => by cases h; rfl
  | d :: ds, _, ns, .cons r t, h => by
    cases d with
    | int i =>
      obtain ⟨ns', e1, e2⟩ := Option.map_eq_some_iff.mp h
      cases e2
      cases r
      rw [intsD_rds t e1]; rfl
    | _ => cases h
theorem intsD_map (ns : List Int) : intsD (ns.map .int) = some ns := by
  induction ns with
  | nil => rfl
  | cons n ns ih => simp [intsD, ih]
def maxI : List Int → Option Int
  | [] => none
  | n :: ns => some (ns.foldl (fun a b => if b > a then b else a) n)
def minI : List Int → Option Int
  | [] => none
  | n :: ns => some (ns.foldl (fun a b => if b < a then b else a) n)
theorem foldmax (ns : List Int) : ∀ n : Int, (ns.foldl (fun a b => if b > a then b else a) n) ∈ n :: ns ∧ ∀ y ∈ n :: ns, y ≤ ns.foldl (fun a b => if b > a then b else a) n := by
  induction ns with
  | nil => intro n; exact ⟨List.mem_cons_self, fun y hy => by rw [List.mem_singleton.mp hy]; exact Int.le_refl _⟩
  | cons m ns ih =>
    intro n
    rw [List.foldl_cons]
    by_cases h : m > n
    · rw [if_pos h]
      obtain ⟨h1, h2⟩ := ih m
      refine ⟨List.mem_cons_of_mem _ h1, fun y hy => ?_⟩
      rcases List.mem_cons.mp hy with e | hy
      · rw [e]; exact Int.le_trans (Int.le_of_lt h) (h2 m List.mem_cons_self)
      · exact h2 y hy
    · rw [if_neg h]
      obtain ⟨h1, h2⟩ := ih n
      refine ⟨?_, fun y hy => ?_⟩
      · rcases List.mem_cons.mp h1 with e | h1
        · exact List.mem_cons.mpr (.inl e)
        · exact List.mem_cons_of_mem _ (List.mem_cons_of_mem _ h1)
      · rcases List.mem_cons.mp hy with e | hy
        · rw [e]; exact h2 n List.mem_cons_self
        · rcases List.mem_cons.mp hy with e | hy
          · rw [e]; exact Int.le_trans (Int.not_lt.mp h) (h2 n List.mem_cons_self)
          · exact h2 y (List.mem_cons_of_mem _ hy)
theorem foldmin (ns : List Int) : ∀ n : Int, (ns.foldl (fun a b => if b < a then b else a) n) ∈ n :: ns ∧ ∀ y ∈ n :: ns, ns.foldl (fun a b => if b < a then b else a) n ≤ y := by
  induction ns with
  | nil => intro n; exact ⟨List.mem_cons_self, fun y hy => by rw [List.mem_singleton.mp hy]; exact Int.le_refl _⟩
  | cons m ns ih =>
    intro n
    rw [List.foldl_cons]
    by_cases h : m < n
    · rw [if_pos h]
      obtain ⟨h1, h2⟩ := ih m
      refine ⟨List.mem_cons_of_mem _ h1, fun y hy => ?_⟩
      rcases List.mem_cons.mp hy with e | hy
      · rw [e]; exact Int.le_trans (h2 m List.mem_cons_self) (Int.le_of_lt h)
      · exact h2 y hy
    · rw [if_neg h]
      obtain ⟨h1, h2⟩ := ih n
      refine ⟨?_, fun y hy => ?_⟩
      · rcases List.mem_cons.mp h1 with e | h1
        · exact List.mem_cons.mpr (.inl e)
        · exact List.mem_cons_of_mem _ (List.mem_cons_of_mem _ h1)
      · rcases List.mem_cons.mp hy with e | hy
        · rw [e]; exact h2 n List.mem_cons_self
        · rcases List.mem_cons.mp hy with e | hy
          · rw [e]; exact Int.le_trans (h2 n List.mem_cons_self) (Int.not_lt.mp h)
          · exact h2 y (List.mem_cons_of_mem _ hy)
def pMaxL : PyData → Option RO
  | .list ds => (intsD ds).bind fun ns => (maxI ns).map fun m => .sc (.int m)
  | _ => none
def pMinL : PyData → Option RO
  | .list ds => (intsD ds).bind fun ns => (minI ns).map fun m => .sc (.int m)
  | _ => none
def pSum : PyData → Option RO
  | .list ds => (intsD ds).map fun ns => .sc (.int ns.sum)
  | _ => none
theorem op1_maxL : Op1 K pMaxL fun x H Q => rMax K [x] H Q := by
  intro G H x Q d r s vx h q
  unfold pMaxL at h
  split at h
  · obtain ⟨ns, e1, e2⟩ := Option.bind_eq_some_iff.mp h
    obtain ⟨m, e3, e4⟩ := Option.map_eq_some_iff.mp e2
    cases e4
    obtain ⟨a, vs, rfl, h1, q1⟩ := vx.lst s
    have ev := intsD_rds q1 e1
    subst ev
    cases ns with
    | nil => cases e3
    | cons n ns =>
      cases e3
      obtain ⟨f1, f2⟩ := foldmax ns n
      refine ⟨a, n :: ns, rfl, SqL.of h1, by simp, fun m hm hmax => ?_⟩
      rw [Int.le_antisymm (f2 m hm) (hmax _ f1)]
      exact q.1 _ (.int _)
  · cases h
theorem op1_minL : Op1 K pMinL fun x H Q => rMin K [x] H Q := by
  intro G H x Q d r s vx h q
  unfold pMinL at h
  split at h
  · obtain ⟨ns, e1, e2⟩ := Option.bind_eq_some_iff.mp h
    obtain ⟨m, e3, e4⟩ := Option.map_eq_some_iff.mp e2
    cases e4
    obtain ⟨a, vs, rfl, h1, q1⟩ := vx.lst s
    have ev := intsD_rds q1 e1
    subst ev
    cases ns with
    | nil => cases e3
    | cons n ns =>
      cases e3
      obtain ⟨f1, f2⟩ := foldmin ns n
      refine ⟨a, n :: ns, rfl, SqL.of h1, by simp, fun m hm hmax => ?_⟩
      rw [Int.le_antisymm (hmax _ f1) (f2 m hm)]
      exact q.1 _ (.int _)
  · cases h
theorem op1_sum : Op1 K pSum fun x H Q => rSum K [x] H Q := by
  intro G H x Q d r s vx h q
  unfold pSum at h
  split at h
  · obtain ⟨ns, e1, e2⟩ := Option.map_eq_some_iff.mp h
    cases e2
    obtain ⟨a, vs, rfl, h1, q1⟩ := vx.lst s
    have ev := intsD_rds q1 e1
    subst ev
    exact ⟨a, ns, rfl, SqL.of h1, q.1 _ (.int _)⟩
  · cases h
end
end Z

/-! Z21: defs with their code objects; checks by computation; the law's end. -/
namespace Z
open PySem PySem.Spec PyProof.Rows L2
/-! ### checks -/
def blkB (N : List Str) (sc scope : Scope) (own : List (Str × Nat)) : Bool :=
  scope.kind == .function && scope.names.all (fun y => scope.names.lookup y.1 == some y.2) && own.all (fun p => N[p.2]? == some p.1) &&
    scope.names.all (fun y => !(y.2 == .free) || (sc.names.lookup y.1 == some .cell || sc.names.lookup y.1 == some .free)) &&
    scope.names.all (fun y => !(y.2 == .local || y.2 == .cell) || ((own.map (·.1)).contains y.1 || !N.contains y.1))
theorem blkOk {N : List Str} {sc scope : Scope} {own : List (Str × Nat)} (h : blkB N sc scope own = true) : BlkOk N sc scope own := by
  unfold blkB at h
  simp only [Bool.and_eq_true, List.all_eq_true, Bool.or_eq_true, Bool.not_eq_true', beq_iff_eq] at h
  obtain ⟨⟨⟨⟨h1, h2⟩, h3⟩, h4⟩, h5⟩ := h
  refine ⟨h1, h2, h3, fun y hy e => ?_, fun y hy e => ?_⟩
  · rcases h4 y hy with q | q
    · rw [e] at q; cases q
    · exact q
  · rcases h5 y hy with q | q | q
    · rcases e with e | e <;> rw [e] at q <;> cases q
    · exact .inl (by simpa using q)
    · exact .inr (by simpa using q)
def gxB (N : List Str) (sc scope : Scope) (own : List (Str × Nat)) : Bool :=
  scope.kind == .function && scope.isCoroutine == false && scope.names.all (fun y => !(y.2 == .cell)) && scope.names.lookup (".0" : Str) == some .local &&
    scope.names.all (fun y => scope.names.lookup y.1 == some y.2) && own.all (fun p => N[p.2]? == some p.1) &&
    scope.names.all (fun y => !(y.2 == .free) || (sc.names.lookup y.1 == some .cell || sc.names.lookup y.1 == some .free)) &&
    scope.names.all (fun y => !(y.2 == .local) || ((own.map (·.1)).contains y.1 || !N.contains y.1))
theorem gxOk {N : List Str} {sc scope : Scope} {own : List (Str × Nat)} (h : gxB N sc scope own = true) : GxOk N sc scope own := by
  unfold gxB at h
  simp only [Bool.and_eq_true, List.all_eq_true, Bool.or_eq_true, Bool.not_eq_true', beq_iff_eq] at h
  obtain ⟨⟨⟨⟨⟨⟨⟨h1, h2⟩, h3⟩, h4⟩, h5⟩, h6⟩, h7⟩, h8⟩ := h
  refine ⟨h1, h2, fun y hy e => ?_, h4, h5, h6, fun y hy e => ?_, fun y hy e => ?_⟩
  · have q := h3 y hy
    rw [e] at q; cases q
  · rcases h7 y hy with q | q
    · rw [e] at q; cases q
    · exact q
  · rcases h8 y hy with q | q | q
    · rw [e] at q; cases q
    · exact .inl (by simpa using q)
    · exact .inr (by simpa using q)
theorem bt_int : bootBuiltins "int" = some (.type "int") := by decide +kernel
theorem bt_bool : bootBuiltins "bool" = some (.type "bool") := by decide +kernel
theorem bt_str : bootBuiltins "str" = some (.type "str") := by decide +kernel
theorem bt_list : bootBuiltins "list" = some (.type "list") := by decide +kernel
theorem bt_tuple : bootBuiltins "tuple" = some (.type "tuple") := by decide +kernel
theorem bt_dict : bootBuiltins "dict" = some (.type "dict") := by decide +kernel
theorem bt_abs : bootBuiltins "abs" = some (.builtin "abs") := by decide +kernel
theorem bt_len : bootBuiltins "len" = some (.builtin "len") := by decide +kernel
theorem bt_max : bootBuiltins "max" = some (.builtin "max") := by decide +kernel
theorem bt_min : bootBuiltins "min" = some (.builtin "min") := by decide +kernel
theorem bt_sum : bootBuiltins "sum" = some (.builtin "sum") := by decide +kernel
theorem bt_isinstance : bootBuiltins "isinstance" = some (.builtin "isinstance") := by decide +kernel
theorem bt_sorted : bootBuiltins "sorted" = some (.builtin "sorted") := by decide +kernel
theorem room65 {k : Nat} {A : Around} (r : Room k A) : A.units + 65 < cLine := by have := r.un; omega
theorem room64 {k : Nat} {A : Around} (r : Room k A) : A.units + 64 < cLine := by have := r.un; omega
section
variable [TB : Tabs]
variable {P : Program} {w : World} {K : PySem.W.Frag} {mg : Str → Option Value} {base : Heap}
/-- a def's promise, at a name -/
structure DefI (P : Program) (w : World) (K : PySem.W.Frag) (mg : Str → Option Value) (base : Heap) (k : Nat) (x : Str) (f : Addr) (fd : FuncData) (ps : List Str) (φ : Mir) : Prop where
  F : FnOk P w K mg base (L2N.CX P w) k f fd ps (spZ K mg ps.length φ)
  hm : mg x = some (.ref f)
  hk : PySem.W.keepIn K (.ref f) = true
  hb : Binds K fd ps []
/-- THE RULE: a def by its body, its code object known -/
theorem zfnC {x qual : Str} {params : Arguments} {body : List Stmt} {scope : Scope} {f : Addr} {dV kV doc pm cdv ct oc : Value} {an od : Option Addr} {osl : Array (Option Value)} {N ps : List Str} {k : Nat} {d : ZSD}
    (lk : K.lookup f = some ⟨oc, od, .func (PySem.W.fnOf x qual params body scope dV kV doc pm an cdv ct), osl⟩) (hcd : PySem.W.codeIn K cdv qual = true) (S : FnScope N ps scope)
    (hb : ∀ (A : Around) (outer : List Env) (s : Shared) (H : Hp) (E : XK), Room k (A.deeper (envOfC qual scope s.heap.objs.size f cdv)) →
      L2N.Takes (cxOf (L2N.CX P w) P w K mg base N qual scope f cdv A outer s H E) (wz mg (wE mg E)) →
      PassesOwn (model P w) (cxOf (L2N.CX P w) P w K mg base N qual scope f cdv A outer s H E).A (cxOf (L2N.CX P w) P w K mg base N qual scope f cdv A outer s H E).env (cxOf (L2N.CX P w) P w K mg base N qual scope f cdv A outer s H E).xe →
      ZSs (cxOf (L2N.CX P w) P w K mg base N qual scope f cdv A outer s H E) (wE mg E) body d) :
    FnOk P w K mg base (L2N.CX P w) (k + 1) f (PySem.W.fnOf x qual params body scope dV kV doc pm an cdv ct) ps (spZ K mg ps.length (runB N.length d)) := by
  refine fn_of lk hcd S (fun vs H Q E h => h.1) fun A outer s H vs Q E hr hsp => ?_
  obtain ⟨hl, G, cs, ok, h⟩ := hsp
  have tk : L2N.Takes (cxOf (L2N.CX P w) P w K mg base N qual scope f cdv A outer s H E) (wz mg (wE mg E)) := by
    refine L2N.Takes.imp (W := fun cls d _ H' => E cls d H') (L2N.takes_of (E₁ := fun e' s'' => L2N.CX P w outer H s E e' s'') rfl rfl rfl rfl) fun c d σ H' ⟨hd, n, hn, hE⟩ => ?_
    subst hd
    exact hE c hn
  have hp : PassesOwn (model P w) (cxOf (L2N.CX P w) P w K mg base N qual scope f cdv A outer s H E).A (cxOf (L2N.CX P w) P w K mg base N qual scope f cdv A outer s H E).env (cxOf (L2N.CX P w) P w K mg base N qual scope f cdv A outer s H E).xe :=
    passes_of (X := cxOf (L2N.CX P w) P w K mg base N qual scope f cdv A outer s H E) (K := fun e s'' => L2N.CX P w outer H s E e s'') (E₁ := fun e' s'' => L2N.CX P w outer H s E e' s'') rfl
  refine ⟨_, (hb A outer s H E hr tk hp).ps, G, frame0 N.length cs, SR.start ok, ?_⟩
  have kp : ∀ {G' H'}, Kp (Ownd (frame0 N.length cs) (L2.start N vs)) G H G' H' → Kp (ArgOwn vs cs) G H G' H' := fun z => z.imp fun a h => .inl (own_start h)
  have outs : ∀ {G' τ' σ' H'}, Sx K G (frame0 N.length cs) (L2.start N vs) H G' τ' σ' H' → ∀ (i : Nat) (w : V) (c' : Cell), vs[i]? = some w → τ'[i]? = some (some c') → c'.obj = true → c'.lent = true → CR K G' H' w c' := fun {G' τ' σ' H'} x i w c' hi hc o l => by
    obtain ⟨c0, z1, z2, z3, z4, z5⟩ := x.keepL i c' hc o (.inl l)
    obtain ⟨v', e1, e2⟩ := x.sr.cell i c' hc
    rw [z5, start_get hi] at e1
    cases e1
    exact e2
  unfold runB at h
  show FinS K (wE mg E) (L2.start N vs) G (frame0 N.length cs) H (d (frame0 N.length cs)) { nx := fun _ H' => Q .non H', rt := Q }
  cases e : d (frame0 N.length cs) with
  | stuck => rw [e] at h; exact h
  | exc n τ' => rw [e] at h; exact fun G' σ' H' x cls hc => h G' H' cls (kp x.kp) x.sr.okh hc
  | ok fl τ' =>
    rw [e] at h
    cases fl with
    | nx => exact fun G' σ' H' x => h G' H' .non (kp x.kp) x.sr.okh .non (fun o => nomatch o) (outs x)
    | bk => exact h.elim
    | ct => exact h.elim
    | rt c =>
      refine fun G' σ' H' v x q => h G' H' v (kp x.kp) x.sr.okh q.1 (fun o => ⟨(q.2 o).1, (q.2 o).2.1, fun a ea => ?_⟩) (outs x)
      rcases (q.2 o).2.2 a ea with ⟨i, c0, h1, h2, _, h4, _⟩ | z
      · rw [ok.lent i c0 (frame0_get h1) h2] at h4
        cases h4
      · exact z
end

/-! ### the law's end -/
/-- the tables of these code objects -/
abbrev tabsOf (cs : List (Addr × Addr)) : Tabs := ⟨fun P => P ∈ cs.map (·.2), fun _ _ => False⟩
theorem sp_law {K : PySem.W.Frag} {mg : Str → Option Value} {cs : List (Addr × Addr)} {φ : Mir} {τ : Fr} {H : Hp} {a : Addr} {ns : List Int} (hT : ∀ p ∈ cs, H p.2 = some (.tbl #[])) (hS : SqL K H a (ns.map V.int)) (h : φ [.scr ns] = .ok (.fz (.bool true)) τ) :
    @spZ (tabsOf cs) K mg 1 φ [.ref a] H (fun v _ => v = .bl true) fun _ _ _ => False := by
  letI : Tabs := tabsOf cs
  have hTm : ∀ P, P ∈ cs.map (·.2) → H P = some (.tbl #[]) := fun P hP => by
    obtain ⟨p, hp, e⟩ := List.mem_map.mp hP
    rw [← e]; exact hT p hp
  refine ⟨rfl, fun b => if b ∈ cs.map (·.2) then none else H b, [.scr ns], ⟨rfl, ⟨fun b o e => ?_, fun P hP => ?_⟩, fun i v c hv hc => ?_, fun i c hc o => ?_, fun i j ci cj v n hi hj oi oj => ?_⟩, ?_⟩
  · replace e : (if b ∈ cs.map (·.2) then none else H b) = some o := e
    split at e
    · cases e
    · exact e
  · have hP' : P ∈ cs.map (·.2) := hP
    refine ⟨if_pos hP', #[], hTm P hP', ?_⟩
    trivial
  · have hi : i = 0 := by
      have := (List.getElem?_eq_some_iff.mp hc).1
      simpa using this
    subst hi
    cases hv
    cases hc
    refine ⟨a, rfl, ?_⟩
    rcases hS with hS | hS
    · refine .inl ?_
      have na : a ∉ cs.map (·.2) := fun z => by
        have := hTm a z
        rcases hS with q | ⟨o, q⟩ <;> rw [this] at q <;> cases q
      rcases hS with q | ⟨o, q⟩
      · exact .inl ((if_neg na).trans q)
      · exact .inr ⟨o, (if_neg na).trans q⟩
    · exact .inr hS
  · have hi : i = 0 := by
      have := (List.getElem?_eq_some_iff.mp hc).1
      simpa using this
    subst hi
    cases hc
    cases o
  · have h1 : i = 0 := by
      have := (List.getElem?_eq_some_iff.mp hi).1
      simpa using this
    have h2 : j = 0 := by
      have := (List.getElem?_eq_some_iff.mp hj).1
      simpa using this
    exact (n (h1.trans h2.symm)).elim
  · rw [h]
    intro G' H' v _ _ r _ _
    have r : RD K G' v (.bool true) := r
    cases r
    rfl
theorem tabIn_of {K : PySem.W.Frag} {x : Str} {f c P : Addr} {oc : Value} {od : Option Addr} {fd : FuncData} {sl : Array (Option Value)} {k1 : Value} {k2 : Option Addr} {vs : Array Value} {k3 : Array (Option Value)}
    (a : PySem.W.nsIn K mainGlobals x = some (some (.ref f))) (l : K.lookup f = some ⟨oc, od, .func fd, sl⟩) (hc : fd.code = .ref c) (lc : K.lookup c = some ⟨k1, k2, .fields vs, k3⟩) (hv : vs[11]? = some (.ref P)) : PySem.W.tabIn K x = some (c, P) := by
  unfold PySem.W.tabIn
  rw [a]
  dsimp only
  rw [l]
  dsimp only
  rw [hc]
  dsimp only
  rw [lc]
  dsimp only
  rw [hv]
theorem tab_at {K : PySem.W.Frag} {q : Program} {loose : List Str} {mean : ExcName → Option Value} {mg mb : Str → Option Value} {h : Heap} {x : Str} {c P : Addr} (T : Top q loose mean mg mb h) (X : K.In h) (hr : ((recsOf q).find? fun e => e.name == x).isSome = true) (ht : PySem.W.tabIn K x = some (c, P)) :
    PySem.W.CodeHd h c P ∧ h.get? P = some { cls := .none, data := .fields #[] } := by
  obtain ⟨d, hd⟩ := Option.isSome_iff_exists.mp hr
  exact PySem.W.tab_of T X hd ht
theorem all_nil {α : Type} {p : α → Prop} : ∀ x ∈ ([] : List α), p x := fun x hx => by cases hx
theorem all_cons {α : Type} {p : α → Prop} {a : α} {l : List α} (h : p a) (t : ∀ x ∈ l, p x) : ∀ x ∈ a :: l, p x := fun x hx => by
  rcases List.mem_cons.mp hx with e | hx
  · rw [e]; exact h
  · exact t x hx
/-- a law's walk, its tables known from the top -/
theorem walkZ {l : PySem.W.OpenLaw} {n k : Nat} {q : Program} {loose : List Str} {XP : (Str → Option Value) → Heap → Prop} {YP : World → Heap → Prop} {d : DefRec} {K : Params → PySem.W.Frag} {x : Str}
    (hn : l.most = some n) (hn2 : n ≤ sizeLine) (hdf : d.params.defaults = []) (hr : Room k callerA) (hY : ∀ (w : World) (h : Heap), YP w h → (K w.params).In h)
    (F : ∀ (w : World) (mean : ExcName → Option Value) (mg mb : Str → Option Value) (fa : Addr) (h : Heap), Top q (PySem.W.looseW q loose) mean mg mb h → (K w.params).In h → mg d.name = some (.ref fa) → LamX.LawAtS l w (K w.params) (L2N.CX l.prog w) k n x mg fa h) :
    PySem.W.WalkO q loose XP YP l.row.toRowW d [] (fun f vs => PySem.call f vs) := by
  refine Att.attach_callB hn hdf fun w s₀ s₁ mg mb fa o pm cd doc a vs ns G Y ho hd hcd hmg hobj hints hlen hbits hg => ?_
  have KX := hY w _ Y
  obtain ⟨fd, cs, sp, hT, nT, C, hb, hsp, hF⟩ := F w _ mg mb fa _ G.T KX hmg
  refine LamX.law_callTs KX G.T.g G.T.b G.T.builtins G.T.nolimit hg hT nT C G.T.bmain hobj hints (Nat.le_trans hlen hn2) hr hF hb (fun H hH hS => hsp H a ns hlen hbits hH hS) fun H e s' hx => ?_
  obtain ⟨_, _, _, _, _, _, _, _, _, _, _, _, z⟩ := hx
  exact z
end Z

/-! Z22: what the denotations compute: equations for rewriting, no program in sight. -/
namespace Z
open PySem PySem.Spec PyProof.Rows L2
section
variable {α β : Type} {τ τ1 τ2 : Fr} {a b c : ZD} {ta tb : ZTD} {f g : PyData → PyData → Option RO} {u : PyData → Option RO} {l m : LR} {d e : PyData} {x : Cell} {i j n : Nat} {p q : ZSD}
@[simp] theorem ok_bind {v : α} {k : α → Fr → Res β} : (Res.ok v τ).bind k = k v τ := Eq.trans rfl rfl
@[simp] theorem exc_bind {n : Str} {k : α → Fr → Res β} : (Res.exc n τ).bind k = .exc n τ := Eq.trans rfl rfl
/-! ### frames -/
@[simp] theorem cellAt_0 {o : Option Cell} : cellAt (o :: τ) 0 = o := Eq.trans rfl rfl
@[simp] theorem cellAt_S {o : Option Cell} : cellAt (o :: τ) (n + 1) = cellAt τ n := Eq.trans rfl rfl
theorem cellAt_set_eq {o : Option Cell} (h : i < τ.length) : cellAt (τ.set i o) i = o := by
  unfold cellAt
  rw [List.getElem?_set_self h]
theorem cellAt_set_ne {o : Option Cell} (h : i ≠ j) : cellAt (τ.set i o) j = cellAt τ j := by
  unfold cellAt
  rw [List.getElem?_set_ne h]
theorem mapIdx_id {f : Nat → Option Cell → Option Cell} (h : ∀ i o, f i o = o) : τ.mapIdx f = τ := by
  apply List.ext_getElem?
  intro j
  rw [List.getElem?_mapIdx]
  cases τ[j]? with
  | none => rfl
  | some o => exact congrArg some (h j o)
@[simp] theorem lockAll_nil : lockAll [] τ = τ := mapIdx_id (fun _ _ => by simp)
@[simp] theorem unlock_nil {τ0 : Fr} : unlock τ0 [] τ = τ := mapIdx_id (fun _ _ => by simp)
@[simp] theorem rdL_cl : rdL τ (.cl x) = some x := Eq.trans rfl rfl
@[simp] theorem rdL_sl : rdL τ (.sl i) = cellAt τ i := Eq.trans rfl rfl
@[simp] theorem rdD_cl : rdD τ (.cl x) = x.dat := Eq.trans rfl rfl
theorem rdD_sl (h : cellAt τ i = some x) : rdD τ (.sl i) = x.dat := by show (cellAt τ i).bind Cell.dat = _; rw [h]; rfl
@[simp] theorem rdD_sl' : rdD τ (.sl i) = (cellAt τ i).bind Cell.dat := Eq.trans rfl rfl
@[simp] theorem rdS_cl : rdS τ (.cl x) = x.datS := Eq.trans rfl rfl
@[simp] theorem rdS_sl' : rdS τ (.sl i) = (cellAt τ i).bind Cell.datS := Eq.trans rfl rfl
@[simp] theorem dat_fz : (Cell.fz d).dat = some d := Eq.trans rfl rfl
@[simp] theorem dat_lst {l k : Bool} {ds : List PyData} : (Cell.lst l k ds).dat = some (.list ds) := Eq.trans rfl rfl
@[simp] theorem datS_fz : (Cell.fz d).datS = some d := Eq.trans rfl rfl
@[simp] theorem datS_lst {l k : Bool} {ds : List PyData} : (Cell.lst l k ds).datS = some (.list ds) := Eq.trans rfl rfl
@[simp] theorem datS_scr {ns : List Int} : (Cell.scr ns).datS = some (.list (ns.map .int)) := Eq.trans rfl rfl
@[simp] theorem obj_fz : (Cell.fz d).obj = false := Eq.trans rfl rfl
@[simp] theorem obj_lst {l k : Bool} {ds : List PyData} : (Cell.lst l k ds).obj = true := Eq.trans rfl rfl
@[simp] theorem obj_scr {ns : List Int} : (Cell.scr ns).obj = false := Eq.trans rfl rfl
@[simp] theorem cell_sc : (RO.sc d).cell = .fz d := Eq.trans rfl rfl
@[simp] theorem cell_nl {ds : List PyData} : (RO.nl ds).cell = .lst false false ds := Eq.trans rfl rfl
/-! ### expressions -/
@[simp] theorem zK_ev : zK d τ = .ok (.cl (.fz d)) τ := Eq.trans rfl rfl
theorem zN_ev (h : cellAt τ i = some x) : zN i τ = .ok (.sl i) τ := by unfold zN; rw [h]
def kN (i : Nat) (τ : Fr) : Option Cell → Res LR
  | some _ => .ok (.sl i) τ
  | none => zN i τ
@[simp] theorem zN_at : zN i τ = kN i τ (cellAt τ i) := by
  cases e : cellAt τ i with
  | none => rfl
  | some x => exact zN_ev e
@[simp] theorem kN_ev : kN i τ (some x) = .ok (.sl i) τ := Eq.trans rfl rfl
@[simp] theorem ret_some' {r : RO} : Z.ret (some r) τ = .ok (.cl r.cell) τ := Eq.trans rfl rfl
def k2 (f : PyData → PyData → Option RO) (l : LR) (m : LR) (τ : Fr) : Res LR := Z.ret (app2 f τ l m) τ
def k1 (f : PyData → PyData → Option RO) (b : ZD) (l : LR) (τ : Fr) : Res LR := (b τ).bind (k2 f l)
@[simp] theorem z2_ev : z2 f a b τ = (a τ).bind (k1 f b) := Eq.trans rfl rfl
@[simp] theorem k1_ev : k1 f b l τ = (b τ).bind (k2 f l) := Eq.trans rfl rfl
@[simp] theorem k2_ev : k2 f l m τ = Z.ret (app2 f τ l m) τ := Eq.trans rfl rfl
def opt2 (f : PyData → PyData → Option RO) : Option PyData → Option PyData → Option RO
  | some d, some e => f d e
  | _, _ => none
@[simp] theorem app2_ev : app2 f τ l m = opt2 f (rdD τ l) (rdD τ m) := by unfold app2; cases rdD τ l <;> cases rdD τ m <;> rfl
@[simp] theorem opt2_ev : opt2 f (some d) (some e) = f d e := Eq.trans rfl rfl
def opt1 (u : PyData → Option RO) : Option PyData → Option RO
  | some d => u d
  | none => none
@[simp] theorem opt1_ev : opt1 u (some d) = u d := Eq.trans rfl rfl
def k3 (u : PyData → Option RO) (l : LR) (τ : Fr) : Res LR := Z.ret (opt1 u (rdD τ l)) τ
@[simp] theorem z1_ev : z1 u a τ = (a τ).bind (k3 u) := Eq.trans rfl rfl
@[simp] theorem k3_ev : k3 u l τ = Z.ret (opt1 u (rdD τ l)) τ := Eq.trans rfl rfl
def k4 (u : PyData → Option RO) (l : LR) (τ : Fr) : Res LR := Z.ret (opt1 u (rdS τ l)) τ
@[simp] theorem z1S_ev : z1S u a τ = (a τ).bind (k4 u) := Eq.trans rfl rfl
@[simp] theorem k4_ev : k4 u l τ = Z.ret (opt1 u (rdS τ l)) τ := Eq.trans rfl rfl
def k6 (f : PyData → PyData → Option RO) (l : LR) (m : LR) (τ : Fr) : Res LR := Z.ret (opt2 f (rdS τ l) (rdD τ m)) τ
def k5 (f : PyData → PyData → Option RO) (b : ZD) (l : LR) (τ : Fr) : Res LR := (b τ).bind (k6 f l)
@[simp] theorem z2S_ev : z2S f a b τ = (a τ).bind (k5 f b) := by
  show (a τ).bind _ = (a τ).bind _
  refine congrArg (Res.bind (a τ)) ?_
  funext l τ1
  show (b τ1).bind _ = (b τ1).bind _
  refine congrArg (Res.bind (b τ1)) ?_
  funext m τ2
  show Z.ret (app2S f τ2 l m) τ2 = _
  unfold k6 app2S
  cases rdS τ2 l <;> cases rdD τ2 m <;> rfl
@[simp] theorem k5_ev : k5 f b l τ = (b τ).bind (k6 f l) := Eq.trans rfl rfl
@[simp] theorem k6_ev : k6 f l m τ = Z.ret (opt2 f (rdS τ l) (rdD τ m)) τ := Eq.trans rfl rfl
@[simp] theorem zV_ev : zV a τ = (a τ).bind valL := Eq.trans rfl rfl
@[simp] theorem valL_cl : valL (.cl x) τ = .ok (.cl x) τ := Eq.trans rfl rfl
theorem valL_fz (h : cellAt τ i = some (.fz d)) : valL (.sl i) τ = .ok (.cl (.fz d)) τ := by simp only [valL, h]
theorem valL_lst {l : Bool} {ds : List PyData} (h : cellAt τ i = some (.lst l false ds)) : valL (.sl i) τ = .ok (.cl (.fz (.list ds))) (τ.set i (some (.fz (.list ds)))) := by simp only [valL, h]
theorem valL_scr {ns : List Int} (h : cellAt τ i = some (.scr ns)) : valL (.sl i) τ = .ok (.cl (.scr ns)) τ := by simp only [valL, h]
def vO (i : Nat) (τ : Fr) : Option Cell → Res LR
  | some (.fz d) => .ok (.cl (.fz d)) τ
  | some (.lst l false ds) => .ok (.cl (.fz (.list ds))) (τ.set i (some (.fz (.list ds))))
  | some (.scr ns) => .ok (.cl (.scr ns)) τ
  | _ => valL (.sl i) τ
@[simp] theorem valL_at : valL (.sl i) τ = vO i τ (cellAt τ i) := by
  unfold vO
  split
  · rename_i h; exact valL_fz h
  · rename_i h; exact valL_lst h
  · rename_i h; exact valL_scr h
  · rfl
@[simp] theorem vO_fz : vO i τ (some (.fz d)) = .ok (.cl (.fz d)) τ := Eq.trans rfl rfl
@[simp] theorem vO_lst {l : Bool} {ds : List PyData} : vO i τ (some (.lst l false ds)) = .ok (.cl (.fz (.list ds))) (τ.set i (some (.fz (.list ds)))) := Eq.trans rfl rfl
@[simp] theorem vO_scr {ns : List Int} : vO i τ (some (.scr ns)) = .ok (.cl (.scr ns)) τ := Eq.trans rfl rfl
def k7 (l : LR) (τ : Fr) : Res LR := match l with
  | .cl (.lst _ _ ds) => .ok (.cl (.fz (.list ds))) τ
  | .cl (.fz d) => .ok (.cl (.fz d)) τ
  | _ => .stuck
@[simp] theorem zF_ev : zF a τ = (a τ).bind datL := Eq.trans rfl rfl
@[simp] theorem datL_ev : datL l τ = (valL l τ).bind k7 := Eq.trans rfl rfl
@[simp] theorem k7_fz : k7 (.cl (.fz d)) τ = .ok (.cl (.fz d)) τ := Eq.trans rfl rfl
@[simp] theorem k7_lst {l k : Bool} {ds : List PyData} : k7 (.cl (.lst l k ds)) τ = .ok (.cl (.fz (.list ds))) τ := Eq.trans rfl rfl
/-! ### tests -/
@[simp] theorem truL_ev : truL τ l = (rdD τ l).bind truD := Eq.trans rfl rfl
@[simp] theorem retB_ev {k : Bool} : retB (some k) τ = .ok k τ := Eq.trans rfl rfl
def k8 (l : LR) (τ : Fr) : Res Bool := retB ((rdD τ l).bind truD) τ
@[simp] theorem zTru_ev : zTru a τ = (a τ).bind k8 := Eq.trans rfl rfl
@[simp] theorem k8_ev : k8 l τ = retB ((rdD τ l).bind truD) τ := Eq.trans rfl rfl
def k9 (l : LR) (τ : Fr) : Res Bool := match l with
  | .cl (.fz (.bool b)) => .ok b τ
  | _ => .stuck
@[simp] theorem zB_ev : zB a τ = (a τ).bind k9 := Eq.trans rfl rfl
@[simp] theorem k9_ev {k : Bool} : k9 (.cl (.fz (.bool k))) τ = .ok k τ := Eq.trans rfl rfl
def ite1 (t : ZTD) (k : Bool) (τ : Fr) : Res Bool := if k = true then t τ else .ok false τ
@[simp] theorem zAndT_ev : zAndT ta tb τ = (ta τ).bind (ite1 tb) := Eq.trans rfl rfl
@[simp] theorem ite1_t : ite1 ta true τ = ta τ := Eq.trans rfl rfl
@[simp] theorem ite1_f : ite1 ta false τ = .ok false τ := Eq.trans rfl rfl
def ite0 (t : ZTD) (k : Bool) (τ : Fr) : Res Bool := if k = true then .ok true τ else t τ
@[simp] theorem zOrT_ev : zOrT ta tb τ = (ta τ).bind (ite0 tb) := Eq.trans rfl rfl
@[simp] theorem ite0_t : ite0 ta true τ = .ok true τ := Eq.trans rfl rfl
@[simp] theorem ite0_f : ite0 ta false τ = ta τ := Eq.trans rfl rfl
def kNot (k : Bool) (τ : Fr) : Res Bool := .ok (!k) τ
@[simp] theorem zNotT_ev : zNotT ta τ = (ta τ).bind kNot := Eq.trans rfl rfl
@[simp] theorem kNot_ev {k : Bool} : kNot k τ = .ok (!k) τ := Eq.trans rfl rfl
def kIf (a b : ZD) (k : Bool) (τ : Fr) : Res LR := if k = true then a τ else b τ
@[simp] theorem zIf_ev : zIf ta a b τ = (ta τ).bind (kIf a b) := Eq.trans rfl rfl
@[simp] theorem kIf_t : kIf a b true τ = a τ := Eq.trans rfl rfl
@[simp] theorem kIf_f : kIf a b false τ = b τ := Eq.trans rfl rfl
def kAnd2 (b : ZD) (l : LR) (τ : Fr) : Option Bool → Res LR
  | some true => b τ
  | some false => .ok l τ
  | none => .stuck
def kAnd (b : ZD) (l : LR) (τ : Fr) : Res LR := kAnd2 b l τ (truL τ l)
@[simp] theorem zAnd_ev : zAnd a b τ = ((a τ).bind valL).bind (kAnd b) := by
  show (zV a τ).bind _ = (zV a τ).bind _
  refine congrArg (Res.bind (zV a τ)) ?_
  funext l τ1
  unfold kAnd
  cases truL τ1 l with
  | none => rfl
  | some k => cases k <;> rfl
@[simp] theorem kAnd_ev : kAnd b l τ = kAnd2 b l τ (truL τ l) := Eq.trans rfl rfl
@[simp] theorem kAnd2_t : kAnd2 b l τ (some true) = b τ := Eq.trans rfl rfl
@[simp] theorem kAnd2_f : kAnd2 b l τ (some false) = .ok l τ := Eq.trans rfl rfl
def kOr2 (b : ZD) (l : LR) (τ : Fr) : Option Bool → Res LR
  | some true => .ok l τ
  | some false => b τ
  | none => .stuck
def kOr (b : ZD) (l : LR) (τ : Fr) : Res LR := kOr2 b l τ (truL τ l)
@[simp] theorem zOr_ev : zOr a b τ = ((a τ).bind valL).bind (kOr b) := by
  show (zV a τ).bind _ = (zV a τ).bind _
  refine congrArg (Res.bind (zV a τ)) ?_
  funext l τ1
  unfold kOr
  cases truL τ1 l with
  | none => rfl
  | some k => cases k <;> rfl
@[simp] theorem kOr_ev : kOr b l τ = kOr2 b l τ (truL τ l) := Eq.trans rfl rfl
@[simp] theorem kOr2_t : kOr2 b l τ (some true) = .ok l τ := Eq.trans rfl rfl
@[simp] theorem kOr2_f : kOr2 b l τ (some false) = b τ := Eq.trans rfl rfl
def retN : Option Bool → Fr → Res LR
  | some k, τ => .ok (.cl (.fz (.bool (!k)))) τ
  | none, _ => .stuck
def kNo (l : LR) (τ : Fr) : Res LR := retN ((rdD τ l).bind truD) τ
@[simp] theorem zNot_ev : zNot a τ = (a τ).bind kNo := by
  show (a τ).bind _ = _
  refine congrArg (Res.bind (a τ)) ?_
  funext l τ1
  show (match truL τ1 l with | some k => Res.ok (LR.cl (.fz (.bool (!k)))) τ1 | none => .stuck) = _
  unfold kNo retN truL
  split <;> (rename_i h; rw [h])
@[simp] theorem kNo_ev : kNo l τ = retN ((rdD τ l).bind truD) τ := Eq.trans rfl rfl
@[simp] theorem retN_ev {k : Bool} : retN (some k) τ = .ok (.cl (.fz (.bool (!k)))) τ := Eq.trans rfl rfl
@[simp] theorem truD_bool {k : Bool} : truD (.bool k) = some k := Eq.trans rfl rfl
@[simp] theorem truD_int {k : Int} : truD (.int k) = some (k != 0) := Eq.trans rfl rfl
@[simp] theorem truD_list {ds : List PyData} : truD (.list ds) = some (!ds.isEmpty) := Eq.trans rfl rfl
@[simp] theorem truD_tuple {ds : List PyData} : truD (.tuple ds) = some (!ds.isEmpty) := Eq.trans rfl rfl
@[simp] theorem truD_none : truD .none = some false := Eq.trans rfl rfl
def kC3 (g : PyData → PyData → Option RO) (m n : LR) (τ : Fr) : Res LR := Z.ret (app2 g τ m n) τ
def kC2 (g : PyData → PyData → Option RO) (c : ZD) (m : LR) (τ : Fr) : Option RO → Res LR
  | some (.sc (.bool true)) => (c τ).bind (kC3 g m)
  | some (.sc (.bool false)) => .ok (.cl (.fz (.bool false))) τ
  | _ => .stuck
def kC1 (f g : PyData → PyData → Option RO) (c : ZD) (l m : LR) (τ : Fr) : Res LR := kC2 g c m τ (app2 f τ l m)
def kC0 (f g : PyData → PyData → Option RO) (b c : ZD) (l : LR) (τ : Fr) : Res LR := (b τ).bind (kC1 f g c l)
@[simp] theorem zChain_ev : zChain f g a b c τ = (a τ).bind (kC0 f g b c) := by
  show (a τ).bind _ = _
  refine congrArg (Res.bind (a τ)) ?_
  funext l τ1
  show (b τ1).bind _ = (b τ1).bind _
  refine congrArg (Res.bind (b τ1)) ?_
  funext m τ2
  show (match app2 f τ2 l m with | some (.sc (.bool true)) => _ | some (.sc (.bool false)) => _ | _ => _) = kC2 g c m τ2 (app2 f τ2 l m)
  unfold kC2
  split <;> rename_i h <;> simp [h] <;> rfl
@[simp] theorem kC0_ev : kC0 f g b c l τ = (b τ).bind (kC1 f g c l) := Eq.trans rfl rfl
@[simp] theorem kC1_ev : kC1 f g c l m τ = kC2 g c m τ (app2 f τ l m) := Eq.trans rfl rfl
@[simp] theorem kC2_t : kC2 g c m τ (some (.sc (.bool true))) = (c τ).bind (kC3 g m) := Eq.trans rfl rfl
@[simp] theorem kC2_f : kC2 g c m τ (some (.sc (.bool false))) = .ok (.cl (.fz (.bool false))) τ := Eq.trans rfl rfl
@[simp] theorem kC3_ev {n : LR} : kC3 g m n τ = Z.ret (app2 g τ m n) τ := Eq.trans rfl rfl
/-! ### operators -/
@[simp] theorem pCmp_ev {h : Int → Int → Bool} {i j : Int} : pCmp h (.int i) (.int j) = some (.sc (.bool (h i j))) := Eq.trans rfl rfl
@[simp] theorem pAdd_int {i j : Int} : pAdd (.int i) (.int j) = some (.sc (.int (i + j))) := Eq.trans rfl rfl
@[simp] theorem pAdd_list {xs ys : List PyData} (h : xs.length + ys.length ≤ sizeLine) : pAdd (.list xs) (.list ys) = some (.nl (xs ++ ys)) := if_pos h
@[simp] theorem pAdd_tuple {xs ys : List PyData} (h : xs.length + ys.length ≤ sizeLine) : pAdd (.tuple xs) (.tuple ys) = some (.sc (.tuple (xs ++ ys))) := if_pos h
@[simp] theorem pSub_int {i j : Int} : pSub (.int i) (.int j) = some (.sc (.int (i - j))) := Eq.trans rfl rfl
@[simp] theorem pNeg_int {i : Int} : pNeg (.int i) = some (.sc (.int (-i))) := Eq.trans rfl rfl
@[simp] theorem pMod_int {i j : Int} (h : 0 < j) : pMod (.int i) (.int j) = some (.sc (.int (i % j))) := if_pos h
@[simp] theorem pDiv_int {i j : Int} (h : divOk j = true) : pDiv (.int i) (.int j) = some (.sc (.int (i / j))) := if_pos h
@[simp] theorem pMul_int {i j : Int} (h : mulOk i j = true) : pMul (.int i) (.int j) = some (.sc (.int (i * j))) := if_pos h
@[simp] theorem pPow_int {i j : Int} (h : 0 ≤ j ∧ j ≤ 1000000 ∧ i.natAbs < 2 ^ 64) : pPow (.int i) (.int j) = some (.sc (.int (i ^ j.toNat))) := if_pos h
@[simp] theorem pShr_int {i j : Int} (h : 0 ≤ j) : pShr (.int i) (.int j) = some (.sc (.int (i / 2 ^ j.toNat))) := if_pos h
@[simp] theorem pInt2_int {h : Int → Int → Int} {i j : Int} : pInt2 h (.int i) (.int j) = some (.sc (.int (h i j))) := Eq.trans rfl rfl
@[simp] theorem pMax2_int {i j : Int} : pMax2 (.int i) (.int j) = some (.sc (.int (if j > i then j else i))) := Eq.trans rfl rfl
@[simp] theorem pMin2_int {i j : Int} : pMin2 (.int i) (.int j) = some (.sc (.int (if j < i then j else i))) := Eq.trans rfl rfl
@[simp] theorem pAbs_int {i : Int} : pAbs (.int i) = some (.sc (.int (if i < 0 then -i else i))) := Eq.trans rfl rfl
@[simp] theorem pToInt_int {i : Int} : pToInt (.int i) = some (.sc (.int i)) := Eq.trans rfl rfl
@[simp] theorem pLen_list {ds : List PyData} : pLen (.list ds) = some (.sc (.int ds.length)) := Eq.trans rfl rfl
@[simp] theorem pLen_tuple {ds : List PyData} : pLen (.tuple ds) = some (.sc (.int ds.length)) := Eq.trans rfl rfl
@[simp] theorem pTuple_list {ds : List PyData} : pTuple (.list ds) = some (.sc (.tuple ds)) := Eq.trans rfl rfl
@[simp] theorem pTuple_tuple {ds : List PyData} : pTuple (.tuple ds) = some (.sc (.tuple ds)) := Eq.trans rfl rfl
@[simp] theorem pList_list {ds : List PyData} : pList (.list ds) = some (.nl ds) := Eq.trans rfl rfl
@[simp] theorem pList_tuple {ds : List PyData} : pList (.tuple ds) = some (.nl ds) := Eq.trans rfl rfl
@[simp] theorem pIx_list {ds : List PyData} {i : Int} : pIx (.list ds) (.int i) = (atI ds i).map .sc := Eq.trans rfl rfl
@[simp] theorem pIx_tuple {ds : List PyData} {i : Int} : pIx (.tuple ds) (.int i) = (atI ds i).map .sc := Eq.trans rfl rfl
@[simp] theorem pSl_list {ds : List PyData} {lo hi : Option Int} : pSl lo hi (.list ds) = some (.nl (cutD ds lo hi)) := Eq.trans rfl rfl
@[simp] theorem pSl_tuple {ds : List PyData} {lo hi : Option Int} : pSl lo hi (.tuple ds) = some (.sc (.tuple (cutD ds lo hi))) := Eq.trans rfl rfl
def kIs (c : String) (τ : Fr) : Option PyData → Res LR
  | some d => .ok (.cl (.fz (.bool (isiTab (tyD d) c)))) τ
  | none => .stuck
def kIsi (c : String) (l : LR) (τ : Fr) : Res LR := kIs c τ (rdD τ l)
@[simp] theorem zIsi_ev {c : String} : zIsi c a τ = (a τ).bind (kIsi c) := by
  show (a τ).bind _ = _
  refine congrArg (Res.bind (a τ)) ?_
  funext l τ1
  show (match rdD τ1 l with | some d => Res.ok (LR.cl (.fz (.bool (isiTab (tyD d) c)))) τ1 | none => .stuck) = _
  unfold kIsi
  cases rdD τ1 l <;> rfl
@[simp] theorem kIsi_ev {c : String} : kIsi c l τ = kIs c τ (rdD τ l) := Eq.trans rfl rfl
@[simp] theorem kIs_ev {c : String} : kIs c τ (some d) = .ok (.cl (.fz (.bool (isiTab (tyD d) c)))) τ := Eq.trans rfl rfl
/-! ### slices, displays -/
def kP : Option PyData → Fr → Res (Option Int)
  | some (.int i), τ => .ok (some i) τ
  | _, _ => .stuck
def kP0 (l : LR) (τ : Fr) : Res (Option Int) := kP (rdD τ l) τ
@[simp] theorem zNoP_ev : zNoP τ = .ok none τ := Eq.trans rfl rfl
@[simp] theorem zP_ev : zP a τ = (a τ).bind kP0 := by
  show (a τ).bind _ = _
  refine congrArg (Res.bind (a τ)) ?_
  funext l τ1
  show (match rdD τ1 l with | some (.int i) => Res.ok (some i) τ1 | _ => .stuck) = _
  unfold kP0 kP
  split <;> rename_i h <;> simp [h]
@[simp] theorem kP0_ev : kP0 l τ = kP (rdD τ l) τ := Eq.trans rfl rfl
@[simp] theorem kP_ev {i : Int} : kP (some (.int i)) τ = .ok (some i) τ := Eq.trans rfl rfl
def kS2 (l : LR) (i j : Option Int) (τ : Fr) : Res LR := Z.ret (opt1 (pSl i j) (rdS τ l)) τ
def kS1 (hi : ZO) (l : LR) (i : Option Int) (τ : Fr) : Res LR := (hi τ).bind (kS2 l i)
def kS0 (lo hi : ZO) (l : LR) (τ : Fr) : Res LR := (lo τ).bind (kS1 hi l)
@[simp] theorem zSl_ev {lo hi : ZO} : zSl a lo hi τ = (a τ).bind (kS0 lo hi) := Eq.trans rfl rfl
@[simp] theorem kS0_ev {lo hi : ZO} : kS0 lo hi l τ = (lo τ).bind (kS1 hi l) := Eq.trans rfl rfl
@[simp] theorem kS1_ev {hi : ZO} {i : Option Int} : kS1 hi l i τ = (hi τ).bind (kS2 l i) := Eq.trans rfl rfl
@[simp] theorem kS2_ev {i j : Option Int} : kS2 l i j τ = Z.ret (opt1 (pSl i j) (rdS τ l)) τ := Eq.trans rfl rfl
@[simp] theorem zaN_ev : zaN τ = .ok [] τ := Eq.trans rfl rfl
def kA1 (d : PyData) (ds : List PyData) (τ : Fr) : Res (List PyData) := .ok (d :: ds) τ
def kA0 (r : ZAD) (l : LR) (τ : Fr) : Res (List PyData) := match l with
  | .cl (.fz d) => (r τ).bind (kA1 d)
  | _ => .stuck
@[simp] theorem zaC_ev {r : ZAD} : zaC a r τ = (zF a τ).bind (kA0 r) := Eq.trans rfl rfl
@[simp] theorem kA0_ev {r : ZAD} : kA0 r (.cl (.fz d)) τ = (r τ).bind (kA1 d) := Eq.trans rfl rfl
@[simp] theorem kA1_ev {ds : List PyData} : kA1 d ds τ = .ok (d :: ds) τ := Eq.trans rfl rfl
def kT (ds : List PyData) (τ : Fr) : Res LR := if ds.length ≤ sizeLine then .ok (.cl (.fz (.tuple ds))) τ else .stuck
def kLs (ds : List PyData) (τ : Fr) : Res LR := if ds.length ≤ sizeLine then .ok (.cl (.lst false false ds)) τ else .stuck
@[simp] theorem zTup_ev {r : ZAD} : zTup r τ = (r τ).bind kT := Eq.trans rfl rfl
@[simp] theorem zLst_ev {r : ZAD} : zLst r τ = (r τ).bind kLs := Eq.trans rfl rfl
theorem size_small {n : Nat} (h : n ≤ 16777216) : n ≤ sizeLine := by rw [sizeLine_eq]; exact h
@[simp] theorem kT_ev {ds : List PyData} (h : ds.length ≤ 16777216) : kT ds τ = .ok (.cl (.fz (.tuple ds))) τ := if_pos (size_small h)
@[simp] theorem kLs_ev {ds : List PyData} (h : ds.length ≤ 16777216) : kLs ds τ = .ok (.cl (.lst false false ds)) τ := if_pos (size_small h)
/-! ### argument lists -/
@[simp] theorem zlN_ev : zlN τ = .ok [] τ := Eq.trans rfl rfl
def kL1 (l : LR) (ls : List LR) (τ : Fr) : Res (List LR) := .ok (l :: ls) τ
def kL0 (r : ZLD) (l : LR) (τ : Fr) : Res (List LR) := (r τ).bind (kL1 l)
@[simp] theorem zlC_ev {r : ZLD} : zlC a r τ = (a τ).bind (kL0 r) := Eq.trans rfl rfl
@[simp] theorem kL0_ev {r : ZLD} : kL0 r l τ = (r τ).bind (kL1 l) := Eq.trans rfl rfl
@[simp] theorem kL1_ev {ls : List LR} : kL1 l ls τ = .ok (l :: ls) τ := Eq.trans rfl rfl
/-! ### calls -/
def kR (ls : List LR) (τ : Fr) : Res Cell → Res LR
  | .ok c τ' => .ok (.cl c) (backF ls τ' τ)
  | .exc n _ => .exc n (loseF ls τ)
  | .stuck => .stuck
def kCs (φ : Mir) (np : Nat) (ls : List LR) (τ : Fr) : Option (List Cell) → Res LR
  | none => .stuck
  | some cs => if okArgs τ ls = true ∧ cs.length = np then kR ls τ (φ cs) else .stuck
def kCall (φ : Mir) (np : Nat) (ls : List LR) (τ : Fr) : Res LR := kCs φ np ls τ (argCells τ ls)
@[simp] theorem zCall_ev {φ : Mir} {np : Nat} {as : ZLD} : zCall φ np as τ = (as τ).bind (kCall φ np) := by
  show (as τ).bind _ = _
  refine congrArg (Res.bind (as τ)) ?_
  funext ls τ1
  show (match argCells τ1 ls with | none => Res.stuck | some cs => if okArgs τ1 ls = true ∧ cs.length = np then (match φ cs with | .ok c τ' => Res.ok (LR.cl c) (backF ls τ' τ1) | .exc n _ => .exc n (loseF ls τ1) | .stuck => .stuck) else .stuck) = _
  unfold kCall
  cases argCells τ1 ls with
  | none => rfl
  | some cs =>
    unfold kCs
    by_cases g : okArgs τ1 ls = true ∧ cs.length = np
    · dsimp only
      rw [if_pos g, if_pos g]
      cases φ cs <;> rfl
    · dsimp only
      rw [if_neg g, if_neg g]
@[simp] theorem kCall_ev {φ : Mir} {np : Nat} {ls : List LR} : kCall φ np ls τ = kCs φ np ls τ (argCells τ ls) := Eq.trans rfl rfl
theorem kCs_ev {φ : Mir} {np : Nat} {ls : List LR} {cs : List Cell} (h : okArgs τ ls = true) (hl : cs.length = np) : kCs φ np ls τ (some cs) = kR ls τ (φ cs) := if_pos ⟨h, hl⟩
@[simp] theorem kR_ok {ls : List LR} : kR ls τ (.ok x τ1) = .ok (.cl x) (backF ls τ1 τ) := Eq.trans rfl rfl
@[simp] theorem argCells_nil : argCells τ [] = some [] := Eq.trans rfl rfl
def consO : Option Cell → Option (List Cell) → Option (List Cell)
  | some c, some cs => some (toArg c :: cs)
  | _, _ => none
@[simp] theorem argCells_cons {ls : List LR} : argCells τ (l :: ls) = consO (rdL τ l) (argCells τ ls) := by
  show (match rdL τ l, argCells τ ls with | some c, some cs => some (toArg c :: cs) | _, _ => none) = _
  unfold consO
  split <;> rename_i h1 h2 <;> simp_all
@[simp] theorem consO_ev {cs : List Cell} : consO (some x) (some cs) = some (toArg x :: cs) := Eq.trans rfl rfl
@[simp] theorem toArg_fz : toArg (.fz d) = .fz d := Eq.trans rfl rfl
@[simp] theorem toArg_lst {l k : Bool} {ds : List PyData} : toArg (.lst l k ds) = .lst true k ds := Eq.trans rfl rfl
@[simp] theorem toArg_scr {ns : List Int} : toArg (.scr ns) = .scr ns := Eq.trans rfl rfl
@[simp] theorem okArgs_nil : okArgs τ [] = true := Eq.trans rfl rfl
@[simp] theorem okArgs_cl {ls : List LR} : okArgs τ (.cl x :: ls) = okArgs τ ls := Eq.trans rfl rfl
@[simp] theorem okArgs_sl {ls : List LR} : okArgs τ (.sl i :: ls) = (!(objAt τ i && ls.any (isSl i)) && okArgs τ ls) := Eq.trans rfl rfl
@[simp] theorem isSl_cl : isSl i (.cl x) = false := Eq.trans rfl rfl
@[simp] theorem isSl_sl : isSl i (.sl j) = (j == i) := Eq.trans rfl rfl
theorem cellAt_get {c : Cell} (h : cellAt τ i = some c) : τ[i]? = some (some c) := by
  unfold cellAt at h
  split at h
  · rename_i o e
    rw [e, h]
  · cases h
theorem get_cellAt {c : Cell} (h : τ[i]? = some (some c)) : cellAt τ i = some c := by
  unfold cellAt
  rw [h]
theorem findIdx_get {ls : List LR} {i k : Nat} (h : ls.findIdx? (isSl i) = some k) : ls[k]? = some (.sl i) := by
  obtain ⟨hk, h1, _⟩ := List.findIdx?_eq_some_iff_getElem.mp h
  rw [List.getElem?_eq_getElem hk]
  generalize ls[k] = m at h1 ⊢
  cases m with
  | sl j => simp [isSl] at h1; rw [h1]
  | cl c => simp [isSl] at h1
/-- behind a call that is given no object -/
theorem backF_pure {ls : List LR} (h : ∀ i, LR.sl i ∈ ls → objAt τ i = false) : backF ls τ1 τ = τ := by
  unfold backF
  apply List.ext_getElem?
  intro j
  rw [List.getElem?_mapIdx]
  cases e : τ[j]? with
  | none => rfl
  | some o =>
    cases o with
    | none => rfl
    | some c =>
      show some (back1 ls τ1 j (some c)) = _
      unfold back1
      dsimp only
      split
      · rename_i oc
        split
        · rename_i k hk
          have := findIdx_get hk
          have h2 := h j (List.mem_of_getElem? this)
          unfold objAt at h2
          rw [get_cellAt e] at h2
          dsimp only at h2
          rw [oc] at h2; cases h2
        · rfl
      · rfl
/-- .. that is given one own list, first -/
theorem backF_one {ls : List LR} {b k : Bool} {ds ds' : List PyData} (hc : cellAt τ i = some (.lst b k ds)) (h : ∀ j, LR.sl j ∈ ls → objAt τ j = false) (h1 : cellAt τ1 0 = some (.lst true k ds')) : backF (.sl i :: ls) τ1 τ = τ.set i (some (.lst b k ds')) := by
  have il : i < τ.length := (List.getElem?_eq_some_iff.mp (cellAt_get hc)).1
  unfold backF
  apply List.ext_getElem?
  intro j
  rw [List.getElem?_mapIdx]
  by_cases e : i = j
  · subst e
    rw [List.getElem?_set_self il, cellAt_get hc]
    show some (back1 _ _ _ _) = _
    have f0 : (LR.sl i :: ls).findIdx? (isSl i) = some 0 := by
      rw [List.findIdx?_cons]
      simp [isSl]
    have g0 : τ1[0]? = some (some (.lst true k ds')) := cellAt_get h1
    show some (if (Cell.lst b k ds).obj = true then (match (LR.sl i :: ls).findIdx? (isSl i) with
      | some q => merge (Cell.lst b k ds) τ1[q]?
      | none => some (Cell.lst b k ds)) else some (Cell.lst b k ds)) = _
    rw [f0]
    show some (merge (Cell.lst b k ds) τ1[0]?) = _
    rw [g0]
    rfl
  · rw [List.getElem?_set_ne e]
    cases ej : τ[j]? with
    | none => rfl
    | some o =>
      cases o with
      | none => rfl
      | some c =>
        show some (back1 _ _ _ _) = _
        unfold back1
        dsimp only
        split
        · rename_i oc
          split
          · rename_i k hk
            have hs := findIdx_get hk
            have hm := List.mem_of_getElem? hs
            rcases List.mem_cons.mp hm with z | z
            · cases z; exact (e rfl).elim
            · have h2 := h j z
              unfold objAt at h2
              rw [get_cellAt ej] at h2
              dsimp only at h2
              rw [oc] at h2; cases h2
          · rfl
        · rfl
end
end Z

/-! Z23: statements, loops and comprehensions, as equations. -/
namespace Z
open PySem PySem.Spec PyProof.Rows L2
section
variable {α β : Type} {τ τ1 τ2 : Fr} {a b c : ZD} {ta tb : ZTD} {l m : LR} {d e : PyData} {x : Cell} {i j n : Nat} {p q : ZSD}
/-! ### statements -/
@[simp] theorem zNx_ev : zNx τ = .ok .nx τ := Eq.trans rfl rfl
@[simp] theorem zBk_ev : zBk τ = .ok .bk τ := Eq.trans rfl rfl
@[simp] theorem zCt_ev : zCt τ = .ok .ct τ := Eq.trans rfl rfl
def kSeq (q : ZSD) : Res Fl → Res Fl
  | .ok .nx τ1 => q τ1
  | .ok f τ1 => .ok f τ1
  | .exc n τ1 => .exc n τ1
  | .stuck => .stuck
@[simp] theorem zSeq_ev : zSeq p q τ = kSeq q (p τ) := Eq.trans rfl rfl
@[simp] theorem kSeq_nx : kSeq q (.ok .nx τ) = q τ := Eq.trans rfl rfl
@[simp] theorem kSeq_rt : kSeq q (.ok (.rt x) τ) = .ok (.rt x) τ := Eq.trans rfl rfl
@[simp] theorem kSeq_bk : kSeq q (.ok .bk τ) = .ok .bk τ := Eq.trans rfl rfl
@[simp] theorem kSeq_ct : kSeq q (.ok .ct τ) = .ok .ct τ := Eq.trans rfl rfl
@[simp] theorem kSeq_exc {n : Str} : kSeq q (.exc n τ) = .exc n τ := Eq.trans rfl rfl
def kSet (i : Nat) (l : LR) (τ : Fr) : Res Fl := match l with
  | .cl c => .ok .nx (τ.set i (some c))
  | _ => .stuck
@[simp] theorem zSet_ev : zSet i a τ = ((a τ).bind valL).bind (kSet i) := Eq.trans rfl rfl
@[simp] theorem kSet_ev : kSet i (.cl x) τ = .ok .nx (τ.set i (some x)) := Eq.trans rfl rfl
def kRet (l : LR) (τ : Fr) : Res Fl := match l with
  | .cl c => .ok (.rt c) τ
  | _ => .stuck
@[simp] theorem zRet_ev : zRet a τ = ((a τ).bind valL).bind kRet := Eq.trans rfl rfl
@[simp] theorem kRet_ev : kRet (.cl x) τ = .ok (.rt x) τ := Eq.trans rfl rfl
@[simp] theorem zRetN_ev : zRetN τ = .ok (.rt (.fz .none)) τ := Eq.trans rfl rfl
theorem zRetM_fz (h : cellAt τ i = some (.fz d)) : zRetM i τ = .ok (.rt (.fz d)) τ := by
  unfold zRetM
  rw [h]
  dsimp only
  rw [zRet_ev, zN_ev h, ok_bind, valL_fz h]
  rfl
theorem zRetM_lst {ds : List PyData} (h : cellAt τ i = some (.lst false false ds)) : zRetM i τ = .ok (.rt (.lst false false ds)) τ := by
  unfold zRetM
  rw [h]
def kRM (i : Nat) (τ : Fr) : Option Cell → Res Fl
  | some (.lst false false ds) => .ok (.rt (.lst false false ds)) τ
  | some (.fz d) => .ok (.rt (.fz d)) τ
  | _ => zRetM i τ
@[simp] theorem zRetM_ev : zRetM i τ = kRM i τ (cellAt τ i) := by
  unfold kRM
  split
  · rename_i h; exact zRetM_lst h
  · rename_i h; exact zRetM_fz h
  · rfl
@[simp] theorem kRM_fz : kRM i τ (some (.fz d)) = .ok (.rt (.fz d)) τ := Eq.trans rfl rfl
@[simp] theorem kRM_lst {ds : List PyData} : kRM i τ (some (.lst false false ds)) = .ok (.rt (.lst false false ds)) τ := Eq.trans rfl rfl
def kEx (l : LR) (τ : Fr) : Res Fl := .ok .nx τ
@[simp] theorem zExpr_ev : zExpr a τ = (a τ).bind kEx := Eq.trans rfl rfl
@[simp] theorem kEx_ev : kEx l τ = .ok .nx τ := Eq.trans rfl rfl
def kIfS (p q : ZSD) (k : Bool) (τ : Fr) : Res Fl := if k = true then p τ else q τ
@[simp] theorem zIfS_ev : zIfS ta p q τ = (ta τ).bind (kIfS p q) := Eq.trans rfl rfl
@[simp] theorem kIfS_t : kIfS p q true τ = p τ := Eq.trans rfl rfl
@[simp] theorem kIfS_f : kIfS p q false τ = q τ := Eq.trans rfl rfl
/-! ### a def's body (no match upon the body's run: the kernel would run it) -/
def finB : Res Fl → Res Cell
  | .ok (.rt c) τ => .ok c τ
  | .ok .nx τ => .ok (.fz .none) τ
  | .exc n τ => .exc n τ
  | _ => .stuck
theorem runB_ev {cs : List Cell} : runB n p cs = finB (p (frame0 n cs)) := by
  unfold runB finB
  cases p (frame0 n cs) with
  | ok f τ => cases f <;> rfl
  | exc n τ => rfl
  | stuck => rfl
@[simp] theorem finB_rt : finB (.ok (.rt x) τ) = .ok x τ := Eq.trans rfl rfl
@[simp] theorem finB_nx : finB (.ok .nx τ) = .ok (.fz .none) τ := Eq.trans rfl rfl
@[simp] theorem finB_exc {n : Str} : finB (.exc n τ) = .exc n τ := Eq.trans rfl rfl
/-! ### unpacking -/
def seqO (i : Nat) : Option Cell → Option (List PyData × List Nat × Bool)
  | some (.lst _ _ ds) => some (ds, [i], true)
  | some (.fz (.list ds)) => some (ds, [], true)
  | some (.fz (.tuple ds)) => some (ds, [], false)
  | some (.scr ns) => some (ns.map .int, [], true)
  | _ => none
@[simp] theorem seqL_sl : seqL τ (.sl i) = seqO i (cellAt τ i) := Eq.trans rfl rfl
@[simp] theorem seqO_lst {l k : Bool} {ds : List PyData} : seqO i (some (.lst l k ds)) = some (ds, [i], true) := Eq.trans rfl rfl
@[simp] theorem seqO_fl {ds : List PyData} : seqO i (some (.fz (.list ds))) = some (ds, [], true) := Eq.trans rfl rfl
@[simp] theorem seqO_ft {ds : List PyData} : seqO i (some (.fz (.tuple ds))) = some (ds, [], false) := Eq.trans rfl rfl
@[simp] theorem seqL_lst {l k : Bool} {ds : List PyData} : seqL τ (.cl (.lst l k ds)) = some (ds, [], true) := Eq.trans rfl rfl
@[simp] theorem seqL_fl {ds : List PyData} : seqL τ (.cl (.fz (.list ds))) = some (ds, [], true) := Eq.trans rfl rfl
@[simp] theorem seqL_ft {ds : List PyData} : seqL τ (.cl (.fz (.tuple ds))) = some (ds, [], false) := Eq.trans rfl rfl
def kU2 : Option Fr → Res Fl
  | some τ2 => .ok .nx τ2
  | none => .stuck
@[simp] theorem kU2_ev : kU2 (some τ) = .ok .nx τ := Eq.trans rfl rfl
def kU1 (gs : List PyData → Fr → Option Fr) (τ : Fr) : Option (List PyData × List Nat × Bool) → Res Fl
  | some r => kU2 (gs r.1 τ)
  | none => .stuck
def kU0 (gs : List PyData → Fr → Option Fr) (l : LR) (τ : Fr) : Res Fl := kU1 gs τ (seqL τ l)
@[simp] theorem zUnp_ev {gs : List PyData → Fr → Option Fr} : zUnp a gs τ = (a τ).bind (kU0 gs) := by
  show (a τ).bind _ = _
  refine congrArg (Res.bind (a τ)) ?_
  funext l τ1
  unfold kU0
  cases e : seqL τ1 l with
  | none => rfl
  | some r =>
    obtain ⟨ds, ss, b⟩ := r
    dsimp only [kU1]
    cases gs ds τ1 <;> rfl
@[simp] theorem kU0_ev {gs : List PyData → Fr → Option Fr} : kU0 gs l τ = kU1 gs τ (seqL τ l) := Eq.trans rfl rfl
@[simp] theorem kU1_ev {gs : List PyData → Fr → Option Fr} {r : List PyData × List Nat × Bool} : kU1 gs τ (some r) = kU2 (gs r.1 τ) := Eq.trans rfl rfl
@[simp] theorem gN_ev : gN i d τ = some (τ.set i (some (.fz d))) := Eq.trans rfl rfl
@[simp] theorem gsN_ev : gsN [] τ = some τ := Eq.trans rfl rfl
@[simp] theorem gsC_ev {g : ZGD} {gs : List PyData → Fr → Option Fr} {ds : List PyData} : gsC g gs (d :: ds) τ = (g d τ).bind (gs ds) := Eq.trans rfl rfl
@[simp] theorem gT_tuple {gs : List PyData → Fr → Option Fr} {ds : List PyData} : gT gs (.tuple ds) τ = gs ds τ := Eq.trans rfl rfl
@[simp] theorem gT_list {gs : List PyData → Fr → Option Fr} {ds : List PyData} : gT gs (.list ds) τ = gs ds τ := Eq.trans rfl rfl
/-! ### l[i] = e, methods -/
def putDs (i : Nat) (ds : List PyData) (τ : Fr) : Fr := match cellAt τ i with
  | some (.lst b k _) => τ.set i (some (.lst b k ds))
  | _ => τ
theorem putDs_at {b k : Bool} {ds ds' : List PyData} (h : cellAt τ i = some (.lst b k ds)) : putDs i ds' τ = τ.set i (some (.lst b k ds')) := by
  unfold putDs
  rw [h]
@[simp] theorem putDs_0 {b k : Bool} {ds ds' : List PyData} : putDs 0 ds' (some (.lst b k ds) :: τ) = some (.lst b k ds') :: τ := Eq.trans rfl rfl
@[simp] theorem putDs_S {o : Option Cell} {ds : List PyData} : putDs (n + 1) ds (o :: τ) = o :: putDs n ds τ := by
  unfold putDs
  rw [cellAt_S]
  split <;> rfl
def kX4 (i : Nat) (d : PyData) (τ : Fr) (b : Bool) (ds : List PyData) : Option Nat → Res Fl
  | some j => .ok .nx (τ.set i (some (.lst b false (ds.set j d))))
  | none => .stuck
def kX3 (i : Nat) (d : PyData) (τ : Fr) (b : Bool) (ds : List PyData) : Option PyData → Res Fl
  | some (.int k) => kX4 i d τ b ds (ixN ds.length k)
  | _ => .stuck
def kX2 (i : Nat) (d : PyData) (m : LR) (τ : Fr) : Option Cell → Res Fl
  | some (.lst b false ds) => kX3 i d τ b ds (rdD τ m)
  | _ => .stuck
def kX1 (i : Nat) (d : PyData) (m : LR) (τ : Fr) : Res Fl := kX2 i d m τ (cellAt τ i)
def kX0b (i : Nat) (ix : ZD) (d : PyData) (τ : Fr) : Option Cell → Res Fl
  | some (.lst _ _ _) => (ix τ).bind (kX1 i d)
  | _ => .stuck
def kX0 (i : Nat) (ix : ZD) (l : LR) (τ : Fr) : Res Fl := match l with
  | .cl (.fz d) => kX0b i ix d τ (cellAt τ i)
  | _ => .stuck
@[simp] theorem zSetIx_ev : zSetIx i b a τ = (zF a τ).bind (kX0 i b) := by
  show (zF a τ).bind _ = _
  refine congrArg (Res.bind (zF a τ)) ?_
  funext l τ1
  unfold kX0
  cases l with
  | sl _ => rfl
  | cl c =>
    cases c with
    | fz d =>
      unfold kX0b
      dsimp only
      cases e : cellAt τ1 i with
      | none => rfl
      | some c =>
        cases c with
        | lst _ _ _ =>
          dsimp only
          refine congrArg (Res.bind (b τ1)) ?_
          funext m τ2
          unfold kX1
          cases cellAt τ2 i with
          | none => rfl
          | some c2 =>
            cases c2 with
            | lst b2 k2 ds2 =>
              cases k2 with
              | true => rfl
              | false =>
                show _ = kX3 i d τ2 b2 ds2 (rdD τ2 m)
                cases rdD τ2 m with
                | none => rfl
                | some dd =>
                  cases dd <;> rfl
            | _ => rfl
        | _ => rfl
    | _ => rfl
@[simp] theorem kX0_ev {ix : ZD} : kX0 i ix (.cl (.fz d)) τ = kX0b i ix d τ (cellAt τ i) := Eq.trans rfl rfl
@[simp] theorem kX0b_ev {ix : ZD} {b k : Bool} {ds : List PyData} : kX0b i ix d τ (some (.lst b k ds)) = (ix τ).bind (kX1 i d) := Eq.trans rfl rfl
@[simp] theorem kX1_ev : kX1 i d m τ = kX2 i d m τ (cellAt τ i) := Eq.trans rfl rfl
@[simp] theorem kX2_ev {b : Bool} {ds : List PyData} : kX2 i d m τ (some (.lst b false ds)) = kX3 i d τ b ds (rdD τ m) := Eq.trans rfl rfl
@[simp] theorem kX3_ev {b : Bool} {ds : List PyData} {k : Int} : kX3 i d τ b ds (some (.int k)) = kX4 i d τ b ds (ixN ds.length k) := Eq.trans rfl rfl
@[simp] theorem kX4_ev {b : Bool} {ds : List PyData} : kX4 i d τ b ds (some j) = .ok .nx (τ.set i (some (.lst b false (ds.set j d)))) := Eq.trans rfl rfl
def kM3 (i : Nat) (b : Bool) (τ : Fr) : Option (PyData × List PyData) → Res LR
  | some r => .ok (.cl (.fz r.1)) (τ.set i (some (.lst b false r.2)))
  | none => .stuck
def kM2 (f : LM) (i : Nat) (b : Bool) (ds : List PyData) (τ : Fr) : Option (List PyData) → Res LR
  | some es => kM3 i b τ (f ds es)
  | none => .stuck
def kM1 (f : LM) (i : Nat) (ls : List LR) (τ : Fr) : Option Cell → Res LR
  | some (.lst b false ds) => kM2 f i b ds τ (datsL τ ls)
  | _ => .stuck
def kM0 (f : LM) (i : Nat) (ls : List LR) (τ : Fr) : Res LR := kM1 f i ls τ (cellAt τ i)
def kM (f : LM) (i : Nat) (as : ZLD) (τ : Fr) : Option Cell → Res LR
  | some (.lst _ _ _) => (as τ).bind (kM0 f i)
  | _ => .stuck
@[simp] theorem zMeth_ev {f : LM} {as : ZLD} : zMeth f i as τ = kM f i as τ (cellAt τ i) := by
  unfold zMeth kM
  cases cellAt τ i with
  | none => rfl
  | some c =>
    cases c with
    | lst _ _ _ =>
      dsimp only
      refine congrArg (Res.bind (as τ)) ?_
      funext ls τ1
      unfold kM0
      cases cellAt τ1 i with
      | none => rfl
      | some c2 =>
        cases c2 with
        | lst b k ds =>
          cases k with
          | true => rfl
          | false =>
            show _ = kM2 f i b ds τ1 (datsL τ1 ls)
            cases datsL τ1 ls with
            | none => rfl
            | some es =>
              show _ = kM3 i b τ1 (f ds es)
              dsimp only
              cases f ds es <;> rfl
        | _ => rfl
    | _ => rfl
@[simp] theorem kM_ev {f : LM} {as : ZLD} {b k : Bool} {ds : List PyData} : kM f i as τ (some (.lst b k ds)) = (as τ).bind (kM0 f i) := Eq.trans rfl rfl
@[simp] theorem kM0_ev {f : LM} {ls : List LR} : kM0 f i ls τ = kM1 f i ls τ (cellAt τ i) := Eq.trans rfl rfl
@[simp] theorem kM1_ev {f : LM} {ls : List LR} {b : Bool} {ds : List PyData} : kM1 f i ls τ (some (.lst b false ds)) = kM2 f i b ds τ (datsL τ ls) := Eq.trans rfl rfl
@[simp] theorem kM2_ev {f : LM} {b : Bool} {ds es : List PyData} : kM2 f i b ds τ (some es) = kM3 i b τ (f ds es) := Eq.trans rfl rfl
@[simp] theorem kM3_ev {b : Bool} {r : PyData × List PyData} : kM3 i b τ (some r) = .ok (.cl (.fz r.1)) (τ.set i (some (.lst b false r.2))) := Eq.trans rfl rfl
@[simp] theorem datsL_nil : datsL τ [] = some [] := Eq.trans rfl rfl
@[simp] theorem datsL_cons {ls : List LR} : datsL τ (.cl (.fz d) :: ls) = (datsL τ ls).map (d :: ·) := Eq.trans rfl rfl
theorem mApp_ev {ds : List PyData} (h : ds.length < 16777216) : mApp ds [e] = some (.none, ds ++ [e]) := if_pos (by rw [sizeLine_eq]; exact h)
/-! ### iterables -/
def itO (i : Nat) : Option Cell → Option (List PyData × List Nat)
  | some (.lst _ _ ds) => some (ds, [i])
  | some (.fz d) => (itemsD d).map fun ds => (ds, [])
  | some (.scr ns) => some (ns.map .int, [])
  | _ => none
@[simp] theorem itL_sl : itL τ (.sl i) = itO i (cellAt τ i) := Eq.trans rfl rfl
@[simp] theorem itO_lst {l k : Bool} {ds : List PyData} : itO i (some (.lst l k ds)) = some (ds, [i]) := Eq.trans rfl rfl
@[simp] theorem itO_fl {ds : List PyData} : itO i (some (.fz (.list ds))) = some (ds, []) := Eq.trans rfl rfl
@[simp] theorem itO_ft {ds : List PyData} : itO i (some (.fz (.tuple ds))) = some (ds, []) := Eq.trans rfl rfl
@[simp] theorem itO_scr {ns : List Int} : itO i (some (.scr ns)) = some (ns.map .int, []) := Eq.trans rfl rfl
@[simp] theorem itL_lst {l k : Bool} {ds : List PyData} : itL τ (.cl (.lst l k ds)) = some (ds, []) := Eq.trans rfl rfl
@[simp] theorem itL_fl {ds : List PyData} : itL τ (.cl (.fz (.list ds))) = some (ds, []) := Eq.trans rfl rfl
@[simp] theorem itL_ft {ds : List PyData} : itL τ (.cl (.fz (.tuple ds))) = some (ds, []) := Eq.trans rfl rfl
@[simp] theorem itL_scr {ns : List Int} : itL τ (.cl (.scr ns)) = some (ns.map .int, []) := Eq.trans rfl rfl
def kIt (l : LR) (τ : Fr) : Res (List PyData × List Nat) := retI (itL τ l) τ
@[simp] theorem zIt_ev : zIt a τ = (a τ).bind kIt := Eq.trans rfl rfl
@[simp] theorem kIt_ev : kIt l τ = retI (itL τ l) τ := Eq.trans rfl rfl
@[simp] theorem retI_ev {r : List PyData × List Nat} : retI (some r) τ = .ok r τ := Eq.trans rfl rfl
def rtR (τ : Fr) : Option (List PyData) → Res (List PyData × List Nat)
  | some ds => .ok (ds, []) τ
  | none => .stuck
@[simp] theorem rtR_ev {ds : List PyData} : rtR τ (some ds) = .ok (ds, []) τ := Eq.trans rfl rfl
def rngO : Option (List Int) → Option (List PyData)
  | some is => rngI is
  | none => none
@[simp] theorem rngO_ev {is : List Int} : rngO (some is) = rngI is := by rw [rngO]
def kRg (ls : List LR) (τ : Fr) : Res (List PyData × List Nat) := rtR τ (rngO (intsL τ ls))
@[simp] theorem zRng_ev {as : ZLD} : zRng as τ = (as τ).bind kRg := by
  show (as τ).bind _ = _
  refine congrArg (Res.bind (as τ)) ?_
  funext ls τ1
  unfold kRg
  have e : (intsL τ1 ls).bind rngI = rngO (intsL τ1 ls) := by cases intsL τ1 ls <;> rfl
  rw [e]
  cases rngO (intsL τ1 ls) <;> rfl
@[simp] theorem kRg_ev {ls : List LR} : kRg ls τ = rtR τ (rngO (intsL τ ls)) := by rw [kRg]
@[simp] theorem intsL_nil : intsL τ [] = some [] := Eq.trans rfl rfl
def consI : Option PyData → Option (List Int) → Option (List Int)
  | some (.int i), some is => some (i :: is)
  | _, _ => none
@[simp] theorem intsL_cons {ls : List LR} : intsL τ (l :: ls) = consI (rdD τ l) (intsL τ ls) := by
  show (match rdD τ l, intsL τ ls with | some (.int i), some is => some (i :: is) | _, _ => none) = _
  unfold consI
  rfl
@[simp] theorem consI_ev {z : Int} {zs : List Int} : consI (some (.int z)) (some zs) = some (z :: zs) := Eq.trans rfl rfl
def enR (τ : Fr) : Option (List PyData × List Nat × Bool) → Res (List PyData × List Nat)
  | some r => .ok (enumL r.1, r.2.1) τ
  | none => .stuck
def kEn (l : LR) (τ : Fr) : Res (List PyData × List Nat) := enR τ (seqL τ l)
@[simp] theorem zEn_ev : zEn a τ = (a τ).bind kEn := by
  show (a τ).bind _ = _
  refine congrArg (Res.bind (a τ)) ?_
  funext l τ1
  unfold kEn
  cases seqL τ1 l <;> rfl
@[simp] theorem kEn_ev : kEn l τ = enR τ (seqL τ l) := Eq.trans rfl rfl
@[simp] theorem enR_ev {r : List PyData × List Nat × Bool} : enR τ (some r) = .ok (enumL r.1, r.2.1) τ := Eq.trans rfl rfl
/-! ### frames written out -/
def wipeL (vs : List Nat) : Nat → Fr → Fr
  | _, [] => []
  | k, o :: τ => (if k ∈ vs then none else o) :: wipeL vs (k + 1) τ
theorem wipeL_get {vs : List Nat} {k j : Nat} : (wipeL vs k τ)[j]? = τ[j]?.map fun o => if k + j ∈ vs then none else o := by
  induction τ generalizing k j with
  | nil => rfl
  | cons o τ ih =>
    cases j with
    | zero => rfl
    | succ j =>
      show (wipeL vs (k + 1) τ)[j]? = _
      rw [ih, show k + 1 + j = k + (j + 1) by omega]
      rfl
theorem wipeF_L {vs : List Nat} : wipeF vs τ = wipeL vs 0 τ := by
  apply List.ext_getElem?
  intro j
  unfold wipeF
  rw [List.getElem?_mapIdx, wipeL_get, Nat.zero_add]
def restL (vs : List Nat) : Nat → Fr → Fr → Fr
  | _, _, [] => []
  | k, [], o :: τ => (if k ∈ vs then none else o) :: restL vs (k + 1) [] τ
  | k, o0 :: τ0, o :: τ => (if k ∈ vs then o0 else o) :: restL vs (k + 1) τ0 τ
theorem cellAt_nil : cellAt [] n = none := rfl
theorem restL_get {vs : List Nat} {k j : Nat} {τ0 : Fr} : (restL vs k τ0 τ)[j]? = τ[j]?.map fun o => if k + j ∈ vs then cellAt τ0 j else o := by
  induction τ generalizing k j τ0 with
  | nil => cases τ0 <;> rfl
  | cons o τ ih =>
    cases τ0 with
    | nil =>
      cases j with
      | zero => rfl
      | succ j =>
        show (restL vs (k + 1) [] τ)[j]? = _
        rw [ih, show k + 1 + j = k + (j + 1) by omega]
        rfl
    | cons o0 τ0 =>
      cases j with
      | zero => rfl
      | succ j =>
        show (restL vs (k + 1) τ0 τ)[j]? = _
        rw [ih, show k + 1 + j = k + (j + 1) by omega]
        rfl
theorem restF_L {vs : List Nat} {τ0 : Fr} : restF vs τ0 τ = restL vs 0 τ0 τ := by
  apply List.ext_getElem?
  intro j
  unfold restF
  rw [List.getElem?_mapIdx, restL_get, Nat.zero_add]
def lockL (ss : List Nat) : Nat → Fr → Fr
  | _, [] => []
  | k, o :: τ => (if k ∈ ss then o.map (Cell.setLk true) else o) :: lockL ss (k + 1) τ
theorem lockL_get {vs : List Nat} {k j : Nat} : (lockL vs k τ)[j]? = τ[j]?.map fun o => if k + j ∈ vs then o.map (Cell.setLk true) else o := by
  induction τ generalizing k j with
  | nil => rfl
  | cons o τ ih =>
    cases j with
    | zero => rfl
    | succ j =>
      show (lockL vs (k + 1) τ)[j]? = _
      rw [ih, show k + 1 + j = k + (j + 1) by omega]
      rfl
theorem lockAll_L {vs : List Nat} : lockAll vs τ = lockL vs 0 τ := by
  apply List.ext_getElem?
  intro j
  unfold lockAll
  rw [List.getElem?_mapIdx, lockL_get, Nat.zero_add]
def unlockL (ss : List Nat) : Nat → Fr → Fr → Fr
  | _, _, [] => []
  | k, [], o :: τ => (if k ∈ ss then unlock1 none o else o) :: unlockL ss (k + 1) [] τ
  | k, o0 :: τ0, o :: τ => (if k ∈ ss then unlock1 (some o0) o else o) :: unlockL ss (k + 1) τ0 τ
theorem unlockL_get {vs : List Nat} {k j : Nat} {τ0 : Fr} : (unlockL vs k τ0 τ)[j]? = τ[j]?.map fun o => if k + j ∈ vs then unlock1 τ0[j]? o else o := by
  induction τ generalizing k j τ0 with
  | nil => cases τ0 <;> rfl
  | cons o τ ih =>
    cases τ0 with
    | nil =>
      cases j with
      | zero => rfl
      | succ j =>
        show (unlockL vs (k + 1) [] τ)[j]? = _
        rw [ih, show k + 1 + j = k + (j + 1) by omega]
        rfl
    | cons o0 τ0 =>
      cases j with
      | zero => rfl
      | succ j =>
        show (unlockL vs (k + 1) τ0 τ)[j]? = _
        rw [ih, show k + 1 + j = k + (j + 1) by omega]
        rfl
theorem unlock_L {vs : List Nat} {τ0 : Fr} : unlock τ0 vs τ = unlockL vs 0 τ0 τ := by
  apply List.ext_getElem?
  intro j
  unfold unlock
  rw [List.getElem?_mapIdx, unlockL_get, Nat.zero_add]
/-! ### loops -/
/-- what a turn's end makes of the loop: P: the invariant over the items left; R: what the loop is to end with -/
def TurnOk (P : Fr → Prop) (R : Res Fl → Prop) : Res Fl → Prop
  | .ok .nx τ2 => P τ2
  | .ok .ct τ2 => P τ2
  | .ok .bk τ2 => R (.ok .nx τ2)
  | .ok (.rt c) τ2 => R (.ok (.rt c) τ2)
  | .exc n τ2 => R (.exc n τ2)
  | .stuck => False
theorem turns_inv {g : ZGD} {p : ZSD} (P : List PyData → Fr → Prop) (R : Res Fl → Prop) (hn : ∀ τ, P [] τ → R (.ok .nx τ))
    (hs : ∀ d ds τ, P (d :: ds) τ → ∃ τ1, g d τ = some τ1 ∧ TurnOk (P ds) R (p τ1)) {ds : List PyData} (h : P ds τ) : R (zTurns g p ds τ) := by
  induction ds generalizing τ with
  | nil => exact hn τ h
  | cons d ds ih =>
    obtain ⟨τ1, e, h1⟩ := hs d ds τ h
    unfold zTurns
    rw [e]
    dsimp only
    revert h1
    generalize p τ1 = r
    intro h1
    match r, h1 with
    | .ok .nx _, h1 => exact ih h1
    | .ok .ct _, h1 => exact ih h1
    | .ok .bk _, h1 => exact h1
    | .ok (.rt c) _, h1 => exact h1
    | .exc _ _, h1 => exact h1
theorem while_inv {tt : ZTD} {p : ZSD} (P : Nat → Fr → Prop) (R : Res Fl → Prop)
    (hs : ∀ n τ, P n τ → ∃ k τ1, tt τ = .ok k τ1 ∧ if k = true then ∃ m, n = m + 1 ∧ TurnOk (P m) R (p τ1) else R (.ok .nx τ1)) {n N : Nat} (hN : n < N) (h : P n τ) : R (zWhile tt p N τ) := by
  induction N generalizing n τ with
  | zero => omega
  | succ N ih =>
    obtain ⟨k, τ1, e, h1⟩ := hs n τ h
    unfold zWhile
    rw [e, ok_bind]
    cases k with
    | false => rw [if_neg Bool.false_ne_true] at h1 ⊢; exact h1
    | true =>
      rw [if_pos rfl] at h1 ⊢
      obtain ⟨m, rfl, h1⟩ := h1
      revert h1
      generalize p τ1 = r
      intro h1
      match r, h1 with
      | .ok .nx _, h1 => exact ih (by omega) h1
      | .ok .ct _, h1 => exact ih (by omega) h1
      | .ok .bk _, h1 => exact h1
      | .ok (.rt c) _, h1 => exact h1
      | .exc _ _, h1 => exact h1
/-! ### comprehensions whose parts write nothing -/
/-- what a turn on d gives; it leaves τ -/
def ElOk (vs : List Nat) (g : ZGD) (tt : ZTD) (te : ZD) (τ : Fr) (d : PyData) (r : Option PyData) : Prop := ∃ τ1, g d τ = some τ1 ∧ match r with
  | none => ∃ τ2, tt τ1 = .ok false τ2 ∧ wipeF vs τ2 = τ
  | some e => ∃ τ2 τ3, tt τ1 = .ok true τ2 ∧ zF te τ2 = .ok (.cl (.fz e)) τ3 ∧ wipeF vs τ3 = τ
theorem lcTurns_pure {vs : List Nat} {g : ZGD} {tt : ZTD} {te : ZD} (φ : PyData → Option PyData) {ds acc : List PyData} (h : ∀ d ∈ ds, ElOk vs g tt te τ d (φ d)) (hl : acc.length + ds.length ≤ 16777216) : lcTurns vs g tt te ds τ acc = .ok (acc ++ ds.filterMap φ) τ := by
  induction ds generalizing acc with
  | nil => simp [lcTurns]
  | cons d ds ih =>
    have h1 := h d (List.mem_cons_self)
    have ih2 := fun acc hl => ih (acc := acc) (fun d hd => h d (List.mem_cons_of_mem _ hd)) hl
    rw [List.length_cons] at hl
    unfold lcTurns
    obtain ⟨τ1, e1, h1⟩ := h1
    rw [e1]
    dsimp only
    cases e : φ d with
    | none =>
      rw [e] at h1
      obtain ⟨τ2, e2, w⟩ := h1
      rw [e2]
      dsimp only
      rw [w, ih2 acc (by omega), List.filterMap_cons_none e]
    | some r =>
      rw [e] at h1
      obtain ⟨τ2, τ3, e2, e3, w⟩ := h1
      rw [e2]
      dsimp only
      rw [e3]
      dsimp only
      rw [if_pos (by rw [sizeLine_eq]; omega), w, ih2 _ (by rw [List.length_append]; simp; omega), List.filterMap_cons_some e, List.append_assoc]
      rfl
theorem gxTurn_pure {vs : List Nat} {g : ZGD} {tt : ZTD} {te : ZD} {r : Option PyData} (h : ElOk vs g tt te τ d r) : gxTurn vs g tt te d τ = .ok r τ := by
  obtain ⟨τ1, e1, h1⟩ := h
  unfold gxTurn
  rw [e1]
  dsimp only
  cases r with
  | none =>
    obtain ⟨τ2, e2, w⟩ := h1
    rw [e2]
    dsimp only
    rw [w]
  | some e =>
    obtain ⟨τ2, τ3, e2, e3, w⟩ := h1
    rw [e2]
    dsimp only
    rw [e3]
    dsimp only
    rw [w]
/-- all (q true), any (q false) of what the elements are -/
def qB (q : Bool) (φ : PyData → Option Bool) : List PyData → Bool
  | [] => q
  | d :: ds => match φ d with
    | none => qB q φ ds
    | some t => if t = q then qB q φ ds else !q
theorem qT_pure {q : Bool} {vs : List Nat} {g : ZGD} {tt : ZTD} {te : ZD} (φ : PyData → Option Bool) {ds : List PyData} (h : ∀ d ∈ ds, (φ d = none ∧ ElOk vs g tt te τ d none) ∨ ∃ t e, φ d = some t ∧ truD e = some t ∧ ElOk vs g tt te τ d (some e)) : qT q vs g tt te ds τ = .ok (qB q φ ds) τ := by
  induction ds with
  | nil => rfl
  | cons d ds ih =>
    have ih2 := ih fun d hd => h d (List.mem_cons_of_mem _ hd)
    unfold qT qB
    rcases h d List.mem_cons_self with ⟨e, h1⟩ | ⟨t, r, e, e2, h1⟩
    · rw [gxTurn_pure h1, e]
      exact ih2
    · rw [gxTurn_pure h1, e]
      dsimp only
      rw [e2]
      dsimp only
      by_cases g : t = q
      · rw [if_pos g, if_pos g]; exact ih2
      · rw [if_neg g, if_neg g]
/-! ### comprehensions, all, any, loops in their frames -/
theorem setLk_same {o : Option Cell} : unlock1 (some o) (o.map (Cell.setLk true)) = o := by
  cases o with
  | none => rfl
  | some c =>
    show some (if (c.setLk true).lk then (c.setLk true).setLk c.lk else c.setLk true) = some c
    cases c with
    | dct l k t kvs => cases k <;> rfl
    | _ => rfl
theorem block_same {vs ss : List Nat} : restF vs τ (unlock τ ss (wipeF vs (lockAll ss τ))) = τ := by
  apply List.ext_getElem?
  intro j
  unfold restF unlock wipeF lockAll
  rw [List.getElem?_mapIdx, List.getElem?_mapIdx, List.getElem?_mapIdx, List.getElem?_mapIdx]
  cases e : τ[j]? with
  | none => rfl
  | some o =>
    show some (if j ∈ vs then cellAt τ j else if j ∈ ss then unlock1 (some o) (if j ∈ vs then none else if j ∈ ss then o.map (Cell.setLk true) else o) else (if j ∈ vs then none else if j ∈ ss then o.map (Cell.setLk true) else o)) = some o
    refine congrArg some ?_
    have ec : cellAt τ j = o := by unfold cellAt; rw [e]
    by_cases h : j ∈ vs
    · rw [if_pos h]; exact ec
    · simp only [if_neg h]
      by_cases h2 : j ∈ ss
      · simp only [if_pos h2]; exact setLk_same
      · simp only [if_neg h2]
/-- the frame of a block -/
def blkF (vs ss : List Nat) (τ : Fr) : Fr := wipeF vs (lockAll ss τ)
def kLc (vs : List Nat) (g : ZGD) (tt : ZTD) (te : ZD) (r : List PyData × List Nat) (τ : Fr) : Res LR := match lcTurns vs g tt te r.1 (wipeF vs (lockAll r.2 τ)) [] with
  | .ok acc τ2 => .ok (.cl (.lst false false acc)) (restF vs τ (unlock τ r.2 τ2))
  | _ => .stuck
@[simp] theorem zLc_ev {it : ZID} {vs : List Nat} {g : ZGD} {tt : ZTD} {te : ZD} : zLc it vs g tt te τ = (it τ).bind (kLc vs g tt te) := Eq.trans rfl rfl
theorem kLc_pure {vs : List Nat} {g : ZGD} {tt : ZTD} {te : ZD} {r : List PyData × List Nat} (φ : PyData → Option PyData) (h : ∀ d ∈ r.1, ElOk vs g tt te (blkF vs r.2 τ) d (φ d)) (hl : r.1.length ≤ 16777216) : kLc vs g tt te r τ = .ok (.cl (.lst false false (r.1.filterMap φ))) τ := by
  unfold kLc
  show (match lcTurns vs g tt te r.1 (blkF vs r.2 τ) [] with | .ok acc τ2 => Res.ok (LR.cl (.lst false false acc)) (restF vs τ (unlock τ r.2 τ2)) | _ => .stuck) = _
  rw [lcTurns_pure φ h (by simpa using hl)]
  show Res.ok _ (restF vs τ (unlock τ r.2 (wipeF vs (lockAll r.2 τ)))) = _
  rw [block_same]
  rfl
def kQ (q : Bool) (vs : List Nat) (g : ZGD) (tt : ZTD) (te : ZD) (r : List PyData × List Nat) (τ : Fr) : Res LR := match qT q vs g tt te r.1 (wipeF vs (lockAll r.2 τ)) with
  | .ok b τ2 => .ok (.cl (.fz (.bool b))) (restF vs τ (unlock τ r.2 τ2))
  | _ => .stuck
@[simp] theorem zQ_ev {q : Bool} {it : ZID} {vs : List Nat} {g : ZGD} {tt : ZTD} {te : ZD} : zQ q it vs g tt te τ = (it τ).bind (kQ q vs g tt te) := Eq.trans rfl rfl
theorem kQ_pure {q : Bool} {vs : List Nat} {g : ZGD} {tt : ZTD} {te : ZD} {r : List PyData × List Nat} (φ : PyData → Option Bool) (h : ∀ d ∈ r.1, (φ d = none ∧ ElOk vs g tt te (blkF vs r.2 τ) d none) ∨ ∃ t e, φ d = some t ∧ truD e = some t ∧ ElOk vs g tt te (blkF vs r.2 τ) d (some e)) : kQ q vs g tt te r τ = .ok (.cl (.fz (.bool (qB q φ r.1)))) τ := by
  unfold kQ
  show (match qT q vs g tt te r.1 (blkF vs r.2 τ) with | .ok b τ2 => Res.ok (LR.cl (.fz (.bool b))) (restF vs τ (unlock τ r.2 τ2)) | _ => .stuck) = _
  rw [qT_pure φ h]
  show Res.ok _ (restF vs τ (unlock τ r.2 (wipeF vs (lockAll r.2 τ)))) = _
  rw [block_same]
def kFor (g : ZGD) (p : ZSD) (r : List PyData × List Nat) (τ : Fr) : Res Fl := onFr (unlock τ r.2) (zTurns g p r.1 (lockAll r.2 τ))
@[simp] theorem zFor_ev {it : ZID} {g : ZGD} {p : ZSD} : zFor it g p τ = (it τ).bind (kFor g p) := Eq.trans rfl rfl
theorem kFor_free {g : ZGD} {p : ZSD} {ds : List PyData} : kFor g p (ds, []) τ = zTurns g p ds τ := by
  unfold kFor
  rw [lockAll_nil]
  cases zTurns g p ds τ with
  | ok f τ' => show Res.ok f (unlock τ [] τ') = _; rw [unlock_nil]
  | exc n τ' => show Res.exc n (unlock τ [] τ') = _; rw [unlock_nil]
  | stuck => rfl
end
end Z

/-! Z24: the defs that many laws share: the number's test, the draws. -/
namespace Z
open PySem PySem.Spec PyProof.Rows L2
def b_is_number : ZSD :=
    (zRet (zAnd (zIsi "int" (zN 0)) (zAnd (zNot (zIsi "bool" (zN 0))) (zChain (pCmp fun i j => decide (i ≤ j)) (pCmp fun i j => decide (i ≤ j)) (zN 1) (zN 0) (zN 2)))))
def m_is_number : Mir := runB 3 b_is_number
def b__law_open : ZSD :=
    (zSeq (zSet 1 (zLc (zIt (zSl (zN 0) zNoP (zP (zK (.int 63))))) [2] (gN 2) zYes (z1 pAbs (z1 pToInt (zN 2)))))
    (zRet (zLst (zaC (zK (.int 0)) (zaC (zK (.int 0)) (zaC (z2 pAdd (zN 1) (zLst (zaC (zK (.int 0)) zaN))) zaN))))))
def m__law_open : Mir := runB 3 b__law_open
def b__law_mixed : ZSD :=
    (zSeq (zSet 2 (z2 pMod (z2 pAdd (z2 pAdd (z2 pMul (z2 pMod (zN 0) (z2 pSub (z2 pPow (zK (.int 2)) (zK (.int 61))) (zK (.int 1)))) (zK (.int 6364136223846793005))) (z2 pMul (zN 1) (zK (.int 1442695040888963407)))) (zK (.int 97))) (z2 pPow (zK (.int 2)) (zK (.int 61)))))
    (zSeq (zSet 2 (z2 pMod (z2 pMul (z2 (pInt2 Builtin.bitXor) (zN 2) (z2 pShr (zN 2) (zK (.int 29)))) (zK (.int 3935559000370003845))) (z2 pPow (zK (.int 2)) (zK (.int 61)))))
    (zRet (z2 pMod (z2 pMul (z2 (pInt2 Builtin.bitXor) (zN 2) (z2 pShr (zN 2) (zK (.int 31)))) (zK (.int 2862933555777941757))) (z2 pPow (zK (.int 2)) (zK (.int 61)))))))
def m__law_mixed : Mir := runB 3 b__law_mixed
def b__law_draw : ZSD :=
    (zSeq (zUnp (zN 0) (gsC (gN 2) (gsC (gN 3) (gsC (gN 4) gsN))))
    (zSeq (zIfS (zB (z2 (pCmp fun i j => decide (i < j)) (zN 3) (zN 1))) (zSeq (zSet 5 (z2S pIx (zN 4) (z2 pMod (zN 2) (z1S pLen (zN 4)))))
    (zSeq (zSet 3 (zIf (zAndT (zB (z2 (pCmp fun i j => decide (i < j)) (zN 2) (z1S pLen (zN 4)))) (zB (z2 (pCmp fun i j => decide (j ≤ i)) (zN 5) (z2 pPow (zK (.int 10)) (zK (.int 18)))))) (zN 5) (zCall m__law_mixed 2 (zlC (zN 5) (zlC (zN 2) zlN)))))
    (zSet 2 (z2 pAdd (zN 2) (zK (.int 1)))))) zNx)
    (zSeq (zSetIx 0 (zK (.int 0)) (zN 2))
    (zSeq (zSetIx 0 (zK (.int 1)) (z2 pDiv (zN 3) (zN 1)))
    (zRet (z2 pMod (zN 3) (zN 1)))))))
def m__law_draw : Mir := runB 6 b__law_draw
section
variable {α β : Type} {τ τ1 τ2 : Fr} {a b c : ZD} {ta tb : ZTD} {l m : LR} {d e : PyData} {x : Cell} {i j n : Nat} {p q : ZSD}
/-! ### calls that are given no object, or one own list -/
def noObj (τ : Fr) : List LR → Bool
  | [] => true
  | .sl i :: ls => !objAt τ i && noObj τ ls
  | .cl _ :: ls => noObj τ ls
@[simp] theorem noObj_nil : noObj τ [] = true := by unfold noObj; exact Eq.trans rfl rfl
@[simp] theorem noObj_sl {ls : List LR} : noObj τ (.sl i :: ls) = (!objAt τ i && noObj τ ls) := by rw [noObj]
@[simp] theorem noObj_cl {ls : List LR} : noObj τ (.cl x :: ls) = noObj τ ls := by rw [noObj]
def objO : Option Cell → Bool
  | some c => c.obj
  | none => false
@[simp] theorem objAt_ev : objAt τ i = objO (cellAt τ i) := by rw [objAt]; exact Eq.trans rfl rfl
@[simp] theorem objO_ev : objO (some x) = x.obj := by rw [objO]
theorem noObj_mem {ls : List LR} (h : noObj τ ls = true) : ∀ i, LR.sl i ∈ ls → objAt τ i = false := by
  induction ls with
  | nil => intro i hi; cases hi
  | cons l ls ih =>
    intro i hi
    cases l with
    | sl j =>
      rw [noObj_sl, Bool.and_eq_true] at h
      rcases List.mem_cons.mp hi with z | z
      · cases z; simpa using h.1
      · exact ih h.2 i z
    | cl c =>
      rcases List.mem_cons.mp hi with z | z
      · cases z
      · rw [noObj_cl] at h; exact ih h i z
theorem noObj_ok {ls : List LR} (h : noObj τ ls = true) : okArgs τ ls = true := by
  induction ls with
  | nil => rfl
  | cons l ls ih =>
    cases l with
    | sl j =>
      rw [noObj_sl, Bool.and_eq_true] at h
      rw [okArgs_sl, ih h.2]
      simp at h
      simp [h.1]
    | cl c => rw [noObj_cl] at h; exact ih h
theorem kCs_pure {φ : Mir} {np : Nat} {ls : List LR} {cs : List Cell} {r : Cell} (h : ∃ τ', φ cs = .ok r τ') (hn : noObj τ ls = true) (hl : cs.length = np) : kCs φ np ls τ (some cs) = .ok (.cl r) τ := by
  obtain ⟨τ', h⟩ := h
  rw [kCs_ev (noObj_ok hn) hl, h, kR_ok, backF_pure (noObj_mem hn)]
def isL (τ : Fr) (i : Nat) (ds : List PyData) : Prop := ∃ b, cellAt τ i = some (.lst b false ds)
@[simp] theorem isL_0 {b : Bool} {ds : List PyData} : isL (some (.lst b false ds) :: τ) 0 ds := ⟨b, rfl⟩
@[simp] theorem isL_S {o : Option Cell} {ds : List PyData} : isL (o :: τ) (n + 1) ds ↔ isL τ n ds := Iff.rfl
theorem kCs_one {φ : Mir} {np : Nat} {ls : List LR} {cs : List Cell} {r : Cell} {ds ds' : List PyData} (h : ∃ τ', φ cs = .ok r τ' ∧ cellAt τ' 0 = some (.lst true false ds')) (hi : isL τ i ds) (hn : noObj τ ls = true) (hl : cs.length = np) : kCs φ np (.sl i :: ls) τ (some cs) = .ok (.cl r) (putDs i ds' τ) := by
  obtain ⟨τ', h, h0⟩ := h
  obtain ⟨b, hi⟩ := hi
  have ho : okArgs τ (.sl i :: ls) = true := by
    rw [okArgs_sl, noObj_ok hn, Bool.and_true]
    cases e : ls.any (isSl i) with
    | false => simp
    | true =>
      obtain ⟨l, hl, e2⟩ := List.any_eq_true.mp e
      cases l with
      | cl c => cases e2
      | sl j =>
        have : j = i := by simpa [isSl] using e2
        subst this
        rw [noObj_mem hn j hl]
        rfl
  rw [kCs_ev ho hl, h, kR_ok, backF_one hi (noObj_mem hn) h0, putDs_at hi]
/-! ### is_number -/
def isNumD (a b : Int) : PyData → Bool
  | .int v => decide (a ≤ v) && decide (v ≤ b)
  | _ => false
theorem is_number_ok (d : PyData) (a b : Int) : ∃ τ, m_is_number [.fz d, .fz (.int a), .fz (.int b)] = .ok (.fz (.bool (isNumD a b d))) τ := by
  cases d with
  | int v => by_cases h1 : a ≤ v <;> by_cases h2 : v ≤ b <;> simp [m_is_number, runB_ev, frame0, b_is_number, tyD, isiTab, isNumD, h1, h2]
  | _ => simp [m_is_number, runB_ev, frame0, b_is_number, tyD, isiTab, isNumD]
@[simp] theorem k_is_number {a b : Int} {ls : List LR} (h : noObj τ ls = true) : kCs m_is_number 3 ls τ (some [.fz d, .fz (.int a), .fz (.int b)]) = .ok (.cl (.fz (.bool (isNumD a b d)))) τ := kCs_pure (is_number_ok d a b) h rfl
/-! ### the draws -/
def mixed (cell turn : Int) : Int :=
  let x := (cell % (2 ^ 61 - 1) * 6364136223846793005 + turn * 1442695040888963407 + 97) % 2 ^ 61
  let y := (Builtin.bitXor x (x / 2 ^ 29)) * 3935559000370003845 % 2 ^ 61
  (Builtin.bitXor y (y / 2 ^ 31)) * 2862933555777941757 % 2 ^ 61
theorem mixed_ok (x y : Int) : ∃ τ, m__law_mixed [.fz (.int x), .fz (.int y)] = .ok (.fz (.int (mixed x y))) τ := by
  simp [m__law_mixed, runB_ev, frame0, b__law_mixed, mixed, mulOk]
@[simp] theorem k__law_mixed {x y : Int} {ls : List LR} (h : noObj τ ls = true) : kCs m__law_mixed 2 ls τ (some [.fz (.int x), .fz (.int y)]) = .ok (.cl (.fz (.int (mixed x y)))) τ := kCs_pure (mixed_ok x y) h rfl
@[simp] theorem ixN_0 {n : Nat} : ixN (n + 1) 0 = some 0 := by
  unfold ixN
  rw [if_pos (by omega), if_pos (by omega)]
  rfl
@[simp] theorem ixN_1 {n : Nat} : ixN (n + 2) 1 = some 1 := by
  unfold ixN
  rw [if_pos (by omega), if_pos (by omega)]
  rfl
@[simp] theorem ixN_2 {n : Nat} : ixN (n + 3) 2 = some 2 := by
  unfold ixN
  rw [if_pos (by omega), if_pos (by omega)]
  rfl
@[simp] theorem ixN_3 {n : Nat} : ixN (n + 4) 3 = some 3 := by
  unfold ixN
  rw [if_pos (by omega), if_pos (by omega)]
  rfl
@[simp] theorem ixN_m1 {n : Nat} : ixN (n + 1) (-1) = some n := by
  unfold ixN
  rw [if_neg (by omega), if_pos (by omega)]
  congr 1
  omega
@[simp] theorem atI_0 {α : Type} {x : α} {xs : List α} : atI (x :: xs) 0 = some x := by
  unfold atI
  rw [List.length_cons, ixN_0]
  rfl
@[simp] theorem atI_1 {α : Type} {x y : α} {xs : List α} : atI (x :: y :: xs) 1 = some y := by
  unfold atI
  rw [List.length_cons, List.length_cons, ixN_1]
  rfl
@[simp] theorem atI_2 {α : Type} {x y z : α} {xs : List α} : atI (x :: y :: z :: xs) 2 = some z := by
  unfold atI
  rw [List.length_cons, List.length_cons, List.length_cons, ixN_2]
  rfl
@[simp] theorem atI_3 {α : Type} {x y z u : α} {xs : List α} : atI (x :: y :: z :: u :: xs) 3 = some u := by
  unfold atI
  rw [List.length_cons, List.length_cons, List.length_cons, List.length_cons, ixN_3]
  rfl
/-- what a law draws from -/
structure Dr where
  turn : Int
  left : Int
  cells : List Int
  ne : cells ≠ []
def Dr.ds (D : Dr) : List PyData := [.int D.turn, .int D.left, .list (D.cells.map .int)]
def Dr.cell (D : Dr) : Int := (atI D.cells (D.turn % D.cells.length)).getD 0
def Dr.lf (D : Dr) (n : Int) : Int := if D.left < n then (if D.turn < D.cells.length ∧ 1000000000000000000 ≤ D.cell then D.cell else mixed D.cell D.turn) else D.left
def Dr.r (D : Dr) (n : Int) : Int := D.lf n % n
def Dr.nx (D : Dr) (n : Int) : Dr := ⟨if D.left < n then D.turn + 1 else D.turn, D.lf n / n, D.cells, D.ne⟩
theorem atI_map {α β : Type} (f : α → β) (xs : List α) (i : Int) : atI (xs.map f) i = (atI xs i).map f := by
  unfold atI
  rw [List.length_map]
  cases ixN xs.length i with
  | none => rfl
  | some j => simp
theorem atI_in {α : Type} {xs : List α} {i : Int} (h0 : 0 ≤ i) (h1 : i < xs.length) : ∃ x, atI xs i = some x ∧ x ∈ xs := by
  unfold atI ixN
  rw [if_pos h0, if_pos h1]
  have : i.toNat < xs.length := by omega
  exact ⟨xs[i.toNat], List.getElem?_eq_getElem this, List.getElem_mem this⟩
theorem Dr.len (D : Dr) : (0 : Int) < D.cells.length := by
  have := D.ne
  cases e : D.cells with
  | nil => exact (this e).elim
  | cons _ _ => rw [List.length_cons]; omega
theorem Dr.cell_at (D : Dr) : atI (D.cells.map PyData.int) (D.turn % D.cells.length) = some (.int D.cell) := by
  obtain ⟨x, e, _⟩ := atI_in (xs := D.cells) (Int.emod_nonneg _ (Int.ne_of_gt D.len)) (Int.emod_lt_of_pos D.turn D.len)
  unfold Dr.cell
  rw [atI_map, e]
  rfl
theorem draw_ok (D : Dr) {n : Int} (h0 : 0 < n) (hd : divOk n = true) : ∃ τ, m__law_draw [.lst true false D.ds, .fz (.int n)] = .ok (.fz (.int (D.r n))) τ ∧ cellAt τ 0 = some (.lst true false (D.nx n).ds) := by
  have hl := D.len
  have hc := D.cell_at
  have hm : pMod (.int D.turn) (.int D.cells.length) = some (.sc (.int (D.turn % D.cells.length))) := pMod_int hl
  by_cases h1 : D.left < n
  · by_cases h2 : D.turn < D.cells.length
    · by_cases h3 : 1000000000000000000 ≤ D.cell
      · simp [m__law_draw, runB_ev, frame0, b__law_draw, Dr.ds, h0, hd, D.ne, h1, h2, h3, hm, hc, Dr.r, Dr.nx, Dr.lf]
      · simp [m__law_draw, runB_ev, frame0, b__law_draw, Dr.ds, h0, hd, D.ne, h1, h2, h3, hm, hc, Dr.r, Dr.nx, Dr.lf]
    · simp [m__law_draw, runB_ev, frame0, b__law_draw, Dr.ds, h0, hd, D.ne, h1, h2, hm, hc, Dr.r, Dr.nx, Dr.lf]
  · simp [m__law_draw, runB_ev, frame0, b__law_draw, Dr.ds, h0, hd, D.ne, h1, hm, hc, Dr.r, Dr.nx, Dr.lf]
@[simp] theorem k__law_draw {D : Dr} {n : Int} {ls : List LR} (h : noObj τ ls = true) (hi : isL τ i D.ds) (h0 : 0 < n) (hd : divOk n = true) : kCs m__law_draw 2 (.sl i :: ls) τ (some [.lst true false D.ds, .fz (.int n)]) = .ok (.cl (.fz (.int (D.r n)))) (putDs i (D.nx n).ds τ) := kCs_one (draw_ok D h0 hd) hi h rfl
@[simp] theorem zYes_ev : zYes τ = .ok true τ := Eq.trans rfl rfl
@[simp] theorem blkF_ev {vs ss : List Nat} : blkF vs ss τ = wipeL vs 0 (lockL ss 0 τ) := by
  unfold blkF
  rw [wipeF_L, lockAll_L]
@[simp] theorem wipeL_nil {vs : List Nat} {k : Nat} : wipeL vs k [] = [] := Eq.trans rfl rfl
@[simp] theorem wipeL_cons {vs : List Nat} {k : Nat} {o : Option Cell} : wipeL vs k (o :: τ) = (if k ∈ vs then none else o) :: wipeL vs (k + 1) τ := Eq.trans rfl rfl
@[simp] theorem lockL_nil {vs : List Nat} {k : Nat} : lockL vs k [] = [] := Eq.trans rfl rfl
@[simp] theorem lockL_cons {vs : List Nat} {k : Nat} {o : Option Cell} : lockL vs k (o :: τ) = (if k ∈ vs then o.map (Cell.setLk true) else o) :: lockL vs (k + 1) τ := Eq.trans rfl rfl
@[simp] theorem wipeF_ev {vs : List Nat} : wipeF vs τ = wipeL vs 0 τ := wipeF_L
/-- the script's draws -/
def absZ (z : Int) : Int := if z < 0 then -z else z
def drOf (ns : List Int) : Dr := ⟨0, 0, (cutD ns none (some 63)).map absZ ++ [0], by simp⟩
def absD : PyData → Option PyData
  | .int z => some (.int (absZ z))
  | _ => none
theorem cutD_map {α β : Type} (f : α → β) (xs : List α) (lo hi : Option Int) : cutD (xs.map f) lo hi = (cutD xs lo hi).map f := by
  unfold cutD
  rw [List.length_map, List.map_take, List.map_drop]
theorem cutD_len {α : Type} (xs : List α) (lo hi : Option Int) : (cutD xs lo hi).length ≤ xs.length := by
  unfold cutD
  rw [List.length_take, List.length_drop]
  omega
theorem open_ok (ns : List Int) (h : ns.length ≤ 63) : ∃ τ, m__law_open [.scr ns] = .ok (.lst false false (drOf ns).ds) τ := by
  have hl := cutD_len ns none (some 63)
  have e : ∀ z : Int, (if z < 0 then -z else z) = absZ z := fun _ => rfl
  simp [m__law_open, runB_ev, frame0, b__law_open, Dr.ds]
  rw [kLc_pure absD (by
    intro d hd
    rw [cutD_map] at hd
    obtain ⟨z, _, rfl⟩ := List.mem_map.mp hd
    simp [ElOk, absD, e]) (by rw [cutD_map, List.length_map]; omega)]
  have e2 : (cutD (ns.map PyData.int) none (some 63)).filterMap absD = ((cutD ns none (some 63)).map absZ).map .int := by
    rw [cutD_map, List.filterMap_map, List.map_map]
    exact congrFun (List.filterMap_eq_map' (f := fun z => PyData.int (absZ z))) _
  have h3 : (cutD ns none (some 63)).length ≤ 16777215 := by omega
  simp [e2, drOf, pAdd, sizeLine_eq, h3]
@[simp] theorem k__law_open {ns : List Int} {ls : List LR} (h : noObj τ ls = true) (hl : ns.length ≤ 63) : kCs m__law_open 1 ls τ (some [.scr ns]) = .ok (.cl (.lst false false (drOf ns).ds)) τ := kCs_pure (open_ok ns hl) h rfl
end
end Z

/-! Z25: comparing data. -/
namespace Z
open PySem PySem.Spec PyProof.Rows L2
section
variable {τ τ1 τ2 : Fr} {d e : PyData} {x : Cell} {i j n : Nat} {ds es : List PyData}
/-- no dict, no str; at most k deep -/
def sh (k : Nat) (d : PyData) : Prop := d.canLay0 = true ∧ d.depth ≤ k
@[simp] theorem sh_int {k : Nat} {z : Int} : sh k (.int z) := ⟨by simp [PyData.canLay0], by simp [PyData.depth]⟩
@[simp] theorem sh_none {k : Nat} : sh k .none := ⟨by simp [PyData.canLay0], by simp [PyData.depth]⟩
@[simp] theorem sh_bool {k : Nat} {b : Bool} : sh k (.bool b) := ⟨by simp [PyData.canLay0], by simp [PyData.depth]⟩
theorem sh_all {k : Nat} : (PyData.canLayAll0 ds = true ∧ PyData.depthAll ds ≤ k) ↔ ∀ x ∈ ds, sh k x := by
  induction ds with
  | nil => simp [PyData.canLayAll0, PyData.depthAll]
  | cons d ds ih =>
    rw [List.forall_mem_cons, ← ih]
    simp only [PyData.canLayAll0, PyData.depthAll, Bool.and_eq_true, sh]
    rw [Nat.max_le]
    exact ⟨fun ⟨⟨a, b⟩, c, e⟩ => ⟨⟨a, c⟩, b, e⟩, fun ⟨⟨a, c⟩, b, e⟩ => ⟨⟨a, b⟩, c, e⟩⟩
@[simp] theorem sh_list {k : Nat} : sh (k + 1) (.list ds) ↔ ∀ x ∈ ds, sh k x := by
  rw [← sh_all]
  simp [sh, PyData.canLay0, PyData.depth]
@[simp] theorem sh_tuple {k : Nat} : sh (k + 1) (.tuple ds) ↔ ∀ x ∈ ds, sh k x := by
  rw [← sh_all]
  simp [sh, PyData.canLay0, PyData.depth]
theorem sh.shaped {k : Nat} (h : sh k d) (hk : k ≤ 64) : SeqAt.shaped d = true := by
  unfold SeqAt.shaped
  rw [h.1, decide_eq_true (Nat.le_trans h.2 hk)]
  rfl
theorem sh.mono {k k' : Nat} (h : sh k d) (hk : k ≤ k') : sh k' d := ⟨h.1, Nat.le_trans h.2 hk⟩
theorem pEq_sh {k k' : Nat} (h : sh k d) (h' : sh k' e) (hk : k ≤ 64 := by omega) (hk' : k' ≤ 64 := by omega) : pEq d e = some (.sc (.bool (PyData.eqv d e))) := by
  unfold pEq
  rw [h.shaped hk, h'.shaped hk']
  rfl
theorem pNe_sh {k k' : Nat} (h : sh k d) (h' : sh k' e) (hk : k ≤ 64 := by omega) (hk' : k' ≤ 64 := by omega) : pNe d e = some (.sc (.bool (!PyData.eqv d e))) := by
  unfold pNe
  rw [h.shaped hk, h'.shaped hk']
  rfl
@[simp] theorem eqv_int {a b : Int} : PyData.eqv (.int a) (.int b) = decide (a = b) := by
  simp only [PyData.eqv]
  by_cases h : a = b <;> simp [h]
@[simp] theorem pEq_int {a b : Int} : pEq (.int a) (.int b) = some (.sc (.bool (decide (a = b)))) := by
  rw [pEq_sh (sh_int (k := 0)) (sh_int (k := 0)), eqv_int]
@[simp] theorem pNe_int {a b : Int} : pNe (.int a) (.int b) = some (.sc (.bool (!decide (a = b)))) := by
  rw [pNe_sh (sh_int (k := 0)) (sh_int (k := 0)), eqv_int]
theorem pEq_nil {k : Nat} (h : sh k (.list ds)) (hk : k ≤ 64 := by omega) : pEq (.list ds) (.list []) = some (.sc (.bool ds.isEmpty)) := by
  rw [pEq_sh h (show sh 1 (.list []) by simp)]
  cases ds <;> simp [PyData.eqv, PyData.eqvAll]
theorem pNe_nil {k : Nat} (h : sh k (.list ds)) (hk : k ≤ 64 := by omega) : pNe (.list ds) (.list []) = some (.sc (.bool (!ds.isEmpty))) := by
  rw [pNe_sh h (show sh 1 (.list []) by simp)]
  cases ds <;> simp [PyData.eqv, PyData.eqvAll]
theorem pEq_tnil {k : Nat} (h : sh k (.tuple ds)) (hk : k ≤ 64 := by omega) : pEq (.tuple ds) (.tuple []) = some (.sc (.bool ds.isEmpty)) := by
  rw [pEq_sh h (show sh 1 (.tuple []) by simp)]
  cases ds <;> simp [PyData.eqv, PyData.eqvAll]
theorem pNe_tnil {k : Nat} (h : sh k (.tuple ds)) (hk : k ≤ 64 := by omega) : pNe (.tuple ds) (.tuple []) = some (.sc (.bool (!ds.isEmpty))) := by
  rw [pNe_sh h (show sh 1 (.tuple []) by simp)]
  cases ds <;> simp [PyData.eqv, PyData.eqvAll]
theorem pNe_self {k : Nat} (h : sh k d) (hk : k ≤ 64 := by omega) : pNe d d = some (.sc (.bool false)) := by
  rw [pNe_sh h h, PySem.SeqAt.eqv_refl d h.1]
  rfl
theorem pEq_self {k : Nat} (h : sh k d) (hk : k ≤ 64 := by omega) : pEq d d = some (.sc (.bool true)) := by
  rw [pEq_sh h h, PySem.SeqAt.eqv_refl d h.1]
/-! all, any -/
theorem qB_all {f : PyData → Bool} : qB true (fun d => some (f d)) ds = ds.all f := by
  induction ds with
  | nil => rfl
  | cons d ds ih =>
    simp only [qB, ih, List.all_cons]
    cases f d <;> simp
theorem qB_any {f : PyData → Bool} : qB false (fun d => some (f d)) ds = ds.any f := by
  induction ds with
  | nil => rfl
  | cons d ds ih =>
    simp only [qB, ih, List.any_cons]
    cases f d <;> simp
/-- all, any over elements that are what f says -/
theorem kQ_all {vs : List Nat} {g : ZGD} {te : ZD} {r : List PyData × List Nat} (f : PyData → Bool) (h : ∀ d ∈ r.1, ∃ τ1, g d (blkF vs r.2 τ) = some τ1 ∧ ∃ τ3, zF te τ1 = .ok (.cl (.fz (.bool (f d)))) τ3 ∧ wipeF vs τ3 = blkF vs r.2 τ) : kQ true vs g zYes te r τ = .ok (.cl (.fz (.bool (r.1.all f)))) τ := by
  rw [kQ_pure (fun d => some (f d)) fun d hd => .inr ?_, qB_all]
  obtain ⟨τ1, h1, τ3, h3, w⟩ := h d hd
  exact ⟨f d, .bool (f d), rfl, rfl, τ1, h1, τ1, τ3, rfl, h3, w⟩
theorem kQ_any {vs : List Nat} {g : ZGD} {te : ZD} {r : List PyData × List Nat} (f : PyData → Bool) (h : ∀ d ∈ r.1, ∃ τ1, g d (blkF vs r.2 τ) = some τ1 ∧ ∃ τ3, zF te τ1 = .ok (.cl (.fz (.bool (f d)))) τ3 ∧ wipeF vs τ3 = blkF vs r.2 τ) : kQ false vs g zYes te r τ = .ok (.cl (.fz (.bool (r.1.any f)))) τ := by
  rw [kQ_pure (fun d => some (f d)) fun d hd => .inr ?_, qB_any]
  obtain ⟨τ1, h1, τ3, h3, w⟩ := h d hd
  exact ⟨f d, .bool (f d), rfl, rfl, τ1, h1, τ1, τ3, rfl, h3, w⟩
/-! loops -/
@[simp] theorem turnOk_nx {P : Fr → Prop} {R : Res Fl → Prop} : TurnOk P R (.ok .nx τ) = P τ := Eq.trans rfl rfl
@[simp] theorem turnOk_ct {P : Fr → Prop} {R : Res Fl → Prop} : TurnOk P R (.ok .ct τ) = P τ := Eq.trans rfl rfl
@[simp] theorem turnOk_bk {P : Fr → Prop} {R : Res Fl → Prop} : TurnOk P R (.ok .bk τ) = R (.ok .nx τ) := Eq.trans rfl rfl
@[simp] theorem turnOk_rt {P : Fr → Prop} {R : Res Fl → Prop} : TurnOk P R (.ok (.rt x) τ) = R (.ok (.rt x) τ) := Eq.trans rfl rfl
theorem drop_cons {α : Type} {xs ds : List α} {d : α} {n : Nat} (e : d :: ds = xs.drop n) : xs[n]? = some d ∧ ds = xs.drop (n + 1) := by
  have h1 := congrArg List.head? e
  have h2 := congrArg List.tail e
  rw [List.head?_drop] at h1
  rw [List.tail_drop] at h2
  exact ⟨h1.symm, h2⟩
theorem cutD_to {α : Type} {xs : List α} {n : Nat} : cutD xs none (some (n : Int)) = xs.take n := by
  unfold cutD
  rw [HT.sIx_none, HT.sIx_nat, List.drop_zero, Nat.sub_zero]
  rw [← List.take_eq_take_min]
theorem cutD_from {α : Type} {xs : List α} {n : Nat} : cutD xs (some (n : Int)) none = xs.drop n := by
  unfold cutD
  rw [HT.sIx_none, HT.sIx_nat]
  by_cases h : n ≤ xs.length
  · rw [Nat.min_eq_left h, List.take_of_length_le (by rw [List.length_drop]; omega)]
  · rw [Nat.min_eq_right (by omega), Nat.sub_self, List.take_zero, List.drop_eq_nil_of_le (by omega)]
@[simp] theorem all_true {α : Type} {xs : List α} : (xs.all fun _ => true) = true := by simp
@[simp] theorem any_false {α : Type} {xs : List α} : (xs.any fun _ => false) = false := by simp
theorem Dr.r_ge (D : Dr) {n : Int} (h : 0 < n) : 0 ≤ D.r n := Int.emod_nonneg _ (Int.ne_of_gt h)
theorem Dr.r_lt (D : Dr) {n : Int} (h : 0 < n) : D.r n < n := Int.emod_lt_of_pos _ h
theorem divOk_small {n : Int} (h : 0 < n) (h2 : n < 1073741824) : divOk n = true := by
  unfold divOk
  rw [decide_eq_true h, decide_eq_true h2]
  rfl
/-- a comprehension with a test -/
theorem kLc_if {vs : List Nat} {g : ZGD} {tt : ZTD} {te : ZD} {r : List PyData × List Nat} (p : PyData → Bool) (v : PyData → PyData) (h : ∀ d ∈ r.1, ElOk vs g tt te (blkF vs r.2 τ) d (if p d then some (v d) else none)) (hl : r.1.length ≤ 16777216) : kLc vs g tt te r τ = .ok (.cl (.lst false false ((r.1.filter p).map v))) τ := by
  rw [kLc_pure _ h hl]
  have : ∀ xs : List PyData, xs.filterMap (fun d => if p d then some (v d) else none) = (xs.filter p).map v := by
    intro xs
    induction xs with
    | nil => rfl
    | cons x xs ih =>
      by_cases hp : p x = true
      · rw [List.filterMap_cons_some (by rw [if_pos hp]), List.filter_cons_of_pos hp, ih]; rfl
      · rw [List.filterMap_cons_none (by rw [if_neg hp]), List.filter_cons_of_neg hp, ih]
  rw [this]
theorem rngI_1 {z : Int} (h : okR z = true) : rngI [z] = some (rngL 0 z.toNat) := if_pos h
theorem okR_small {z : Int} (h0 : 0 ≤ z) (h : z < 4611686018427387904) : okR z = true := by
  unfold okR
  rw [decide_eq_true (by omega), decide_eq_true (by omega)]
  rfl
@[simp] theorem rngL_len {z : Int} {n : Nat} : (rngL z n).length = n := by unfold rngL; simp
theorem turns_nx {g : ZGD} {p : ZSD} (P : List PyData → Fr → Prop)
    (hs : ∀ d ds τ, P (d :: ds) τ → ∃ τ1, g d τ = some τ1 ∧ TurnOk (P ds) (fun _ => False) (p τ1)) {ds : List PyData} (h : P ds τ) : ∃ τ', zTurns g p ds τ = .ok .nx τ' ∧ P [] τ' := by
  refine turns_inv P (fun r => ∃ τ', r = .ok .nx τ' ∧ P [] τ') (fun τ h => ⟨τ, rfl, h⟩) (fun d ds τ h => ?_) h
  obtain ⟨τ1, e, h1⟩ := hs d ds τ h
  refine ⟨τ1, e, ?_⟩
  revert h1
  generalize p τ1 = r
  intro h1
  match r, h1 with
  | .ok .nx _, h1 => exact h1
  | .ok .ct _, h1 => exact h1
theorem turns_rt {g : ZGD} {p : ZSD} (P : List PyData → Fr → Prop) (T : Cell → Fr → Prop)
    (hs : ∀ d ds τ, P (d :: ds) τ → ∃ τ1, g d τ = some τ1 ∧ TurnOk (P ds) (fun r => ∃ c τ', r = .ok (.rt c) τ' ∧ T c τ') (p τ1)) {ds : List PyData} (h : P ds τ) : (∃ τ', zTurns g p ds τ = .ok .nx τ' ∧ P [] τ') ∨ ∃ c τ', zTurns g p ds τ = .ok (.rt c) τ' ∧ T c τ' := by
  refine turns_inv P (fun r => (∃ τ', r = .ok .nx τ' ∧ P [] τ') ∨ ∃ c τ', r = .ok (.rt c) τ' ∧ T c τ') (fun τ h => .inl ⟨τ, rfl, h⟩) (fun d ds τ h => ?_) h
  obtain ⟨τ1, e, h1⟩ := hs d ds τ h
  refine ⟨τ1, e, ?_⟩
  revert h1
  generalize p τ1 = r
  intro h1
  match r, h1 with
  | .ok .nx _, h1 => exact h1
  | .ok .ct _, h1 => exact h1
  | .ok .bk _, ⟨_, _, e, _⟩ => cases e
  | .ok (.rt c) _, h1 => exact .inr h1
  | .exc _ _, ⟨_, _, e, _⟩ => cases e
@[simp] theorem divOk_1 : divOk 1 = true := divOk_small (by decide) (by decide)
@[simp] theorem divOk_2 : divOk 2 = true := divOk_small (by decide) (by decide)
@[simp] theorem divOk_3 : divOk 3 = true := divOk_small (by decide) (by decide)
@[simp] theorem divOk_4 : divOk 4 = true := divOk_small (by decide) (by decide)
@[simp] theorem divOk_5 : divOk 5 = true := divOk_small (by decide) (by decide)
@[simp] theorem divOk_6 : divOk 6 = true := divOk_small (by decide) (by decide)
@[simp] theorem divOk_7 : divOk 7 = true := divOk_small (by decide) (by decide)
@[simp] theorem divOk_8 : divOk 8 = true := divOk_small (by decide) (by decide)
@[simp] theorem divOk_9 : divOk 9 = true := divOk_small (by decide) (by decide)
@[simp] theorem divOk_10 : divOk 10 = true := divOk_small (by decide) (by decide)
@[simp] theorem divOk_11 : divOk 11 = true := divOk_small (by decide) (by decide)
@[simp] theorem divOk_12 : divOk 12 = true := divOk_small (by decide) (by decide)
@[simp] theorem divOk_13 : divOk 13 = true := divOk_small (by decide) (by decide)
@[simp] theorem divOk_14 : divOk 14 = true := divOk_small (by decide) (by decide)
@[simp] theorem divOk_15 : divOk 15 = true := divOk_small (by decide) (by decide)
@[simp] theorem divOk_16 : divOk 16 = true := divOk_small (by decide) (by decide)
@[simp] theorem divOk_17 : divOk 17 = true := divOk_small (by decide) (by decide)
@[simp] theorem divOk_18 : divOk 18 = true := divOk_small (by decide) (by decide)
@[simp] theorem divOk_19 : divOk 19 = true := divOk_small (by decide) (by decide)
@[simp] theorem divOk_20 : divOk 20 = true := divOk_small (by decide) (by decide)
@[simp] theorem divOk_21 : divOk 21 = true := divOk_small (by decide) (by decide)
@[simp] theorem divOk_22 : divOk 22 = true := divOk_small (by decide) (by decide)
@[simp] theorem divOk_23 : divOk 23 = true := divOk_small (by decide) (by decide)
@[simp] theorem divOk_24 : divOk 24 = true := divOk_small (by decide) (by decide)
@[simp] theorem divOk_25 : divOk 25 = true := divOk_small (by decide) (by decide)
@[simp] theorem divOk_26 : divOk 26 = true := divOk_small (by decide) (by decide)
@[simp] theorem divOk_27 : divOk 27 = true := divOk_small (by decide) (by decide)
@[simp] theorem divOk_28 : divOk 28 = true := divOk_small (by decide) (by decide)
@[simp] theorem divOk_29 : divOk 29 = true := divOk_small (by decide) (by decide)
@[simp] theorem divOk_30 : divOk 30 = true := divOk_small (by decide) (by decide)
@[simp] theorem divOk_31 : divOk 31 = true := divOk_small (by decide) (by decide)
@[simp] theorem divOk_32 : divOk 32 = true := divOk_small (by decide) (by decide)
@[simp] theorem divOk_33 : divOk 33 = true := divOk_small (by decide) (by decide)
@[simp] theorem divOk_34 : divOk 34 = true := divOk_small (by decide) (by decide)
@[simp] theorem divOk_35 : divOk 35 = true := divOk_small (by decide) (by decide)
@[simp] theorem divOk_36 : divOk 36 = true := divOk_small (by decide) (by decide)
@[simp] theorem divOk_37 : divOk 37 = true := divOk_small (by decide) (by decide)
@[simp] theorem divOk_38 : divOk 38 = true := divOk_small (by decide) (by decide)
@[simp] theorem divOk_39 : divOk 39 = true := divOk_small (by decide) (by decide)
@[simp] theorem divOk_40 : divOk 40 = true := divOk_small (by decide) (by decide)
@[simp] theorem divOk_41 : divOk 41 = true := divOk_small (by decide) (by decide)
@[simp] theorem divOk_42 : divOk 42 = true := divOk_small (by decide) (by decide)
@[simp] theorem divOk_43 : divOk 43 = true := divOk_small (by decide) (by decide)
@[simp] theorem divOk_44 : divOk 44 = true := divOk_small (by decide) (by decide)
@[simp] theorem divOk_45 : divOk 45 = true := divOk_small (by decide) (by decide)
@[simp] theorem divOk_46 : divOk 46 = true := divOk_small (by decide) (by decide)
@[simp] theorem divOk_47 : divOk 47 = true := divOk_small (by decide) (by decide)
@[simp] theorem divOk_48 : divOk 48 = true := divOk_small (by decide) (by decide)
@[simp] theorem divOk_49 : divOk 49 = true := divOk_small (by decide) (by decide)
@[simp] theorem divOk_50 : divOk 50 = true := divOk_small (by decide) (by decide)
@[simp] theorem divOk_51 : divOk 51 = true := divOk_small (by decide) (by decide)
@[simp] theorem divOk_52 : divOk 52 = true := divOk_small (by decide) (by decide)
@[simp] theorem divOk_53 : divOk 53 = true := divOk_small (by decide) (by decide)
@[simp] theorem divOk_54 : divOk 54 = true := divOk_small (by decide) (by decide)
@[simp] theorem divOk_55 : divOk 55 = true := divOk_small (by decide) (by decide)
@[simp] theorem divOk_56 : divOk 56 = true := divOk_small (by decide) (by decide)
@[simp] theorem divOk_57 : divOk 57 = true := divOk_small (by decide) (by decide)
@[simp] theorem divOk_58 : divOk 58 = true := divOk_small (by decide) (by decide)
@[simp] theorem divOk_59 : divOk 59 = true := divOk_small (by decide) (by decide)
@[simp] theorem divOk_60 : divOk 60 = true := divOk_small (by decide) (by decide)
@[simp] theorem divOk_61 : divOk 61 = true := divOk_small (by decide) (by decide)
@[simp] theorem divOk_62 : divOk 62 = true := divOk_small (by decide) (by decide)
@[simp] theorem divOk_63 : divOk 63 = true := divOk_small (by decide) (by decide)
@[simp] theorem divOk_64 : divOk 64 = true := divOk_small (by decide) (by decide)
@[simp] theorem divOk_80 : divOk 80 = true := divOk_small (by decide) (by decide)
@[simp] theorem divOk_97 : divOk 97 = true := divOk_small (by decide) (by decide)
@[simp] theorem divOk_100 : divOk 100 = true := divOk_small (by decide) (by decide)
@[simp] theorem divOk_101 : divOk 101 = true := divOk_small (by decide) (by decide)
@[simp] theorem divOk_128 : divOk 128 = true := divOk_small (by decide) (by decide)
@[simp] theorem divOk_200 : divOk 200 = true := divOk_small (by decide) (by decide)
@[simp] theorem divOk_201 : divOk 201 = true := divOk_small (by decide) (by decide)
@[simp] theorem divOk_255 : divOk 255 = true := divOk_small (by decide) (by decide)
@[simp] theorem divOk_256 : divOk 256 = true := divOk_small (by decide) (by decide)
@[simp] theorem divOk_300 : divOk 300 = true := divOk_small (by decide) (by decide)
@[simp] theorem divOk_301 : divOk 301 = true := divOk_small (by decide) (by decide)
@[simp] theorem divOk_365 : divOk 365 = true := divOk_small (by decide) (by decide)
@[simp] theorem divOk_400 : divOk 400 = true := divOk_small (by decide) (by decide)
@[simp] theorem divOk_500 : divOk 500 = true := divOk_small (by decide) (by decide)
@[simp] theorem divOk_512 : divOk 512 = true := divOk_small (by decide) (by decide)
@[simp] theorem divOk_1000 : divOk 1000 = true := divOk_small (by decide) (by decide)
@[simp] theorem divOk_1001 : divOk 1001 = true := divOk_small (by decide) (by decide)
@[simp] theorem divOk_1024 : divOk 1024 = true := divOk_small (by decide) (by decide)
end
end Z

/-! Z26: list(range), tuple(range), list(reversed), x[::-1]. -/
namespace PySem
open RT
section
variable {prog : Program} {w : World} {A : Around} {E : Value → Shared → Prop} {s : Shared}
theorem wpAny_extend_rev {R : Result → Shared → Prop} {it l : Addr} {items : Array Value} (hh : A.handled = none) (hit : s.heap.IsRevIter it l ((items.size : Int) - 1)) (hl : s.heap.IsList l items) (hne : l ≠ it) (hn : items.size ≤ sizeLine)
    (S : Addr) (res : Value) (c₀ : Nat) (hSi : S ≠ it) (hSl : S ≠ l) (hS : s.heap.get? S = some { cls := .type "list", data := .seq #[] c₀ })
    (hR : ∀ h' tk acc' c', (∀ b o, b ≠ S → b ≠ it → s.heap.get? b = some o → h'.get? b = some o) → h'.get? S = some { cls := .type "list", dict := none, data := .seq acc' c', slots := #[] } →
      ItemsOf (fun i v => items[items.size - 1 - i]? = some v) acc' items.size → R (.ok (.ret res)) { s with heap := h', toks := tk }) :
    wpAny (model prog w) A.in1 (Builtin.List.listExtendWith (.ref S) (.ref it) res)
      (fun fin s' => match fin with | .done f => R (.ok f) s' | .again c' => c'.quiet = true ∧ codeAny (model prog w) A c' R s') (fun e s' => R (.error e) s') s := by
  have W := (Walks.listRev (prog := prog) (w := w) (A := A.in1) hh it l hne items).toS
  have hSf : S ∉ [it, l] := by simp only [List.mem_cons, List.not_mem_nil, or_false, not_or]; exact ⟨hSi, hSl⟩
  have hT : s.TypeIs (.ref it) "list_reverseiterator" := hit.typeIs
  have h1 : Builtin.List.listSameRef (.ref S) (.ref it) = false := by simp [Builtin.List.listSameRef, hSi]
  unfold Builtin.List.listExtendWith
  refine wpAny_bind (wpAny_typeOf hT ?_)
  rw [if_neg (by rw [h1]; decide)]
  refine wpAny_bind (wpAny_pyIter_revIter hit ?_)
  refine wpAny_bind (wpAny_holding ?_)
  unfold Builtin.List.listLengthHint
  refine wpAny_bind (wpAny_specialOf hT nolen_lri ?_)
  show wpAny _ A.in1 (specialOf (Value.ref it) (Str.ofString "__length_hint__") >>= _) _ _ _
  refine wpAny_bind (wpAny_specialOf hT hint_lri ?_)
  generalize hid : ("list_reverseiterator.__length_hint__" : String) = id0
  wp_delta
  rw [show splitId id0 = some ("list_reverseiterator", "__length_hint__") from by subst hid; decide +kernel]
  subst hid
  refine wpAny_bind (wpAny_isInstance (b := true) hT (by rw [isSubtype_type]; kernel_rfl) ?_)
  refine wpAny_pure ?_
  rw [if_neg (by decide)]
  have e0 : ((items.size : Nat) : Int) - 1 - ((0 : Nat) : Int) = (items.size : Int) - 1 := by omega
  refine wpAny_pure ⟨plainId_quiet F.plain_extend_loop _, codeAny_extend_loopS W hn _ hSf _ items.size 0 _ _ _ rfl (Nat.zero_le _) ⟨Nat.zero_le _, by rw [e0]; exact hit, hl⟩ hS (ItemsOf.nil _) fun s' acc' c' hm hS' hacc => ?_⟩
  rw [Moved.eq_with hm]
  refine hR s'.heap s'.toks acc' c' (fun b o hb hb2 e => hm.heap b o (fun hmem => ?_) e) hS' hacc
  rcases List.mem_cons.mp hmem with e' | hmem
  · exact hb e'
  · exact hb2 (List.mem_singleton.mp hmem)
theorem call_list_rev {Q : Value → Shared → Prop} {it l : Addr} {items : Array Value} (hh : A.handled = none) (hit : s.heap.IsRevIter it l ((items.size : Int) - 1)) (hl : s.heap.IsList l items) (hne : l ≠ it) (hn : items.size ≤ sizeLine)
    (hQ : ∀ h' tk acc' c', (∀ b o, b ≠ it → s.heap.get? b = some o → h'.get? b = some o) →
      h'.get? s.heap.objs.size = some { cls := .type "list", dict := none, data := .seq acc' c', slots := #[] } → ItemsOf (fun i v => items[items.size - 1 - i]? = some v) acc' items.size → Q (.ref s.heap.objs.size) { s with heap := h', toks := tk }) :
    wpAny (model prog w) A (call (.type "list") [.ref it]) Q E s := by
  obtain ⟨oi, hoi, _⟩ := id hit
  obtain ⟨ol, hol, _⟩ := id hl
  have hSi : s.heap.objs.size ≠ it := Nat.ne_of_gt (Heap.lt_size hoi)
  have hSl : s.heap.objs.size ≠ l := Nat.ne_of_gt (Heap.lt_size hol)
  refine callType_codes (Q₁ := fun obj s₁ => obj = .ref s.heap.objs.size ∧ s₁ = { s with heap := s.heap.push { cls := .type "list", data := .seq #[] } }) F.called_list (F.typeCall_list_1 _) F.entry_list_init
    (code_list_new _ ⟨rfl, rfl⟩) fun obj s₁ h₁ => ?_
  obtain ⟨rfl, rfl⟩ := h₁
  have hS : (s.heap.push { cls := .type "list", data := .seq #[] }).get? s.heap.objs.size = some { cls := .type "list", data := .seq #[] } := Heap.get?_push_size _ rfl
  refine ⟨⟨_, hS, rfl⟩, F.args_list_init_2 _ _, ?_⟩
  show wpAny _ _ (do let old ← Builtin.List.listItems (.ref s.heap.objs.size); Builtin.List.listUpdate (.ref s.heap.objs.size) (fun _ => #[]); letGo old.toList.reverse; Builtin.List.listExtendWith (.ref s.heap.objs.size) (.ref it) .none) _ _ _
  refine wpAny_bind ?_
  unfold Builtin.List.listItems
  refine wpAny_bind (wpAny_seqItems hS rfl (wpAny_pure ?_))
  show wpAny _ _ (updateSeq s.heap.objs.size (fun _ => #[]) >>= fun _ => letGo (#[] : Array Value).toList.reverse >>= fun _ => Builtin.List.listExtendWith (.ref s.heap.objs.size) (.ref it) .none) _ _ _
  refine wpAny_bind (wpAny_updateSeq hS rfl ?_)
  have hS₂ := Heap.get?_update_self (Obj.mapSeq (fun _ => (#[] : Array Value))) hS rfl
  have oth : ∀ b o, b ≠ s.heap.objs.size → s.heap.get? b = some o → ((s.heap.push { cls := .type "list", data := .seq #[] }).update s.heap.objs.size (Obj.mapSeq (fun _ => (#[] : Array Value)))).get? b = some o :=
    fun b o hb e => (Heap.get?_update_other _ _ (Ne.symm hb)).trans (Heap.get?_push_of_some _ e)
  refine wpAny_bind (wpAny_letGo ?_)
  refine wpAny_extend_rev (A := A.in1) hh (hit.at fun o e => oth _ o (Ne.symm hSi) e) ⟨ol, oth _ _ (Ne.symm hSl) hol, ‹_›⟩ hne hn _ _ _ hSi hSl hS₂ fun h' tk acc' c' hk hS' hacc => ?_
  exact ⟨rfl, hQ h' tk acc' c' (fun b o hb e => hk b o (Nat.ne_of_lt (Heap.lt_size e)) hb (oth b o (Nat.ne_of_lt (Heap.lt_size e)) e)) hS' hacc⟩
end
end PySem

/-! Z27: comprehensions, loops and comparisons over lists of typed things. -/
namespace Z
open PySem PySem.Spec PyProof.Rows L2
section
variable {α β S : Type} {τ τ1 τ2 : Fr} {vs : List Nat} {g : ZGD} {tt : ZTD} {te : ZD} {r : List PyData × List Nat} {p : ZSD}
/-! ### comprehensions -/
theorem lcTurns_ty {enc v : α → PyData} {q : α → Bool} {xs : List α} {acc : List PyData}
    (h : ∀ x ∈ xs, ∃ τ1, g (enc x) τ = some τ1 ∧ ∃ τ2, tt τ1 = .ok (q x) τ2 ∧ (q x = true → ∃ τ3, zF te τ2 = .ok (.cl (.fz (v x))) τ3 ∧ wipeF vs τ3 = τ) ∧ (q x = false → wipeF vs τ2 = τ)) (hl : acc.length + xs.length ≤ 16777216) :
    lcTurns vs g tt te (xs.map enc) τ acc = .ok (acc ++ (xs.filter q).map v) τ := by
  induction xs generalizing acc with
  | nil => simp [lcTurns]
  | cons x xs ih =>
    have ih2 := fun acc hl => ih (acc := acc) (fun d hd => h d (List.mem_cons_of_mem _ hd)) hl
    obtain ⟨τ1, e1, τ2, e2, h1, h2⟩ := h x List.mem_cons_self
    rw [List.length_cons] at hl
    rw [List.map_cons]
    unfold lcTurns
    rw [e1]
    dsimp only
    rw [e2]
    cases hq : q x with
    | false =>
      dsimp only
      rw [h2 hq, ih2 acc (by omega), List.filter_cons_of_neg (by rw [hq]; exact Bool.false_ne_true)]
    | true =>
      dsimp only
      obtain ⟨τ3, e3, w⟩ := h1 hq
      rw [e3]
      dsimp only
      rw [if_pos (by rw [sizeLine_eq]; omega), w, ih2 _ (by rw [List.length_append]; simp; omega), List.filter_cons_of_pos hq, List.append_assoc]
      rfl
/-- a comprehension with a test -/
theorem kLc_ty (xs : List α) (enc : α → PyData) (q : α → Bool) (v : α → PyData) (hr : r.1 = xs.map enc)
    (h : ∀ x ∈ xs, ∃ τ1, g (enc x) (blkF vs r.2 τ) = some τ1 ∧ ∃ τ2, tt τ1 = .ok (q x) τ2 ∧ (q x = true → ∃ τ3, zF te τ2 = .ok (.cl (.fz (v x))) τ3 ∧ wipeF vs τ3 = blkF vs r.2 τ) ∧ (q x = false → wipeF vs τ2 = blkF vs r.2 τ)) (hl : xs.length ≤ 16777216) :
    kLc vs g tt te r τ = .ok (.cl (.lst false false ((xs.filter q).map v))) τ := by
  unfold kLc
  show (match lcTurns vs g tt te r.1 (blkF vs r.2 τ) [] with | .ok acc τ2 => Res.ok (LR.cl (.lst false false acc)) (restF vs τ (unlock τ r.2 τ2)) | _ => .stuck) = _
  rw [hr, lcTurns_ty h (by simpa using hl)]
  show Res.ok _ (restF vs τ (unlock τ r.2 (wipeF vs (lockAll r.2 τ)))) = _
  rw [block_same]
  rfl
/-- .. without -/
theorem kLc_map (xs : List α) (enc : α → PyData) (v : α → PyData) (hr : r.1 = xs.map enc)
    (h : ∀ x ∈ xs, ∃ τ1, g (enc x) (blkF vs r.2 τ) = some τ1 ∧ ∃ τ3, zF te τ1 = .ok (.cl (.fz (v x))) τ3 ∧ wipeF vs τ3 = blkF vs r.2 τ) (hl : xs.length ≤ 16777216) :
    kLc vs g zYes te r τ = .ok (.cl (.lst false false (xs.map v))) τ := by
  rw [kLc_ty xs enc (fun _ => true) v hr (fun x hx => by
    obtain ⟨τ1, e1, τ3, e3, w⟩ := h x hx
    exact ⟨τ1, e1, τ1, rfl, fun _ => ⟨τ3, e3, w⟩, fun h => by cases h⟩) hl, List.filter_eq_self.mpr (fun _ _ => rfl)]
theorem qT_ty {q : Bool} {enc : α → PyData} {t f : α → Bool} {xs : List α}
    (h : ∀ x ∈ xs, ∃ τ1, g (enc x) τ = some τ1 ∧ ∃ τ2, tt τ1 = .ok (t x) τ2 ∧ (t x = true → ∃ τ3, zF te τ2 = .ok (.cl (.fz (.bool (f x)))) τ3 ∧ wipeF vs τ3 = τ) ∧ (t x = false → wipeF vs τ2 = τ)) :
    qT q vs g tt te (xs.map enc) τ = .ok (if q = true then (xs.filter t).all f else (xs.filter t).any f) τ := by
  induction xs with
  | nil => cases q <;> rfl
  | cons x xs ih =>
    have ih2 := ih fun d hd => h d (List.mem_cons_of_mem _ hd)
    obtain ⟨τ1, e1, τ2, e2, h1, h2⟩ := h x List.mem_cons_self
    rw [List.map_cons]
    unfold qT
    cases hq : t x with
    | false =>
      rw [gxTurn_pure (r := none) ⟨τ1, e1, τ2, by rw [e2, hq], h2 hq⟩]
      dsimp only
      rw [ih2, List.filter_cons_of_neg (by rw [hq]; exact Bool.false_ne_true)]
    | true =>
      obtain ⟨τ3, e3, w⟩ := h1 hq
      rw [gxTurn_pure (r := some (.bool (f x))) ⟨τ1, e1, τ2, τ3, by rw [e2, hq], e3, w⟩]
      dsimp only [truD_bool]
      rw [List.filter_cons_of_pos hq, ih2, List.all_cons, List.any_cons]
      cases q <;> cases f x <;> rfl
theorem kQ_tyG {q : Bool} (xs : List α) (enc : α → PyData) (t f : α → Bool) (hr : r.1 = xs.map enc)
    (h : ∀ x ∈ xs, ∃ τ1, g (enc x) (blkF vs r.2 τ) = some τ1 ∧ ∃ τ2, tt τ1 = .ok (t x) τ2 ∧ (t x = true → ∃ τ3, zF te τ2 = .ok (.cl (.fz (.bool (f x)))) τ3 ∧ wipeF vs τ3 = blkF vs r.2 τ) ∧ (t x = false → wipeF vs τ2 = blkF vs r.2 τ)) :
    kQ q vs g tt te r τ = .ok (.cl (.fz (.bool (if q = true then (xs.filter t).all f else (xs.filter t).any f)))) τ := by
  unfold kQ
  show (match qT q vs g tt te r.1 (blkF vs r.2 τ) with | .ok b τ2 => Res.ok (LR.cl (.fz (.bool b))) (restF vs τ (unlock τ r.2 τ2)) | _ => .stuck) = _
  rw [hr, qT_ty h]
  show Res.ok _ (restF vs τ (unlock τ r.2 (wipeF vs (lockAll r.2 τ)))) = _
  rw [block_same]
theorem kQ_allT (xs : List α) (enc : α → PyData) (f : α → Bool) (hr : r.1 = xs.map enc)
    (h : ∀ x ∈ xs, ∃ τ1, g (enc x) (blkF vs r.2 τ) = some τ1 ∧ ∃ τ3, zF te τ1 = .ok (.cl (.fz (.bool (f x)))) τ3 ∧ wipeF vs τ3 = blkF vs r.2 τ) :
    kQ true vs g zYes te r τ = .ok (.cl (.fz (.bool (xs.all f)))) τ := by
  rw [kQ_tyG xs enc (fun _ => true) f hr (fun x hx => by
    obtain ⟨τ1, e1, τ3, e3, w⟩ := h x hx
    exact ⟨τ1, e1, τ1, rfl, fun _ => ⟨τ3, e3, w⟩, fun h => by cases h⟩), List.filter_eq_self.mpr (fun _ _ => rfl)]
  rfl
theorem kQ_anyT (xs : List α) (enc : α → PyData) (f : α → Bool) (hr : r.1 = xs.map enc)
    (h : ∀ x ∈ xs, ∃ τ1, g (enc x) (blkF vs r.2 τ) = some τ1 ∧ ∃ τ3, zF te τ1 = .ok (.cl (.fz (.bool (f x)))) τ3 ∧ wipeF vs τ3 = blkF vs r.2 τ) :
    kQ false vs g zYes te r τ = .ok (.cl (.fz (.bool (xs.any f)))) τ := by
  rw [kQ_tyG xs enc (fun _ => true) f hr (fun x hx => by
    obtain ⟨τ1, e1, τ3, e3, w⟩ := h x hx
    exact ⟨τ1, e1, τ1, rfl, fun _ => ⟨τ3, e3, w⟩, fun h => by cases h⟩), List.filter_eq_self.mpr (fun _ _ => rfl)]
  rfl
/-! ### loops -/
theorem turns_tyR {enc : α → PyData} (P : List α → Fr → Prop) (R : Res Fl → Prop) (hn : ∀ τ, P [] τ → R (.ok .nx τ))
    (hs : ∀ x xs τ, P (x :: xs) τ → ∃ τ1, g (enc x) τ = some τ1 ∧ TurnOk (P xs) R (p τ1)) {xs : List α} (h : P xs τ) : R (zTurns g p (xs.map enc) τ) := by
  induction xs generalizing τ with
  | nil => exact hn τ h
  | cons x xs ih =>
    obtain ⟨τ1, e, h1⟩ := hs x xs τ h
    rw [List.map_cons]
    unfold zTurns
    rw [e]
    dsimp only
    revert h1
    generalize p τ1 = r
    intro h1
    match r, h1 with
    | .ok .nx _, h1 => exact ih h1
    | .ok .ct _, h1 => exact ih h1
    | .ok .bk _, h1 => exact h1
    | .ok (.rt c) _, h1 => exact h1
    | .exc _ _, h1 => exact h1
theorem turns_ty {enc : α → PyData} (P : List α → Fr → Prop)
    (hs : ∀ x xs τ, P (x :: xs) τ → ∃ τ1, g (enc x) τ = some τ1 ∧ TurnOk (P xs) (fun _ => False) (p τ1)) {xs : List α} (h : P xs τ) : ∃ τ', zTurns g p (xs.map enc) τ = .ok .nx τ' ∧ P [] τ' := by
  refine turns_tyR P (fun r => ∃ τ', r = .ok .nx τ' ∧ P [] τ') (fun τ h => ⟨τ, rfl, h⟩) (fun x xs τ h => ?_) h
  obtain ⟨τ1, e, h1⟩ := hs x xs τ h
  refine ⟨τ1, e, ?_⟩
  revert h1
  generalize p τ1 = r
  intro h1
  match r, h1 with
  | .ok .nx _, h1 => exact h1
  | .ok .ct _, h1 => exact h1
/-- a loop that folds a state -/
theorem turns_fold {enc : α → PyData} (F : S → Fr → Prop) (step : S → α → S) (xs : List α)
    (hs : ∀ x ∈ xs, ∀ s τ, F s τ → ∃ τ1, g (enc x) τ = some τ1 ∧ TurnOk (F (step s x)) (fun _ => False) (p τ1)) {s : S} (h : F s τ) : ∃ τ', zTurns g p (xs.map enc) τ = .ok .nx τ' ∧ F (xs.foldl step s) τ' := by
  obtain ⟨τ', e, _, h'⟩ := turns_ty (g := g) (p := p) (enc := enc) (τ := τ) (xs := xs) (fun ys τ => (∀ y ∈ ys, y ∈ xs) ∧ ∃ s', F s' τ ∧ ys.foldl step s' = xs.foldl step s) (by
    rintro x ys τ ⟨hm, s', hF, e⟩
    obtain ⟨τ1, e1, h1⟩ := hs x (hm x List.mem_cons_self) s' τ hF
    refine ⟨τ1, e1, ?_⟩
    revert h1
    generalize p τ1 = r
    intro h1
    match r, h1 with
    | .ok .nx _, h1 => exact ⟨fun y hy => hm y (List.mem_cons_of_mem _ hy), _, h1, e⟩
    | .ok .ct _, h1 => exact ⟨fun y hy => hm y (List.mem_cons_of_mem _ hy), _, h1, e⟩) ⟨fun _ h => h, s, h, rfl⟩
  obtain ⟨s', hF, e2⟩ := h'
  exact ⟨τ', e, by rw [← e2]; exact hF⟩
/-! ### statement by statement -/
/-- q, from τ on, gives c -/
def Gv (q : ZSD) (τ : Fr) (c : Cell) : Prop := ∃ τ', finB (q τ) = .ok c τ'
theorem Gv.run {n : Nat} {q : ZSD} {cs : List Cell} {c : Cell} (h : Gv q (frame0 n cs) c) : ∃ τ', runB n q cs = .ok c τ' := by
  obtain ⟨τ', h⟩ := h
  exact ⟨τ', by rw [runB_ev, h]⟩
theorem Gv.seq {q : ZSD} {c : Cell} (h : ∃ τ1, p τ = .ok .nx τ1 ∧ Gv q τ1 c) : Gv (zSeq p q) τ c := by
  obtain ⟨τ1, e, τ', h⟩ := h
  exact ⟨τ', by rw [zSeq_ev, e, kSeq_nx, h]⟩
theorem Gv.ret {c : Cell} (h : ∃ τ1, p τ = .ok (.rt c) τ1) : Gv p τ c := by
  obtain ⟨τ1, e⟩ := h
  exact ⟨τ1, by rw [e, finB_rt]⟩
/-- a turn's statements -/
def Go (q : ZSD) (τ : Fr) (R : Fr → Prop) : Prop := ∃ τ1, q τ = .ok .nx τ1 ∧ R τ1
theorem Go.seq {q : ZSD} {R : Fr → Prop} (h : ∃ τ1, p τ = .ok .nx τ1 ∧ Go q τ1 R) : Go (zSeq p q) τ R := by
  obtain ⟨τ1, e, τ2, e2, h⟩ := h
  exact ⟨τ2, by rw [zSeq_ev, e, kSeq_nx, e2], h⟩
theorem Go.one {R : Fr → Prop} (h : ∃ τ1, p τ = .ok .nx τ1 ∧ R τ1) : Go p τ R := h
theorem Go.turn {R : Fr → Prop} {E : Res Fl → Prop} (h : Go p τ R) : TurnOk R E (p τ) := by
  obtain ⟨τ1, e, h⟩ := h
  rw [e]
  exact h
theorem Go.turnS {q : ZSD} {R : Fr → Prop} {E : Res Fl → Prop} (h : ∃ τ1, p τ = .ok .nx τ1 ∧ Go q τ1 R) : TurnOk R E (zSeq p q τ) := Go.turn (Go.seq h)
/-- a for loop, as a statement -/
theorem for_ty {enc : α → PyData} (xs : List α) (P : List α → Fr → Prop) {it : ZID} {τi : Fr} (hi : it τ = .ok (xs.map enc, []) τi) (h : P xs τi)
    (hs : ∀ x xs τ, P (x :: xs) τ → ∃ τ1, g (enc x) τ = some τ1 ∧ TurnOk (P xs) (fun _ => False) (p τ1)) {R : Fr → Prop} (hR : ∀ τ', P [] τ' → R τ') : ∃ τ', zFor it g p τ = .ok .nx τ' ∧ R τ' := by
  obtain ⟨τ', e, h'⟩ := turns_ty P hs h
  refine ⟨τ', ?_, hR τ' h'⟩
  rw [zFor_ev, hi, ok_bind, kFor_free, e]
@[simp] theorem filt_false {xs : List α} : (xs.filter fun _ => false) = [] := List.filter_eq_nil_iff.mpr (fun _ _ => Bool.false_ne_true)
theorem filt_true {xs : List α} : (xs.filter fun _ => true) = xs := List.filter_eq_self.mpr (fun _ _ => rfl)
/-! ### ranges, enumerations -/
theorem rngL_nat {n : Nat} : rngL 0 n = (List.range n).map fun k => PyData.int (k : Nat) := by
  unfold rngL
  refine List.map_congr_left fun i _ => ?_
  rw [Int.zero_add]
theorem rngI_nat {n : Nat} (h : n < 4611686018427387904) : rngI [(n : Int)] = some ((List.range n).map fun k => PyData.int (k : Nat)) := by
  rw [rngI_1 (okR_small (by omega) (by omega)), Int.toNat_natCast, rngL_nat]
theorem rngI_lo {m n : Nat} (h : n < 4611686018427387904) (h2 : m < 4611686018427387904) : rngI [(m : Int), (n : Int)] = some ((List.range' m (n - m)).map fun k => PyData.int (k : Nat)) := by
  have e : ((n : Int) - (m : Int)).toNat = n - m := by omega
  show (if okR m && okR n then some (rngL m ((n : Int) - (m : Int)).toNat) else none) = _
  rw [okR_small (by omega) (by omega), okR_small (by omega) (by omega), e]
  show some _ = some _
  congr 1
  unfold rngL
  rw [List.range'_eq_map_range, List.map_map]
  refine List.map_congr_left fun i _ => ?_
  show PyData.int _ = PyData.int _
  congr 1
theorem enumL_ty {enc : α → PyData} {xs : List α} : enumL (xs.map enc) = xs.zipIdx.map fun y => PyData.tuple [.int (y.2 : Nat), enc y.1] := by
  unfold enumL
  apply List.ext_getElem?
  intro i
  rw [List.getElem?_mapIdx, List.getElem?_map, List.getElem?_map, List.getElem?_zipIdx]
  cases xs[i]? with
  | none => rfl
  | some x => simp
@[simp] theorem atI_nat {xs : List α} {k : Nat} : atI xs (k : Int) = xs[k]? := by
  unfold atI ixN
  rw [if_pos (by omega)]
  by_cases h : k < xs.length
  · rw [if_pos (by omega), Int.toNat_natCast]; rfl
  · rw [if_neg (by omega), List.getElem?_eq_none (by omega)]; rfl
theorem atI_last {xs : List α} {x : α} : atI (xs ++ [x]) (-1) = some x := by
  unfold atI
  rw [List.length_append]
  rw [List.length_singleton, ixN_m1]
  simp
@[simp] theorem pIs_non {n : Bool} {d : PyData} : pIs n d .none = some (.sc (.bool (isNone d != n))) := by cases d <;> rfl
@[simp] theorem pIs_bools {n a b : Bool} : pIs n (.bool a) (.bool b) = some (.sc (.bool (decide (a = b) != n))) := Eq.trans rfl rfl
@[simp] theorem isNone_none : isNone .none = true := Eq.trans rfl rfl
@[simp] theorem isNone_int {i : Int} : isNone (.int i) = false := Eq.trans rfl rfl
@[simp] theorem isNone_bool {i : Bool} : isNone (.bool i) = false := Eq.trans rfl rfl
@[simp] theorem isNone_str {i : Str} : isNone (.str i) = false := Eq.trans rfl rfl
@[simp] theorem isNone_list {i : List PyData} : isNone (.list i) = false := Eq.trans rfl rfl
@[simp] theorem isNone_dict {i : List (PyData × PyData)} : isNone (.dict i) = false := Eq.trans rfl rfl
@[simp] theorem isNone_tuple {i : List PyData} : isNone (.tuple i) = false := Eq.trans rfl rfl
theorem pMul_tup {xs : List PyData} {k : Int} (h0 : xs ≠ []) (h : 2 ≤ k) (h1 : k ≤ 1000) (h2 : xs.length ≤ 1000) : pMul (.tuple xs) (.int k) = some (.sc (.tuple (List.replicate k.toNat xs).flatten)) := if_pos ⟨h0, h, h1, h2⟩
theorem pMul_lst {xs : List PyData} {k : Int} (h : -(2 ^ 63) ≤ k) (h1 : k < 2 ^ 63) (h2 : xs.length * k.toNat ≤ 16777216) : pMul (.list xs) (.int k) = some (.nl (List.replicate k.toNat xs).flatten) := if_pos ⟨h, h1, by rw [sizeLine_eq]; exact h2⟩
/-! ### comparing -/
class EqD (enc : α → PyData) where
  dep : Nat
  shd : ∀ x, sh dep (enc x)
  eqv : ∀ x y, PyData.eqv (enc x) (enc y) = true ↔ x = y
instance eqdInt : EqD PyData.int := ⟨0, fun _ => sh_int, fun x y => by simp⟩
instance eqdNat : EqD (fun k : Nat => PyData.int (k : Int)) := ⟨0, fun _ => sh_int, fun x y => by simp; omega⟩
def optE (enc : α → PyData) : Option α → PyData
  | some x => enc x
  | none => .none
@[simp] theorem optE_some {enc : α → PyData} {x : α} : optE enc (some x) = enc x := Eq.trans rfl rfl
@[simp] theorem optE_none {enc : α → PyData} : optE enc none = .none := Eq.trans rfl rfl
theorem eqvAll_iff {enc : α → PyData} (h : ∀ x y, PyData.eqv (enc x) (enc y) = true ↔ x = y) : ∀ {xs ys : List α}, PyData.eqvAll (xs.map enc) (ys.map enc) = true ↔ xs = ys
  | [], [] => by simp [PyData.eqvAll]
  | [], y :: ys => by simp [PyData.eqvAll]
  | x :: xs, [] => by simp [PyData.eqvAll]
  | x :: xs, y :: ys => by
    have := eqvAll_iff h (xs := xs) (ys := ys)
    simp only [List.map_cons, PyData.eqvAll, Bool.and_eq_true, this, h, List.cons.injEq]
@[simp] theorem eqv_tuple {ds es : List PyData} : PyData.eqv (.tuple ds) (.tuple es) = PyData.eqvAll ds es := by simp [PyData.eqv]
@[simp] theorem eqv_list {ds es : List PyData} : PyData.eqv (.list ds) (.list es) = PyData.eqvAll ds es := by simp [PyData.eqv]
instance eqdTup {enc : α → PyData} [E : EqD enc] : EqD (fun xs : List α => PyData.tuple (xs.map enc)) := ⟨E.dep + 1, fun xs => by
    rw [sh_tuple]
    intro d hd
    obtain ⟨x, _, rfl⟩ := List.mem_map.mp hd
    exact E.shd x, fun xs ys => by rw [eqv_tuple]; exact eqvAll_iff E.eqv⟩
instance eqdLst {enc : α → PyData} [E : EqD enc] : EqD (fun xs : List α => PyData.list (xs.map enc)) := ⟨E.dep + 1, fun xs => by
    rw [sh_list]
    intro d hd
    obtain ⟨x, _, rfl⟩ := List.mem_map.mp hd
    exact E.shd x, fun xs ys => by rw [eqv_list]; exact eqvAll_iff E.eqv⟩
theorem pEq_ty {enc : α → PyData} [E : EqD enc] [DecidableEq α] {x y : α} (h : E.dep ≤ 64 := by decide) : pEq (enc x) (enc y) = some (.sc (.bool (decide (x = y)))) := by
  rw [pEq_sh (E.shd x) (E.shd y) h h]
  congr 3
  rw [Bool.eq_iff_iff, E.eqv, decide_eq_true_eq]
theorem pNe_ty {enc : α → PyData} [E : EqD enc] [DecidableEq α] {x y : α} (h : E.dep ≤ 64 := by decide) : pNe (enc x) (enc y) = some (.sc (.bool (!decide (x = y)))) := by
  rw [pNe_sh (E.shd x) (E.shd y) h h]
  congr 4
  rw [Bool.eq_iff_iff, E.eqv, decide_eq_true_eq]
theorem any_eqv {enc : α → PyData} [E : EqD enc] [DecidableEq α] {xs : List α} {x : α} : ((xs.map enc).any fun z => PyData.eqv z (enc x)) = decide (x ∈ xs) := by
  rw [Bool.eq_iff_iff, List.any_eq_true, decide_eq_true_eq]
  constructor
  · rintro ⟨z, hz, e⟩
    obtain ⟨y, hy, rfl⟩ := List.mem_map.mp hz
    rw [(E.eqv y x).mp e] at hy
    exact hy
  · intro h
    exact ⟨enc x, List.mem_map_of_mem h, (E.eqv x x).mpr rfl⟩
theorem pIn_ty {n : Bool} {enc : α → PyData} [E : EqD enc] [DecidableEq α] {xs : List α} {x : α} (h : E.dep < 64 := by decide) : pIn n (enc x) (.list (xs.map enc)) = some (.sc (.bool (decide (x ∈ xs) != n))) := by
  show (if SeqAt.shaped (enc x) && SeqAt.shaped (.list (xs.map enc)) then sBl _ else none) = _
  have h1 : SeqAt.shaped (.list (xs.map enc)) = true := sh.shaped (k := E.dep + 1) (eqdLst.shd xs) (by omega)
  rw [(E.shd x).shaped (by omega), h1, any_eqv]
  rfl
theorem pInT_ty {n : Bool} {enc : α → PyData} [E : EqD enc] [DecidableEq α] {xs : List α} {x : α} (h : E.dep < 64 := by decide) : pIn n (enc x) (.tuple (xs.map enc)) = some (.sc (.bool (decide (x ∈ xs) != n))) := by
  show (if SeqAt.shaped (enc x) && SeqAt.shaped (.tuple (xs.map enc)) then sBl _ else none) = _
  have h1 : SeqAt.shaped (.tuple (xs.map enc)) = true := sh.shaped (k := E.dep + 1) (eqdTup.shd xs) (by omega)
  rw [(E.shd x).shaped (by omega), h1, any_eqv]
  rfl
@[simp] theorem pIn_nat {n : Bool} {xs : List Nat} {x : Nat} : pIn n (.int (x : Int)) (.list (xs.map fun k => PyData.int (k : Nat))) = some (.sc (.bool (decide (x ∈ xs) != n))) := pIn_ty (enc := fun k : Nat => PyData.int (k : Int))
@[simp] theorem pInT_nat {n : Bool} {xs : List Nat} {x : Nat} : pIn n (.int (x : Int)) (.tuple (xs.map fun k => PyData.int (k : Nat))) = some (.sc (.bool (decide (x ∈ xs) != n))) := pInT_ty (enc := fun k : Nat => PyData.int (k : Int))
@[simp] theorem pIn_int {n : Bool} {xs : List Int} {x : Int} : pIn n (.int x) (.list (xs.map .int)) = some (.sc (.bool (decide (x ∈ xs) != n))) := pIn_ty
@[simp] theorem pInT_int {n : Bool} {xs : List Int} {x : Int} : pIn n (.int x) (.tuple (xs.map .int)) = some (.sc (.bool (decide (x ∈ xs) != n))) := pInT_ty
end
end Z

/-! Z28: min, max over lists and tuples of data that are alike; sorted. -/
namespace Z
open PySem PySem.Spec PyProof.Rows L2 PySem.W
section
variable [TB : Tabs]
variable {X : Cx} {K : PySem.W.Frag} {G H : Hp}
def alikeB (ds : List PyData) : Bool := (ds.all fun x => ds.all fun y => PySem.W.alike x y) && ds.all fun x => !isNone x
theorem alikeB_all {ds : List PyData} (h : alikeB ds = true) : AlikeAll ds := by
  unfold alikeB at h
  rw [Bool.and_eq_true, List.all_eq_true, List.all_eq_true] at h
  refine ⟨fun x hx y hy => List.all_eq_true.mp (h.1 x hx) y hy, fun x hx e => ?_⟩
  have := h.2 x hx
  rw [e] at this
  cases this
theorem fold_mem {lt : PyData → PyData → Bool} : ∀ (xs : List PyData) (x : PyData), (xs.foldl (fun a y => if lt a y then y else a) x) ∈ x :: xs := by
  intro xs
  induction xs with
  | nil => intro x; exact List.mem_cons_self
  | cons y xs ih =>
    intro x
    rw [List.foldl_cons]
    split
    · exact List.mem_cons_of_mem _ (ih y)
    · rcases List.mem_cons.mp (ih x) with h | h
      · rw [h]; exact List.mem_cons_self
      · exact List.mem_cons_of_mem _ (List.mem_cons_of_mem _ h)
theorem minD_mem (x : PyData) (xs : List PyData) : minD x xs ∈ x :: xs := fold_mem (lt := fun a y => dataLt y a) xs x
theorem maxD_mem (x : PyData) (xs : List PyData) : maxD x xs ∈ x :: xs := fold_mem (lt := fun a y => dataLt a y) xs x
def rBestD (K : PySem.W.Frag) (best : PyData → List PyData → PyData) : List V → Hp → VK → Prop := fun vs H Q => ∃ a xs d ds, vs = [V.ref a] ∧ (SqL K H a xs ∨ SqT K H a xs) ∧ DpAll K H xs (d :: ds) ∧ AlikeAll (d :: ds) ∧ PyData.depthAll (d :: ds) ≤ 60 ∧ ∀ (i : Nat) (x : V), xs[i]? = some x → (d :: ds)[i]? = some (best d ds) → Q x H
theorem dps_at : ∀ {xs : List V} {ds : List PyData}, DpAll K H xs ds → ∀ {i : Nat} {x : V}, xs[i]? = some x → ∃ d, ds[i]? = some d ∧ Dp K H x d
  | _, _, .nil, _, _, e => by simp at e
  | _, _, .cons r _, 0, _, e => by simp at e; subst e; exact ⟨_, rfl, r⟩
  | _, _, .cons _ t, i + 1, x, e => by
    obtain ⟨d, h1, h2⟩ := dps_at t (i := i) (by simpa using e)
    exact ⟨d, by simpa using h1, h2⟩
theorem best_fin {best : PyData → List PyData → PyData} (hb : ∀ x xs, best x xs ∈ x :: xs) {pins : List (Addr × Obj)} {σ : L2.St} {s : Shared} {Q : VK} {xs : List V} {d : PyData} {ds : List PyData} {its : List Value} (I : Inv X pins σ H s) (hd : DpAll X.K H xs (d :: ds)) (ha : AlikeAll (d :: ds)) (rv : Vals xs its)
    (q : ∀ (i : Nat) (x : V), xs[i]? = some x → (d :: ds)[i]? = some (best d ds) → Q x H) (i : Nat) (v : Value) (h' : Heap) (tk : Nat) (bs : List Addr) (hv : its.toArray[i]? = some v) (hr : Reads h' v (best d ds) bs) (hk : ∀ b o, s.heap.get? b = some o → h'.get? b = some o) : EP X pins σ Q v { s with heap := h', toks := tk } := by
  have hv2 : its[i]? = some v := by simpa using hv
  have hi : i < xs.length := by rw [rv.length]; exact (List.getElem?_eq_some_iff.mp hv2).1
  obtain ⟨u, hu, ru⟩ := rv.get (List.getElem?_eq_getElem hi)
  rw [hv2] at hu; cases hu
  obtain ⟨e, he, de⟩ := dps_at hd (List.getElem?_eq_getElem hi)
  obtain ⟨as, re⟩ := Dp.reads I e _ _ de ru
  have := alike_unique _ _ _ _ _ (ha.1 e (List.mem_of_getElem? he) _ (hb d ds)) (PyProof.Rows.Reads.keeps hk re) hr
  exact ⟨_, H, I.kept hk, ru, q i _ (List.getElem?_eq_getElem hi) (by rw [he, this])⟩
theorem cr_minD (hc : X.calm = true) (hu : X.A.units + 65 < cLine) : CallR X (.builtin "min") (rBestD X.K minD) := by
  intro pins s σ H vs us Q I r h
  obtain ⟨a, xs, d, ds, rfl, hq, hd, ha, hdep, q⟩ := h
  rw [Vals.ref1 r]
  rcases hq with hq | hq
  · obtain ⟨its, rv, hl, _⟩ := I.list hq
    obtain ⟨as, ra⟩ := Dp.readsAll I (d :: ds) xs its hd rv
    exact min_list_data (I.ok.hd hc) hl.isList ra ha (by omega) fun i v h' tk bs hv hr hk => best_fin minD_mem I hd ha rv q i v h' tk bs hv hr hk
  · obtain ⟨its, rv, hl, _⟩ := I.tuple hq
    obtain ⟨as, ra⟩ := Dp.readsAll I (d :: ds) xs its hd rv
    exact min_tuple_data (I.ok.hd hc) hl ra ha (by omega) fun i v h' tk bs hv hr hk => best_fin minD_mem I hd ha rv q i v h' tk bs hv hr hk
theorem cr_maxD (hc : X.calm = true) (hu : X.A.units + 65 < cLine) : CallR X (.builtin "max") (rBestD X.K maxD) := by
  intro pins s σ H vs us Q I r h
  obtain ⟨a, xs, d, ds, rfl, hq, hd, ha, hdep, q⟩ := h
  rw [Vals.ref1 r]
  rcases hq with hq | hq
  · obtain ⟨its, rv, hl, _⟩ := I.list hq
    obtain ⟨as, ra⟩ := Dp.readsAll I (d :: ds) xs its hd rv
    exact max_list_data (I.ok.hd hc) hl.isList ra ha (by omega) fun i v h' tk bs hv hr hk => best_fin maxD_mem I hd ha rv q i v h' tk bs hv hr hk
  · obtain ⟨its, rv, hl, _⟩ := I.tuple hq
    obtain ⟨as, ra⟩ := Dp.readsAll I (d :: ds) xs its hd rv
    exact max_tuple_data (I.ok.hd hc) hl ra ha (by omega) fun i v h' tk bs hv hr hk => best_fin maxD_mem I hd ha rv q i v h' tk bs hv hr hk
def bestO (best : PyData → List PyData → PyData) : List PyData → Option RO
  | [] => none
  | d :: ds => if alikeB (d :: ds) && decide (PyData.depthAll (d :: ds) ≤ 60) then some (.sc (best d ds)) else none
def pBest (best : PyData → List PyData → PyData) : PyData → Option RO
  | .list ds => bestO best ds
  | .tuple ds => bestO best ds
  | _ => none
theorem op1_best {best : PyData → List PyData → PyData} : Op1 K (pBest best) fun x H Q => rBestD K best [x] H Q := by
  intro G H x Q d r s vx h q
  have go : ∀ (a : Addr) (vs : List V) (ds : List PyData), x = .ref a → (SqL K H a vs ∨ SqT K H a vs) → RDs K G vs ds → bestO best ds = some r → rBestD K best [x] H Q := by
    intro a vs ds e hq hr hb
    subst e
    cases ds with
    | nil => cases hb
    | cons d ds =>
      change (if alikeB (d :: ds) && decide (PyData.depthAll (d :: ds) ≤ 60) then some (RO.sc (best d ds)) else none) = some r at hb
      split at hb
      · rename_i hz
        rw [Bool.and_eq_true, decide_eq_true_eq] at hz
        cases hb
        refine ⟨a, vs, d, ds, rfl, hq, RDs.dp _ _ (dps_mono s _ _ hr), alikeB_all hz.1, hz.2, fun i x hx he => ?_⟩
        obtain ⟨d', h1, h2⟩ := dps_getV hr hx
        rw [he] at h1
        cases h1
        exact q.1 _ h2
      · cases hb
  cases d with
  | list ds =>
    obtain ⟨a, vs, rfl, h1, q1⟩ := vx.lst s
    exact go a vs ds rfl (.inl (SqL.of h1)) q1 h
  | tuple ds =>
    obtain ⟨a, vs, rfl, h1, q1⟩ := vx.tup s
    exact go a vs ds rfl (.inr h1) q1 h
  | _ => cases h
end
/-! ### of typed things -/
section
variable {α : Type}
/-- alike, at most dep deep, not None -/
class AlkD (enc : α → PyData) where
  dep : Nat
  alk : ∀ x y, PySem.W.alike (enc x) (enc y) = true
  non : ∀ x, isNone (enc x) = false
  dpt : ∀ x, (enc x).depth ≤ dep
instance alkInt : AlkD PyData.int := ⟨0, fun _ _ => by simp [PySem.W.alike], fun _ => rfl, fun _ => by simp [PyData.depth]⟩
instance alkNat : AlkD (fun k : Nat => PyData.int (k : Int)) := ⟨0, fun _ _ => by simp [PySem.W.alike], fun _ => rfl, fun _ => by simp [PyData.depth]⟩
theorem alikeAll_ty {enc : α → PyData} [A : AlkD enc] : ∀ (xs ys : List α), PySem.W.alikeAll (xs.map enc) (ys.map enc) = true
  | [], _ => by simp [PySem.W.alikeAll]
  | _ :: _, [] => by simp [PySem.W.alikeAll]
  | x :: xs, y :: ys => by simp [PySem.W.alikeAll, A.alk, alikeAll_ty xs ys]
theorem depthAll_ty {enc : α → PyData} [A : AlkD enc] : ∀ (xs : List α), PyData.depthAll (xs.map enc) ≤ A.dep
  | [] => by simp [PyData.depthAll]
  | x :: xs => by
    have := A.dpt x
    have := depthAll_ty (enc := enc) xs
    simp only [List.map_cons, PyData.depthAll]
    omega
instance alkTup {enc : α → PyData} [A : AlkD enc] : AlkD (fun xs : List α => PyData.tuple (xs.map enc)) := ⟨A.dep + 1, fun xs ys => by rw [PySem.W.alike]; exact alikeAll_ty xs ys, fun _ => rfl, fun xs => by
  have := depthAll_ty (enc := enc) xs
  simp only [PyData.depth]
  omega⟩
theorem alikeB_ty {enc : α → PyData} [A : AlkD enc] (xs : List α) : alikeB (xs.map enc) = true := by
  unfold alikeB
  rw [Bool.and_eq_true, List.all_eq_true, List.all_eq_true]
  constructor
  · intro x hx
    rw [List.all_eq_true]
    intro y hy
    obtain ⟨x, _, rfl⟩ := List.mem_map.mp hx
    obtain ⟨y, _, rfl⟩ := List.mem_map.mp hy
    exact A.alk x y
  · intro x hx
    obtain ⟨x, _, rfl⟩ := List.mem_map.mp hx
    rw [A.non x]
    rfl
theorem bestO_ty {best : PyData → List PyData → PyData} {enc : α → PyData} [A : AlkD enc] (x : α) (xs : List α) (h : A.dep ≤ 60 := by decide) : bestO best ((x :: xs).map enc) = some (.sc (best (enc x) (xs.map enc))) := by
  show (if alikeB ((x :: xs).map enc) && decide (PyData.depthAll ((x :: xs).map enc) ≤ 60) then some _ else none) = _
  have := depthAll_ty (enc := enc) (x :: xs)
  rw [alikeB_ty, decide_eq_true (by omega)]
  rfl
/-- the first of the least -/
def minT (lt : α → α → Bool) (x : α) (xs : List α) : α := xs.foldl (fun a y => if lt y a then y else a) x
def maxT (lt : α → α → Bool) (x : α) (xs : List α) : α := xs.foldl (fun a y => if lt a y then y else a) x
theorem minD_ty {enc : α → PyData} (lt : α → α → Bool) (h : ∀ x y, PySem.W.dataLt (enc x) (enc y) = lt x y) (x : α) (xs : List α) : minD (enc x) (xs.map enc) = enc (minT lt x xs) := by
  unfold minD minT
  induction xs generalizing x with
  | nil => rfl
  | cons y xs ih =>
    rw [List.map_cons, List.foldl_cons, List.foldl_cons, h]
    cases lt y x <;> exact ih _
theorem maxD_ty {enc : α → PyData} (lt : α → α → Bool) (h : ∀ x y, PySem.W.dataLt (enc x) (enc y) = lt x y) (x : α) (xs : List α) : maxD (enc x) (xs.map enc) = enc (maxT lt x xs) := by
  unfold maxD maxT
  induction xs generalizing x with
  | nil => rfl
  | cons y xs ih =>
    rw [List.map_cons, List.foldl_cons, List.foldl_cons, h]
    cases lt x y <;> exact ih _
theorem minT_mem (lt : α → α → Bool) : ∀ (xs : List α) (x : α), minT lt x xs ∈ x :: xs := by
  intro xs
  induction xs with
  | nil => intro x; exact List.mem_cons_self
  | cons y xs ih =>
    intro x
    show minT lt (if lt y x then y else x) xs ∈ _
    split
    · exact List.mem_cons_of_mem _ (ih y)
    · rcases List.mem_cons.mp (ih x) with h | h
      · rw [h]; exact List.mem_cons_self
      · exact List.mem_cons_of_mem _ (List.mem_cons_of_mem _ h)
theorem maxT_mem (lt : α → α → Bool) (xs : List α) (x : α) : maxT lt x xs ∈ x :: xs := minT_mem (fun a b => lt b a) xs x
/-- no one is less -/
theorem minT_le (lt : α → α → Bool) (hi : ∀ a, lt a a = false) (ht : ∀ a b c, lt b a = false → lt c b = false → lt c a = false) (hc : ∀ a b, lt a b = true → lt b a = false) : ∀ (xs : List α) (x : α), ∀ y ∈ x :: xs, lt y (minT lt x xs) = false := by
  intro xs
  induction xs with
  | nil =>
    intro x y hy
    rw [List.mem_singleton.mp hy]
    exact hi x
  | cons z xs ih =>
    intro x y hy
    show lt y (minT lt (if lt z x then z else x) xs) = false
    by_cases h : lt z x = true
    · rw [if_pos h]
      rcases List.mem_cons.mp hy with rfl | hy
      · exact ht _ _ _ (ih z z List.mem_cons_self) (hc _ _ h)
      · exact ih z y hy
    · rw [if_neg h]
      have h := Bool.eq_false_iff.mpr h
      rcases List.mem_cons.mp hy with rfl | hy
      · exact ih _ _ List.mem_cons_self
      · rcases List.mem_cons.mp hy with rfl | hy
        · exact ht _ _ _ (ih x x List.mem_cons_self) h
        · exact ih x y (List.mem_cons_of_mem _ hy)
@[simp] theorem pBest_list {b : PyData → List PyData → PyData} {ds : List PyData} : pBest b (.list ds) = bestO b ds := by rw [pBest]
@[simp] theorem pBest_tuple {b : PyData → List PyData → PyData} {ds : List PyData} : pBest b (.tuple ds) = bestO b ds := by rw [pBest]
/-! ints -/
def minZ (x : Int) (xs : List Int) : Int := minT (fun a b => decide (a < b)) x xs
def maxZ (x : Int) (xs : List Int) : Int := maxT (fun a b => decide (a < b)) x xs
theorem minZ_mem (x : Int) (xs : List Int) : minZ x xs ∈ x :: xs := minT_mem _ xs x
theorem maxZ_mem (x : Int) (xs : List Int) : maxZ x xs ∈ x :: xs := maxT_mem _ xs x
theorem minZ_le (x : Int) (xs : List Int) : ∀ y ∈ x :: xs, minZ x xs ≤ y := fun y hy => by
  have := minT_le (fun a b : Int => decide (a < b)) (by simp) (by simp; omega) (by simp; omega) xs x y hy
  exact Int.not_lt.mp (of_decide_eq_false this)
theorem maxZ_ge (x : Int) (xs : List Int) : ∀ y ∈ x :: xs, y ≤ maxZ x xs := fun y hy => by
  have := minT_le (fun a b : Int => decide (b < a)) (by simp) (by simp; omega) (by simp; omega) xs x y hy
  exact Int.not_lt.mp (of_decide_eq_false this)
def minN (x : Nat) (xs : List Nat) : Nat := minT (fun a b => decide (a < b)) x xs
def maxN (x : Nat) (xs : List Nat) : Nat := maxT (fun a b => decide (a < b)) x xs
theorem minN_mem (x : Nat) (xs : List Nat) : minN x xs ∈ x :: xs := minT_mem _ xs x
theorem maxN_mem (x : Nat) (xs : List Nat) : maxN x xs ∈ x :: xs := maxT_mem _ xs x
theorem minN_le (x : Nat) (xs : List Nat) : ∀ y ∈ x :: xs, minN x xs ≤ y := fun y hy => by
  have := minT_le (fun a b : Nat => decide (a < b)) (by simp) (by simp; omega) (by simp; omega) xs x y hy
  exact Nat.not_lt.mp (of_decide_eq_false this)
theorem maxN_ge (x : Nat) (xs : List Nat) : ∀ y ∈ x :: xs, y ≤ maxN x xs := fun y hy => by
  have := minT_le (fun a b : Nat => decide (b < a)) (by simp) (by simp; omega) (by simp; omega) xs x y hy
  exact Nat.not_lt.mp (of_decide_eq_false this)
theorem minD_int (x : Int) (xs : List Int) : minD (.int x) (xs.map .int) = .int (minZ x xs) := minD_ty _ (fun x y => dataLt_int x y) x xs
theorem maxD_int (x : Int) (xs : List Int) : maxD (.int x) (xs.map .int) = .int (maxZ x xs) := maxD_ty _ (fun x y => dataLt_int x y) x xs
theorem minD_nat (x : Nat) (xs : List Nat) : minD (.int x) (xs.map fun k => .int (k : Nat)) = .int (minN x xs) := minD_ty (enc := fun k : Nat => PyData.int (k : Int)) _ (fun x y => by rw [dataLt_int]; simp) x xs
theorem maxD_nat (x : Nat) (xs : List Nat) : maxD (.int x) (xs.map fun k => .int (k : Nat)) = .int (maxN x xs) := maxD_ty (enc := fun k : Nat => PyData.int (k : Int)) _ (fun x y => by rw [dataLt_int]; simp) x xs
end
end Z

/-! Z29: comprehensions that draw: the frame is T s, s a state that the turns change. -/
namespace Z
open PySem PySem.Spec PyProof.Rows L2
section
variable {α β S : Type} {τ : Fr} {vs : List Nat} {g : ZGD} {tt : ZTD} {te : ZD}
theorem lcTurns_st (T : S → Fr) (enc : α → PyData) (ev : β → PyData) (Q : α → β → Prop) (xs : List α)
    (h : ∀ x ∈ xs, ∀ s, ∃ τ1, g (enc x) (wipeL vs 0 (T s)) = some τ1 ∧ ∃ y s' τ3, zF te τ1 = .ok (.cl (.fz (ev y))) τ3 ∧ Q x y ∧ wipeL vs 0 τ3 = wipeL vs 0 (T s')) :
    ∀ (s : S) (acc : List PyData), acc.length + xs.length ≤ 16777216 → ∃ (zs : List (α × β)) (s' : S), zs.map (·.1) = xs ∧ (∀ z ∈ zs, Q z.1 z.2) ∧ lcTurns vs g zYes te (xs.map enc) (wipeL vs 0 (T s)) acc = .ok (acc ++ zs.map fun z => ev z.2) (wipeL vs 0 (T s')) := by
  induction xs with
  | nil => intro s acc _; exact ⟨[], s, rfl, fun _ h => (by cases h), by simp [lcTurns]⟩
  | cons x xs ih =>
    intro s acc hl
    obtain ⟨τ1, e1, y, s1, τ3, e3, hq, w⟩ := h x List.mem_cons_self s
    rw [List.length_cons] at hl
    obtain ⟨zs, s', h1, h2, h3⟩ := ih (fun x hx => h x (List.mem_cons_of_mem _ hx)) s1 (acc ++ [ev y]) (by simp; omega)
    refine ⟨(x, y) :: zs, s', by simp [h1], fun z hz => ?_, ?_⟩
    · rcases List.mem_cons.mp hz with rfl | hz
      · exact hq
      · exact h2 z hz
    · rw [List.map_cons]
      unfold lcTurns
      rw [e1]
      dsimp only
      rw [zYes_ev]
      dsimp only
      rw [e3]
      dsimp only
      rw [if_pos (by rw [sizeLine_eq]; omega), wipeF_L, w, h3]
      simp
theorem kLc_st (T : S → Fr) (s0 : S) (hT : ∀ s, restL vs 0 (T s0) (wipeL vs 0 (T s)) = T s) (xs : List α) (enc : α → PyData) (ev : β → PyData) (Q : α → β → Prop)
    (h : ∀ x ∈ xs, ∀ s, ∃ τ1, g (enc x) (wipeL vs 0 (T s)) = some τ1 ∧ ∃ y s' τ3, zF te τ1 = .ok (.cl (.fz (ev y))) τ3 ∧ Q x y ∧ wipeL vs 0 τ3 = wipeL vs 0 (T s')) (hl : xs.length ≤ 16777216) :
    ∃ (zs : List (α × β)) (s' : S), zs.map (·.1) = xs ∧ (∀ z ∈ zs, Q z.1 z.2) ∧ kLc vs g zYes te (xs.map enc, []) (T s0) = .ok (.cl (.lst false false (zs.map fun z => ev z.2))) (T s') := by
  obtain ⟨zs, s', h1, h2, h3⟩ := lcTurns_st T enc ev Q xs h s0 [] (by simpa using hl)
  refine ⟨zs, s', h1, h2, ?_⟩
  unfold kLc
  show (match lcTurns vs g zYes te (xs.map enc) (wipeF vs (lockAll [] (T s0))) [] with | .ok acc τ2 => Res.ok (LR.cl (.lst false false acc)) (restF vs (T s0) (unlock (T s0) [] τ2)) | _ => .stuck) = _
  rw [lockAll_nil, wipeF_L, h3]
  show Res.ok _ (restF vs (T s0) (unlock (T s0) [] (wipeL vs 0 (T s')))) = _
  rw [unlock_nil, restF_L, hT]
  rfl
theorem lcTurns_stf (T : S → Fr) (enc : α → PyData) (ev : β → PyData) (Q : α → β → Prop) (xs : List α)
    (h : ∀ x ∈ xs, ∀ s, ∃ τ1, g (enc x) (wipeL vs 0 (T s)) = some τ1 ∧ ((∃ τ2 s', tt τ1 = .ok false τ2 ∧ wipeL vs 0 τ2 = wipeL vs 0 (T s')) ∨ ∃ τ2 y s' τ3, tt τ1 = .ok true τ2 ∧ zF te τ2 = .ok (.cl (.fz (ev y))) τ3 ∧ Q x y ∧ wipeL vs 0 τ3 = wipeL vs 0 (T s'))) :
    ∀ (s : S) (acc : List PyData), acc.length + xs.length ≤ 16777216 → ∃ (zs : List (α × β)) (s' : S), (zs.map (·.1)).Sublist xs ∧ (∀ z ∈ zs, Q z.1 z.2) ∧ lcTurns vs g tt te (xs.map enc) (wipeL vs 0 (T s)) acc = .ok (acc ++ zs.map fun z => ev z.2) (wipeL vs 0 (T s')) := by
  induction xs with
  | nil => intro s acc _; exact ⟨[], s, .slnil, fun _ h => (by cases h), by simp [lcTurns]⟩
  | cons x xs ih =>
    intro s acc hl
    rw [List.length_cons] at hl
    obtain ⟨τ1, e1, h1⟩ := h x List.mem_cons_self s
    have ih2 := ih fun x hx => h x (List.mem_cons_of_mem _ hx)
    rcases h1 with ⟨τ2, s1, e2, w⟩ | ⟨τ2, y, s1, τ3, e2, e3, hq, w⟩
    · obtain ⟨zs, s', h1, h2, h3⟩ := ih2 s1 acc (by omega)
      refine ⟨zs, s', h1.cons _, h2, ?_⟩
      rw [List.map_cons]
      unfold lcTurns
      rw [e1]
      dsimp only
      rw [e2]
      dsimp only
      rw [wipeF_L, w, h3]
    · obtain ⟨zs, s', h1, h2, h3⟩ := ih2 s1 (acc ++ [ev y]) (by simp; omega)
      refine ⟨(x, y) :: zs, s', h1.cons_cons _, fun z hz => ?_, ?_⟩
      · rcases List.mem_cons.mp hz with rfl | hz
        · exact hq
        · exact h2 z hz
      · rw [List.map_cons]
        unfold lcTurns
        rw [e1]
        dsimp only
        rw [e2]
        dsimp only
        rw [e3]
        dsimp only
        rw [if_pos (by rw [sizeLine_eq]; omega), wipeF_L, w, h3]
        simp
theorem kLc_stf (T : S → Fr) (s0 : S) (hT : ∀ s, restL vs 0 (T s0) (wipeL vs 0 (T s)) = T s) (xs : List α) (enc : α → PyData) (ev : β → PyData) (Q : α → β → Prop)
    (h : ∀ x ∈ xs, ∀ s, ∃ τ1, g (enc x) (wipeL vs 0 (T s)) = some τ1 ∧ ((∃ τ2 s', tt τ1 = .ok false τ2 ∧ wipeL vs 0 τ2 = wipeL vs 0 (T s')) ∨ ∃ τ2 y s' τ3, tt τ1 = .ok true τ2 ∧ zF te τ2 = .ok (.cl (.fz (ev y))) τ3 ∧ Q x y ∧ wipeL vs 0 τ3 = wipeL vs 0 (T s'))) (hl : xs.length ≤ 16777216) :
    ∃ (zs : List (α × β)) (s' : S), (zs.map (·.1)).Sublist xs ∧ (∀ z ∈ zs, Q z.1 z.2) ∧ kLc vs g tt te (xs.map enc, []) (T s0) = .ok (.cl (.lst false false (zs.map fun z => ev z.2))) (T s') := by
  obtain ⟨zs, s', h1, h2, h3⟩ := lcTurns_stf T enc ev Q xs h s0 [] (by simpa using hl)
  refine ⟨zs, s', h1, h2, ?_⟩
  unfold kLc
  show (match lcTurns vs g tt te (xs.map enc) (wipeF vs (lockAll [] (T s0))) [] with | .ok acc τ2 => Res.ok (LR.cl (.lst false false acc)) (restF vs (T s0) (unlock (T s0) [] τ2)) | _ => .stuck) = _
  rw [lockAll_nil, wipeF_L, h3]
  show Res.ok _ (restF vs (T s0) (unlock (T s0) [] (wipeL vs 0 (T s')))) = _
  rw [unlock_nil, restF_L, hT]
  rfl
@[simp] theorem restL_nil {k : Nat} {τ0 : Fr} : restL vs k τ0 [] = [] := by cases τ0 <;> rfl
@[simp] theorem restL_cons {k : Nat} {τ0 : Fr} {o0 o : Option Cell} : restL vs k (o0 :: τ0) (o :: τ) = (if k ∈ vs then o0 else o) :: restL vs (k + 1) τ0 τ := Eq.trans rfl rfl
end
end Z

set_option maxHeartbeats 4000000
/-! Z30: tuple * int of any number, list(range), tuple(range), list(reversed), x[::-1], sorted. -/
namespace Z
open PySem PySem.Spec PyProof.Rows L2
/-! ### tuple * int: the same object, the empty tuple -/
theorem tuple_mulS (l : Addr) (items : Array Value) (n : Nat) (dd : Option Addr) (sl : Array (Option Value)) (x : Int) (u : Tok) (c0 : (decide (x < -(2 ^ 63)) || decide (x ≥ 2 ^ 63)) = false) (c1 : (items.isEmpty || x == 1) = true) :
    Meets (Builtin.«tuple.__mul__» ⟨[.ref l, .int x u], []⟩) (fun _ R s => s.heap.get? l = some { cls := .type "tuple", dict := dd, data := .seq items n, slots := sl } ∧
      R (.ok (.ret (Value.ref l))) s) :=
  .of_wp fun prog w A R s h => by
    obtain ⟨hp, g, d, tk, os⟩ := s
    obtain ⟨hl, h⟩ := h
    have f1 := AutoSeq1.idx_int
    wp_walk using wpAny_loadPart' hl
    repeat (first
      | (refine wpAny_ite_false (decide_eq_false (by rw [c0]; exact Bool.false_ne_true)) ?_; wp_walk using wpAny_loadPart' hl)
      | (refine wpAny_ite_true (decide_eq_true c1) ?_; wp_walk using wpAny_loadPart' hl))
    exact ⟨_, rfl, h⟩
theorem tuple_mulN (l : Addr) (items : Array Value) (n : Nat) (dd : Option Addr) (sl : Array (Option Value)) (x : Int) (u : Tok) (c0 : (decide (x < -(2 ^ 63)) || decide (x ≥ 2 ^ 63)) = false) (c1 : (items.isEmpty || x == 1) = false) (c2 : (decide (x ≤ 0) || items.isEmpty) = true) :
    Meets (Builtin.«tuple.__mul__» ⟨[.ref l, .int x u], []⟩) (fun _ R s => s.heap.get? l = some { cls := .type "tuple", dict := dd, data := .seq items n, slots := sl } ∧
      R (.ok (.ret (Value.ref s.heap.objs.size))) { s with heap := s.heap.push { cls := Value.type "tuple", data := Data.seq #[] }, toks := s.toks }) :=
  .of_wp fun prog w A R s h => by
    obtain ⟨hp, g, d, tk, os⟩ := s
    obtain ⟨hl, h⟩ := h
    have f1 := AutoSeq1.idx_int
    wp_walk using wpAny_loadPart' hl
    repeat (first
      | (refine wpAny_ite_false (decide_eq_false (by rw [c0]; exact Bool.false_ne_true)) ?_; wp_walk using wpAny_loadPart' hl)
      | (refine wpAny_ite_false (decide_eq_false (by rw [c1]; exact Bool.false_ne_true)) ?_; wp_walk using wpAny_loadPart' hl)
      | (refine wpAny_ite_true (decide_eq_true c2) ?_; wp_walk using wpAny_loadPart' hl))
    exact ⟨_, rfl, h⟩
def rRepS (K : PySem.W.Frag) : R2 := fun x y H Q => ∃ l k xs, x = .ref l ∧ y = .int k ∧ SqT K H l xs ∧ -(2 ^ 63) ≤ k ∧ k < 2 ^ 63 ∧ (((xs = [] ∨ k = 1) ∧ Q (.ref l) H) ∨ (xs ≠ [] ∧ k ≤ 0 ∧ ∀ p, H p = none → Q (.ref p) (upd H p (.tup []))))
section
variable [TB : Tabs]
variable {X : Cx}
theorem op_repS : OpR X (binaryOp .Mult) (rRepS X.K) := by
  intro pins s σ H x y v u Q I rx ry h
  obtain ⟨l, k, xs, rfl, rfl, hT, hk1, hk2, h⟩ := h
  cases rx
  obtain ⟨t, rfl⟩ := ry
  obtain ⟨its, r, ⟨⟨cls, dd, data, sl⟩, ho, hc, n, hd⟩, hs⟩ := I.tuple hT
  simp only at hc hd
  subst hc hd
  have c0 : (decide (k < -(2 ^ 63)) || decide (k ≥ 2 ^ 63)) = false := by
    rw [decide_eq_false (by omega), decide_eq_false (by omega)] <;> rfl
  have hem : its.toArray.isEmpty = decide (xs = []) := by
    cases xs with
    | nil => cases r; rfl
    | cons a b => cases r; rfl
  rcases h with ⟨h1, q⟩ | ⟨h1, h2, q⟩
  · have c1 : (its.toArray.isEmpty || k == 1) = true := by
      rw [hem]
      rcases h1 with h1 | h1
      · simp [h1]
      · simp [h1]
    refine wpAny_binaryOp_repeat_ref (T := "tuple") (U := "int") (by decide) ⟨_, ho, rfl⟩ (fun s' => typeIs_int s' k t) noFill_tuple_mul F.fills_int_mul F.slot_int_rmul repeat_tuple F.slot_int_index.lookup
      (call_meets F.slot_int_rmul (typeIs_int s k t) F.entry_int_rmul (F.args_int_rmul_2 _ _) (int_rmul_tuple k t l its.toArray n dd sl)
        ⟨ho, rfl, ⟨_, ho, rfl⟩, call_meets F.slot_tuple_mul ⟨_, ho, rfl⟩ F.entry_tuple_mul (F.args_tuple_mul_2 _ _) (tuple_mulS l its.toArray n dd sl k t c0 c1) ⟨ho, ?_⟩⟩)
    exact ⟨.ref l, H, I, rfl, q⟩
  · have c1 : (its.toArray.isEmpty || k == 1) = false := by
      rw [hem, decide_eq_false h1, Bool.false_or]
      exact beq_eq_false_iff_ne.mpr (by omega)
    have c2 : (decide (k ≤ 0) || its.toArray.isEmpty) = true := by rw [decide_eq_true h2, Bool.true_or]
    refine wpAny_binaryOp_repeat_ref (T := "tuple") (U := "int") (by decide) ⟨_, ho, rfl⟩ (fun s' => typeIs_int s' k t) noFill_tuple_mul F.fills_int_mul F.slot_int_rmul repeat_tuple F.slot_int_index.lookup
      (call_meets F.slot_int_rmul (typeIs_int s k t) F.entry_int_rmul (F.args_int_rmul_2 _ _) (int_rmul_tuple k t l its.toArray n dd sl)
        ⟨ho, rfl, ⟨_, ho, rfl⟩, call_meets F.slot_tuple_mul ⟨_, ho, rfl⟩ F.entry_tuple_mul (F.args_tuple_mul_2 _ _) (tuple_mulN l its.toArray n dd sl k t c0 c1 c2) ⟨ho, ?_⟩⟩)
    refine ⟨.ref s.heap.objs.size, _, I.laid (t' := s.toks) (o := .tup []) (fun b ob q => Heap.get?_push_of_some _ q) (Nat.le_refl _) ?_, rfl, q _ (I.hok.fresh (Nat.le_refl _))⟩
    exact ⟨by simp, [], .nil, IsTup.new _ _⟩
variable {K : PySem.W.Frag} {W : WZ} {σ : Z.St} {G H : Hp} {τ : Fr} {a b : Expr} {da db : ZD} {pos : Pos}
def pMulA : PyData → PyData → Option RO
  | .tuple xs, .int k => if -(2 ^ 63) ≤ k ∧ k < 2 ^ 63 ∧ (xs = [] ∨ k = 1) then some (.sc (.tuple xs)) else if -(2 ^ 63) ≤ k ∧ k ≤ 0 then some (.sc (.tuple [])) else pMul (.tuple xs) (.int k)
  | d, e => pMul d e
theorem opr_mulA : OpR X (binaryOp .Mult) (fun x y H Q => rMulZ X.K x y H Q ∨ rRepS X.K x y H Q) := OpR.or opr_mul op_repS
theorem op2_mulA : Op2 K pMulA (fun x y H Q => rMulZ K x y H Q ∨ rRepS K x y H Q) := by
  intro G H x y Q d e r s vx vy h q
  unfold pMulA at h
  split at h
  · rename_i xs k
    split at h
    · rename_i hz
      cases h
      obtain ⟨l, vs, rfl, h1, q1⟩ := vx.tup s
      refine .inr ⟨l, k, vs, rfl, vy.int, h1, hz.1, hz.2.1, .inl ⟨?_, q.1 _ vx.tupG⟩⟩
      rcases hz.2.2 with e | e
      · subst e; cases q1; exact .inl rfl
      · exact .inr e
    · rename_i hn
      split at h
      · rename_i hz
        cases h
        obtain ⟨l, vs, rfl, h1, q1⟩ := vx.tup s
        refine .inr ⟨l, k, vs, rfl, vy.int, h1, hz.1, by omega, .inr ⟨fun e => hn ⟨hz.1, by omega, .inl ?_⟩, hz.2, fun p hp => q.2 _ rfl p _ hp .nil⟩⟩
        subst e; cases q1; rfl
      · exact .inl (op2_mul G H x y Q _ _ r s vx vy h q)
  · exact .inl (op2_mul G H x y Q _ _ r s vx vy h q)
/-! ### list(range), tuple(range) -/
def rgB (lo hi : Int) : Bool := decide (-(2 ^ 62) ≤ lo) && decide (lo < 2 ^ 62) && decide (-(2 ^ 62) ≤ hi) && decide (hi < 2 ^ 62) && decide ((hi - lo).toNat ≤ 16777216)
theorem rgB_ok {lo hi : Int} (h : rgB lo hi = true) : RgOk lo hi := by
  unfold rgB at h
  simp only [Bool.and_eq_true, decide_eq_true_eq] at h
  exact ⟨h.1.1.1.1, h.1.1.1.2, h.1.1.2, h.1.2, by have := h.2; omega⟩
theorem rds_rg (lo hi : Int) : RDs K G (rgV lo hi) (rngL lo (hi - lo).toNat) := by
  unfold rgV rngL
  generalize (hi - lo).toNat = n
  induction n with
  | zero => exact .nil
  | succ n ih =>
    rw [List.range_succ, List.map_append, List.map_append]
    exact dps_append ih (.cons (.int _) .nil)
def pRgL1 : PyData → Option RO
  | .int n => if rgB 0 n then some (.nl (rngL 0 n.toNat)) else none
  | _ => none
def pRgL2 : PyData → PyData → Option RO
  | .int m, .int n => if rgB m n then some (.nl (rngL m (n - m).toNat)) else none
  | _, _ => none
def pRgT1 : PyData → Option RO
  | .int n => if rgB 0 n then some (.sc (.tuple (rngL 0 n.toNat))) else none
  | _ => none
def pRgT2 : PyData → PyData → Option RO
  | .int m, .int n => if rgB m n then some (.sc (.tuple (rngL m (n - m).toNat))) else none
  | _, _ => none
theorem op1_rgL1 : Op1 K pRgL1 fun x H Q => ∃ n, x = .int n ∧ (RgOk 0 n ∧ ∀ q, H q = none → Q (.ref q) (upd H q (.lst (rgV 0 n)))) := by
  intro G H x Q d r s vx h q
  unfold pRgL1 at h
  split at h
  · rename_i n
    split at h
    · rename_i hz
      cases h
      refine ⟨n, vx.int, rgB_ok hz, fun p hp => q p _ hp ?_⟩
      have := rds_rg (K := K) (G := G) 0 n
      rwa [Int.sub_zero] at this
    · cases h
  · cases h
theorem op1_rgT1 : Op1 K pRgT1 fun x H Q => ∃ n, x = .int n ∧ (RgOk 0 n ∧ ∀ q, H q = none → Q (.ref q) (upd H q (.tup (rgV 0 n)))) := by
  intro G H x Q d r s vx h q
  unfold pRgT1 at h
  split at h
  · rename_i n
    split at h
    · rename_i hz
      cases h
      refine ⟨n, vx.int, rgB_ok hz, fun p hp => q.2 _ rfl p _ hp ?_⟩
      have := rds_rg (K := K) (G := G) 0 n
      rwa [Int.sub_zero] at this
    · cases h
  · cases h
theorem op2_rgL2 : Op2 K pRgL2 fun x y H Q => ∃ i j, x = .int i ∧ y = .int j ∧ (RgOk i j ∧ ∀ q, H q = none → Q (.ref q) (upd H q (.lst (rgV i j)))) := by
  intro G H x y Q d e r s vx vy h q
  unfold pRgL2 at h
  split at h
  · split at h
    · rename_i hz
      cases h
      exact ⟨_, _, vx.int, vy.int, rgB_ok hz, fun p hp => q p _ hp (rds_rg _ _)⟩
    · cases h
  · cases h
theorem op2_rgT2 : Op2 K pRgT2 fun x y H Q => ∃ i j, x = .int i ∧ y = .int j ∧ (RgOk i j ∧ ∀ q, H q = none → Q (.ref q) (upd H q (.tup (rgV i j)))) := by
  intro G H x y Q d e r s vx vy h q
  unfold pRgT2 at h
  split at h
  · split at h
    · rename_i hz
      cases h
      exact ⟨_, _, vx.int, vy.int, rgB_ok hz, fun p hp => q.2 _ rfl p _ hp (rds_rg _ _)⟩
    · cases h
  · cases h
theorem ze_lstRg1 {p p2 pos2 : Pos} (hc : X.calm = true) (hg : Gl X "list") (hm : X.mg "list" = none) (hg2 : Gl X "range") (hm2 : X.mg "range" = none) (ha : ZE X W a da) (na : starEach [a] X.env = (false, eval a X.env) :: starEach [] X.env := by rfl)
    (nb : starEach [.Call (.Name "range" p2) [a] [] pos2] X.env = (false, eval (.Call (.Name "range" p2) [a] [] pos2) X.env) :: starEach [] X.env := by rfl) : ZE X W (.Call (.Name "list" p) [.Call (.Name "range" p2) [a] [] pos2] [] pos) (z1 pRgL1 da) :=
  ⟨⟨fun pins s σ H Q I h => (pe_listRg hc hg hm (prg_1 hg2 hm2 ha.pe na) nb).run pins s σ H Q I (tz_op1 op1_rgL1 h)⟩⟩
theorem ze_tupRg1 {p p2 pos2 : Pos} (hc : X.calm = true) (hg : Gl X "tuple") (hm : X.mg "tuple" = none) (hg2 : Gl X "range") (hm2 : X.mg "range" = none) (ha : ZE X W a da) (na : starEach [a] X.env = (false, eval a X.env) :: starEach [] X.env := by rfl)
    (nb : starEach [.Call (.Name "range" p2) [a] [] pos2] X.env = (false, eval (.Call (.Name "range" p2) [a] [] pos2) X.env) :: starEach [] X.env := by rfl) : ZE X W (.Call (.Name "tuple" p) [.Call (.Name "range" p2) [a] [] pos2] [] pos) (z1 pRgT1 da) :=
  ⟨⟨fun pins s σ H Q I h => (pe_tupRg hc hg hm (prg_1 hg2 hm2 ha.pe na) nb).run pins s σ H Q I (tz_op1 op1_rgT1 h)⟩⟩
theorem ze_lstRg2 {p p2 pos2 : Pos} (hc : X.calm = true) (hg : Gl X "list") (hm : X.mg "list" = none) (hg2 : Gl X "range") (hm2 : X.mg "range" = none) (ha : ZE X W a da) (hb : ZE X W b db) (na : starEach [a, b] X.env = (false, eval a X.env) :: starEach [b] X.env := by rfl)
    (na2 : starEach [b] X.env = (false, eval b X.env) :: starEach [] X.env := by rfl) (hp : (backTo pos2 (starEach [b] X.env)).any (·.1) = false := by rfl)
    (nb : starEach [.Call (.Name "range" p2) [a, b] [] pos2] X.env = (false, eval (.Call (.Name "range" p2) [a, b] [] pos2) X.env) :: starEach [] X.env := by rfl) : ZE X W (.Call (.Name "list" p) [.Call (.Name "range" p2) [a, b] [] pos2] [] pos) (z2 pRgL2 da db) :=
  ⟨⟨fun pins s σ H Q I h => (pe_listRg hc hg hm (prg_2 hg2 hm2 ha.pe hb.pe na na2 hp) nb).run pins s σ H Q I (tz_op2 op2_rgL2 h)⟩⟩
theorem ze_tupRg2 {p p2 pos2 : Pos} (hc : X.calm = true) (hg : Gl X "tuple") (hm : X.mg "tuple" = none) (hg2 : Gl X "range") (hm2 : X.mg "range" = none) (ha : ZE X W a da) (hb : ZE X W b db) (na : starEach [a, b] X.env = (false, eval a X.env) :: starEach [b] X.env := by rfl)
    (na2 : starEach [b] X.env = (false, eval b X.env) :: starEach [] X.env := by rfl) (hp : (backTo pos2 (starEach [b] X.env)).any (·.1) = false := by rfl)
    (nb : starEach [.Call (.Name "range" p2) [a, b] [] pos2] X.env = (false, eval (.Call (.Name "range" p2) [a, b] [] pos2) X.env) :: starEach [] X.env := by rfl) : ZE X W (.Call (.Name "tuple" p) [.Call (.Name "range" p2) [a, b] [] pos2] [] pos) (z2 pRgT2 da db) :=
  ⟨⟨fun pins s σ H Q I h => (pe_tupRg hc hg hm (prg_2 hg2 hm2 ha.pe hb.pe na na2 hp) nb).run pins s σ H Q I (tz_op2 op2_rgT2 h)⟩⟩
end
end Z

set_option maxHeartbeats 4000000
/-! Z31: x[::-1], list(reversed(x)), sorted. -/
namespace HT
open PySem PySem.Spec PyProof.Rows
section
variable {prog : Program} {w : World} {A : Around} {E : Value → Shared → Prop} {s : Shared}
theorem sliceApplied_rev {sl : Addr} {vs : Value} {n : Nat} {Q : Int × Int × Nat → Shared → Prop} (hs : s.heap.IsSliceOf sl .none .none vs) (ps : IsPart vs (some (-1)))
    (h : Q ((n : Int) - 1, -1, n) s) : wpAny (model prog w) A (Builtin.Slice.sliceApplied (.ref sl) (pure (n : Int))) Q E s := by
  obtain ⟨os, hos, hcs, hds⟩ := id hs
  unfold Builtin.Slice.sliceApplied Builtin.Slice.sliceFields
  refine wpAny_bind (wpAny_bind (wpAny_field hos hds (x := .none) rfl (wpAny_bind (wpAny_field hos hds (x := .none) rfl (wpAny_bind (wpAny_field hos hds (x := vs) rfl (wpAny_pure ?_)))))))
  refine wpAny_bind (slicePart_ ps ?_)
  show wpAny _ _ (if ((-1 : Int) == 0) = true then _ else _) _ _ s
  rw [if_neg (by decide)]
  refine wpAny_bind (slicePart_none (wpAny_bind (slicePart_none (wpAny_bind (wpAny_pure ?_)))))
  show wpAny _ _ (match Builtin.Slice.sliceAdjust none none (-1) (n : Int) with | (lo, hi) => pure (lo, (-1 : Int), Builtin.Slice.slicePlaces lo hi (-1))) _ _ s
  have e : Builtin.Slice.sliceAdjust none none (-1) (n : Int) = ((n : Int) - 1, -1) := rfl
  rw [e]
  have e2 : Builtin.Slice.slicePlaces ((n : Int) - 1) (-1) (-1) = n := by
    unfold Builtin.Slice.slicePlaces
    rw [if_neg (by decide)]
    by_cases hn : n = 0
    · subst hn; rfl
    · rw [if_pos (by omega)]
      have : ((n : Int) - 1 - (-1) - 1) / (- (-1)) + 1 = n := by
        have : -(-1 : Int) = 1 := rfl
        rw [this, Int.ediv_one]
        omega
      rw [this, Int.toNat_natCast]
  refine wpAny_pure ?_
  rw [e2]
  exact h
theorem range_all (ys : List Value) : (List.range ys.length).filterMap (fun m => ys[m]?) = ys := by
  have h : (List.range ys.length).map (fun m => ys[m]?) = ys.map some := by
    apply List.ext_getElem?
    intro i
    rw [List.getElem?_map, List.getElem?_map]
    by_cases hi : i < ys.length
    · rw [List.getElem?_range hi, List.getElem?_eq_getElem hi]; simp [hi]
    · rw [List.getElem?_eq_none (by simp; omega), List.getElem?_eq_none (by omega)]; rfl
  have h2 : (List.range ys.length).filterMap (fun m => ys[m]?) = ((List.range ys.length).map (fun m => ys[m]?)).filterMap id := by
    rw [List.filterMap_map]; rfl
  rw [h2, h, List.filterMap_map]
  simp
theorem filterMap_same {f g : Nat → Option Value} : ∀ {xs : List Nat}, (∀ m ∈ xs, f m = g m) → xs.filterMap f = xs.filterMap g
  | [], _ => rfl
  | x :: xs, h => by
    have ih := filterMap_same (xs := xs) fun m hm => h m (List.mem_cons_of_mem _ hm)
    rw [List.filterMap_cons, List.filterMap_cons, h x List.mem_cons_self, ih]
theorem pick_rev (xs : Array Value) : ((List.range xs.size).filterMap fun (m : Nat) => xs[((xs.size : Int) - 1 + (m : Int) * -1).toNat]?).toArray = xs.toList.reverse.toArray := by
  congr 1
  have hlen : xs.toList.reverse.length = xs.size := by simp
  have e2 := range_all xs.toList.reverse
  rw [hlen] at e2
  refine Eq.trans (filterMap_same fun m hm => ?_) e2
  have hm := List.mem_range.mp hm
  rw [List.getElem?_reverse (by simpa using hm)]
  have : ((xs.size : Int) - 1 + (m : Int) * -1).toNat = xs.toList.length - 1 - m := by
    rw [Array.length_toList]; omega
  rw [this, Array.getElem?_toList]
theorem getItem_tuple_rev {t sl : Addr} {items : Array Value} {vs : Value} {Q : Value → Shared → Prop} (ht : IsTup s.heap t items) (hs : s.heap.IsSliceOf sl .none .none vs) (ps : IsPart vs (some (-1)))
    (h : Q (.ref s.heap.objs.size) { s with heap := s.heap.push { cls := .type "tuple", data := .seq items.toList.reverse.toArray } })
    (hsz : items.size ≤ sizeLine) : wpAny (model prog w) A (getItem (.ref t) (.ref sl)) Q E s := by
  have htake : sizeOk (.seq items.toList.reverse.toArray) := by
    show items.toList.reverse.toArray.size ≤ sizeLine
    rw [List.size_toArray, List.length_reverse, Array.length_toList]
    exact hsz
  obtain ⟨os, hos, hcs, hds⟩ := id hs
  have hTs : s.TypeIs (.ref sl) "slice" := ⟨os, hos, hcs⟩
  unfold getItem
  try with_reducible refine wpAny_holding ?_
  first | refine wpAny_bind (wpAny_pure ?_) | skip
  refine wpAny_bind (wpAny_sequenceKey ht.typeIs (by decide) ?_)
  refine wpAny_bind (wpAny_callSpecial?_slot (name := Str.ofString "__getitem__") ht.typeIs PyProof.Rows.slot_tuple_getitem
    (wpAny_call_entry PyProof.Rows.slot_tuple_getitem ht.typeIs entry_tuple_getitem ?_ (args_tuple_getitem _ _)))
  show wpAny _ _ (Builtin.Tuple.tupleItemsOf (.ref t) >>= _) _ _ s
  refine wpAny_bind (tupleItemsOf_ ht ?_)
  refine wpAny_bind (wpAny_typeOf hTs ?_)
  rw [if_pos (by decide)]
  refine wpAny_bind (sliceApplied_rev hs ps ?_)
  have hno : ¬ ((((items.size : Int) - 1) == 0 && (-1 : Int) == 1 && items.size == items.size) = true) := by
    intro q
    rw [Bool.and_eq_true, Bool.and_eq_true] at q
    exact absurd q.1.2 (by decide)
  show wpAny _ _ (if (((items.size : Int) - 1) == 0 && (-1 : Int) == 1 && items.size == items.size) = true then _ else _) _ _ s
  rw [if_neg hno, pick_rev]
  first
    | exact wpAny_bind (m := Builtin.Tuple.tupleExact _) (wpAny_newObj_type (wpAny_pure ⟨_, rfl, wpAny_pure h⟩) htake)
    | exact wpAny_bind (m := Builtin.Tuple.tupleExact _) (wpAny_newObj_type (wpAny_bind (wpAny_pure (wpAny_pure ⟨_, rfl, wpAny_pure h⟩))) htake)
    | exact wpAny_bind (wpAny_bind (m := Builtin.Tuple.tupleExact _) (wpAny_newObj_type (wpAny_pure (wpAny_pure ⟨_, rfl, wpAny_pure h⟩)) htake))
    | exact wpAny_bind (wpAny_bind (m := Builtin.Tuple.tupleExact _) (wpAny_newObj_type (wpAny_pure ⟨_, rfl, wpAny_pure h⟩) htake))
end
end HT

namespace PySem.W
open PySem PySem.Calls PyProof.Rows
section
variable {prog : Program} {w : World} {A : Around} {E : Value → Shared → Prop} {s : Shared}
theorem collect_tup {l : Addr} {vs : List Value} {Q : List Value → Shared → Prop} (hl : IsTup s.heap l vs.toArray)
    (h : Q vs { s with heap := (s.heap.push (seqObj "list" #[] 0)).update s.heap.objs.size (Obj.mapSeq (· ++ vs.toArray)) }) (hsz : vs.length ≤ sizeLine := by size_fits) :
    wpAny (model prog w) A (collect (.ref l)) Q E s := by
  obtain ⟨o, ho, hc, n, hd⟩ := id hl
  unfold collect
  refine wpAny_bind (wpAny_runValue (codeAny_builtin entry_proto_collect' ?_))
  show wpAny _ _ (do again (.builtin "list.__iadd__" ⟨[← newList [], .ref l], []⟩)) _ _ s
  refine wpAny_bind (wpAny_newList (wpAny_pure ⟨Code.quiet_builtin _ (by decide +kernel), codeAny_builtin entry_list_iadd' ?_⟩))
  show wpAny _ _ (Builtin.List.listExtendWith (.ref s.heap.objs.size) (.ref l) (.ref s.heap.objs.size)) _ _ { s with heap := s.heap.push (seqObj "list" #[] 0) }
  unfold Builtin.List.listExtendWith
  have ho' : (s.heap.push (seqObj "list" #[] 0)).get? l = some o := Heap.get?_push_of_some _ ho
  refine wpAny_bind (wpAny_typeOf (T := "tuple") ⟨o, ho', hc⟩ ?_)
  have ht : (Value.type "tuple" == Value.type "tuple") = true := by rfl
  rw [if_pos (by rw [ht]; simp)]
  refine wpAny_bind (listItems_at ho' hd ?_)
  refine wpAny_bind (listItems_at (xs := #[]) (n := 0) (Heap.get?_push_size _ rfl) rfl ?_)
  rw [if_neg (by simp)]
  refine wpAny_bind (listUpdate_at (xs := #[]) (n := 0) (Heap.get?_push_size _ rfl) rfl ?_ (Nat.zero_le _) (by show (#[] ++ vs.toArray).size ≤ sizeLine + 1; simp only [Array.size_append, List.size_toArray, List.length_nil]; omega))
  refine wpAny_pure ?_
  show wpAny (model prog w) A (do
      let o ← load s.heap.objs.size
      match o.data with
      | .seq xs _ => pure xs.toList
      | _ => unsupported "internal:collect") Q E { s with heap := (s.heap.push (seqObj "list" #[] 0)).update s.heap.objs.size (Obj.mapSeq (· ++ vs.toArray)) }
  refine wpAny_bind (wpAny_load (get?_update_seq (Heap.get?_push_size _ rfl) _) ?_)
  show wpAny _ _ (pure ((#[] : Array Value) ++ vs.toArray).toList) Q E _
  rw [show ((#[] : Array Value) ++ vs.toArray).toList = vs by simp]
  exact wpAny_pure h
theorem sorted_of_sortT {l : Addr} {vs : List Value} {kw : List (Str × Value)} {Q : Value → Shared → Prop} (hl : IsTup s.heap l vs.toArray) (hL : vs.length ≤ sizeLine) (ha1 : argsOk "sorted" ⟨[.ref l], kw⟩) (ha2 : ∀ x, argsOk "list.sort" ⟨[.ref x], kw⟩)
    (body : ∀ E' : Value → Shared → Prop, wpAny (model prog w) A.in1.in1 (Builtin.«list.sort» ⟨[.ref (s.heap.objs.size + 1)], kw⟩) (fun f s' => f = .done (.ret .none) ∧ Q (.ref (s.heap.objs.size + 1)) s') E' { s with heap := copyHeap s.heap vs }) :
    wpAny (model prog w) A (call (.builtin "sorted") [.ref l] kw) Q E s := by
  refine call_function_entry_kw kind_sorted plain_sorted entry_sorted ha1 ?_
  unfold Builtin.«sorted»
  refine wpAny_bind (m := checkCount "sorted" 1 1 _) (wpAny_pure ?_)
  refine wpAny_bind (collect_tup hl ?_ hL)
  refine wpAny_bind (wpAny_newList ?_ hL)
  have hsz : ((s.heap.push (seqObj "list" #[] 0)).update s.heap.objs.size (Obj.mapSeq (· ++ vs.toArray))).objs.size = s.heap.objs.size + 1 := by
    rw [Heap.size_update, size_push']
  show wpAny _ _ _ _ _ { s with heap := copyHeap s.heap vs }
  rw [hsz]
  refine wpAny_bind (wpAny_holding (wpAny_call_entry_kw slot_list_sort ⟨_, copyHeap_at s.heap vs, rfl⟩ entry_list_sort ?body (ha2 _)))
  case body =>
    show wpAny (model prog w) A.in1.in1 (Builtin.«list.sort» ⟨[.ref (s.heap.objs.size + 1)], kw⟩) _ _ _
    refine wpAny_mono (body _) (fun f s' hf => ?_) fun _ _ e => e
    obtain ⟨rfl, hq⟩ := hf
    exact ⟨_, rfl, wpAny_pure ⟨_, rfl, hq⟩⟩
variable {β : Type} {enc : β → PyData} {R : Value → β → Prop} {vs : List Value} {bs : List β}
theorem sorted_dataT {l : Addr} {Q : Value → Shared → Prop} (hl : IsTup s.heap l vs.toArray) (e : EachIs R vs bs) (er : EachIs (fun v b => ∃ as, Reads s.heap v (enc b) as) vs bs) (hal : AllAlike (bs.map enc)) (hk : Sortable (bs.map enc)) (hL : bs.length ≤ sizeLine)
    (hu : ∀ b, b ∈ bs → A.units + 2 + (enc b).depth < cLine) (h : ∀ out, out.length = bs.length → EachIs R out (bs.mergeSort (dataLe false enc)) → Q (.ref (s.heap.objs.size + 1)) { s with heap := sortedAll s.heap vs (List.toArray out) }) :
    wpAny (model prog w) A (call (.builtin "sorted") [.ref l]) Q E s := by
  have er' : EachIs (fun v b => ∃ as, Reads (sortingHeap (copyHeap s.heap vs) (s.heap.objs.size + 1) vs) v (enc b) as) vs bs := er.mono fun _ _ ⟨as, r⟩ => ⟨as, PyProof.Rows.Reads.keeps (fun _ _ => sorting_copy_old) r⟩
  have S : SortsAt prog w A.in1.in1 { s with heap := sortingHeap (copyHeap s.heap vs) (s.heap.objs.size + 1) vs } _ vs := SortsAt.data (s := { s with heap := sortingHeap (copyHeap s.heap vs) (s.heap.objs.size + 1) vs }) (each_map (R := fun v d => ∃ as, Reads (sortingHeap (copyHeap s.heap vs) (s.heap.objs.size + 1) vs) v d as) enc er') hal hk (bound_map hu)
  have hL2 : vs.length ≤ sizeLine := by rw [e.length]; exact hL
  exact sorted_of_sortT hl hL2 (args_sorted1 _) (fun _ => args_list_sort _) fun _ => list_sort_vals (s := { s with heap := copyHeap s.heap vs }) (copyHeap_at s.heap vs) S hL2 ⟨rfl, h _ (by rw [sortVals_length false rfl]; exact e.length) (sortVals_data false e er' hal)⟩
end
end PySem.W

set_option maxHeartbeats 4000000
/-! Z32: sorting tuples of which the first is empty; sorted; list(reversed(x)); x[::-1]. -/
namespace PySem.W
open PySem PySem.Calls PyProof.Rows
section
variable {prog : Program} {w : World} {A : Around} {E : Value → Shared → Prop} {s : Shared}
theorem call_tuple_ltZ {Q : Value → Shared → Prop} {l b : Addr} {items items2 : Array Value} {e r : Nat → Bool} (hl : s.heap.IsTuple l items) (hb : s.heap.IsTuple b items2)
    (he : ∀ j (h1 : j < items.size) (h2 : j < items2.size), SeqAt.EqAt A.in1 s items[j] items2[j] (e j)) (hr : ∀ j (h1 : j < items.size) (h2 : j < items2.size), e j = false → SeqAt.RcLt A.in1 s items[j] items2[j] (r j))
    (h : Q (.bool (SeqAt.firstLt e r (decide (items.size < items2.size)) (List.range (min items.size items2.size)))) s) : wpAny (model prog w) A (call (.builtin "tuple.__lt__") [.ref l, .ref b]) Q E s := by
  obtain ⟨⟨cls, dd, data, sl⟩, ho, hc, n, hd⟩ := id hl
  obtain ⟨⟨cls2, dd2, data2, sl2⟩, ho2, hc2, n2, hd2⟩ := id hb
  simp only at hc hd hc2 hd2
  subst hc hd hc2 hd2
  exact call_meets F.slot_tuple_lt ⟨_, ho, rfl⟩ F.entry_tuple_lt (F.args_tuple_lt_2 _ _) (SeqAt.tuple_ltAt l b items items2 n n2 dd dd2 sl sl2 e r) ⟨ho, ho2, he, hr, h⟩
theorem oneLt_tuples {xs ys : List PyData} {a b : Value} {as bs : List Addr} {Q : Bool → Shared → Prop} (ra : Reads s.heap a (.tuple xs) as) (rb : Reads s.heap b (.tuple ys) bs) (h : alike (.tuple xs) (.tuple ys) = true)
    (hu : A.units + min (PyData.tuple xs).depth (PyData.tuple ys).depth < cLine) (hq : Q (dataLt (.tuple xs) (.tuple ys)) s) : wpAny (model prog w) A (oneLt' true a b) Q E s := by
  have hal : alikeAll xs ys = true := by simpa [alike] using h
  cases ra with
  | @tuple l o vs n _ as₁ h1 h2 h3 h4 =>
    cases rb with
    | @tuple l' o' vs' n' _ bs₁ k1 k2 k3 k4 =>
      have n1 : vs.size = xs.length := by simpa using SeqAt.ReadsAll.length _ _ _ h4
      have n2 : vs'.size = ys.length := by simpa using SeqAt.ReadsAll.length _ _ _ k4
      rw [dataLt_tuple, ← firstLt_toks xs ys hal, ← n1, ← n2] at hq
      rw [oneLt'_eq]
      simp only [if_true]
      refine wpAny_bind (wpAny_cRoomFor (SeqAt.room_here hu) ?_)
      refine wpAny_bind (wpAny_callSpecialIfBound?_slot (T := "tuple") ⟨_, h1, h2⟩ F.slot_tuple_lt (call_tuple_ltZ (e := SeqAt.pairEq xs ys) (r := fun j => dataLt (xs.getD j .none) (ys.getD j .none)) ⟨_, h1, h2, _, h3⟩ ⟨_, k1, k2, _, k3⟩ (fun j j1 j2 => ?_) (fun j j1 j2 hj => ?_) ?_))
      · have := eqAt_alikeAll xs ys A.in1 s vs.toList vs'.toList _ _ h4 k4 hal (SeqAt.room_in hu) j (by simpa using j1) (by simpa using j2)
        simpa using this
      · have := rcLt_alikeAll xs ys A.in1 s vs.toList vs'.toList _ _ h4 k4 hal (SeqAt.room_in hu) j (by simpa using j1) (by simpa using j2) hj
        simpa using this
      · exact wpAny_truthy_bool hq
theorem firsts_tup : ∀ (vs : List Value) (ds : List PyData) {Q : List (Option Value) → Shared → Prop}, EachIs (fun v d => (∃ xs, d = .tuple xs) ∧ ∃ as, Reads s.heap v d as) vs ds →
    (∀ fs : List (Option Value), fs.map (·.isSome) = ds.map (fun d => match d with | .tuple (_ :: _) => true | _ => false) → Q fs s) → wpAny (model prog w) A (vs.mapM firstOfTuple') Q E s
  | [], _, Q, .nil, h => by rw [List.mapM_nil]; exact wpAny_pure (h [] rfl)
  | v :: vs, d :: ds, Q, .cons ⟨⟨xs, hx⟩, as, r⟩ t, h => by
    subst hx
    rw [List.mapM_cons]
    refine wpAny_bind ?_
    cases r with
    | @tuple l o its n _ as₁ h1 h2 h3 h4 =>
      have n1 : its.toList.length = xs.length := by simpa using SeqAt.ReadsAll.length _ _ _ h4
      rw [kas_first_eq]
      refine wpAny_bind (Looks.here (show Looks (model prog w) s.heap (typeOf (.ref l)) o.cls from (Looks.ld h1).andThen .now) ?_)
      rw [h2, if_neg (by first | decide | simp)]
      refine wpAny_bind (listItems_at h1 h3 (wpAny_pure ?_))
      refine wpAny_bind (firsts_tup vs ds t fun fs hfs => wpAny_pure (h _ ?_))
      rw [List.map_cons, List.map_cons, hfs]
      congr 1
      cases xs with
      | nil =>
        have : its = #[] := by
          apply Array.toList_inj.mp
          exact List.eq_nil_of_length_eq_zero n1
        subst this
        rfl
      | cons x xs =>
        have : 0 < its.size := by
          rw [← Array.length_toList, n1]
          exact Nat.succ_pos _
        rw [Array.getElem?_eq_getElem this]
        rfl
theorem kind_tup0 {vs : List Value} {ds : List PyData} {Q : SortKind → Shared → Prop} (h2 : 2 ≤ vs.length) (e : EachIs (fun v d => (∃ xs, d = .tuple xs) ∧ ∃ as, Reads s.heap v d as) vs ds) (h0 : ds[0]? = some (.tuple [])) (h : Q oneType' s) :
    wpAny (model prog w) A (keyKind' vs.toArray) Q E s := by
  rw [keyKind'_eq, List.mapM_toArray, map_eq_pure_bind]
  refine wpAny_bind (wpAny_bind (firsts_tup vs ds e fun fs hfs => wpAny_pure ?_))
  have hf0 : fs[0]? = some none := by
    have := congrArg (fun l => l[0]?) hfs
    simp only [List.getElem?_map, h0, Option.map_some] at this
    cases hh : fs[0]? with
    | none => rw [hh] at this; cases this
    | some o =>
      rw [hh] at this
      cases o with
      | none => rfl
      | some v => cases this
  have hall : ¬ ((fs.toArray.all fun x => x.isSome) = true) := by
    rw [List.all_toArray]
    intro hh
    have := List.all_eq_true.mp hh none (List.mem_of_getElem? hf0)
    cases this
  rw [if_neg hall, if_neg (by simp [hf0])]
  rw [oneTypeOnly'_eq, List.mapM_toArray, map_eq_pure_bind]
  have hT : ∀ v ∈ vs, Looks (model prog w) s.heap (typeOf v) (Value.type "tuple") := by
    intro v hv
    obtain ⟨d, hd, ⟨xs, rfl⟩, as, r⟩ := e.left v hv
    cases r with
    | @tuple l o its n _ as₁ h1 h2 h3 h4 => rw [← h2]; exact (Looks.ld h1).andThen .now
  refine wpAny_bind (wpAny_bind (wpAny_bind (kas_mapM (r := Value.type "tuple") _ (fun v hv Q' hq => (hT v hv).here hq) (wpAny_pure ?_))))
  obtain ⟨v₁, v₂, rest, rfl⟩ : ∃ v₁ v₂ rest, vs = v₁ :: v₂ :: rest := by
    match vs, h2 with
    | [], h2 => simp at h2
    | [_], h2 => simp at h2
    | v₁ :: v₂ :: rest, _ => exact ⟨v₁, v₂, rest, rfl⟩
  have hall : ((List.map (fun _ => Value.type "tuple") (v₁ :: v₂ :: rest)).toArray.all fun x => x == Value.type "tuple") = true := by
    simp only [List.all_toArray, List.all_map, List.all_eq_true]
    intro _ _
    rfl
  have h0 : (List.map (fun _ => Value.type "tuple") (v₁ :: v₂ :: rest)).toArray[0]? = some (Value.type "tuple") := by simp
  rw [h0]
  simp only [hall, if_true]
  exact wpAny_pure (wpAny_pure h)
/-- tuples, the first of them empty -/
def Sortable0 (ds : List PyData) : Prop := (∀ d ∈ ds, ∃ xs, d = .tuple xs) ∧ ds[0]? = some (.tuple [])
theorem SortsAt.data0 {vs : List Value} {ds : List PyData} (e : EachIs (fun v d => ∃ as, Reads s.heap v d as) vs ds) (hal : AllAlike ds) (hk : Sortable ds ∨ Sortable0 ds) (hu : ∀ d, d ∈ ds → A.units + d.depth < cLine) : SortsAt prog w A s (dataKind s.heap ds) vs := by
  rcases hk with hk | ⟨hk, h0⟩
  · exact SortsAt.data e hal hk hu
  have room : ∀ {d d' : PyData}, d ∈ ds → A.units + min d.depth d'.depth < cLine := fun {d d'} hd => Nat.lt_of_le_of_lt (Nat.add_le_add_left (Nat.min_le_left _ _) _) (hu d hd)
  refine ⟨fun v hv => ?_, oneType', ?_, fun h2 E Q hq => ?_⟩
  · obtain ⟨d, hd, as, r⟩ := e.left v hv
    exact ⟨_, dataKind_some hal hd r⟩
  · intro E x y a b Q ha hb hq
    obtain ⟨d, as, hd, ra, rfl⟩ := dataKind_inv ha
    obtain ⟨d', as', hd', rb, rfl⟩ := dataKind_inv hb
    rw [keyLt'_oneType]
    obtain ⟨xs, rfl⟩ := hk d hd
    obtain ⟨ys, rfl⟩ := hk d' hd'
    exact oneLt_tuples ra rb (hal _ hd _ hd') (room hd) hq
  · exact kind_tup0 h2 ((each_mem e).mono fun v d ⟨r, hd⟩ => ⟨hk d hd, r⟩) h0 hq
variable {β : Type} {enc : β → PyData} {R : Value → β → Prop} {vs : List Value} {bs : List β}
theorem sorted_data0 {l : Addr} {Q : Value → Shared → Prop} (hl : s.heap.IsList l vs.toArray ∨ IsTup s.heap l vs.toArray) (e : EachIs R vs bs) (er : EachIs (fun v b => ∃ as, Reads s.heap v (enc b) as) vs bs) (hal : AllAlike (bs.map enc)) (hk : Sortable (bs.map enc) ∨ Sortable0 (bs.map enc)) (hL : bs.length ≤ sizeLine)
    (hu : ∀ b, b ∈ bs → A.units + 2 + (enc b).depth < cLine) (h : ∀ out, out.length = bs.length → EachIs R out (bs.mergeSort (dataLe false enc)) → Q (.ref (s.heap.objs.size + 1)) { s with heap := sortedAll s.heap vs (List.toArray out) }) :
    wpAny (model prog w) A (call (.builtin "sorted") [.ref l]) Q E s := by
  have er' : EachIs (fun v b => ∃ as, Reads (sortingHeap (copyHeap s.heap vs) (s.heap.objs.size + 1) vs) v (enc b) as) vs bs := er.mono fun _ _ ⟨as, r⟩ => ⟨as, PyProof.Rows.Reads.keeps (fun _ _ => sorting_copy_old) r⟩
  have S : SortsAt prog w A.in1.in1 { s with heap := sortingHeap (copyHeap s.heap vs) (s.heap.objs.size + 1) vs } _ vs := SortsAt.data0 (s := { s with heap := sortingHeap (copyHeap s.heap vs) (s.heap.objs.size + 1) vs }) (each_map (R := fun v d => ∃ as, Reads (sortingHeap (copyHeap s.heap vs) (s.heap.objs.size + 1) vs) v d as) enc er') hal hk (bound_map hu)
  have hL2 : vs.length ≤ sizeLine := by rw [e.length]; exact hL
  have hb := fun E' : Value → Shared → Prop => list_sort_vals (E := E') (s := { s with heap := copyHeap s.heap vs }) (P := fun f s' => f = .done (.ret .none) ∧ Q (.ref (s.heap.objs.size + 1)) s') (copyHeap_at s.heap vs) S hL2 ⟨rfl, h _ (by rw [sortVals_length false rfl]; exact e.length) (sortVals_data false e er' hal)⟩
  rcases hl with hl | hl
  · exact sorted_of_sort hl hL2 (args_sorted1 _) (fun _ => args_list_sort _) hb
  · exact sorted_of_sortT hl hL2 (args_sorted1 _) (fun _ => args_list_sort _) hb
end
end PySem.W
namespace Z
open PySem PySem.Spec PyProof.Rows L2
section
variable [TB : Tabs]
variable {X : Cx} {K : PySem.W.Frag} {W : WZ} {G H : Hp} {a b : Expr} {da db : ZD} {pos : Pos}
theorem each_rel {α β : Type} {R S : α → β → Prop} : ∀ {xs : List α} {ys : List β}, PySem.W.EachIs R xs ys → (∀ x y, R x y → S x y) → PySem.W.EachIs S xs ys
  | _, _, .nil, _ => .nil
  | _, _, .cons r t, h => .cons (h _ _ r) (each_rel t h)
theorem each_zip {pins : List (Addr × Obj)} {σ : L2.St} {s : Shared} (I : Inv X pins σ H s) : ∀ {xs : List V} {ds : List PyData} {its : List Value}, Vals xs its → DpAll X.K H xs ds → PySem.W.EachIs (fun u (b : V × PyData) => RelV b.1 u) its (xs.zip ds) ∧ PySem.W.EachIs (fun u (b : V × PyData) => ∃ as, Reads s.heap u b.2 as) its (xs.zip ds)
  | [], _, _, rv, h => by cases rv; cases h; exact ⟨.nil, .nil⟩
  | x :: xs, ds, _, rv, h => by
    cases rv with
    | cons r1 r2 =>
      cases h with
      | cons h1 h2 =>
        obtain ⟨e1, e2⟩ := each_zip I r2 h2
        exact ⟨.cons r1 e1, .cons (Dp.reads I _ _ _ h1 r1) e2⟩
theorem each_vals : ∀ {out : List Value} {bs : List (V × PyData)}, PySem.W.EachIs (fun u (b : V × PyData) => RelV b.1 u) out bs → Vals (bs.map (·.1)) out
  | _, _, .nil => .nil
  | _, _, .cons r t => .cons r (each_vals t)
theorem zip_snd {xs : List V} {ds : List PyData} (h : xs.length = ds.length) : (xs.zip ds).map (·.2) = ds := List.map_snd_zip (by omega)
theorem dpa_len {G : Hp} : ∀ {vs : List V} {ds : List PyData}, DpAll K G vs ds → vs.length = ds.length
  | _, _, .nil => rfl
  | _, _, .cons _ t => by simp [dpa_len t]
/-- sorted(x), x a list or a tuple of data that are alike -/
def rSortD (K : PySem.W.Frag) : List V → Hp → VK → Prop := fun vs H Q => ∃ a xs ds, vs = [V.ref a] ∧ (SqL K H a xs ∨ SqT K H a xs) ∧ DpAll K H xs ds ∧ PySem.W.AllAlike ds ∧ (PySem.W.Sortable ds ∨ PySem.W.Sortable0 ds) ∧ (∀ d ∈ ds, d.depth ≤ 60) ∧
  ∀ p, H p = none → Q (.ref p) (upd H p (.lst (((xs.zip ds).mergeSort (PySem.W.dataLe false (·.2))).map (·.1))))
theorem cr_sortD (hu : X.A.units + 65 < cLine) : CallR X (.builtin "sorted") (rSortD X.K) := by
  intro pins s σ H vs us Q I r h
  obtain ⟨a, xs, ds, rfl, hq, hd, ha, hs, hdep, q⟩ := h
  rw [Vals.ref1 r]
  obtain ⟨its, rv, hl, hz⟩ : ∃ its : List Value, Vals xs its ∧ (s.heap.IsList a its.toArray ∨ IsTup s.heap a its.toArray) ∧ xs.length ≤ sizeLine := by
    rcases hq with hq | hq
    · obtain ⟨its, rv, hl, hz⟩ := I.list hq
      exact ⟨its, rv, .inl hl.isList, hz⟩
    · obtain ⟨its, rv, hl, hz⟩ := I.tuple hq
      exact ⟨its, rv, .inr hl, hz⟩
  have hlen := dpa_len hd
  obtain ⟨e1, e2⟩ := each_zip I rv hd
  have hm := zip_snd hlen
  have hzl : (xs.zip ds).length = xs.length := by rw [List.length_zip]; omega
  refine PySem.W.sorted_data0 (enc := fun b : V × PyData => b.2) hl e1 e2 (by rw [hm]; exact ha) (by rw [hm]; exact hs) (by omega) (fun b hb => by
    have : b.2 ∈ ds := by rw [← hm]; exact List.mem_map_of_mem hb
    have := hdep _ this
    omega) fun out hlo ho => ?_
  obtain ⟨ep, he'⟩ := PyProof.Rows.sortedAll_at s.heap its out.toArray
  have hv := each_vals ho
  refine ⟨.ref _, _, I.laid (t' := s.toks) (o := .lst (((xs.zip ds).mergeSort (PySem.W.dataLe false (·.2))).map (·.1))) (fun _ _ => PyProof.Rows.sortedAll_old) (Nat.le_succ _) ⟨?_, out, ep, hv, he'⟩, rfl, q _ (I.hok.fresh (Nat.le_succ _))⟩
  rw [List.length_map, List.length_mergeSort, hzl]
  exact hz
def sortableB (ds : List PyData) : Bool := (ds.all fun d => match d with | .tuple (_ :: _) => true | _ => false) || (ds.all fun d => match d with | .none => false | .tuple _ => false | _ => true) || ((ds.all fun d => match d with | .tuple _ => true | _ => false) && (match ds with | .tuple [] :: _ => true | _ => false))
theorem sortableB_ok {ds : List PyData} (h : sortableB ds = true) : PySem.W.Sortable ds ∨ PySem.W.Sortable0 ds := by
  unfold sortableB at h
  simp only [Bool.or_eq_true, Bool.and_eq_true, List.all_eq_true] at h
  rcases h with (h | h) | ⟨h, h0⟩
  · refine .inl (.inl fun d hd => ?_)
    have := h d hd
    split at this
    · exact ⟨_, _, rfl⟩
    · cases this
  · refine .inl (.inr fun d hd => ?_)
    have := h d hd
    constructor
    · rintro rfl; cases this
    · rintro xs rfl; cases this
  · refine .inr ⟨fun d hd => ?_, ?_⟩
    · have := h d hd
      split at this
      · exact ⟨_, rfl⟩
      · cases this
    · split at h0
      · rfl
      · cases h0
def sortO (ds : List PyData) : Option RO := if ((ds.all fun x => ds.all fun y => PySem.W.alike x y) && sortableB ds && ds.all fun d => decide (d.depth ≤ 60)) = true then some (.nl (ds.mergeSort (PySem.W.dataLe false id))) else none
def pSorted : PyData → Option RO
  | .list ds => sortO ds
  | .tuple ds => sortO ds
  | _ => none
theorem rds_zip {xs : List V} {ds : List PyData} (h : RDs K G xs ds) : ∀ b ∈ xs.zip ds, RD K G b.1 b.2 := by
  intro b hb
  induction xs generalizing ds with
  | nil => cases hb
  | cons x xs ih =>
    cases h with
    | cons h1 h2 =>
      rcases List.mem_cons.mp hb with rfl | hb
      · exact h1
      · exact ih h2 hb
theorem rds_of : ∀ {bs : List (V × PyData)}, (∀ b ∈ bs, RD K G b.1 b.2) → RDs K G (bs.map (·.1)) (bs.map (·.2))
  | [], _ => .nil
  | b :: bs, h => .cons (h b List.mem_cons_self) (rds_of fun c hc => h c (List.mem_cons_of_mem _ hc))
theorem sort_snd {xs : List V} {ds : List PyData} (h : xs.length = ds.length) : ((xs.zip ds).mergeSort (PySem.W.dataLe false (·.2))).map (·.2) = ds.mergeSort (PySem.W.dataLe false id) := by
  have e : ((xs.zip ds).map (·.2)).mergeSort (PySem.W.dataLe false id) = ds.mergeSort (PySem.W.dataLe false id) := by rw [zip_snd h]
  rw [← e]
  exact List.map_mergeSort fun a _ b _ => rfl
theorem op1_sorted : Op1 K pSorted fun x H Q => rSortD K [x] H Q := by
  intro G H x Q d r s vx h q
  have go : ∀ (a : Addr) (vs : List V) (ds : List PyData), x = .ref a → (SqL K H a vs ∨ SqT K H a vs) → RDs K G vs ds → sortO ds = some r → rSortD K [x] H Q := by
    intro a vs ds e hq hr hb
    subst e
    unfold sortO at hb
    split at hb
    · rename_i hz
      simp only [Bool.and_eq_true, List.all_eq_true, decide_eq_true_eq] at hz
      cases hb
      refine ⟨a, vs, ds, rfl, hq, RDs.dp _ _ (dps_mono s _ _ hr), fun d hd d' hd' => hz.1.1 d hd d' hd', sortableB_ok hz.1.2, hz.2, fun p hp => q p _ hp ?_⟩
      rw [← sort_snd (dps_len hr)]
      exact rds_of fun b hb => rds_zip hr b (List.mem_mergeSort.mp hb)
    · cases hb
  cases d with
  | list ds =>
    obtain ⟨a, vs, rfl, h1, q1⟩ := vx.lst s
    exact go a vs ds rfl (.inl (SqL.of h1)) q1 h
  | tuple ds =>
    obtain ⟨a, vs, rfl, h1, q1⟩ := vx.tup s
    exact go a vs ds rfl (.inr h1) q1 h
  | _ => cases h
end
end Z

set_option maxHeartbeats 4000000
/-! Z33: x[::-1], list(reversed(x)). -/
namespace L2
open PySem PySem.Spec PyProof.Rows HT
section
variable {X : Cx}
def tRevA (K : PySem.W.Frag) (te : TE) : TE := fun σ H Q => te σ H fun x H1 => ∃ a xs, x = .ref a ∧ ((SqL K H1 a xs ∧ ∀ p, H1 p = none → Q (.ref p) (upd H1 p (.lst xs.reverse))) ∨ (SqT K H1 a xs ∧ ∀ p, H1 p = none → Q (.ref p) (upd H1 p (.tup xs.reverse))))
theorem pe_revA {e : Expr} {te : TE} {k : Nat} {p1 p2 p3 pos : Pos} (he : PE X e te) : PE X (.Subscript e (.Slice none none (some (.UnaryOp .USub (.Constant (.int 1) k p1) p2)) p3) pos) (tRevA X.K te) := by
  refine ⟨fun pins s σ H Q I h => ?_⟩
  refine Subscript_ (thn (he.run pins s σ H _ I h) fun v s1 ⟨x, H1, I1, r1, q1⟩ => ?_)
  obtain ⟨a, xs, ex, hx⟩ := q1
  subst ex
  cases r1
  have hst : PO X (some (.UnaryOp .USub (.Constant (.int 1) k p1) p2)) (tPart (tUn (rU fun i => .int (-i)) (tC (.int 1)))) := po_some (pe_un un_neg pe_int)
  refine wpAny_Slice (thn (po_none.run pins s1 σ H1 (fun o H2 => o = none ∧ H2 = H1) I1 ⟨rfl, rfl⟩) fun vl s2 ⟨l, H2, I2, pl, el, e2⟩ => ?_)
  subst el e2
  refine thn (po_none.run pins s2 σ H2 (fun o H3 => o = none ∧ H3 = H2) I2 ⟨rfl, rfl⟩) fun vu s3 ⟨u, H3, I3, pu, eu, e3⟩ => ?_
  subst eu e3
  refine thn (hst.run pins s3 σ H3 (fun o H4 => o = some (-1) ∧ H4 = H3) I3 ⟨1, rfl, -1, rfl, rfl, rfl⟩) fun vs s4 ⟨o, H4, I4, ps, eo, e4⟩ => ?_
  subst eo e4
  have I5 : Inv X pins σ H4 { s4 with heap := s4.heap.push { cls := .type "slice", data := .fields #[vl, vu, vs] } } := I4.kept (t' := s4.toks) fun b ob q => Heap.get?_push_of_some _ q
  show wpAny (model X.prog X.w) X.A (subscriptTail e (.Slice none none (some (.UnaryOp .USub (.Constant (.int 1) k p1) p2)) p3) (.ref a) (.ref s4.heap.objs.size)) (EP X pins σ Q) X.xe { s4 with heap := s4.heap.push { cls := .type "slice", data := .fields #[vl, vu, vs] } }
  rcases hx with ⟨hx, q⟩ | ⟨hx, q⟩
  · obtain ⟨its, r, ht, hz⟩ := I5.list hx
    have hlen := r.length
    refine tail_any (ops := [.ref a, .ref s4.heap.objs.size]) ht.isList.typeIs (PySem.slot_list_getitem.lookup) ?_ (by with_unfolding_all rfl)
    refine wpAny_getItem_list_slice ht.isList (Heap.IsSliceOf.new _ vl vu vs) pl pu ps (by decide) ?_ (by rw [List.size_toArray]; omega)
    rw [PySem.W.krv_pick]
    refine ⟨.ref _, _, I5.laid (t' := s4.toks) (o := .lst xs.reverse) (fun b ob q => Heap.get?_push_of_some _ q) (Nat.le_refl _) ?_, rfl, q _ (I5.hok.fresh (Nat.le_refl _))⟩
    exact ⟨by rw [List.length_reverse]; exact hz, _, 0, r.reverse, Heap.get?_push_size _ rfl⟩
  · obtain ⟨its, r, ht, hz⟩ := I5.tuple hx
    have hlen := r.length
    refine tail_any (ops := [.ref a, .ref s4.heap.objs.size]) ht.typeIs (PyProof.Rows.slot_tuple_getitem.lookup) ?_ (by with_unfolding_all rfl)
    cases pl
    cases pu
    refine getItem_tuple_rev ht (Heap.IsSliceOf.new _ .none .none vs) ps ?_ (by rw [List.size_toArray]; omega)
    refine ⟨.ref _, _, I5.laid (t' := s4.toks) (o := .tup xs.reverse) (fun b ob q => Heap.get?_push_of_some _ q) (Nat.le_refl _) ?_, rfl, q _ (I5.hok.fresh (Nat.le_refl _))⟩
    exact ⟨by rw [List.length_reverse]; exact hz, _, r.reverse, IsTup.new _ _⟩
def tLstRev (K : PySem.W.Frag) (te : TE) : TE := fun σ H Q => te σ H fun x H1 => ∃ a xs, x = .ref a ∧ SqL K H1 a xs ∧ ∀ p, H1 p = none → Q (.ref p) (upd H1 p (.lst xs.reverse))
theorem pe_lstRev {e : Expr} {te : TE} {p p2 pos pos2 : Pos} (hc : X.calm = true) (hg : Gl X "list") (hm : X.mg "list" = none) (hg2 : Gl X "reversed") (hm2 : X.mg "reversed" = none) (he : PE X e te)
    (hs : starEach [e] X.env = (false, eval e X.env) :: starEach [] X.env := by rfl)
    (hs2 : starEach [.Call (.Name "reversed" p2) [e] [] pos2] X.env = (false, eval (.Call (.Name "reversed" p2) [e] [] pos2) X.env) :: starEach [] X.env := by rfl) :
    PE X (.Call (.Name "list" p) [.Call (.Name "reversed" p2) [e] [] pos2] [] pos) (tLstRev X.K te) := by
  refine ⟨fun pins s σ H Q I h => ?_⟩
  refine Call_ (ld_blt I hg hm boot_list (PyProof.Rows.callWith_type1 (args_cons (Call_ (ld_blt I hg2 hm2 PyProof.Rows.boot_reversed (PyProof.Rows.callWith_type1 (args_cons (thn (he.run pins s σ H _ I h) fun u s1 ⟨v, H1, I1, r1, q1⟩ => args_nil ?_) hs) hs rfl))) hs2) hs2 rfl))
  obtain ⟨a, xs, ev, hq, q⟩ := q1
  subst ev
  obtain rfl : u = Value.ref a := r1
  obtain ⟨its, rv, p', hz⟩ := I1.list hq
  refine call_reversed_list p'.isList (args_nil ?_)
  have k0 : ∀ b o, s1.heap.get? b = some o → (s1.heap.push (revObj a ((its.toArray.size : Int) - 1))).get? b = some o := fun b o e => Heap.get?_push_of_some _ e
  have I2 : Inv X pins σ H1 { s1 with heap := s1.heap.push (revObj a ((its.toArray.size : Int) - 1)) } := I1.kept (t' := s1.toks) k0
  obtain ⟨f0, f1, f2, f3, f4, f5⟩ := I1.fpOk (H' := H1) (b := s1.heap.objs.size) (Nat.le_refl _) (I1.hok.fresh (Nat.le_refl _))
  have hl := p'.isList
  obtain ⟨ol, hol, _⟩ := id hl
  have hne : a ≠ s1.heap.objs.size := Nat.ne_of_lt (Heap.lt_size hol)
  have hn : its.toArray.size ≤ sizeLine := by rw [List.size_toArray, ← rv.length]; exact hz
  refine call_list_rev (s := { s1 with heap := s1.heap.push (revObj a ((its.toArray.size : Int) - 1)) }) (I1.ok.hd hc) ⟨_, Heap.get?_push_size _ rfl, rfl, rfl⟩ (hl.push _) hne hn fun h' tk acc c' hk hS hi => ?_
  have hsz : (s1.heap.push (revObj a ((its.toArray.size : Int) - 1))).objs.size = s1.heap.objs.size + 1 := Heap.size_push _ _
  have kp : ∀ b o, s1.heap.get? b = some o → h'.get? b = some o := fun b o e => hk b o (Nat.ne_of_lt (Heap.lt_size e)) (k0 b o e)
  refine ⟨.ref _, upd H1 (s1.heap.push (revObj a ((its.toArray.size : Int) - 1))).objs.size (.lst xs.reverse), I1.laid (t' := tk) kp (by rw [hsz]; exact Nat.le_succ _) (show ObjOk X.prog X.w _ h' _ (.lst xs.reverse) from ⟨by rw [List.length_reverse]; exact hz, acc.toList, c', RT.vals_rev rv hi, ?_⟩), rfl, q _ (I1.hok.fresh (by rw [hsz]; exact Nat.le_succ _))⟩
  rw [Array.toArray_toList]
  exact hS
end
end L2
namespace Z
open PySem PySem.Spec PyProof.Rows L2
section
variable [TB : Tabs]
variable {X : Cx} {K : PySem.W.Frag} {W : WZ} {G H : Hp} {a b : Expr} {da db : ZD} {pos : Pos}
def pRev : PyData → Option RO
  | .list ds => some (.nl ds.reverse)
  | .tuple ds => some (.sc (.tuple ds.reverse))
  | _ => none
theorem op1_rev : Op1 K pRev fun x H Q => ∃ a xs, x = .ref a ∧ ((SqL K H a xs ∧ ∀ p, H p = none → Q (.ref p) (upd H p (.lst xs.reverse))) ∨ (SqT K H a xs ∧ ∀ p, H p = none → Q (.ref p) (upd H p (.tup xs.reverse)))) := by
  intro G H x Q d r s vx h q
  unfold pRev at h
  split at h
  · cases h
    obtain ⟨a, vs, rfl, h1, q1⟩ := vx.lst s
    exact ⟨a, vs, rfl, .inl ⟨SqL.of h1, fun p hp => q p _ hp (dps_reverse q1)⟩⟩
  · cases h
    obtain ⟨a, vs, rfl, h1, q1⟩ := vx.tup s
    exact ⟨a, vs, rfl, .inr ⟨h1, fun p hp => q.2 _ rfl p _ hp (dps_reverse q1)⟩⟩
  · cases h
def pLRev : PyData → Option RO
  | .list ds => some (.nl ds.reverse)
  | _ => none
theorem op1_lrev : Op1 K pLRev fun x H Q => ∃ a xs, x = .ref a ∧ SqL K H a xs ∧ ∀ p, H p = none → Q (.ref p) (upd H p (.lst xs.reverse)) := by
  intro G H x Q d r s vx h q
  unfold pLRev at h
  split at h
  · cases h
    obtain ⟨a, vs, rfl, h1, q1⟩ := vx.lst s
    exact ⟨a, vs, rfl, SqL.of h1, fun p hp => q p _ hp (dps_reverse q1)⟩
  · cases h
theorem ze_rev {k : Nat} {p1 p2 p3 : Pos} (ha : ZE X W a da) : ZE X W (.Subscript a (.Slice none none (some (.UnaryOp .USub (.Constant (.int 1) k p1) p2)) p3) pos) (z1 pRev da) :=
  ⟨⟨fun pins s σ H Q I h => (pe_revA ha.pe).run pins s σ H Q I (tz_op1 op1_rev h)⟩⟩
theorem ze_lrev {p p2 pos2 : Pos} (hc : X.calm = true) (hg : Gl X "list") (hm : X.mg "list" = none) (hg2 : Gl X "reversed") (hm2 : X.mg "reversed" = none) (ha : ZE X W a da) (hs : starEach [a] X.env = (false, eval a X.env) :: starEach [] X.env := by rfl)
    (hs2 : starEach [.Call (.Name "reversed" p2) [a] [] pos2] X.env = (false, eval (.Call (.Name "reversed" p2) [a] [] pos2) X.env) :: starEach [] X.env := by rfl) : ZE X W (.Call (.Name "list" p) [.Call (.Name "reversed" p2) [a] [] pos2] [] pos) (z1 pLRev da) :=
  ⟨⟨fun pins s σ H Q I h => (pe_lstRev hc hg hm hg2 hm2 ha.pe hs hs2).run pins s σ H Q I (tz_op1 op1_lrev h)⟩⟩
end
end Z

/-! Z34: equations for what Z19, Z30..Z33 bring. -/
namespace Z
open PySem PySem.Spec PyProof.Rows L2
section
variable {α β : Type} {τ τ1 : Fr} {i j k n : Nat} {d e : PyData} {ds es : List PyData} {c1 c2 c3 : Cell}
def kPar2 (i j : Nat) (ls : List LR) (τ : Fr) : Res Fl := match ls with
  | [.cl c1, .cl c2] => .ok .nx ((τ.set i (some c1)).set j (some c2))
  | _ => .stuck
@[simp] theorem zPar2_ev {as : ZLD} : zPar2 i j as τ = (as τ).bind (kPar2 i j) := Eq.trans rfl rfl
@[simp] theorem kPar2_ev : kPar2 i j [.cl c1, .cl c2] τ = .ok .nx ((τ.set i (some c1)).set j (some c2)) := Eq.trans rfl rfl
def kPar3 (i j k : Nat) (ls : List LR) (τ : Fr) : Res Fl := match ls with
  | [.cl c1, .cl c2, .cl c3] => .ok .nx (((τ.set i (some c1)).set j (some c2)).set k (some c3))
  | _ => .stuck
@[simp] theorem zPar3_ev {as : ZLD} : zPar3 i j k as τ = (as τ).bind (kPar3 i j k) := Eq.trans rfl rfl
@[simp] theorem kPar3_ev : kPar3 i j k [.cl c1, .cl c2, .cl c3] τ = .ok .nx (((τ.set i (some c1)).set j (some c2)).set k (some c3)) := Eq.trans rfl rfl
/-! ### statements with a postcondition, loops over raw lists, over own lists -/
theorem Gv.seqP {p q : ZSD} {c : Cell} (Q : Fr → Prop) (h : ∃ τ1, p τ = .ok .nx τ1 ∧ Q τ1) (h2 : ∀ τ1, Q τ1 → Gv q τ1 c) : Gv (zSeq p q) τ c := by
  obtain ⟨τ1, e, hq⟩ := h
  exact Gv.seq ⟨τ1, e, h2 τ1 hq⟩
theorem Go.seqP {p q : ZSD} {R : Fr → Prop} (Q : Fr → Prop) (h : ∃ τ1, p τ = .ok .nx τ1 ∧ Q τ1) (h2 : ∀ τ1, Q τ1 → Go q τ1 R) : Go (zSeq p q) τ R := by
  obtain ⟨τ1, e, hq⟩ := h
  exact Go.seq ⟨τ1, e, h2 τ1 hq⟩
theorem Go.turnSP {p q : ZSD} {R : Fr → Prop} {E : Res Fl → Prop} (Q : Fr → Prop) (h : ∃ τ1, p τ = .ok .nx τ1 ∧ Q τ1) (h2 : ∀ τ1, Q τ1 → Go q τ1 R) : TurnOk R E (zSeq p q τ) := Go.turn (Go.seqP Q h h2)
/-- a loop over any iterable (ss: the slots that are locked while it runs) -/
theorem for_lk {g : ZGD} {p : ZSD} {it : ZID} {ds : List PyData} {ss : List Nat} {τi : Fr} (P : List PyData → Fr → Prop) (hi : it τ = .ok (ds, ss) τi) (h : P ds (lockL ss 0 τi))
    (hs : ∀ d ds τ, P (d :: ds) τ → ∃ τ1, g d τ = some τ1 ∧ TurnOk (P ds) (fun _ => False) (p τ1)) {R : Fr → Prop} (hR : ∀ τ', P [] τ' → R (unlockL ss 0 τi τ')) : ∃ τ', zFor it g p τ = .ok .nx τ' ∧ R τ' := by
  obtain ⟨τ', e, h'⟩ := turns_nx P hs h
  refine ⟨unlockL ss 0 τi τ', ?_, hR τ' h'⟩
  rw [zFor_ev, hi, ok_bind]
  unfold kFor
  rw [lockAll_L, e]
  show Res.ok _ (unlock τi ss τ') = _
  rw [unlock_L]
theorem for_raw {g : ZGD} {p : ZSD} {it : ZID} {ds : List PyData} {τi : Fr} (P : List PyData → Fr → Prop) (hi : it τ = .ok (ds, []) τi) (h : P ds τi)
    (hs : ∀ d ds τ, P (d :: ds) τ → ∃ τ1, g d τ = some τ1 ∧ TurnOk (P ds) (fun _ => False) (p τ1)) {R : Fr → Prop} (hR : ∀ τ', P [] τ' → R τ') : ∃ τ', zFor it g p τ = .ok .nx τ' ∧ R τ' := by
  obtain ⟨τ', e, h'⟩ := turns_nx P hs h
  refine ⟨τ', ?_, hR τ' h'⟩
  rw [zFor_ev, hi, ok_bind, kFor_free, e]
@[simp] theorem unlockL_nil {ss : List Nat} {τ0 : Fr} : unlockL ss k τ0 [] = [] := by cases τ0 <;> rfl
@[simp] theorem unlockL_cons {ss : List Nat} {τ0 : Fr} {o0 o : Option Cell} : unlockL ss k (o0 :: τ0) (o :: τ) = (if k ∈ ss then unlock1 (some o0) o else o) :: unlockL ss (k + 1) τ0 τ := Eq.trans rfl rfl
@[simp] theorem setLk_lst {b k k' : Bool} : Cell.setLk k (.lst b k' ds) = .lst b k ds := Eq.trans rfl rfl
@[simp] theorem setLk_fz {k : Bool} : Cell.setLk k (.fz d) = .fz d := Eq.trans rfl rfl
@[simp] theorem setLk_scr {k : Bool} {ns : List Int} : Cell.setLk k (.scr ns) = .scr ns := Eq.trans rfl rfl
@[simp] theorem unlock1_lst {b b' k : Bool} : unlock1 (some (some (.lst b k ds))) (some (.lst b' true es)) = some (.lst b' k es) := Eq.trans rfl rfl
@[simp] theorem pToInt_bool {b : Bool} : pToInt (.bool b) = some (.sc (.int (if b then 1 else 0))) := Eq.trans rfl rfl
/-! ### texts -/
theorem sh_str {k : Nat} {x : Str} (h : PyData.strOk x = true := by decide) : sh k (.str x) := ⟨by simpa [PyData.canLay0] using h, by simp [PyData.depth]⟩
theorem pEq_str {x y : Str} (h : PyData.strOk x = true) (h' : PyData.strOk y = true) : pEq (.str x) (.str y) = some (.sc (.bool (decide (x = y)))) := by
  rw [pEq_sh (k := 0) (k' := 0) (sh_str h) (sh_str h')]
  congr 3
theorem pNe_str {x y : Str} (h : PyData.strOk x = true) (h' : PyData.strOk y = true) : pNe (.str x) (.str y) = some (.sc (.bool (!decide (x = y)))) := by
  rw [pNe_sh (k := 0) (k' := 0) (sh_str h) (sh_str h')]
  congr 4
/-! ### tuple * int -/
theorem flat_one {α : Type} (xs : List α) : (List.replicate 1 xs).flatten = xs := by simp
theorem pMulA_tup {xs : List PyData} {k : Int} (h0 : 0 ≤ k) (h1 : k ≤ 1000) (h2 : xs.length ≤ 1000) : pMulA (.tuple xs) (.int k) = some (.sc (.tuple (List.replicate k.toNat xs).flatten)) := by
  show (if -(2 ^ 63) ≤ k ∧ k < 2 ^ 63 ∧ (xs = [] ∨ k = 1) then some (RO.sc (.tuple xs)) else if -(2 ^ 63) ≤ k ∧ k ≤ 0 then some (.sc (.tuple [])) else pMul (.tuple xs) (.int k)) = _
  by_cases hx : xs = [] ∨ k = 1
  · rw [if_pos ⟨by omega, by omega, hx⟩]
    rcases hx with rfl | rfl
    · simp
    · simp
  · rw [if_neg (fun h => hx h.2.2)]
    by_cases hk : k ≤ 0
    · rw [if_pos ⟨by omega, hk⟩]
      have : k = 0 := by omega
      subst this
      rfl
    · rw [if_neg (fun h => hk h.2)]
      exact pMul_tup (fun e => hx (.inl e)) (by omega) h1 h2
theorem flat_rep {α : Type} (n : Nat) (x : α) : (List.replicate n [x]).flatten = List.replicate n x := by
  induction n with
  | zero => rfl
  | succ n ih => rw [List.replicate_succ, List.flatten_cons, ih, List.replicate_succ]; rfl
/-- (x,) * n -/
theorem pMulA_one {x : PyData} {n : Nat} (h : n ≤ 1000) : pMulA (.tuple [x]) (.int (n : Int)) = some (.sc (.tuple (List.replicate n x))) := by
  rw [pMulA_tup (by omega) (by omega) (by simp), Int.toNat_natCast, flat_rep]
/-! ### list(range), tuple(range) -/
theorem rgB_nat {n : Nat} (h : n ≤ 16777216) : rgB 0 (n : Int) = true := by
  unfold rgB
  simp only [Bool.and_eq_true, decide_eq_true_eq]
  omega
theorem rgB_lo {m n : Nat} (h : n ≤ 16777216) (h2 : m ≤ 16777216) : rgB (m : Int) (n : Int) = true := by
  unfold rgB
  simp only [Bool.and_eq_true, decide_eq_true_eq]
  omega
theorem pRgL1_nat {n : Nat} (h : n ≤ 16777216) : pRgL1 (.int (n : Int)) = some (.nl ((List.range n).map fun k => .int (k : Nat))) := by
  show (if rgB 0 (n : Int) then some (RO.nl (rngL 0 (n : Int).toNat)) else none) = _
  rw [rgB_nat h, Int.toNat_natCast, rngL_nat]
  rfl
theorem pRgT1_nat {n : Nat} (h : n ≤ 16777216) : pRgT1 (.int (n : Int)) = some (.sc (.tuple ((List.range n).map fun k => .int (k : Nat)))) := by
  show (if rgB 0 (n : Int) then some (RO.sc (.tuple (rngL 0 (n : Int).toNat))) else none) = _
  rw [rgB_nat h, Int.toNat_natCast, rngL_nat]
  rfl
theorem rngL_lo {m n : Nat} : rngL (m : Int) ((n : Int) - (m : Int)).toNat = (List.range' m (n - m)).map fun k => PyData.int (k : Nat) := by
  have e : ((n : Int) - (m : Int)).toNat = n - m := by omega
  rw [e]
  unfold rngL
  rw [List.range'_eq_map_range, List.map_map]
  exact List.map_congr_left fun i _ => rfl
theorem pRgL2_nat {m n : Nat} (h : n ≤ 16777216) (h2 : m ≤ 16777216) : pRgL2 (.int (m : Int)) (.int (n : Int)) = some (.nl ((List.range' m (n - m)).map fun k => .int (k : Nat))) := by
  show (if rgB (m : Int) (n : Int) then some (RO.nl (rngL m ((n : Int) - m).toNat)) else none) = _
  rw [rgB_lo h h2, rngL_lo]
  rfl
theorem pRgT2_nat {m n : Nat} (h : n ≤ 16777216) (h2 : m ≤ 16777216) : pRgT2 (.int (m : Int)) (.int (n : Int)) = some (.sc (.tuple ((List.range' m (n - m)).map fun k => .int (k : Nat)))) := by
  show (if rgB (m : Int) (n : Int) then some (RO.sc (.tuple (rngL m ((n : Int) - m).toNat))) else none) = _
  rw [rgB_lo h h2, rngL_lo]
  rfl
/-! ### sorted, reversed -/
@[simp] theorem pSorted_list : pSorted (.list ds) = sortO ds := by rw [pSorted]
@[simp] theorem pSorted_tuple : pSorted (.tuple ds) = sortO ds := by rw [pSorted]
@[simp] theorem pRev_list : pRev (.list ds) = some (.nl ds.reverse) := by rw [pRev]
@[simp] theorem pRev_tuple : pRev (.tuple ds) = some (.sc (.tuple ds.reverse)) := by rw [pRev]
@[simp] theorem pLRev_list : pLRev (.list ds) = some (.nl ds.reverse) := by rw [pLRev]
theorem sortO_ty {enc : α → PyData} [A : AlkD enc] (le : α → α → Bool) (hle : ∀ x y, (!PySem.W.dataLt (enc y) (enc x)) = le x y) (xs : List α) (hs : sortableB (xs.map enc) = true) (h : A.dep ≤ 60 := by decide) : sortO (xs.map enc) = some (.nl ((xs.mergeSort le).map enc)) := by
  unfold sortO
  rw [if_pos]
  · congr 2
    exact (List.map_mergeSort fun a _ b _ => (hle a b).symm).symm
  · simp only [Bool.and_eq_true, List.all_eq_true, decide_eq_true_eq]
    refine ⟨⟨fun d hd d' hd' => ?_, hs⟩, fun d hd => ?_⟩
    · obtain ⟨x, _, rfl⟩ := List.mem_map.mp hd
      obtain ⟨y, _, rfl⟩ := List.mem_map.mp hd'
      exact A.alk x y
    · obtain ⟨x, _, rfl⟩ := List.mem_map.mp hd
      exact Nat.le_trans (A.dpt x) h
end
end Z

/-! Z35: x op= e, starred displays, defs that call themselves. -/
namespace Z
open PySem PySem.Spec PyProof.Rows L2
section
variable [TB : Tabs]
variable {X : Cx} {K : PySem.W.Frag} {W : WZ} {σ : Z.St} {G G1 G2 H H1 H2 : Hp} {τ τ1 τ2 : Fr} {a b : Expr} {da db : ZD} {pos : Pos}
/-! ### x op= e, x data -/
def zAug (i : Nat) (f : PyData → PyData → Option RO) (a : ZD) : ZSD := fun τ => match cellAt τ i with
  | some (.fz d) => (a τ).bind fun l τ1 => match rdD τ1 l with
    | some e => match f d e with
      | some (.sc r) => .ok .nx (τ1.set i (some (.fz r)))
      | _ => .stuck
    | none => .stuck
  | _ => .stuck
theorem zs_aug {i : Nat} {x : Str} {p : Pos} {op : Operator} {f : PyData → PyData → Option RO} {R : R2} (hN : X.N.Nodup) (hi : X.N[i]? = some x) (hx : Loc X.env.scope x) (ho : OpR X (inplaceOp op) R) (hr : Op2 X.K f R) (ha : ZE X W a da)
    (hf : X.fn x = true ∨ X.env.scope.names.lookup x = some .local := by first | exact .inl rfl | exact .inr rfl | assumption) : ZS X W (.AugAssign (.Name x p) op a pos) (zAug i f da) := by
  refine ⟨⟨fun pins s σ H D I h => (ps_aug hN hi hx ha.pe ho hf).run pins s σ H D I ?_⟩⟩
  obtain ⟨G, τ, s, h⟩ := h
  unfold zAug at h
  cases ec : cellAt τ i with
  | none => rw [ec] at h; exact h.elim
  | some c =>
    rw [ec] at h
    cases c with
    | fz d =>
      obtain ⟨v, e1, r1⟩ := s.cell i _ (cellAt_some ec)
      refine ⟨v, e1, ?_⟩
      refine nextS (Sx.refl s) h fun l τ1 G1 H1 u e x r h2 => ?_
      cases hd : rdD τ1 l with
      | none => rw [hd] at h2; exact h2.elim
      | some d2 =>
        rw [hd] at h2
        dsimp only at h2
        cases hf2 : f d d2 with
        | none => rw [hf2] at h2; exact h2.elim
        | some ro =>
          rw [hf2] at h2
          cases ro with
          | nl ds => exact h2.elim
          | sc r0 =>
            refine hr G1 H1 v u _ d d2 (.sc r0) x.sr.sub (.inl (dp_mono x.kp.1 _ _ r1)) (RL.view x.sr r hd) hf2 ?_
            exact roq_of (W := W) x fun G' H' z x' r' => h2 G' _ H' (Sx.set s x' r' i)
    | _ => exact h.elim
/-! ### starred displays -/
def zaS (a : ZD) (r : ZAD) : ZAD := fun τ => (a τ).bind fun l τ1 => match rdD τ1 l with
  | some (.list ds) => (r τ1).bind fun es τ2 => .ok (ds ++ es) τ2
  | some (.tuple ds) => (r τ1).bind fun es τ2 => .ok (ds ++ es) τ2
  | _ => .stuck
theorem za_star {es : List Expr} {dr : ZAD} {p : Pos} (ha : ZE X W a da) (hr : ZA X W es dr) (hs : starEach (.Starred a p :: es) X.env = (true, eval a X.env) :: starEach es X.env := by rfl) : ZA X W (.Starred a p :: es) (zaS da dr) := by
  refine ⟨⟨fun pos pins s σ H Q I h => (StX.pa_star ha.pe hr.pa hs).run pos pins s σ H Q I ?_⟩⟩
  obtain ⟨G, τ, s, h⟩ := h
  refine ⟨G, τ, s, ?_⟩
  unfold zaS at h
  cases e : da τ with
  | stuck => rw [e] at h; exact h
  | exc n τ2 => rw [e] at h; exact h
  | ok l τ1 =>
    rw [e] at h
    intro G1 H1 v x1 r1
    dsimp only [Res.bind] at h
    have go : ∀ (q : Addr) (vs : List V) (ds : List PyData), v = .ref q → (SqT X.K H1 q vs ∨ SqL X.K H1 q vs) → RDs X.K G1 vs ds → FinA X.K W σ G τ H ((dr τ1).bind fun es τ2 => .ok (ds ++ es) τ2) Q →
        ∃ p xs, v = V.ref p ∧ (SqT X.K H1 p xs ∨ SqL X.K H1 p xs) ∧ tZA X.K W dr σ H1 fun ys H2 => Q (xs ++ ys) H2 := by
      intro q vs ds ev hq hrd h
      refine ⟨q, vs, ev, hq, G1, τ1, x1.sr, ?_⟩
      cases e2 : dr τ1 with
      | stuck => rw [e2] at h; exact h
      | exc n τ2 => rw [e2] at h; exact fun G2 H2 y => h G2 H2 (x1.trans y)
      | ok es' τ2 =>
        rw [e2] at h
        exact fun G2 H2 ws y q => h G2 H2 (vs ++ ws) (x1.trans y) (dps_append (dps_mono y.kp.1 _ _ hrd) q)
    cases hd : rdD τ1 l with
    | none => rw [hd] at h; exact h.elim
    | some d =>
      rw [hd] at h
      have vw := RL.view x1.sr r1 hd
      cases d with
      | list ds =>
        obtain ⟨q, vs, ev, h1, q1⟩ := vw.lst x1.sr.sub
        exact go q vs ds ev (.inr (SqL.of h1)) q1 h
      | tuple ds =>
        obtain ⟨q, vs, ev, h1, q1⟩ := vw.tup x1.sr.sub
        exact go q vs ds ev (.inl h1) q1 h
      | _ => exact h.elim
end
/-! ### a def that is called at no depth -/
section
variable [TB : Tabs]
theorem fnStuck {P : Program} {w : World} {K : PySem.W.Frag} {mg : Str → Option Value} {base : Heap} {CX : CXT} {k : Nat} {f : Addr} {fd : FuncData} {ps : List Str} : FnOk P w K mg base CX k f fd ps (spZ K mg ps.length fun _ => .stuck) :=
  ⟨fun vs H Q E h => h.1, fun A outer s H args us vs Q E hr he hb hv hs => by obtain ⟨_, G, cs, _, h⟩ := hs; exact h.elim⟩
end
/-! ### equations -/
section
variable {τ : Fr} {i : Nat} {f : PyData → PyData → Option RO} {a : ZD} {r : ZAD} {d e : PyData} {ds es : List PyData} {l : LR}
def kAug3 (i : Nat) (τ : Fr) : Option RO → Res Fl
  | some (.sc r) => .ok .nx (τ.set i (some (.fz r)))
  | _ => .stuck
def kAug2 (i : Nat) (f : PyData → PyData → Option RO) (d : PyData) (τ : Fr) : Option PyData → Res Fl
  | some e => kAug3 i τ (f d e)
  | none => .stuck
def kAug1 (i : Nat) (f : PyData → PyData → Option RO) (d : PyData) (l : LR) (τ : Fr) : Res Fl := kAug2 i f d τ (rdD τ l)
def kAug (i : Nat) (f : PyData → PyData → Option RO) (a : ZD) (τ : Fr) : Option Cell → Res Fl
  | some (.fz d) => (a τ).bind (kAug1 i f d)
  | _ => .stuck
@[simp] theorem zAug_ev : zAug i f a τ = kAug i f a τ (cellAt τ i) := by
  unfold zAug kAug
  cases cellAt τ i with
  | none => rfl
  | some c =>
    cases c with
    | fz d =>
      dsimp only
      refine congrArg (Res.bind (a τ)) ?_
      funext l τ1
      unfold kAug1 kAug2
      cases rdD τ1 l with
      | none => rfl
      | some e =>
        dsimp only
        unfold kAug3
        cases f d e with
        | none => rfl
        | some r => cases r <;> rfl
    | _ => rfl
@[simp] theorem kAug_ev : kAug i f a τ (some (.fz d)) = (a τ).bind (kAug1 i f d) := Eq.trans rfl rfl
@[simp] theorem kAug1_ev : kAug1 i f d l τ = kAug2 i f d τ (rdD τ l) := Eq.trans rfl rfl
@[simp] theorem kAug2_ev : kAug2 i f d τ (some e) = kAug3 i τ (f d e) := Eq.trans rfl rfl
@[simp] theorem kAug3_ev : kAug3 i τ (some (.sc e)) = .ok .nx (τ.set i (some (.fz e))) := Eq.trans rfl rfl
def kSt1 (ds : List PyData) (es : List PyData) (τ : Fr) : Res (List PyData) := .ok (ds ++ es) τ
def kSt0 (r : ZAD) (τ : Fr) : Option PyData → Res (List PyData)
  | some (.list ds) => (r τ).bind (kSt1 ds)
  | some (.tuple ds) => (r τ).bind (kSt1 ds)
  | _ => .stuck
def kSt (r : ZAD) (l : LR) (τ : Fr) : Res (List PyData) := kSt0 r τ (rdD τ l)
@[simp] theorem zaS_ev : zaS a r τ = (a τ).bind (kSt r) := by
  show (a τ).bind _ = _
  refine congrArg (Res.bind (a τ)) ?_
  funext l τ1
  unfold kSt kSt0
  cases rdD τ1 l with
  | none => rfl
  | some d => cases d <;> rfl
@[simp] theorem kSt_ev : kSt r l τ = kSt0 r τ (rdD τ l) := Eq.trans rfl rfl
@[simp] theorem kSt0_l : kSt0 r τ (some (.list ds)) = (r τ).bind (kSt1 ds) := Eq.trans rfl rfl
@[simp] theorem kSt0_t : kSt0 r τ (some (.tuple ds)) = (r τ).bind (kSt1 ds) := Eq.trans rfl rfl
@[simp] theorem kSt1_ev : kSt1 ds es τ = .ok (ds ++ es) τ := Eq.trans rfl rfl
end
end Z

/-! Z36: dicts of a frame's own: new, read, written. -/
namespace Z
open PySem PySem.Spec PyProof.Rows L2
section
variable {κ : Type} [DecidableEq κ]
def dLookF (f : PyData → Option κ) (kvs : List (PyData × PyData)) (c : κ) : Option PyData := (kvs.find? fun p => decide (f p.1 = some c)).map (·.2)
def dPutF (f : PyData → Option κ) (kvs : List (PyData × PyData)) (c : κ) (k v : PyData) : List (PyData × PyData) :=
  if (kvs.any fun p => decide (f p.1 = some c)) = true then kvs.map (fun p => if f p.1 = some c then (p.1, v) else p) else kvs ++ [(k, v)]
abbrev DR (K : PySem.W.Frag) (G : Hp) (f : PyData → Option κ) : PyData × PyData → κ × V → Prop := fun p q => f p.1 = some q.1 ∧ RD K G q.2 p.2
def OR (K : PySem.W.Frag) (G : Hp) : Option V → Option PyData → Prop
  | some u, some d => RD K G u d
  | none, none => True
  | _, _ => False
theorem look_rel {K : PySem.W.Frag} {G : Hp} {f : PyData → Option κ} {kvs : List (PyData × PyData)} {ks : List (κ × V)} (h : Paired (DR K G f) kvs ks) (c : κ) : OR K G (valV ks c) (dLookF f kvs c) := by
  induction h with
  | nil => exact True.intro
  | @cons p q ps qs h t ih =>
    by_cases e : q.1 = c
    · have e2 : dLookF f (p :: ps) c = some p.2 := by simp [dLookF, List.find?_cons, h.1, e]
      rw [valV_pos e, e2]; exact h.2
    · have e2 : dLookF f (p :: ps) c = dLookF f ps c := by
        have : ¬ (f p.1 = some c) := by rw [h.1]; exact fun z => e (Option.some.inj z)
        simp [dLookF, List.find?_cons, this]
      rw [valV_neg e, e2]; exact ih
theorem any_rel {K : PySem.W.Frag} {G : Hp} {f : PyData → Option κ} {kvs : List (PyData × PyData)} {ks : List (κ × V)} (h : Paired (DR K G f) kvs ks) (c : κ) :
    (kvs.any fun p => decide (f p.1 = some c)) = ks.any fun q => decide (q.1 = c) := by
  induction h with
  | nil => rfl
  | @cons p q ps qs h t ih =>
    rw [List.any_cons, List.any_cons, ih, h.1]
    simp
theorem put_rel {K : PySem.W.Frag} {G : Hp} {f : PyData → Option κ} {kvs : List (PyData × PyData)} {ks : List (κ × V)} (h : Paired (DR K G f) kvs ks) {c : κ} {k d : PyData} {u : V} (hk : f k = some c) (r : RD K G u d) :
    Paired (DR K G f) (dPutF f kvs c k d) (putK ks c u) := by
  unfold dPutF putK
  rw [any_rel h c]
  split
  · clear hk
    induction h with
    | nil => exact .nil
    | @cons p q ps qs h t ih =>
      rw [List.map_cons, List.map_cons]
      rename_i hz
      refine .cons ?_ ?_
      · by_cases e : q.1 = c
        · rw [if_pos e, if_pos (by rw [h.1, e])]; exact ⟨h.1, r⟩
        · rw [if_neg e, if_neg (by rw [h.1]; exact fun z => e (Option.some.inj z))]; exact h
      · clear ih
        revert t
        clear hz h
        intro t
        induction t with
        | nil => exact .nil
        | @cons p q ps qs h t ih =>
          rw [List.map_cons, List.map_cons]
          refine .cons ?_ ih
          by_cases e : q.1 = c
          · rw [if_pos e, if_pos (by rw [h.1, e])]; exact ⟨h.1, r⟩
          · rw [if_neg e, if_neg (by rw [h.1]; exact fun z => e (Option.some.inj z))]; exact h
  · exact Paired.snoc h ⟨hk, r⟩
end
def dLook (tk : Bool) (kvs : List (PyData × PyData)) (k : PyData) : Option (Option PyData) :=
  if tk = true then (tkeyD k).map (dLookF tkeyD kvs) else (keyD k).map (dLookF keyD kvs)
def dPut (tk : Bool) (kvs : List (PyData × PyData)) (k v : PyData) : Option (List (PyData × PyData)) :=
  if kvs.length < sizeLine then (if tk = true then (tkeyD k).map fun c => dPutF tkeyD kvs c k v else (keyD k).map fun c => dPutF keyD kvs c k v) else none
/-- an object that is the dict kvs -/
def DctO (K : PySem.W.Frag) (G : Hp) (tk : Bool) (kvs : List (PyData × PyData)) (o : HO) : Prop :=
  if tk = true then ∃ ks, o = .dT ks ∧ Paired (DR K G tkeyD) kvs ks else ∃ ks, o = .dK ks ∧ Paired (DR K G keyD) kvs ks
variable [TB : Tabs]
section
variable {X : Cx} {K : PySem.W.Frag} {W : WZ} {σ σ1 σ2 : Z.St} {G G1 G2 H H1 H2 : Hp} {τ τ1 τ2 : Fr} {v x y w u : V} {l : LR} {d e k : PyData} {a b c : Expr} {p pos : Pos} {da db dc : ZD} {tk : Bool} {kvs kvs' : List (PyData × PyData)} {q : Addr} {o : HO}
theorem DctO.nt (h : DctO K G tk kvs o) : NT o := by
  unfold DctO at h
  split at h
  · obtain ⟨ks, rfl, _⟩ := h; exact nt_dT
  · obtain ⟨ks, rfl, _⟩ := h; exact nt_dK
theorem dctR_of (h : DctO K G tk kvs o) (e : H q = some o) : DctR K G H q false tk kvs := by
  unfold DctO at h
  unfold DctR
  split
  · rename_i t
    rw [if_pos t] at h
    obtain ⟨ks, rfl, h⟩ := h; exact ⟨ks, e, h⟩
  · rename_i t
    rw [if_neg t] at h
    obtain ⟨ks, rfl, h⟩ := h; exact ⟨ks, e, h⟩
theorem dctR_to (h : DctR K G H q false tk kvs) : ∃ o, H q = some o ∧ DctO K G tk kvs o := by
  unfold DctR at h
  unfold DctO
  split at h
  · rename_i t
    obtain ⟨ks, e, h⟩ := h; exact ⟨_, e, by rw [if_pos t]; exact ⟨ks, rfl, h⟩⟩
  · rename_i t
    obtain ⟨ks, e, h⟩ := h; exact ⟨_, e, by rw [if_neg t]; exact ⟨ks, rfl, h⟩⟩
theorem keyV {c : Key} (h : VW K G H v k) (e : keyD k = some c) : v = kV c := by
  cases k with
  | int i => cases e; exact h.int
  | str s => cases e; exact h.str
  | _ => cases e
theorem keyR {c : Key} (h : RD K G v k) (e : keyD k = some c) : v = kV c := keyV (H := G) (.inl h) e
theorem keysR : ∀ {ds : List PyData} {vs : List V} {cs : List Key}, RDs K G vs ds → keysD ds = some cs → vs = cs.map kV
  | [], _, _, .nil, e => by cases e; rfl
  | d :: ds, _, _, .cons r t, e => by
    unfold keysD at e
    split at e
    · rename_i c cs e1 e2
      cases e
      rw [List.map_cons, keyR r e1, keysR t e2]
    · cases e
theorem tkeyV {c : List Key} (s : Sub G H) (h : VW K G H v k) (e : tkeyD k = some c) : ∃ b, v = .ref b ∧ H b = some (.tup (c.map kV)) := by
  cases k with
  | tuple ds =>
    obtain ⟨b, vs, rfl, hb, q⟩ := h.tupH s
    exact ⟨b, rfl, by rw [← keysR q e]; exact hb⟩
  | _ => cases e
theorem DctR.get {lk : Bool} {od : Option PyData} (s : Sub G H) (h : DctR K G H q lk tk kvs) (vk : VW K G H v k) (e : dLook tk kvs k = some od) : ∃ o, DGet H q v o ∧ OR K G o od := by
  unfold DctR at h
  unfold dLook at e
  split at e
  · rename_i t
    rw [if_pos t] at h
    obtain ⟨ks, h1, h2⟩ := h
    obtain ⟨c, e1, rfl⟩ := Option.map_eq_some_iff.mp e
    obtain ⟨b, rfl, hb⟩ := tkeyV s vk e1
    exact ⟨_, .inr ⟨ks, c, b, h1.rd, rfl, hb, rfl⟩, look_rel h2 c⟩
  · rename_i t
    rw [if_neg t] at h
    obtain ⟨ks, h1, h2⟩ := h
    obtain ⟨c, e1, rfl⟩ := Option.map_eq_some_iff.mp e
    obtain rfl := keyV vk e1
    exact ⟨_, .inl ⟨ks, c, h1.rd, rfl, rfl⟩, look_rel h2 c⟩
theorem DctR.put (s : Sub G H) (h : DctR K G H q false tk kvs) (vk : VW K G H v k) (ru : RD K G u d) (e : dPut tk kvs k d = some kvs') : ∃ o, DPut H q v u (upd H q o) ∧ DctO K G tk kvs' o := by
  unfold DctR at h
  unfold dPut at e
  split at e
  · rename_i hz
    split at e
    · rename_i t
      rw [if_pos t] at h
      obtain ⟨ks, h1, h2⟩ := h
      obtain ⟨c, e1, rfl⟩ := Option.map_eq_some_iff.mp e
      obtain ⟨b, rfl, hb⟩ := tkeyV s vk e1
      exact ⟨_, DPut.t h1 hb (by rw [← Paired.length h2]; exact hz), by unfold DctO; rw [if_pos t]; exact ⟨_, rfl, put_rel h2 e1 ru⟩⟩
    · rename_i t
      rw [if_neg t] at h
      obtain ⟨ks, h1, h2⟩ := h
      obtain ⟨c, e1, rfl⟩ := Option.map_eq_some_iff.mp e
      obtain rfl := keyV vk e1
      exact ⟨_, DPut.k h1 (by rw [← Paired.length h2]; exact hz), by unfold DctO; rw [if_neg t]; exact ⟨_, rfl, put_rel h2 e1 ru⟩⟩
  · cases e
theorem DctR.isD {lk : Bool} (h : DctR K G H q lk tk kvs) : IsD H q := by
  unfold DctR at h
  split at h
  · obtain ⟨ks, h1, _⟩ := h; exact .inr ⟨ks, h1.rd⟩
  · obtain ⟨ks, h1, _⟩ := h; exact .inl ⟨ks, h1.rd⟩
/-- an own dict gets other pairs -/
theorem Ex.writeD (s : SR K G τ σ H) {i : Nat} {b : Bool} (h : τ[i]? = some (some (.dct b false tk kvs))) (hv : σ[i]? = some (some (.ref q))) (r : DctO K G tk kvs' o) :
    Ex K σ G τ H G (τ.set i (some (.dct b false tk kvs'))) (upd H q o) := by
  obtain ⟨v, e, p, rfl, g, hd⟩ := s.cell i _ h
  rw [e] at hv; cases hv
  obtain ⟨u0, hh, nu0⟩ := hd.nt
  have il : i < τ.length := (List.getElem?_eq_some_iff.mp h).1
  have own : Ownd τ σ q := ⟨i, _, h, rfl, rfl, e⟩
  have inv : ∀ (j : Nat) (c : Cell), (τ.set i (some (.dct b false tk kvs')))[j]? = some (some c) → (j = i ∧ c = .dct b false tk kvs') ∨ (j ≠ i ∧ τ[j]? = some (some c)) := fun j c hj => by
    rcases getElem?_set_some hj with ⟨e1, e2, _⟩ | ⟨e1, e2⟩
    · cases e2; exact .inl ⟨e1, rfl⟩
    · exact .inr ⟨e1, e2⟩
  refine ⟨⟨by rw [List.length_set]; exact s.len, fun a o z => ?_, fun j c hj => ?_, fun j k cj ck v n zj zk oj ok sj => ?_, fun P hP => ?_⟩, ⟨Sub.refl, fun a o z nt n => ?_, fun a z => ?_⟩, fun j c hj o => ?_⟩
  · have : a ≠ q := fun ea => by rw [ea, g] at z; cases z
    rw [upd_ne this]; exact s.sub a o z
  · rcases inv j c hj with ⟨rfl, rfl⟩ | ⟨ne, hj⟩
    · exact ⟨_, e, q, rfl, g, dctR_of r upd_same⟩
    · obtain ⟨v', e', r'⟩ := s.cell j c hj
      refine ⟨v', e', r'.mono Sub.refl fun a o ev oc _ ha => ⟨?_, GS.rfl⟩⟩
      rw [upd_ne]; exact ha
      rintro rfl
      exact s.sep i j _ _ _ (Ne.symm ne) h hj rfl oc e (by rw [e', ev])
  · have old : ∀ (j : Nat) (c : Cell), (τ.set i (some (.dct b false tk kvs')))[j]? = some (some c) → c.obj = true → ∃ c0 : Cell, τ[j]? = some (some c0) ∧ c0.obj = true := fun j c hj o => by
      rcases inv j c hj with ⟨rfl, rfl⟩ | ⟨_, hj⟩
      · exact ⟨_, h, rfl⟩
      · exact ⟨c, hj, o⟩
    obtain ⟨c1, h1, o1⟩ := old j cj zj oj
    obtain ⟨c2, h2, o2⟩ := old k ck zk ok
    exact s.sep j k c1 c2 v n h1 h2 o1 o2 sj
  · obtain ⟨t1, t2⟩ := s.tab P hP
    have ne := t2.ne hh nu0.1
    obtain ⟨ps, t2, t3⟩ := t2
    exact ⟨t1, ps, by rw [upd_ne ne]; exact t2, t3⟩
  · have : a ≠ q := fun ea => n (by rw [ea]; exact own)
    exact ⟨by rw [upd_ne this]; exact z, GS.rfl⟩
  · by_cases ea : a = q
    · rw [ea, upd_same] at z; cases z
    · rw [upd_ne ea] at z; exact z
  · rcases inv j c hj with ⟨rfl, rfl⟩ | ⟨_, hj⟩
    · exact ⟨_, h, rfl, rfl, rfl⟩
    · exact ⟨c, hj, o, rfl, rfl⟩
/-! ### {} -/
def zDNew (tk : Bool) : ZD := fun τ => .ok (.cl (.dct false false tk [])) τ
theorem dct_new (s : SR K G τ σ H) {o : HO} {kvs : List (PyData × PyData)} (x : Ex K σ G1 τ1 H1 G τ H) {p : Addr} (hp : H p = none) (h : DctO K G tk kvs o) :
    Ex K σ G1 τ1 H1 G τ (upd H p o) ∧ RL K σ H1 τ G (upd H p o) (.ref p) (.cl (.dct false false tk kvs)) :=
  ⟨x.trans (Ex.laid s hp), ⟨⟨p, rfl, sub_none s.sub hp, dctR_of h upd_same⟩, fun _ => ⟨rfl, rfl, fun a e => by cases e; exact x.kp.2.2 _ hp⟩⟩⟩
theorem dctO_nil : DctO K G tk [] (if tk = true then .dT [] else .dK []) := by
  unfold DctO
  cases tk
  · exact ⟨[], rfl, .nil⟩
  · exact ⟨[], rfl, .nil⟩
theorem ze_dnew (tk : Bool) : ZE X W (.Dict [] [] pos) (zDNew tk) := by
  cases tk with
  | false =>
    refine ⟨⟨fun pins s σ H Q I h => pe_dnewK.run pins s σ H Q I ?_⟩⟩
    obtain ⟨G, τ, s, h⟩ := tZ_to h
    intro p hp
    obtain ⟨x, r⟩ := dct_new (tk := false) s (Ex.refl s) hp dctO_nil
    exact h _ _ _ x r
  | true =>
    refine ⟨⟨fun pins s σ H Q I h => pe_dnewT.run pins s σ H Q I ?_⟩⟩
    obtain ⟨G, τ, s, h⟩ := tZ_to h
    intro p hp
    obtain ⟨x, r⟩ := dct_new (tk := true) s (Ex.refl s) hp dctO_nil
    exact h _ _ _ x r
/-! ### d[k], k in d, d.get(k), d.get(k, x) -/
def dOf : Option Cell → Option (Bool × List (PyData × PyData))
  | some (.dct _ _ tk kvs) => some (tk, kvs)
  | _ => none
theorem dOf_some {o : Option Cell} {tk : Bool} {kvs : List (PyData × PyData)} (h : dOf o = some (tk, kvs)) : ∃ b c, o = some (.dct b c tk kvs) := by
  unfold dOf at h
  split at h
  · cases h; exact ⟨_, _, rfl⟩
  · cases h
def dAsk (o : Option (Bool × List (PyData × PyData))) (k : Option PyData) : Option (Option PyData) := match o, k with
  | some (tk, kvs), some k => dLook tk kvs k
  | _, _ => none
theorem dAsk_ok {od : Option PyData} {m : LR} {H0 H0' : Hp} (x : SR K G1 τ1 σ H1) (r : RL K σ H0 τ1 G1 H1 v l) (r2 : RL K σ H0' τ1 G1 H1 w m) (h : dAsk (dOf (rdL τ1 l)) (rdD τ1 m) = some od) :
    ∃ a, v = .ref a ∧ IsD H1 a ∧ ∃ o, DGet H1 a w o ∧ OR K G1 o od := by
  cases e1 : dOf (rdL τ1 l) with
  | none => rw [e1] at h; cases h
  | some t =>
    obtain ⟨tk, kvs⟩ := t
    cases e2 : rdD τ1 m with
    | none => rw [e1, e2] at h; cases h
    | some k =>
      rw [e1, e2] at h
      obtain ⟨_, _, e3⟩ := dOf_some e1
      obtain ⟨a, rfl, g, dr⟩ := RL.cell x r e3
      obtain ⟨o, h1, h2⟩ := dr.get x.sub (RL.view x r2 e2) h
      exact ⟨a, rfl, dr.isD, o, h1, h2⟩
def kDGet (o : Option (Option PyData)) (τ : Fr) : Res LR := match o with
  | some (some d) => .ok (.cl (.fz d)) τ
  | _ => .stuck
def zDGet (a b : ZD) : ZD := fun τ => (a τ).bind fun l τ1 => (b τ1).bind fun m τ2 => kDGet (dAsk (dOf (rdL τ2 l)) (rdD τ2 m)) τ2
theorem ze_dget (hu : X.A.units + 1 < cLine) (ha : ZE X W a da) (hb : ZE X W b db) (hs : NoSl b := by exact fun _ _ => rfl) : ZE X W (.Subscript a b pos) (zDGet da db) := by
  refine ⟨⟨fun pins s σ H Q I h => (pe_dget hu ha.pe hb.pe hs).run pins s σ H Q I ?_⟩⟩
  obtain ⟨G, τ, s, h⟩ := tZ_to h
  refine nextE (Ex.refl s) h fun l τ1 G1 H1 v e1 x1 r1 h1 => ?_
  refine nextE x1 h1 fun m τ2 G2 H2 u e2 x2 r2 h2 => ?_
  have x := x1.trans x2
  have r1' := r1.keep s x1 x2
  cases e3 : dAsk (dOf (rdL τ2 l)) (rdD τ2 m) with
  | none => rw [e3] at h2; exact h2.elim
  | some od =>
    cases od with
    | none => rw [e3] at h2; exact h2.elim
    | some d =>
      rw [e3] at h2
      obtain ⟨a, rfl, _, o, g2, ro⟩ := dAsk_ok x.sr r1' r2 e3
      cases o with
      | none => exact ro.elim
      | some w => exact ⟨a, w, rfl, g2, h2 G2 H2 w x ⟨ro, fun o => nomatch o⟩⟩
def kDIn (neg : Bool) (o : Option (Option PyData)) (τ : Fr) : Res LR := match o with
  | some od => .ok (.cl (.fz (.bool (od.isSome != neg)))) τ
  | none => .stuck
def zDIn (neg : Bool) (a b : ZD) : ZD := fun τ => (a τ).bind fun l τ1 => (b τ1).bind fun m τ2 => kDIn neg (dAsk (dOf (rdL τ2 m)) (rdD τ2 l)) τ2
theorem OR.isSome {o : Option V} {od : Option PyData} (h : OR K G o od) : o.isSome = od.isSome := by
  cases o <;> cases od <;> first | rfl | exact h.elim
def rDIn (neg : Bool) : R2 := fun y x H Q => ∃ a o, x = .ref a ∧ DGet H a y o ∧ Q (.bl (o.isSome != neg)) H
theorem op_din (hu : X.A.units + 1 < cLine) : OpR X (compareOp .In) (rDIn false) := by
  intro pins s σ H y x u v Q I ry rx h
  obtain ⟨a, o, rfl, g, q⟩ := h
  obtain rfl : v = Value.ref a := rx
  rw [Bool.bne_false] at q
  exact d_in hu I g ry fun s' I' => ⟨.bl o.isSome, H, I', rfl, q⟩
theorem op_dnotin (hu : X.A.units + 1 < cLine) : OpR X (compareOp .NotIn) (rDIn true) := by
  intro pins s σ H y x u v Q I ry rx h
  obtain ⟨a, o, rfl, g, q⟩ := h
  obtain rfl : v = Value.ref a := rx
  rw [Bool.bne_true] at q
  exact d_notIn hu I g ry fun s' I' => ⟨.bl (!o.isSome), H, I', rfl, q⟩
theorem tz_din {neg : Bool} {Q : VK} (h : tZ K W (zDIn neg da db) σ H Q) : tOp (rDIn neg) (tZ K W da) (tZ K W db) σ H Q := by
  obtain ⟨G, τ, s, h⟩ := tZ_to h
  refine nextE (Ex.refl s) h fun l τ1 G1 H1 v e1 x1 r1 h1 => ?_
  refine nextE x1 h1 fun m τ2 G2 H2 u e2 x2 r2 h2 => ?_
  have x := x1.trans x2
  have r1' := r1.keep s x1 x2
  cases e3 : dAsk (dOf (rdL τ2 m)) (rdD τ2 l) with
  | none => rw [e3] at h2; exact h2.elim
  | some od =>
    rw [e3] at h2
    obtain ⟨a, rfl, _, o, g2, ro⟩ := dAsk_ok x.sr r2 r1' e3
    refine ⟨a, o, rfl, g2, h2 G2 H2 _ x ⟨?_, fun o => nomatch o⟩⟩
    rw [ro.isSome]; exact .bl _
theorem ze_din (hu : X.A.units + 1 < cLine) (ha : ZE X W a da) (hb : ZE X W b db) (hm : behindInMarks .In b = false := by with_unfolding_all rfl) : ZE X W (.Compare a [.In] [b] pos) (zDIn false da db) :=
  ⟨⟨fun pins s σ H Q I h => (pe_cmpR (op_din hu) ha.pe hb.pe hm).run pins s σ H Q I (tz_din h)⟩⟩
theorem ze_dnotin (hu : X.A.units + 1 < cLine) (ha : ZE X W a da) (hb : ZE X W b db) (hm : behindInMarks .NotIn b = false := by with_unfolding_all rfl) : ZE X W (.Compare a [.NotIn] [b] pos) (zDIn true da db) :=
  ⟨⟨fun pins s σ H Q I h => (pe_cmpR (op_dnotin hu) ha.pe hb.pe hm).run pins s σ H Q I (tz_din h)⟩⟩
end
end Z

/-! Z37: dicts: tests, get with a default, stores, displays, dict(pairs). -/
namespace Z
open PySem PySem.Spec PyProof.Rows L2
variable [TB : Tabs]
section
variable {X : Cx} {K : PySem.W.Frag} {W : WZ} {σ σ1 σ2 : Z.St} {G G1 G2 H H1 H2 : Hp} {τ τ1 τ2 : Fr} {v x y w u : V} {l : LR} {d e k : PyData} {a b c : Expr} {p pos apos : Pos} {da db dc : ZD} {tk : Bool} {kvs kvs' : List (PyData × PyData)} {q : Addr} {o : HO}
theorem tz_bE {R : R2} {f : ZD} {Q : Bool → Hp → Prop} (hr : ∀ Q, tZ K W f σ H Q → tOp R (tZ K W da) (tZ K W db) σ H Q) (h : tZT K W (zB f) σ H Q) : tTest (tOp R (tZ K W da) (tZ K W db)) σ H Q := by
  obtain ⟨G, τ, s, h⟩ := h
  unfold tTest
  refine hr (fun x H' => ∃ k, x = .bl k ∧ Q k H') (tZ_of s ?_)
  unfold zB at h
  cases e : f τ with
  | ok l τ1 =>
    rw [e] at h
    intro G' H' v y r
    dsimp only [Res.bind] at h
    split at h
    · cases r with
      | intro r _ => cases r; exact ⟨_, rfl, h G' H' y⟩
    · exact h.elim
  | exc n τ1 => rw [e] at h; exact h
  | stuck => rw [e] at h; exact h
theorem zt_din (hu : X.A.units + 1 < cLine) (ha : ZE X W a da) (hb : ZE X W b db) (hm : behindInMarks .In b = false := by with_unfolding_all rfl) : ZT X W (.Compare a [.In] [b] pos) (zB (zDIn false da db)) :=
  ⟨⟨fun pins s σ H Q I h => (pt_cmpR (op_din hu) ha.pe hb.pe hm).run pins s σ H Q I (tz_bE (fun _ => tz_din) h)⟩⟩
theorem zt_dnotin (hu : X.A.units + 1 < cLine) (ha : ZE X W a da) (hb : ZE X W b db) (hm : behindInMarks .NotIn b = false := by with_unfolding_all rfl) : ZT X W (.Compare a [.NotIn] [b] pos) (zB (zDIn true da db)) :=
  ⟨⟨fun pins s σ H Q I h => (pt_cmpR (op_dnotin hu) ha.pe hb.pe hm).run pins s σ H Q I (tz_bE (fun _ => tz_din) h)⟩⟩
/-! ### d.get -/
def kDG1 (τ : Fr) : Option (Option PyData) → Res LR
  | some (some d) => .ok (.cl (.fz d)) τ
  | some none => .ok (.cl (.fz .none)) τ
  | none => .stuck
def kDG2 (τ : Fr) : Option (Option PyData) → LR → Res LR
  | some (some d), .cl (.fz _) => .ok (.cl (.fz d)) τ
  | some none, .cl (.fz e) => .ok (.cl (.fz e)) τ
  | _, _ => .stuck
def kOfD (r : Res LR) : Option (Bool × List (PyData × PyData)) → Res LR
  | some _ => r
  | none => .stuck
def zDGet1 (a b : ZD) : ZD := fun τ => (a τ).bind fun l τ1 => kOfD ((b τ1).bind fun m τ2 => kDG1 τ2 (dAsk (dOf (rdL τ2 l)) (rdD τ2 m))) (dOf (rdL τ1 l))
def zDGet2 (a b c : ZD) : ZD := fun τ => (a τ).bind fun l τ1 => kOfD ((b τ1).bind fun m τ2 => (zF c τ2).bind fun n τ3 => kDG2 τ3 (dAsk (dOf (rdL τ3 l)) (rdD τ3 m)) n) (dOf (rdL τ1 l))
theorem ze_dget1 (hu : X.A.units + 1 < cLine) (ha : ZE X W a da) (hb : ZE X W b db) (m1 : attributeBase a "get" X.env (eval a X.env) = eval a X.env := by rfl)
    (m2 : ((backTo pos (starEach [b] X.env)).all (fun x => !x.1) && (backToKw pos (keywordEach [] X.env)).all (fun x => x.1.isSome)
    && decide (([b] : List Expr).length + ([] : List Keyword).length + (if ([] : List Keyword).isEmpty then 0 else 1) < 30)) = true := by rfl)
    (m3 : (apos.endLine == pos.line) = true := by rfl) (m4 : backTo pos (starEach [b] X.env) = [(false, eval b X.env)] := by rfl) : ZE X W (.Call (.Attribute a "get" apos) [b] [] pos) (zDGet1 da db) := by
  refine ⟨⟨fun pins s σ H Q I h => (pe_dget1 hu ha.pe hb.pe ⟨m1, m2, m3, m4⟩).run pins s σ H Q I ?_⟩⟩
  obtain ⟨G, τ, s, h⟩ := tZ_to h
  refine nextE (Ex.refl s) h fun l τ1 G1 H1 v e1 x1 r1 h1 => ?_
  cases e4 : dOf (rdL τ1 l) with
  | none => rw [e4] at h1; exact h1.elim
  | some t =>
    obtain ⟨tk, kvs⟩ := t
    rw [e4] at h1
    obtain ⟨_, _, e5⟩ := dOf_some e4
    obtain ⟨a, rfl, g, dr⟩ := RL.cell x1.sr r1 e5
    refine ⟨a, rfl, dr.isD, ?_⟩
    have h1 : Fin X.K W σ G τ H ((db τ1).bind fun m τ2 => kDG1 τ2 (dAsk (dOf (rdL τ2 l)) (rdD τ2 m))) Q := h1
    refine nextE x1 h1 fun m τ2 G2 H2 u e2 x2 r2 h2 => ?_
    have x := x1.trans x2
    have r1' := r1.keep s x1 x2
    cases e3 : dAsk (dOf (rdL τ2 l)) (rdD τ2 m) with
    | none => rw [e3] at h2; exact h2.elim
    | some od =>
      rw [e3] at h2
      obtain ⟨a', ea, _, o, g2, ro⟩ := dAsk_ok x.sr r1' r2 e3
      cases ea
      refine ⟨o, g2, ?_⟩
      cases o with
      | none =>
        cases od with
        | none => exact h2 G2 H2 _ x ⟨.non, fun o => nomatch o⟩
        | some d => exact ro.elim
      | some w =>
        cases od with
        | none => exact ro.elim
        | some d => exact h2 G2 H2 _ x ⟨ro, fun o => nomatch o⟩
theorem ze_dget2 (hu : X.A.units + 1 < cLine) (ha : ZE X W a da) (hb : ZE X W b db) (hc : ZE X W c dc) (m1 : attributeBase a "get" X.env (eval a X.env) = eval a X.env := by rfl)
    (m2 : ((backTo pos (starEach [b, c] X.env)).all (fun x => !x.1) && (backToKw pos (keywordEach [] X.env)).all (fun x => x.1.isSome)
    && decide (([b, c] : List Expr).length + ([] : List Keyword).length + (if ([] : List Keyword).isEmpty then 0 else 1) < 30)) = true := by rfl)
    (m3 : (apos.endLine == pos.line) = true := by rfl) (m4 : backTo pos (starEach [b, c] X.env) = [(false, eval b X.env), (false, eval c X.env)] := by rfl) : ZE X W (.Call (.Attribute a "get" apos) [b, c] [] pos) (zDGet2 da db dc) := by
  refine ⟨⟨fun pins s σ H Q I h => (pe_dget2 hu ha.pe hb.pe (ze_dat hc).pe ⟨m1, m2, m3, m4⟩).run pins s σ H Q I ?_⟩⟩
  obtain ⟨G, τ, s, h⟩ := tZ_to h
  refine nextE (Ex.refl s) h fun l τ1 G1 H1 v e1 x1 r1 h1 => ?_
  cases e4 : dOf (rdL τ1 l) with
  | none => rw [e4] at h1; exact h1.elim
  | some t =>
    obtain ⟨tk, kvs⟩ := t
    rw [e4] at h1
    obtain ⟨_, _, e5⟩ := dOf_some e4
    obtain ⟨a, rfl, g, dr⟩ := RL.cell x1.sr r1 e5
    refine ⟨a, rfl, dr.isD, ?_⟩
    have h1 : Fin X.K W σ G τ H ((db τ1).bind fun m τ2 => (zF dc τ2).bind fun n τ3 => kDG2 τ3 (dAsk (dOf (rdL τ3 l)) (rdD τ3 m)) n) Q := h1
    refine nextE x1 h1 fun m τ2 G2 H2 u e2 x2 r2 h2 => ?_
    refine nextE (x1.trans x2) h2 fun n τ3 G3 H3 z e6 x3 r3 h3 => ?_
    have x12 := x1.trans x2
    have x := x12.trans x3
    have r1' := (r1.keep s x1 x2).keep s x12 x3
    have r2' := r2.keep x1.sr x2 x3
    cases e3 : dAsk (dOf (rdL τ3 l)) (rdD τ3 m) with
    | none => rw [e3] at h3; exact h3.elim
    | some od =>
      rw [e3] at h3
      obtain ⟨a', ea, _, o, g2, ro⟩ := dAsk_ok x.sr r1' r2' e3
      cases ea
      refine ⟨o, g2, ?_⟩
      cases n with
      | sl _ => cases od <;> exact h3.elim
      | cl c =>
      cases c with
      | fz e =>
        cases o with
        | none =>
          cases od with
          | none => exact h3 G3 H3 _ x ⟨r3.1, fun o => nomatch o⟩
          | some d => exact ro.elim
        | some w =>
          cases od with
          | none => exact ro.elim
          | some d => exact h3 G3 H3 _ x ⟨ro, fun o => nomatch o⟩
      | _ => cases od <;> exact h3.elim
/-! ### d[k] = v -/
def kDPut3 (i : Nat) (b tk : Bool) (τ : Fr) : Option (List (PyData × PyData)) → Res Fl
  | some kvs' => .ok .nx (τ.set i (some (.dct b false tk kvs')))
  | none => .stuck
def kDPut2 (i : Nat) (d : PyData) (τ : Fr) : Option Cell → Option PyData → Res Fl
  | some (.dct b false tk kvs), some k => kDPut3 i b tk τ (dPut tk kvs k d)
  | _, _ => .stuck
def kDPut1 (i : Nat) (ix : ZD) (d : PyData) (τ1 : Fr) : Option Cell → Res Fl
  | some _ => (ix τ1).bind fun m τ2 => kDPut2 i d τ2 (cellAt τ2 i) (rdD τ2 m)
  | none => .stuck
def kDPut (i : Nat) (ix : ZD) : LR → Fr → Res Fl
  | .cl (.fz d), τ1 => kDPut1 i ix d τ1 (cellAt τ1 i)
  | _, _ => .stuck
def zDPut (i : Nat) (ix : ZD) (a : ZD) : ZSD := fun τ => (zF a τ).bind (kDPut i ix)
theorem zs_dput {i : Nat} {nm : Str} {np tpos : Pos} (hu : X.A.units + 1 < cLine) (hN : X.N[i]? = some nm) (hv : Vis X.env.scope nm) (hb : ZE X W b db) (ha : ZE X W a da)
    (hs : swapsWith a (some (.Subscript (.Name nm np) b tpos)) pos.line X.env = pure false := by rfl)
    (hd : (nm == ("__debug__" : Str)) = false := by decide) (hcd : (nm == ("__classdict__" : Str)) = false := by decide) :
    ZS X W (.Assign [.Subscript (.Name nm np) b tpos] a pos) (zDPut i db da) := by
  refine ⟨⟨fun pins s σ H D I h => (ps_dput hu (ze_name (W := W) hN hv hd hcd).pe hb.pe (ze_dat ha).pe hs).run pins s σ H D I ?_⟩⟩
  obtain ⟨G, τ, s, h⟩ := h
  refine nextS (Sx.refl s) h fun l τ1 G1 H1 v e x r h => ?_
  cases l with
  | sl j => exact h.elim
  | cl c =>
  cases c with
  | lst _ _ _ => exact h.elim
  | dct _ _ _ _ => exact h.elim
  | exc _ => exact h.elim
  | scr _ => exact h.elim
  | fz d =>
  have h : FinS X.K W σ G τ H (kDPut1 i db d τ1 (cellAt τ1 i)) D := h
  cases ec : cellAt τ1 i with
  | none => rw [ec] at h; exact h.elim
  | some c0 =>
  rw [ec] at h
  have h : FinS X.K W σ G τ H ((db τ1).bind fun m τ2 => kDPut2 i d τ2 (cellAt τ2 i) (rdD τ2 m)) D := h
  refine ⟨G1, τ1, x.sr, ?_⟩
  unfold zN
  rw [ec]
  intro G2 H2 o x2 r2
  have r2 : σ[i]? = some (some o) := r2
  have x12 := x.trans x2
  refine nextS x12.sx h fun m τ2 G3 H3 iv e5 x3 r3 h => ?_
  cases e2 : cellAt τ2 i with
  | none => rw [e2] at h; exact h.elim
  | some c =>
    cases c with
    | fz _ => rw [e2] at h; exact h.elim
    | lst _ _ _ => rw [e2] at h; exact h.elim
    | exc _ => rw [e2] at h; exact h.elim
    | scr _ => rw [e2] at h; exact h.elim
    | dct b k tk kvs =>
      cases k with
      | true => rw [e2] at h; exact h.elim
      | false =>
        rw [e2] at h
        cases e3 : rdD τ2 m with
        | none => rw [e3] at h; exact h.elim
        | some dm =>
          rw [e3] at h
          have h : FinS X.K W σ G τ H (kDPut3 i b tk τ2 (dPut tk kvs dm d)) D := h
          cases e4 : dPut tk kvs dm d with
          | none => rw [e4] at h; exact h.elim
          | some kvs' =>
            rw [e4] at h
            obtain ⟨v', z, q⟩ := x3.sr.cell i _ (cellAt_some e2)
            rw [r2] at z; cases z
            obtain ⟨p', rfl, g, dr⟩ := q
            have rv : RD X.K G3 v d := dp_mono x3.kp.1 _ _ (dp_mono x2.kp.1 _ _ r.1)
            obtain ⟨o, w1, w2⟩ := dr.put x3.sr.sub (RL.view x3.sr r3 e3) rv e4
            refine ⟨p', _, rfl, w1, ?_⟩
            have x4 := Ex.writeD x3.sr (cellAt_some e2) r2 w2
            exact h G3 σ _ ((x12.trans x3).trans x4).sx
end
end Z

/-! Z38: dict(a list of pairs), keys tuples. -/
namespace Z
open PySem PySem.Spec PyProof.Rows L2
def mergeT (kvs : List (List Key × V)) (more : List (List Key × Addr × V)) : List (List Key × V) := more.foldl (fun acc kv => putK acc kv.1 kv.2.2) kvs
section
variable {X : Cx}
theorem pairsT_of {pins : List (Addr × Obj)} {σ : L2.St} {H : Hp} {s : Shared} (I : Inv X pins σ H s) : ∀ {ps : List Addr} {kvs : List (List Key × Addr × V)}, Paired (fun p kv => SqT X.K H p [.ref kv.2.1, kv.2.2] ∧ H kv.2.1 = some (.tup (kv.1.map kV))) ps kvs →
    ∃ prs : List (List Key × Addr × Value), Paired (fun (p : List Key × Addr × V) (q : List Key × Addr × Value) => p.1 = q.1 ∧ p.2.1 = q.2.1 ∧ H q.2.1 = some (.tup (p.1.map kV)) ∧ RelV p.2.2 q.2.2) kvs prs ∧ prs.length = ps.length ∧
      ∀ (j : Nat) (k : List Key) (b : Addr) (y : Value), prs[j]? = some (k, b, y) → ∃ (c : Addr), ps[j]? = some c ∧ IsTup s.heap c #[.ref b, y]
  | _, _, .nil => ⟨[], .nil, rfl, fun j k b y e => by simp at e⟩
  | _, _, .cons (a := p) (b := kv) h t => by
    obtain ⟨prs, r, hl, hp⟩ := pairsT_of I t
    obtain ⟨its, rv, ht, _⟩ := I.tuple h.1
    obtain ⟨u, y, ei, ru, ry⟩ := vals2 rv
    subst ei
    cases ru
    refine ⟨(kv.1, kv.2.1, y) :: prs, .cons ⟨rfl, rfl, h.2, ry⟩ r, by rw [List.length_cons, List.length_cons, hl], fun j k b y' e => ?_⟩
    cases j with
    | zero =>
      have e' : (kv.1, kv.2.1, y) = (k, b, y') := Option.some.inj e
      cases e'
      exact ⟨p, rfl, ht⟩
    | succ j =>
      obtain ⟨c, e1, e2⟩ := hp j k b y' (by simpa using e)
      exact ⟨c, by simpa using e1, e2⟩
theorem KT.mergeT {H : Hp} : ∀ {more : List (List Key × Addr × V)} {rs : List (List Key × Addr × Value)} {kvs : List (List Key × V)} {xs : List (List Key × Addr × Value)},
    Paired (fun (p : List Key × Addr × V) (q : List Key × Addr × Value) => p.1 = q.1 ∧ p.2.1 = q.2.1 ∧ H q.2.1 = some (.tup (p.1.map kV)) ∧ RelV p.2.2 q.2.2) more rs → KT H kvs xs → KT H (Z.mergeT kvs more) (storedAllH xs rs) := by
  intro more rs kvs xs r
  induction r generalizing kvs xs with
  | nil => intro q; exact q
  | @cons p q ps qs h t ih =>
    intro r0
    obtain ⟨e1, e2, e3, e4⟩ := h
    have e : KT H (putK kvs p.1 p.2.2) (storedH xs q.1 q.2.1 q.2.2) := by
      rw [← e1]
      exact KT.put r0 p.1 e3 e4
    exact ih e
theorem length_mergeT : ∀ (more : List (List Key × Addr × V)) (kvs : List (List Key × V)), (mergeT kvs more).length ≤ kvs.length + more.length
  | [], kvs => by show kvs.length ≤ kvs.length + 0; omega
  | p :: r, kvs => by
    have h1 := length_mergeT r (putK kvs p.1 p.2.2)
    have h2 := length_putK kvs p.1 p.2.2
    show (mergeT (putK kvs p.1 p.2.2) r).length ≤ _
    rw [List.length_cons]; omega
theorem call_dictPT (hcalm : X.calm = true) (hu : X.A.units + 8 < cLine) : CallR X (.type "dict") (fun xs H Q => ∃ (a : Addr) (ps : List Addr) (kvs : List (List Key × Addr × V)), xs = [.ref a] ∧ SqL X.K H a (ps.map V.ref) ∧
    Paired (fun p kv => SqT X.K H p [.ref kv.2.1, kv.2.2] ∧ H kv.2.1 = some (.tup (kv.1.map kV))) ps kvs ∧ ∀ p, H p = none → Q (.ref p) (upd H p (.dT (mergeT [] kvs)))) := by
  intro pins s σ H xs us Q I r q
  obtain ⟨a, ps, kvs, ex, hq, hp, q⟩ := q
  subst ex
  obtain ⟨u, eu, rx⟩ := vals1 r
  subst eu
  cases rx
  obtain ⟨its, rv, pl, hz⟩ := I.list hq
  have ei := refs_at rv
  subst ei
  rw [List.length_map] at hz
  obtain ⟨prs, rel, hl, hpr⟩ := pairsT_of I hp
  obtain ⟨o, n, ho, hc, hd, hdat⟩ := pl
  have lt : ∀ (j : Nat), j < ps.length → ∃ p, ps[j]? = some p := fun j hj => ⟨ps[j], List.getElem?_eq_getElem hj⟩
  have P := PairArg.list (prog := X.prog) (w := X.w) a (ps.map Value.ref).toArray (fun j => (ps[j]?).getD 0) (prs.map fun x => (Value.ref x.2.1, x.2.2))
  refine call_dict_pairsH (knd := tupleKind (mixKind X.prog X.w)) (ps := prs) P (I.ok.hd hcalm) ?_ ⟨⟨o, n, ho, hc, hd, hdat⟩, by simp [hl], fun j k v e => ?_⟩ ⟨by simp, fun j k v e => ?_⟩ (fun h' hk x hx => ?_) (by rw [List.length_map, hl]; exact hz) fun h' tk hd' k => ?_
  · show X.A.units + 1 + 1 < cLine
    omega
  · rw [List.getElem?_map] at e
    obtain ⟨x, e1, e2⟩ := Option.map_eq_some_iff.mp e
    cases e2
    obtain ⟨k', b, y⟩ := x
    obtain ⟨c, e3, e4⟩ := hpr j k' b y e1
    have e5 : s.heap.IsTuple c #[Value.ref b, y] := e4
    exact ⟨by simp [e3], .inl (by simpa [e3] using e5)⟩
  · have e : (prs.map fun x => (Value.ref x.2.1, x.2.2))[j]? = some (k, v) := e
    rw [List.getElem?_map] at e
    obtain ⟨x, e1, e2⟩ := Option.map_eq_some_iff.mp e
    cases e2
    exact ⟨x.1, x.2.1, e1, rfl⟩
  · have mem : ∀ {l : List (List Key × Addr × V)} {m : List (List Key × Addr × Value)}, Paired (fun (p : List Key × Addr × V) (q : List Key × Addr × Value) => p.1 = q.1 ∧ p.2.1 = q.2.1 ∧ H q.2.1 = some (.tup (p.1.map kV)) ∧ RelV p.2.2 q.2.2) l m → ∀ x ∈ m, H x.2.1 = some (.tup (x.1.map kV)) := by
      intro l m q
      induction q with
      | nil => intro x hx; exact nomatch hx
      | @cons p q ps qs hq t ih =>
        intro x hx
        rcases List.mem_cons.mp hx with e | hx
        · subst e
          rw [← hq.1]; exact hq.2.2.1
        · exact ih x hx
    obtain ⟨o', its', n', z1, z2, z3, z4⟩ := key_of I.hok (mem rel x hx)
    exact ⟨o', its', n', hk _ _ (Nat.ne_of_lt (Heap.lt_size z1)) (fun z => nomatch z) z1, z2, z3, z4⟩
  · have hm : (s.heap.objs.size == sysModules) = false := beq_eq_false_iff_ne.mpr (Nat.ne_of_gt I.big)
    have hlen : (mergeT [] kvs).length ≤ sizeLine := by
      refine Nat.le_trans (length_mergeT kvs []) ?_
      rw [List.length_nil, Nat.zero_add, Paired.length rel, hl]
      exact hz
    obtain ⟨o', es, ep, w1, w2, w3, w4, _, w5⟩ := hd'
    have hn := I.hok.fresh (Nat.le_refl s.heap.objs.size)
    exact ⟨.ref s.heap.objs.size, upd H s.heap.objs.size (.dT (mergeT [] kvs)), I.laid (t' := tk) (fun b ob e => k b ob (fun z => nomatch z) e) (Nat.le_refl _) (show ObjOk X.prog X.w _ _ _ (.dT (mergeT [] kvs)) from
      ⟨hlen, hm, _, (KT.mergeT rel .nil).keeps fun c ys ec => by rw [upd_ne (ne_of_none ec hn)]; exact ec, o', es, ep, w1, w2, w3, w4, w5⟩), rfl, q _ hn⟩
end
end Z

/-! Z39: dict(x), displays of dicts, d[k] op= v. -/
namespace Z
open PySem PySem.Spec PyProof.Rows L2
def keyOk (tk : Bool) (k : PyData) : Bool := if tk = true then (tkeyD k).isSome else (keyD k).isSome
def pairsD (tk : Bool) : List PyData → Option (List (PyData × PyData))
  | [] => some []
  | .tuple [k, v] :: ds => if keyOk tk k = true then (pairsD tk ds).map ((k, v) :: ·) else none
  | _ :: _ => none
def dMerge (tk : Bool) : List (PyData × PyData) → List (PyData × PyData) → Option (List (PyData × PyData))
  | acc, [] => some acc
  | acc, p :: ps => (dPut tk acc p.1 p.2).bind fun acc => dMerge tk acc ps
variable [TB : Tabs]
section
variable {X : Cx} {K : PySem.W.Frag} {W : WZ} {σ σ1 σ2 : Z.St} {G G1 G2 H H1 H2 : Hp} {τ τ1 τ2 : Fr} {v x y w u : V} {l : LR} {d e k : PyData} {a b c : Expr} {p pos apos : Pos} {da db dc : ZD} {tk : Bool} {kvs kvs' : List (PyData × PyData)} {q : Addr} {o : HO}
theorem merge_k : ∀ {kvs acc r : List (PyData × PyData)} {ks as : List (Key × V)}, Paired (DR K G keyD) kvs ks → Paired (DR K G keyD) acc as → dMerge false acc kvs = some r → Paired (DR K G keyD) r (mergeK as ks)
  | [], acc, r, _, as, .nil, h, e => by cases e; exact h
  | p :: ps, acc, r, _, as, .cons (b := q) h1 t, h, e => by
    obtain ⟨acc', e1, e2⟩ := Option.bind_eq_some_iff.mp e
    unfold dPut at e1
    split at e1
    · rw [if_neg Bool.false_ne_true] at e1
      obtain ⟨c, e3, e4⟩ := Option.map_eq_some_iff.mp e1
      rw [h1.1] at e3; cases e3
      subst e4
      exact merge_k (as := putK as q.1 q.2) t (put_rel h h1.1 h1.2) e2
    · cases e1
theorem merge_t : ∀ {kvs acc r : List (PyData × PyData)} {ks : List (List Key × Addr × V)} {as : List (List Key × V)}, Paired (fun (p : PyData × PyData) (q : List Key × Addr × V) => tkeyD p.1 = some q.1 ∧ RD K G q.2.2 p.2) kvs ks → Paired (DR K G tkeyD) acc as → dMerge true acc kvs = some r →
    Paired (DR K G tkeyD) r (mergeT as ks)
  | [], acc, r, _, as, .nil, h, e => by cases e; exact h
  | p :: ps, acc, r, _, as, .cons (b := q) h1 t, h, e => by
    obtain ⟨acc', e1, e2⟩ := Option.bind_eq_some_iff.mp e
    unfold dPut at e1
    split at e1
    · rw [if_pos rfl] at e1
      obtain ⟨c, e3, e4⟩ := Option.map_eq_some_iff.mp e1
      rw [h1.1] at e3; cases e3
      subst e4
      exact merge_t (as := putK as q.1 q.2.2) t (put_rel h h1.1 h1.2) e2
    · cases e1
theorem keyD_rd {v : V} {k : PyData} (r : RD K G v k) (h : keyOk false k = true) : ∃ c, keyD k = some c ∧ v = kV c := by
  unfold keyOk at h
  rw [if_neg Bool.false_ne_true] at h
  obtain ⟨c, e⟩ := Option.isSome_iff_exists.mp h
  exact ⟨c, e, keyR r e⟩
theorem tkeyD_rd {v : V} {k : PyData} (s : Sub G H) (r : RD K G v k) (h : keyOk true k = true) : ∃ c b, tkeyD k = some c ∧ v = .ref b ∧ H b = some (.tup (c.map kV)) := by
  unfold keyOk at h
  rw [if_pos rfl] at h
  obtain ⟨c, e⟩ := Option.isSome_iff_exists.mp h
  obtain ⟨b, h1, h2⟩ := tkeyV s (.inl r) e
  exact ⟨c, b, e, h1, h2⟩
theorem pairs_k (s : Sub G H) : ∀ {ds : List PyData} {vs : List V} {kvs : List (PyData × PyData)}, RDs K G vs ds → pairsD false ds = some kvs →
    ∃ (ps : List Addr) (ks : List (Key × V)), vs = ps.map V.ref ∧ Paired (fun p kv => SqT K H p [kV kv.1, kv.2]) ps ks ∧ Paired (DR K G keyD) kvs ks
  | [], _, _, .nil, e => by cases e; exact ⟨[], [], rfl, .nil, .nil⟩
  | d :: ds, _, _, .cons r t, e => by
    unfold pairsD at e
    split at e
    · rename_i e0; cases e0
    · rename_i k v ds' e0
      cases e0
      split at e
      · rename_i hk
        obtain ⟨kvs', e1, e2⟩ := Option.map_eq_some_iff.mp e
        subst e2
        obtain ⟨ps, ks, z1, z2, z3⟩ := pairs_k s t e1
        cases r with
        | @tup b xs _ hb q =>
          cases q with
          | cons r1 q =>
            cases q with
            | cons r2 q =>
              cases q
              obtain ⟨c, c1, c2⟩ := keyD_rd r1 hk
              subst c2
              exact ⟨b :: ps, (c, _) :: ks, by rw [z1]; rfl, .cons (SqT.of (s _ _ hb)) z2, .cons ⟨c1, r2⟩ z3⟩
      · cases e
    · cases e
theorem pairs_t (s : Sub G H) : ∀ {ds : List PyData} {vs : List V} {kvs : List (PyData × PyData)}, RDs K G vs ds → pairsD true ds = some kvs →
    ∃ (ps : List Addr) (ks : List (List Key × Addr × V)), vs = ps.map V.ref ∧ Paired (fun p kv => SqT K H p [.ref kv.2.1, kv.2.2] ∧ H kv.2.1 = some (.tup (kv.1.map kV))) ps ks ∧
      Paired (fun (p : PyData × PyData) (q : List Key × Addr × V) => tkeyD p.1 = some q.1 ∧ RD K G q.2.2 p.2) kvs ks
  | [], _, _, .nil, e => by cases e; exact ⟨[], [], rfl, .nil, .nil⟩
  | d :: ds, _, _, .cons r t, e => by
    unfold pairsD at e
    split at e
    · rename_i e0; cases e0
    · rename_i k v ds' e0
      cases e0
      split at e
      · rename_i hk
        obtain ⟨kvs', e1, e2⟩ := Option.map_eq_some_iff.mp e
        subst e2
        obtain ⟨ps, ks, z1, z2, z3⟩ := pairs_t s t e1
        cases r with
        | @tup b xs _ hb q =>
          cases q with
          | cons r1 q =>
            cases q with
            | cons r2 q =>
              cases q
              obtain ⟨c, b2, c1, c2, c3⟩ := tkeyD_rd s r1 hk
              subst c2
              exact ⟨b :: ps, (c, b2, _) :: ks, by rw [z1]; rfl, .cons ⟨SqT.of (s _ _ hb), c3⟩ z2, .cons ⟨c1, r2⟩ z3⟩
      · cases e
    · cases e
def kDOf (tk : Bool) (τ : Fr) : Option PyData → Res LR
  | some (.list ds) => (match (pairsD tk ds).bind (dMerge tk []) with
    | some kvs => .ok (.cl (.dct false false tk kvs)) τ
    | none => .stuck)
  | _ => .stuck
def zDOf (tk : Bool) (a : ZD) : ZD := fun τ => (a τ).bind fun l τ1 => kDOf tk τ1 (rdD τ1 l)
theorem ze_dof (tk : Bool) {x : Str} (hcm : X.calm = true) (hu : X.A.units + 8 < cLine) (hg : Gl X x) (hm : X.mg x = none) (hv : bootBuiltins x = some (.type "dict")) (ha : ZE X W a da)
    (hn : x ≠ "__name__" := by decide) (hdb : (x == ("__debug__" : Str)) = false := by decide) (he : starEach [a] X.env = (false, eval a X.env) :: starEach [] X.env := by rfl) : ZE X W (.Call (.Name x p) [a] [] pos) (zDOf tk da) := by
  have key : ∀ {G : Hp} {τ : Fr} {σ : Z.St} {H : Hp} {Q : VK}, SR X.K G τ σ H → Fin X.K W σ G τ H (zDOf tk da τ) Q → tZ X.K W da σ H fun v H1 => ∃ kvs vs a ds G1 τ1, Ex X.K σ G τ H G1 τ1 H1 ∧ v = .ref a ∧ H1 a = some (.lst vs) ∧ RDs X.K G1 vs ds ∧ (∃ ps, pairsD tk ds = some ps ∧ dMerge tk [] ps = some kvs) ∧
      ∀ p o, H1 p = none → DctO X.K G1 tk kvs o → Q (.ref p) (upd H1 p o) := by
    intro G τ σ H Q s h
    refine nextE (Ex.refl s) h fun l τ1 G1 H1 v e1 x1 r1 h1 => ?_
    cases hd : rdD τ1 l with
    | none => rw [hd] at h1; exact h1.elim
    | some d =>
      rw [hd] at h1
      cases d with
      | list ds =>
        have h1 : Fin X.K W σ G τ H (match (pairsD tk ds).bind (dMerge tk []) with
          | some kvs => .ok (.cl (.dct false false tk kvs)) τ1
          | none => .stuck) Q := h1
        cases e2 : (pairsD tk ds).bind (dMerge tk []) with
        | none => rw [e2] at h1; exact h1.elim
        | some kvs =>
          rw [e2] at h1
          obtain ⟨ps, e3, e4⟩ := Option.bind_eq_some_iff.mp e2
          obtain ⟨a, vs, rfl, hh, q⟩ := (RL.view x1.sr r1 hd).lst x1.sr.sub
          refine ⟨kvs, vs, a, ds, G1, τ1, x1, rfl, hh, q, ⟨ps, e3, e4⟩, fun p o hp ho => ?_⟩
          obtain ⟨x, r⟩ := dct_new x1.sr x1 hp ho
          exact h1 _ _ _ x r
      | _ => exact h1.elim
  cases tk with
  | false =>
    refine ⟨⟨fun pins s σ H Q I h => (pe_callTy (call_dictP hcm) hg hm hv (pa1 ha.pe he) hn hdb he (by rfl)).run pins s σ H Q I ?_⟩⟩
    obtain ⟨G, τ, s, h⟩ := tZ_to h
    have h := key s h
    obtain ⟨G', τ', s', h⟩ := h
    refine ⟨G', τ', s', ?_⟩
    cases e : da τ' with
    | stuck => rw [e] at h; exact h
    | exc n τ2 => rw [e] at h; exact h
    | ok l τ2 =>
      rw [e] at h
      intro G2 H2 v x r
      obtain ⟨kvs, vs, a, ds, G1, τ1, x1, rfl, hh, q, ⟨ps, e3, e4⟩, hq⟩ := h G2 H2 v x r
      obtain ⟨as, ks, z1, z2, z3⟩ := pairs_k x1.sr.sub q e3
      exact ⟨a, as, ks, rfl, by rw [← z1]; exact SqL.of hh, z2, fun p hp => hq p _ hp (show DctO X.K G1 false kvs (.dK (mergeK [] ks)) from ⟨_, rfl, merge_k z3 .nil e4⟩)⟩
  | true =>
    refine ⟨⟨fun pins s σ H Q I h => (pe_callTy (call_dictPT hcm hu) hg hm hv (pa1 ha.pe he) hn hdb he (by rfl)).run pins s σ H Q I ?_⟩⟩
    obtain ⟨G, τ, s, h⟩ := tZ_to h
    have h := key s h
    obtain ⟨G', τ', s', h⟩ := h
    refine ⟨G', τ', s', ?_⟩
    cases e : da τ' with
    | stuck => rw [e] at h; exact h
    | exc n τ2 => rw [e] at h; exact h
    | ok l τ2 =>
      rw [e] at h
      intro G2 H2 v x r
      obtain ⟨kvs, vs, a, ds, G1, τ1, x1, rfl, hh, q, ⟨ps, e3, e4⟩, hq⟩ := h G2 H2 v x r
      obtain ⟨as, ks, z1, z2, z3⟩ := pairs_t x1.sr.sub q e3
      exact ⟨a, as, ks, rfl, by rw [← z1]; exact SqL.of hh, z2, fun p hp => hq p _ hp (show DctO X.K G1 true kvs (.dT (mergeT [] ks)) from ⟨_, rfl, merge_t z3 .nil e4⟩)⟩
/-! ### dict(d), keys ints and texts -/
def kDCopy (τ : Fr) : Option (Bool × List (PyData × PyData)) → Res LR
  | some (false, kvs) => .ok (.cl (.dct false false false kvs)) τ
  | _ => .stuck
def zDCopy (a : ZD) : ZD := fun τ => (a τ).bind fun l τ1 => kDCopy τ1 (dOf (rdL τ1 l))
theorem ze_dcopy {x : Str} (hg : Gl X x) (hm : X.mg x = none) (hv : bootBuiltins x = some (.type "dict")) (ha : ZE X W a da)
    (hn : x ≠ "__name__" := by decide) (hdb : (x == ("__debug__" : Str)) = false := by decide) (he : starEach [a] X.env = (false, eval a X.env) :: starEach [] X.env := by rfl) : ZE X W (.Call (.Name x p) [a] [] pos) (zDCopy da) := by
  refine ⟨⟨fun pins s σ H Q I h => (pe_callTy call_dictD hg hm hv (pa1 ha.pe he) hn hdb he (by rfl)).run pins s σ H Q I ?_⟩⟩
  obtain ⟨G, τ, s, h⟩ := tZ_to h
  refine nextE (Ex.refl s) h fun l τ1 G1 H1 v e1 x1 r1 h1 => ?_
  cases e2 : dOf (rdL τ1 l) with
  | none => rw [e2] at h1; exact h1.elim
  | some t =>
    obtain ⟨tk, kvs⟩ := t
    rw [e2] at h1
    cases tk with
    | true => exact h1.elim
    | false =>
      obtain ⟨_, _, e3⟩ := dOf_some e2
      obtain ⟨a, rfl, g, dr⟩ := RL.cell x1.sr r1 e3
      obtain ⟨ks, ho, pr⟩ := (show ∃ ks, AtK H1 a _ (.dK ks) ∧ Paired (DR X.K G1 keyD) kvs ks from dr)
      have dO : DctO X.K G1 false kvs (.dK ks) := ⟨ks, rfl, pr⟩
      refine ⟨a, ks, rfl, ho.rd, fun p hp => ?_⟩
      obtain ⟨x, r⟩ := dct_new x1.sr x1 hp dO
      exact h1 _ _ _ x r
/-! ### d[k] op= v -/
def kDAug3 (i : Nat) (f : PyData → PyData → Option RO) (d k : PyData) (τ : Fr) : Option Cell → Option PyData → Res Fl
  | some (.dct b false tk kvs), some e => (match f d e with
    | some (.sc r) => kDPut3 i b tk τ (dPut tk kvs k r)
    | _ => .stuck)
  | _, _ => .stuck
def kDAug2 (i : Nat) (f : PyData → PyData → Option RO) (a : ZD) (k : PyData) (τ : Fr) : Option (Option PyData) → Res Fl
  | some (some d) => (a τ).bind fun n τ2 => kDAug3 i f d k τ2 (cellAt τ2 i) (rdD τ2 n)
  | _ => .stuck
def kDAug1 (i : Nat) (f : PyData → PyData → Option RO) (a : ZD) (τ : Fr) : Option PyData → Res Fl
  | some k => kDAug2 i f a k τ (dAsk (dOf (cellAt τ i)) (some k))
  | none => .stuck
def zDAug (i : Nat) (f : PyData → PyData → Option RO) (ix a : ZD) : ZSD := fun τ => match cellAt τ i with
  | some _ => (ix τ).bind fun m τ1 => kDAug1 i f a τ1 (rdD τ1 m)
  | none => .stuck
theorem zs_daug {i : Nat} {nm : Str} {np tpos : Pos} {op : Operator} {f : PyData → PyData → Option RO} {R : R2} (hu : X.A.units + 1 < cLine) (hN : X.N[i]? = some nm) (hv : Vis X.env.scope nm) (ho : OpR X (inplaceOp op) R) (hr : Op2 X.K f R) (hb : ZE X W b db) (ha : ZE X W a da)
    (hst : ∀ ov iv new, augStore b ov iv new = (do holding [new, ov, iv] (setItem ov iv new); release [new, ov, iv] []; pure .next) := by intro _ _ _; rfl)
    (hd : (nm == ("__debug__" : Str)) = false := by decide) (hcd : (nm == ("__classdict__" : Str)) = false := by decide) :
    ZS X W (.AugAssign (.Subscript (.Name nm np) b tpos) op a pos) (zDAug i f db da) := by
  refine ⟨⟨fun pins s σ H D I h => (ps_daug hu (ze_name (W := W) hN hv hd hcd).pe hb.pe ha.pe (fun pins s σ H x y u v Q I rx ry q => ho pins s σ H x y u v Q I rx ry q) hst).run pins s σ H D I ?_⟩⟩
  obtain ⟨G, τ, s, h⟩ := h
  unfold zDAug at h
  refine ⟨G, τ, s, ?_⟩
  unfold zN
  cases ec : cellAt τ i with
  | none => rw [ec] at h; exact h.elim
  | some c0 =>
  rw [ec] at h
  intro G1 H1 o x1 r1
  have r1 : σ[i]? = some (some o) := r1
  have h : FinS X.K W σ G τ H ((db τ).bind fun m τ1 => kDAug1 i f da τ1 (rdD τ1 m)) D := h
  refine nextS x1.sx h fun m τ1 G2 H2 w e2 x2 r2 h => ?_
  have x12 := x1.trans x2
  cases em : rdD τ1 m with
  | none => rw [em] at h; exact h.elim
  | some k =>
  rw [em] at h
  have h : FinS X.K W σ G τ H (kDAug2 i f da k τ1 (dAsk (dOf (cellAt τ1 i)) (some k))) D := h
  cases e3 : dAsk (dOf (cellAt τ1 i)) (some k) with
  | none => rw [e3] at h; exact h.elim
  | some od =>
  cases od with
  | none => rw [e3] at h; exact h.elim
  | some d =>
  rw [e3] at h
  obtain ⟨a', rfl, _, oo, g2, ro⟩ := dAsk_ok (l := .sl i) (m := m) (v := o) (w := w) (H0 := H) x2.sr r1 r2 (show dAsk (dOf (cellAt τ1 i)) (rdD τ1 m) = some (some d) by rw [em]; exact e3)
  cases oo with
  | none => exact ro.elim
  | some vd =>
  refine ⟨a', vd, rfl, g2, ?_⟩
  have h : FinS X.K W σ G τ H ((da τ1).bind fun n τ2 => kDAug3 i f d k τ2 (cellAt τ2 i) (rdD τ2 n)) D := h
  refine nextS x12.sx h fun n τ2 G3 H3 z e4 x3 r3 h => ?_
  have x := x12.trans x3
  cases ec2 : cellAt τ2 i with
  | none => rw [ec2] at h; exact h.elim
  | some c2 =>
  cases c2 with
  | fz _ => rw [ec2] at h; exact h.elim
  | lst _ _ _ => rw [ec2] at h; exact h.elim
  | exc _ => rw [ec2] at h; exact h.elim
  | scr _ => rw [ec2] at h; exact h.elim
  | dct bb kk tk kvs =>
  cases kk with
  | true => rw [ec2] at h; exact h.elim
  | false =>
  rw [ec2] at h
  cases en : rdD τ2 n with
  | none => rw [en] at h; exact h.elim
  | some e =>
  rw [en] at h
  have h : FinS X.K W σ G τ H (match f d e with
    | some (.sc r) => kDPut3 i bb tk τ2 (dPut tk kvs k r)
    | _ => .stuck) D := h
  cases ef : f d e with
  | none => rw [ef] at h; exact h.elim
  | some rr =>
  rw [ef] at h
  cases rr with
  | nl _ => exact h.elim
  | sc rd =>
  have h : FinS X.K W σ G τ H (kDPut3 i bb tk τ2 (dPut tk kvs k rd)) D := h
  cases ep : dPut tk kvs k rd with
  | none => rw [ep] at h; exact h.elim
  | some kvs' =>
  rw [ep] at h
  have rk : RD X.K G2 w k := by
    rcases RL.view x2.sr r2 em with r | ⟨ds, _, _, rfl, _⟩
    · exact r
    · unfold dPut at ep
      split at ep
      · split at ep <;> cases ep
      · cases ep
  refine hr G3 H3 vd z _ d e (.sc rd) x3.sr.sub (.inl (dp_mono x3.kp.1 _ _ ro)) (RL.view x3.sr r3 en) ef ?_
  refine roq_of (W := W) (Ex.refl x3.sr) fun G4 H4 v4 x4 r4 => ?_
  have x34 := x3.trans x4
  obtain ⟨v', z', q'⟩ := x4.sr.cell i _ (cellAt_some ec2)
  rw [r1] at z'; cases z'
  obtain ⟨p', ep', g', dr⟩ := q'
  cases ep'
  obtain ⟨ob, w1, w2⟩ := dr.put x4.sr.sub (.inl (dp_mono x34.kp.1 _ _ rk)) r4.1 ep
  have x5 := Ex.writeD x4.sr (cellAt_some ec2) r1 w2
  exact ⟨_, w1, h G4 σ _ ((x.trans x4).trans x5).sx⟩
end
end Z

/-! Z40: displays of dicts, x op= e of ints; equations of Z36 to Z39. -/
namespace Z
open PySem PySem.Spec PyProof.Rows L2
variable [TB : Tabs]
section
variable {X : Cx} {K : PySem.W.Frag} {W : WZ} {σ σ1 σ2 : Z.St} {G G1 G2 H H1 H2 : Hp} {τ τ1 τ2 : Fr} {v x y w u : V} {l : LR} {d e k : PyData} {a b c : Expr} {p pos apos : Pos} {da db dc : ZD} {tk : Bool} {kvs kvs' : List (PyData × PyData)} {q : Addr} {o : HO}
def pAddI : PyData → PyData → Option RO
  | .int i, .int j => some (.sc (.int (i + j)))
  | _, _ => none
theorem op2_addI : Op2 K pAddI (rI0 fun i j => .int (i + j)) := by
  intro G H x y Q d e r s vx vy h q
  unfold pAddI at h
  split at h
  · cases h; exact ⟨_, _, vx.int, vy.int, q.1 _ (.int _)⟩
  · cases h
def pDivI : PyData → PyData → Option RO
  | .int i, .int j => if 0 < j ∧ j < 1073741824 then some (.sc (.int (i / j))) else none
  | _, _ => none
theorem op2_divI : Op2 K pDivI (rI CDiv fun i j => .int (i / j)) := by
  intro G H x y Q d e r s vx vy h q
  unfold pDivI at h
  split at h
  · split at h
    · rename_i hz
      cases h; exact ⟨_, _, vx.int, vy.int, hz, q.1 _ (.int _)⟩
    · cases h
  · cases h
/-! ### {k: v, ..} -/
abbrev ZPD := Fr → Res (List (PyData × PyData))
abbrev PVR (K : PySem.W.Frag) (G : Hp) : List (V × V) → List (PyData × PyData) → Prop := Paired fun (p : V × V) (q : PyData × PyData) => ∃ c, keyD q.1 = some c ∧ p.1 = kV c ∧ RD K G p.2 q.2
def tZP (K : PySem.W.Frag) (W : WZ) (d : ZPD) (σ : Z.St) (H : Hp) (Q : List (V × V) → Hp → Prop) : Prop := ∃ G τ, SR K G τ σ H ∧ match d τ with
  | .ok kvs τ' => ∀ G' H' ps, Ex K σ G τ H G' τ' H' → PVR K G' ps kvs → Q ps H'
  | .exc n τ' => ∀ G' H', Ex K σ G τ H G' τ' H' → W n σ H'
  | .stuck => False
structure ZPs (X : Cx) (W : WZ) (pos : Pos) (keys : List (Option Expr)) (values : List Expr) (d : ZPD) : Prop where
  ex : ∃ trs, PPs X pos keys values trs ∧ ∀ σ H Q, tZP X.K W d σ H Q → tPairs trs σ H Q
def zpN : ZPD := fun τ => .ok [] τ
def kPC2 (k d : PyData) (kvs : List (PyData × PyData)) (τ : Fr) : Res (List (PyData × PyData)) := .ok ((k, d) :: kvs) τ
def kPC1 (r : ZPD) (τ : Fr) : Option PyData → LR → Res (List (PyData × PyData))
  | some k, .cl (.fz d) => if keyOk false k = true then (r τ).bind (kPC2 k d) else .stuck
  | _, _ => .stuck
def zpC (a b : ZD) (r : ZPD) : ZPD := fun τ => (a τ).bind fun l τ1 => (zF b τ1).bind fun m τ2 => kPC1 r τ2 (rdD τ2 l) m
theorem zp_nil : ZPs X W pos [] [] zpN := ⟨[], pps_nil, fun σ H Q h => by obtain ⟨G, τ, s, h⟩ := h; exact h G H [] (Ex.refl s) .nil⟩
theorem zp_cons {ks : List (Option Expr)} {vs : List Expr} {dr : ZPD} (ha : ZE X W a da) (hb : ZE X W b db) (hr : ZPs X W pos ks vs dr) : ZPs X W pos (some a :: ks) (b :: vs) (zpC da db dr) := by
  obtain ⟨trs, h1, h2⟩ := hr.ex
  refine ⟨_ :: trs, pps_cons ha.pe (ze_dat hb).pe h1, fun σ H Q h => ?_⟩
  obtain ⟨G, τ, s, h⟩ := h
  refine ⟨G, τ, s, ?_⟩
  unfold zpC at h
  cases e : da τ with
  | stuck => rw [e] at h; exact h
  | exc n τ1 => rw [e] at h; exact h
  | ok l τ1 =>
    rw [e] at h
    dsimp only [Res.bind] at h
    intro G1 H1 v x1 r1
    refine ⟨G1, τ1, x1.sr, ?_⟩
    have h : (match (zF db τ1).bind fun m τ2 => kPC1 dr τ2 (rdD τ2 l) m with
      | .ok kvs τ' => ∀ G' H' ps, Ex X.K σ G τ H G' τ' H' → PVR X.K G' ps kvs → Q ps H'
      | .exc n τ' => ∀ G' H', Ex X.K σ G τ H G' τ' H' → W n σ H'
      | .stuck => False) := h
    cases e2 : zF db τ1 with
    | stuck => rw [e2] at h; exact h
    | exc n τ2 => rw [e2] at h; exact fun G2 H2 y => h G2 H2 (x1.trans y)
    | ok m τ2 =>
      rw [e2] at h
      intro G2 H2 u x2 r2
      have x := x1.trans x2
      have r1' := r1.keep s x1 x2
      have h : (match kPC1 dr τ2 (rdD τ2 l) m with
        | .ok kvs τ' => ∀ G' H' ps, Ex X.K σ G τ H G' τ' H' → PVR X.K G' ps kvs → Q ps H'
        | .exc n τ' => ∀ G' H', Ex X.K σ G τ H G' τ' H' → W n σ H'
        | .stuck => False) := h
      cases ek : rdD τ2 l with
      | none => rw [ek] at h; exact h.elim
      | some k =>
        rw [ek] at h
        cases m with
        | sl _ => exact h.elim
        | cl cc =>
        cases cc with
        | fz d =>
          have h : (match (if keyOk false k = true then (dr τ2).bind (kPC2 k d) else .stuck) with
            | .ok kvs τ' => ∀ G' H' ps, Ex X.K σ G τ H G' τ' H' → PVR X.K G' ps kvs → Q ps H'
            | .exc n τ' => ∀ G' H', Ex X.K σ G τ H G' τ' H' → W n σ H'
            | .stuck => False) := h
          by_cases hk : keyOk false k = true
          · rw [if_pos hk] at h
            refine h2 σ H2 _ ⟨G2, τ2, x.sr, ?_⟩
            have vk : ∃ c, keyD k = some c ∧ v = kV c := by
              unfold keyOk at hk
              rw [if_neg Bool.false_ne_true] at hk
              obtain ⟨c, e⟩ := Option.isSome_iff_exists.mp hk
              exact ⟨c, e, keyV (RL.view x.sr r1' ek) e⟩
            obtain ⟨c, c1, c2⟩ := vk
            cases e3 : dr τ2 with
            | stuck => rw [e3] at h; exact h
            | exc n τ3 => rw [e3] at h; exact fun G3 H3 y => h G3 H3 (x.trans y)
            | ok kvs τ3 =>
              rw [e3] at h
              exact fun G3 H3 ps y pr => h G3 H3 ((v, u) :: ps) (x.trans y) (.cons ⟨c, c1, c2, dp_mono y.kp.1 _ _ r2.1⟩ pr)
          · rw [if_neg hk] at h; exact h.elim
        | _ => exact h.elim
/-- an object that no name holds is overwritten -/
theorem Ex.over (s : SR K G τ σ H) (x : Ex K σ G τ H G1 τ1 H1) (hp : H q = none) (gp : G1 q = none) {u : HO} (h1 : H1 q = some u) (nt : NT u) (o : HO) : Ex K σ G τ H G1 τ1 (upd H1 q o) := by
  refine ⟨⟨x.sr.len, fun a z h => ?_, fun i c h => ?_, x.sr.sep, fun P hP => ?_⟩, ⟨x.kp.1, fun a z h n1 n2 => ?_, fun a h => ?_⟩, x.mode⟩
  · have : a ≠ q := fun e => by rw [e, gp] at h; cases h
    rw [upd_ne this]; exact x.sr.sub a z h
  · obtain ⟨v, e, r⟩ := x.sr.cell i c h
    refine ⟨v, e, r.mono Sub.refl fun a z ev oc _ ha => ⟨?_, GS.rfl⟩⟩
    rw [upd_ne]; exact ha
    rintro rfl
    obtain ⟨c0, z1, z2, _, _⟩ := x.mode i c h oc
    obtain ⟨p, w, w1, w2, w3⟩ := s.objAt z1 z2
    rw [e, ev] at w1; cases w1
    rw [hp] at w3; cases w3
  · obtain ⟨t1, t2⟩ := x.sr.tab P hP
    have ne := t2.ne h1 nt
    obtain ⟨ps, t2, t3⟩ := t2
    exact ⟨t1, ps, by rw [upd_ne ne]; exact t2, t3⟩
  · obtain ⟨w1, w2⟩ := x.kp.2.1 a z h n1 n2
    have : a ≠ q := fun e => by rw [e, hp] at h; cases h
    exact ⟨by rw [upd_ne this]; exact w1, w2⟩
  · by_cases ea : a = q
    · rw [ea]; exact hp
    · rw [upd_ne ea] at h; exact x.kp.2.2 a h
theorem pvr_kvs : ∀ {ps : List (V × V)} {kvs : List (PyData × PyData)}, PVR K G ps kvs → ∃ ks : List (Key × V), ps = ks.map (fun kv => (kV kv.1, kv.2)) ∧ Paired (DR K G keyD) kvs ks
  | _, _, .nil => ⟨[], rfl, .nil⟩
  | _, _, .cons (a := p) (b := q) h t => by
    obtain ⟨ks, h1, h2⟩ := pvr_kvs t
    obtain ⟨c, c1, c2, c3⟩ := h
    obtain ⟨p1, p2⟩ := p
    have c2 : p1 = kV c := c2
    subst c2
    exact ⟨(c, p2) :: ks, by rw [h1]; rfl, .cons ⟨c1, c3⟩ h2⟩
def kDisp (τ : Fr) : Option (List (PyData × PyData)) → Res LR
  | some r => .ok (.cl (.dct false false false r)) τ
  | none => .stuck
def zDisp (d : ZPD) : ZD := fun τ => (d τ).bind fun kvs τ1 => if kvs.length ≤ 15 then kDisp τ1 (dMerge false [] kvs) else .stuck
theorem ze_disp {keys : List (Option Expr)} {values : List Expr} {dr : ZPD} (h : ZPs X W pos keys values dr) (hall : keys.all (·.isSome) = true := by rfl) (hl : keys.length = values.length := by rfl) (h0 : keys ≠ [] := by exact fun h => nomatch h)
    (h15 : keys.length ≤ 15 := by decide) : ZE X W (.Dict keys values pos) (zDisp dr) := by
  obtain ⟨trs, t1, t2⟩ := h.ex
  refine ⟨⟨fun pins s σ H Q I h => (pe_disp t1 hall hl h0 h15).run pins s σ H Q I ?_⟩⟩
  obtain ⟨G, τ, s, h⟩ := tZ_to h
  intro p hp
  refine t2 σ _ _ ⟨G, τ, s.laid hp, ?_⟩
  have nown : ¬ Ownd τ σ p := fun z => by
    obtain ⟨i, c, z1, z2, z3, z4⟩ := z
    obtain ⟨a, w, w1, w2, w3⟩ := s.objAt z1 z2
    rw [z4] at w1; cases w1
    rw [hp] at w3; cases w3
  unfold zDisp at h
  cases e : dr τ with
  | stuck => rw [e] at h; exact h
  | exc n τ1 => rw [e] at h; exact fun G1 H1 y => h G1 H1 ((Ex.laid s hp).trans y)
  | ok kvs τ1 =>
    rw [e] at h
    intro G1 H1 ps x1 pr
    have h : Fin X.K W σ G τ H (if kvs.length ≤ 15 then kDisp τ1 (dMerge false [] kvs) else .stuck) Q := h
    by_cases hz : kvs.length ≤ 15
    · rw [if_pos hz] at h
      cases e2 : dMerge false [] kvs with
      | none => rw [e2] at h; exact h.elim
      | some r =>
        rw [e2] at h
        obtain ⟨w1, w2⟩ := x1.kp.2.1 p _ upd_same nt_dK nown
        have gp : G1 p = none := (w2.ne fun _ z => by cases z).trans (sub_none s.sub hp)
        obtain ⟨ks, k1, k2⟩ := pvr_kvs pr
        refine ⟨w1, ks, k1, by rw [← Paired.length k2]; exact hz, ?_⟩
        have dO : DctO X.K G1 false r (.dK (mergeK [] ks)) := ⟨_, rfl, merge_k k2 .nil e2⟩
        have x := Ex.over s ((Ex.laid s hp).trans x1) hp gp w1 nt_dK (.dK (mergeK [] ks))
        exact h G1 _ _ x ⟨⟨p, rfl, gp, dctR_of dO upd_same⟩, fun _ => ⟨rfl, rfl, fun a e => by cases e; exact hp⟩⟩
    · rw [if_neg hz] at h; exact h.elim
end
end Z

/-! Z41: equations of the dicts; dicts of alike keys and values. -/
namespace Z
open PySem PySem.Spec PyProof.Rows L2
theorem rm1 {k : Nat} {A : Around} (r : Room k A) : A.units + 1 < cLine := by have := room64 r; omega
theorem rm8 {k : Nat} {A : Around} (r : Room k A) : A.units + 8 < cLine := by have := room64 r; omega
section
variable {τ : Fr} {i : Nat} {f : PyData → PyData → Option RO} {a b c ix : ZD} {r : ZPD} {d e k : PyData} {ds es : List PyData} {l m : LR} {tk neg b1 b2 : Bool} {kvs kvs' : List (PyData × PyData)} {od : Option PyData}
@[simp] theorem zDNew_ev : zDNew tk τ = .ok (.cl (.dct false false tk [])) τ := Eq.trans rfl rfl
@[simp] theorem dOf_d : dOf (some (.dct b1 b2 tk kvs)) = some (tk, kvs) := Eq.trans rfl rfl
@[simp] theorem dAsk_d : dAsk (some (tk, kvs)) (some k) = dLook tk kvs k := Eq.trans rfl rfl
def kDGb (l m : LR) (τ : Fr) : Res LR := kDGet (dAsk (dOf (rdL τ l)) (rdD τ m)) τ
def kDGa (b : ZD) (l : LR) (τ : Fr) : Res LR := (b τ).bind (kDGb l)
@[simp] theorem zDGet_ev : zDGet a b τ = (a τ).bind (kDGa b) := Eq.trans rfl rfl
@[simp] theorem kDGa_ev : kDGa b l τ = (b τ).bind (kDGb l) := Eq.trans rfl rfl
@[simp] theorem kDGb_ev : kDGb l m τ = kDGet (dAsk (dOf (rdL τ l)) (rdD τ m)) τ := Eq.trans rfl rfl
@[simp] theorem kDGet_ev : kDGet (some (some d)) τ = .ok (.cl (.fz d)) τ := Eq.trans rfl rfl
def kDIb (neg : Bool) (l m : LR) (τ : Fr) : Res LR := kDIn neg (dAsk (dOf (rdL τ m)) (rdD τ l)) τ
def kDIa (neg : Bool) (b : ZD) (l : LR) (τ : Fr) : Res LR := (b τ).bind (kDIb neg l)
@[simp] theorem zDIn_ev : zDIn neg a b τ = (a τ).bind (kDIa neg b) := Eq.trans rfl rfl
@[simp] theorem kDIa_ev : kDIa neg b l τ = (b τ).bind (kDIb neg l) := Eq.trans rfl rfl
@[simp] theorem kDIb_ev : kDIb neg l m τ = kDIn neg (dAsk (dOf (rdL τ m)) (rdD τ l)) τ := Eq.trans rfl rfl
@[simp] theorem kDIn_ev : kDIn neg (some od) τ = .ok (.cl (.fz (.bool (od.isSome != neg)))) τ := Eq.trans rfl rfl
def kG1b (l m : LR) (τ : Fr) : Res LR := kDG1 τ (dAsk (dOf (rdL τ l)) (rdD τ m))
def kG1a (b : ZD) (l : LR) (τ : Fr) : Res LR := kOfD ((b τ).bind (kG1b l)) (dOf (rdL τ l))
@[simp] theorem zDGet1_ev : zDGet1 a b τ = (a τ).bind (kG1a b) := Eq.trans rfl rfl
@[simp] theorem kG1a_ev : kG1a b l τ = kOfD ((b τ).bind (kG1b l)) (dOf (rdL τ l)) := Eq.trans rfl rfl
@[simp] theorem kG1b_ev : kG1b l m τ = kDG1 τ (dAsk (dOf (rdL τ l)) (rdD τ m)) := Eq.trans rfl rfl
@[simp] theorem kOfD_ev {r : Res LR} {t : Bool × List (PyData × PyData)} : kOfD r (some t) = r := Eq.trans rfl rfl
@[simp] theorem kDG1_ev : kDG1 τ (some od) = .ok (.cl (.fz (od.getD .none))) τ := by cases od <;> rfl
def kG2c (l m n : LR) (τ : Fr) : Res LR := kDG2 τ (dAsk (dOf (rdL τ l)) (rdD τ m)) n
def kG2b (c : ZD) (l m : LR) (τ : Fr) : Res LR := (zF c τ).bind (kG2c l m)
def kG2a (b c : ZD) (l : LR) (τ : Fr) : Res LR := kOfD ((b τ).bind (kG2b c l)) (dOf (rdL τ l))
@[simp] theorem zDGet2_ev : zDGet2 a b c τ = (a τ).bind (kG2a b c) := Eq.trans rfl rfl
@[simp] theorem kG2a_ev : kG2a b c l τ = kOfD ((b τ).bind (kG2b c l)) (dOf (rdL τ l)) := Eq.trans rfl rfl
@[simp] theorem kG2b_ev : kG2b c l m τ = (zF c τ).bind (kG2c l m) := Eq.trans rfl rfl
@[simp] theorem kG2c_ev {n : LR} : kG2c l m n τ = kDG2 τ (dAsk (dOf (rdL τ l)) (rdD τ m)) n := Eq.trans rfl rfl
@[simp] theorem kDG2_ev : kDG2 τ (some od) (.cl (.fz e)) = .ok (.cl (.fz (od.getD e))) τ := by cases od <;> rfl
@[simp] theorem zDPut_ev : zDPut i ix a τ = (zF a τ).bind (kDPut i ix) := Eq.trans rfl rfl
@[simp] theorem kDPut_ev : kDPut i ix (.cl (.fz d)) τ = kDPut1 i ix d τ (cellAt τ i) := Eq.trans rfl rfl
def kDPb (i : Nat) (d : PyData) (m : LR) (τ : Fr) : Res Fl := kDPut2 i d τ (cellAt τ i) (rdD τ m)
@[simp] theorem kDPut1_ev {c : Cell} : kDPut1 i ix d τ (some c) = (ix τ).bind (kDPb i d) := Eq.trans rfl rfl
@[simp] theorem kDPb_ev : kDPb i d m τ = kDPut2 i d τ (cellAt τ i) (rdD τ m) := Eq.trans rfl rfl
@[simp] theorem kDPut2_ev : kDPut2 i d τ (some (.dct b1 false tk kvs)) (some k) = kDPut3 i b1 tk τ (dPut tk kvs k d) := Eq.trans rfl rfl
@[simp] theorem kDPut3_ev : kDPut3 i b1 tk τ (some kvs') = .ok .nx (τ.set i (some (.dct b1 false tk kvs'))) := Eq.trans rfl rfl
def kDAa (i : Nat) (f : PyData → PyData → Option RO) (a : ZD) (m : LR) (τ : Fr) : Res Fl := kDAug1 i f a τ (rdD τ m)
def kDA0 (i : Nat) (f : PyData → PyData → Option RO) (ix a : ZD) (τ : Fr) : Option Cell → Res Fl
  | some _ => (ix τ).bind (kDAa i f a)
  | none => .stuck
@[simp] theorem zDAug_ev : zDAug i f ix a τ = kDA0 i f ix a τ (cellAt τ i) := by
  unfold zDAug kDA0
  cases cellAt τ i <;> rfl
@[simp] theorem kDA0_ev {c : Cell} : kDA0 i f ix a τ (some c) = (ix τ).bind (kDAa i f a) := Eq.trans rfl rfl
@[simp] theorem kDAa_ev : kDAa i f a m τ = kDAug1 i f a τ (rdD τ m) := Eq.trans rfl rfl
@[simp] theorem kDAug1_ev : kDAug1 i f a τ (some k) = kDAug2 i f a k τ (dAsk (dOf (cellAt τ i)) (some k)) := Eq.trans rfl rfl
def kDAb (i : Nat) (f : PyData → PyData → Option RO) (d k : PyData) (n : LR) (τ : Fr) : Res Fl := kDAug3 i f d k τ (cellAt τ i) (rdD τ n)
@[simp] theorem kDAug2_ev : kDAug2 i f a k τ (some (some d)) = (a τ).bind (kDAb i f d k) := Eq.trans rfl rfl
@[simp] theorem kDAb_ev : kDAb i f d k l τ = kDAug3 i f d k τ (cellAt τ i) (rdD τ l) := Eq.trans rfl rfl
def kDA4 (i : Nat) (b tk : Bool) (kvs : List (PyData × PyData)) (k : PyData) (τ : Fr) : Option RO → Res Fl
  | some (.sc r) => kDPut3 i b tk τ (dPut tk kvs k r)
  | _ => .stuck
@[simp] theorem kDAug3_ev : kDAug3 i f d k τ (some (.dct b1 false tk kvs)) (some e) = kDA4 i b1 tk kvs k τ (f d e) := by
  show (match f d e with
    | some (.sc r) => kDPut3 i b1 tk τ (dPut tk kvs k r)
    | _ => (Res.stuck : Res Fl)) = _
  unfold kDA4
  cases f d e with
  | none => rfl
  | some r => cases r <;> rfl
@[simp] theorem kDA4_ev : kDA4 i b1 tk kvs k τ (some (.sc d)) = kDPut3 i b1 tk τ (dPut tk kvs k d) := Eq.trans rfl rfl
def kDOfa (tk : Bool) (l : LR) (τ : Fr) : Res LR := kDOf tk τ (rdD τ l)
@[simp] theorem zDOf_ev : zDOf tk a τ = (a τ).bind (kDOfa tk) := Eq.trans rfl rfl
@[simp] theorem kDOfa_ev : kDOfa tk l τ = kDOf tk τ (rdD τ l) := Eq.trans rfl rfl
def kDOfb (tk : Bool) (τ : Fr) : Option (List (PyData × PyData)) → Res LR
  | some kvs => .ok (.cl (.dct false false tk kvs)) τ
  | none => .stuck
@[simp] theorem kDOf_ev : kDOf tk τ (some (.list ds)) = kDOfb tk τ ((pairsD tk ds).bind (dMerge tk [])) := by
  show (match (pairsD tk ds).bind (dMerge tk []) with
    | some kvs => (Res.ok (LR.cl (.dct false false tk kvs)) τ : Res LR)
    | none => .stuck) = _
  unfold kDOfb
  cases (pairsD tk ds).bind (dMerge tk []) <;> rfl
@[simp] theorem kDOfb_ev : kDOfb tk τ (some kvs) = .ok (.cl (.dct false false tk kvs)) τ := Eq.trans rfl rfl
def kDCa (l : LR) (τ : Fr) : Res LR := kDCopy τ (dOf (rdL τ l))
@[simp] theorem zDCopy_ev : zDCopy a τ = (a τ).bind kDCa := Eq.trans rfl rfl
@[simp] theorem kDCa_ev : kDCa l τ = kDCopy τ (dOf (rdL τ l)) := Eq.trans rfl rfl
@[simp] theorem kDCopy_ev : kDCopy τ (some (false, kvs)) = .ok (.cl (.dct false false false kvs)) τ := Eq.trans rfl rfl
@[simp] theorem zpN_ev : zpN τ = .ok [] τ := Eq.trans rfl rfl
def kPCb (r : ZPD) (l m : LR) (τ : Fr) : Res (List (PyData × PyData)) := kPC1 r τ (rdD τ l) m
def kPCa (b : ZD) (r : ZPD) (l : LR) (τ : Fr) : Res (List (PyData × PyData)) := (zF b τ).bind (kPCb r l)
@[simp] theorem zpC_ev : zpC a b r τ = (a τ).bind (kPCa b r) := Eq.trans rfl rfl
@[simp] theorem kPCa_ev : kPCa b r l τ = (zF b τ).bind (kPCb r l) := Eq.trans rfl rfl
@[simp] theorem kPCb_ev : kPCb r l m τ = kPC1 r τ (rdD τ l) m := Eq.trans rfl rfl
@[simp] theorem kPC1_i {n : Int} : kPC1 r τ (some (.int n)) (.cl (.fz d)) = (r τ).bind (kPC2 (.int n) d) := Eq.trans rfl rfl
@[simp] theorem kPC1_s {n : Str} : kPC1 r τ (some (.str n)) (.cl (.fz d)) = (r τ).bind (kPC2 (.str n) d) := Eq.trans rfl rfl
@[simp] theorem kPC2_ev : kPC2 k d kvs τ = .ok ((k, d) :: kvs) τ := Eq.trans rfl rfl
def kDisp0 (kvs : List (PyData × PyData)) (τ : Fr) : Res LR := if kvs.length ≤ 15 then kDisp τ (dMerge false [] kvs) else .stuck
@[simp] theorem zDisp_ev : zDisp r τ = (r τ).bind kDisp0 := Eq.trans rfl rfl
@[simp] theorem kDisp0_ev : kDisp0 kvs τ = if kvs.length ≤ 15 then kDisp τ (dMerge false [] kvs) else .stuck := Eq.trans rfl rfl
@[simp] theorem kDisp_ev : kDisp τ (some kvs) = .ok (.cl (.dct false false false kvs)) τ := Eq.trans rfl rfl
@[simp] theorem pAddI_ev {x y : Int} : pAddI (.int x) (.int y) = some (.sc (.int (x + y))) := Eq.trans rfl rfl
@[simp] theorem pDivI_ev {x y : Int} : pDivI (.int x) (.int y) = if 0 < y ∧ y < 1073741824 then some (.sc (.int (x / y))) else none := Eq.trans rfl rfl
end
/-! ### alike keys -/
section
variable {κ : Type} [DecidableEq κ] {α : Type}
def mlook (m : List (κ × α)) (k : κ) : Option α := (m.find? fun p => decide (p.1 = k)).map (·.2)
def mput (m : List (κ × α)) (k : κ) (v : α) : List (κ × α) := if (m.any fun p => decide (p.1 = k)) = true then m.map (fun p => if p.1 = k then (p.1, v) else p) else m ++ [(k, v)]
theorem mlook_nil {k : κ} : mlook ([] : List (κ × α)) k = none := rfl
theorem mlook_cons {p : κ × α} {m : List (κ × α)} {k : κ} : mlook (p :: m) k = if p.1 = k then some p.2 else mlook m k := by
  unfold mlook
  rw [List.find?_cons]
  by_cases h : p.1 = k
  · simp [h]
  · simp [h]
theorem mlook_any {m : List (κ × α)} {k : κ} : (m.any fun p => decide (p.1 = k)) = (mlook m k).isSome := by
  induction m with
  | nil => rfl
  | cons p m ih =>
    rw [List.any_cons, mlook_cons, ih]
    by_cases h : p.1 = k <;> simp [h]
theorem mlook_append {m n : List (κ × α)} {k : κ} : mlook (m ++ n) k = (mlook m k).or (mlook n k) := by
  induction m with
  | nil => simp [mlook_nil]
  | cons p m ih =>
    rw [List.cons_append, mlook_cons, mlook_cons, ih]
    by_cases h : p.1 = k <;> simp [h]
theorem mlook_map {m : List (κ × α)} {k j : κ} {v : α} : mlook (m.map fun p => if p.1 = k then (p.1, v) else p) j = if j = k then (mlook m k).map fun _ => v else mlook m j := by
  induction m with
  | nil => simp [mlook_nil]
  | cons p m ih =>
    rw [List.map_cons, mlook_cons, mlook_cons, mlook_cons, ih]
    by_cases h : p.1 = k
    · by_cases h2 : j = k
      · subst h2; simp [h]
      · simp [h, h2, Ne.symm h2]
    · by_cases h2 : j = k
      · subst h2; simp [h]
      · simp [h, h2]
theorem mlook_put {m : List (κ × α)} {k j : κ} {v : α} : mlook (mput m k v) j = if j = k then some v else mlook m j := by
  unfold mput
  rw [mlook_any]
  cases h : mlook m k with
  | none =>
    rw [if_neg (by simp), mlook_append, mlook_cons, mlook_nil]
    by_cases h2 : j = k
    · subst h2; simp [h]
    · simp [h2, Ne.symm h2]
  | some v0 =>
    rw [if_pos (by simp), mlook_map, h]
    by_cases h2 : j = k <;> simp [h2]
theorem mput_len {m : List (κ × α)} {k : κ} {v : α} : (mput m k v).length ≤ m.length + 1 := by
  unfold mput
  split <;> simp
/-- keys that the model's dicts take -/
class KeyT {κ : Type} (enc : κ → PyData) (tk : Bool) : Prop where
  ok : if tk = true then ∃ f : κ → List Key, (∀ k, tkeyD (enc k) = some (f k)) ∧ ∀ k j, f k = f j → k = j else ∃ f : κ → Key, (∀ k, keyD (enc k) = some (f k)) ∧ ∀ k j, f k = f j → k = j
/-- a dict's pairs, told by a table -/
def dEnc (enc : κ → PyData) (ev : α → PyData) (m : List (κ × α)) : List (PyData × PyData) := m.map fun p => (enc p.1, ev p.2)
theorem dEnc_nil (enc : κ → PyData) (ev : α → PyData) : dEnc enc ev [] = [] := rfl
@[simp] theorem dEnc_len {enc : κ → PyData} {ev : α → PyData} {m : List (κ × α)} : (dEnc enc ev m).length = m.length := by simp [dEnc]
theorem lookF_enc {γ : Type} [DecidableEq γ] {g : PyData → Option γ} {f : κ → γ} {enc : κ → PyData} {ev : α → PyData} (h : ∀ k, g (enc k) = some (f k)) (hi : ∀ k j, f k = f j → k = j) (m : List (κ × α)) (k : κ) :
    dLookF g (dEnc enc ev m) (f k) = (mlook m k).map ev := by
  unfold dLookF dEnc mlook
  induction m with
  | nil => rfl
  | cons p m ih =>
    rw [List.map_cons, List.find?_cons, List.find?_cons]
    by_cases e : p.1 = k
    · have t1 : decide (g (enc p.1) = some (f k)) = true := by rw [e, h]; simp
      have t2 : decide (p.1 = k) = true := by simp [e]
      simp only [t1, t2]
      rfl
    · have h1 : decide (g (enc p.1) = some (f k)) = false := by
        rw [h]; simp only [decide_eq_false_iff_not]
        intro z; exact e (hi _ _ (Option.some.inj z))
      simp only [h1, e, decide_false]
      exact ih
theorem putF_enc {γ : Type} [DecidableEq γ] {g : PyData → Option γ} {f : κ → γ} {enc : κ → PyData} {ev : α → PyData} (h : ∀ k, g (enc k) = some (f k)) (hi : ∀ k j, f k = f j → k = j) (m : List (κ × α)) (k : κ) (v : α) :
    dPutF g (dEnc enc ev m) (f k) (enc k) (ev v) = dEnc enc ev (mput m k v) := by
  have q : ∀ p : κ × α, (g (enc p.1) = some (f k)) ↔ p.1 = k := fun p => by
    rw [h]
    exact ⟨fun z => hi _ _ (Option.some.inj z), fun z => by rw [z]⟩
  unfold dPutF mput dEnc
  rw [List.any_map]
  have e : ((fun p : PyData × PyData => decide (g p.1 = some (f k))) ∘ fun p : κ × α => (enc p.1, ev p.2)) = fun p => decide (p.1 = k) := by
    funext p
    simp only [Function.comp, q p]
  rw [e]
  split
  · rw [List.map_map, List.map_map]
    refine List.map_congr_left fun p _ => ?_
    simp only [Function.comp, q p]
    split <;> rfl
  · rw [List.map_append]; rfl
theorem dLook_ty {enc : κ → PyData} {ev : α → PyData} {tk : Bool} [KeyT enc tk] (m : List (κ × α)) (k : κ) : dLook tk (dEnc enc ev m) (enc k) = some ((mlook m k).map ev) := by
  have h := KeyT.ok (enc := enc) (tk := tk)
  unfold dLook
  split at h
  · rename_i t
    obtain ⟨f, h1, h2⟩ := h
    rw [if_pos t, h1]
    show some _ = _
    rw [lookF_enc h1 h2]
  · rename_i t
    obtain ⟨f, h1, h2⟩ := h
    rw [if_neg t, h1]
    show some _ = _
    rw [lookF_enc h1 h2]
theorem dPut_ty {enc : κ → PyData} {ev : α → PyData} {tk : Bool} [KeyT enc tk] (m : List (κ × α)) (k : κ) (v : α) (hz : m.length < sizeLine) : dPut tk (dEnc enc ev m) (enc k) (ev v) = some (dEnc enc ev (mput m k v)) := by
  have h := KeyT.ok (enc := enc) (tk := tk)
  unfold dPut
  rw [dEnc_len, if_pos hz]
  split at h
  · rename_i t
    obtain ⟨f, h1, h2⟩ := h
    rw [if_pos t, h1]
    exact congrArg some (putF_enc h1 h2 m k v)
  · rename_i t
    obtain ⟨f, h1, h2⟩ := h
    rw [if_neg t, h1]
    exact congrArg some (putF_enc h1 h2 m k v)
theorem keyOk_ty {enc : κ → PyData} {tk : Bool} [KeyT enc tk] (k : κ) : keyOk tk (enc k) = true := by
  have h := KeyT.ok (enc := enc) (tk := tk)
  unfold keyOk
  split at h
  · rename_i t
    obtain ⟨f, h1, h2⟩ := h
    rw [if_pos t, h1]; rfl
  · rename_i t
    obtain ⟨f, h1, h2⟩ := h
    rw [if_neg t, h1]; rfl
instance keyInt : KeyT (fun i : Int => PyData.int i) false := ⟨⟨fun i => .inl i, fun _ => rfl, fun k j h => by injection h⟩⟩
instance keyNat : KeyT (fun i : Nat => PyData.int i) false := ⟨⟨fun i => .inl i, fun _ => rfl, fun k j h => by injection h with h; omega⟩⟩
theorem keysD_ints : ∀ l : List Int, keysD (l.map .int) = some (l.map .inl)
  | [] => rfl
  | x :: l => by
    show (match keyD (.int x), keysD (l.map .int) with | some k, some ks => some (k :: ks) | _, _ => none) = _
    rw [keysD_ints l]; rfl
theorem keysD_nats : ∀ l : List Nat, keysD (l.map fun n : Nat => PyData.int (n : Int)) = some (l.map fun n : Nat => .inl (n : Int))
  | [] => rfl
  | x :: l => by
    show (match keyD (.int x), keysD (l.map fun n : Nat => PyData.int (n : Int)) with | some k, some ks => some (k :: ks) | _, _ => none) = _
    rw [keysD_nats l]; rfl
theorem inl_inj : ∀ {l r : List Int}, (l.map fun i : Int => (Sum.inl i : Key)) = (r.map fun i : Int => (Sum.inl i : Key)) → l = r
  | [], [], _ => rfl
  | [], _ :: _, h => by simp at h
  | _ :: _, [], h => by simp at h
  | x :: l, y :: r, h => by
    rw [List.map_cons, List.map_cons] at h
    injection h with h1 h2
    injection h1 with h1
    rw [h1, inl_inj h2]
theorem inl_injN : ∀ {l r : List Nat}, (l.map fun i : Nat => (Sum.inl (i : Int) : Key)) = r.map (fun i : Nat => (Sum.inl (i : Int) : Key)) → l = r
  | [], [], _ => rfl
  | [], _ :: _, h => by simp at h
  | _ :: _, [], h => by simp at h
  | x :: l, y :: r, h => by
    rw [List.map_cons, List.map_cons] at h
    injection h with h1 h2
    injection h1 with h1
    rw [show x = y by omega, inl_injN h2]
instance keyInts : KeyT (fun l : List Int => PyData.tuple (l.map .int)) true := ⟨⟨fun l => l.map .inl, keysD_ints, fun _ _ h => inl_inj h⟩⟩
instance keyNats : KeyT (fun l : List Nat => PyData.tuple (l.map fun n : Nat => PyData.int (n : Int))) true := ⟨⟨fun l => l.map fun n : Nat => .inl (n : Int), keysD_nats, fun _ _ h => inl_injN h⟩⟩
instance keyInt2 : KeyT (fun p : Int × Int => PyData.tuple [.int p.1, .int p.2]) true := ⟨⟨fun p => [.inl p.1, .inl p.2], fun _ => rfl, fun k j h => by
  injection h with h1 h2
  injection h2 with h2 _
  injection h1 with h1
  injection h2 with h2
  exact Prod.ext h1 h2⟩⟩
instance keyNat2 : KeyT (fun p : Nat × Nat => PyData.tuple [.int p.1, .int p.2]) true := ⟨⟨fun p => [.inl p.1, .inl p.2], fun _ => rfl, fun k j h => by
  injection h with h1 h2
  injection h2 with h2 _
  injection h1 with h1
  injection h2 with h2
  exact Prod.ext (by omega) (by omega)⟩⟩
end
end Z

/-! Z42: sum of lists and tuples; sorting and filtering. -/
namespace Z
open PySem PySem.Spec PyProof.Rows L2
theorem sum_rawT {prog : Program} {w : World} {A : Around} {E : Value → Shared → Prop} {s : Shared} {l : Addr} {its : List Value} {ns : List Int} {Q : Value → Shared → Prop} (hh : A.handled = none) (hl : s.heap.IsTuple l its.toArray) (hi : IntsAre its ns)
    (h : ∀ h' tk t', (∀ b o, s.heap.get? b = some o → h'.get? b = some o) → Q (.int ns.sum t') { s with heap := h', toks := tk }) : wpAny (model prog w) A (call (.builtin "sum") [.ref l]) Q E s := by
  obtain ⟨xs, e⟩ := hi.allInts.items
  have hn : numsOf (intItems xs).toList = ns := by rw [← e]; exact hi.numsOf
  rw [nums_intItems] at hn
  rw [e] at hl
  refine PySem.W.ktm_sumG hh hl fun h' tk t' hk => ?_
  have := h h' tk t' hk
  rw [preSum_eq, List.take_of_length_le (by simp), hn]; exact this
def rSumA (K : PySem.W.Frag) : List V → Hp → VK → Prop := fun vs H Q => ∃ (a : Addr) (ns : List Int), vs = [V.ref a] ∧ (SqL K H a (ns.map V.int) ∨ SqT K H a (ns.map V.int)) ∧ Q (.int ns.sum) H
theorem cr_sumA {X : Cx} (hc : X.calm = true) : CallR X (.builtin "sum") (rSumA X.K) := by
  intro pins s σ H vs us Q I r h
  obtain ⟨a, ns, rfl, hs | hs, q⟩ := h
  · exact cr_sum hc pins s σ H _ us Q I r ⟨a, ns, rfl, hs, q⟩
  · obtain ⟨its, rv, hl, _⟩ := I.tuple hs
    rw [Vals.ref1 r]
    have hl : s.heap.IsTuple a its.toArray := hl
    exact sum_rawT (I.ok.hd hc) hl rv.ints fun h' tk t' hk => ⟨.int _, H, I.kept hk, ⟨_, rfl⟩, q⟩
section
variable [TB : Tabs]
variable {K : PySem.W.Frag}
def pSumA : PyData → Option RO
  | .list ds => (intsD ds).map fun ns => .sc (.int ns.sum)
  | .tuple ds => (intsD ds).map fun ns => .sc (.int ns.sum)
  | _ => none
theorem op1_sumA : Op1 K pSumA fun x H Q => rSumA K [x] H Q := by
  intro G H x Q d r s vx h q
  unfold pSumA at h
  split at h
  · obtain ⟨ns, e1, e2⟩ := Option.map_eq_some_iff.mp h
    cases e2
    obtain ⟨a, vs, rfl, h1, q1⟩ := vx.lst s
    have ev := intsD_rds q1 e1
    subst ev
    exact ⟨a, ns, rfl, .inl (SqL.of h1), q.1 _ (.int _)⟩
  · obtain ⟨ns, e1, e2⟩ := Option.map_eq_some_iff.mp h
    cases e2
    obtain ⟨a, vs, rfl, h1, q1⟩ := vx.tup s
    have ev := intsD_rds q1 e1
    subst ev
    exact ⟨a, ns, rfl, .inr h1, q.1 _ (.int _)⟩
  · cases h
end
theorem intsD_int (ns : List Int) : intsD (ns.map .int) = some ns := by
  induction ns with
  | nil => rfl
  | cons n ns ih => simp [intsD, ih]
theorem intsD_nat (ns : List Nat) : intsD (ns.map fun k : Nat => PyData.int (k : Nat)) = some (ns.map fun k : Nat => (k : Int)) := by
  induction ns with
  | nil => rfl
  | cons n ns ih => simp [intsD, ih]
theorem sum_nat (ns : List Nat) : (ns.map fun k : Nat => (k : Int)).sum = ((ns.sum : Nat) : Int) := by
  induction ns with
  | nil => rfl
  | cons n ns ih => simp [ih]
theorem pSumA_list {ns : List Int} : pSumA (.list (ns.map .int)) = some (.sc (.int ns.sum)) := by
  show (intsD (ns.map .int)).map _ = _
  rw [intsD_int]; rfl
theorem pSumA_tup {ns : List Int} : pSumA (.tuple (ns.map .int)) = some (.sc (.int ns.sum)) := by
  show (intsD (ns.map .int)).map _ = _
  rw [intsD_int]; rfl
theorem pSumA_listN {ns : List Nat} : pSumA (.list (ns.map fun k : Nat => PyData.int (k : Nat))) = some (.sc (.int (ns.sum : Nat))) := by
  show (intsD _).map _ = _
  rw [intsD_nat, Option.map_some, sum_nat]
theorem pSumA_tupN {ns : List Nat} : pSumA (.tuple (ns.map fun k : Nat => PyData.int (k : Nat))) = some (.sc (.int (ns.sum : Nat))) := by
  show (intsD _).map _ = _
  rw [intsD_nat, Option.map_some, sum_nat]
section
open PySem.W
variable {α : Type} {le : α → α → Bool}
theorem sort_filter (h : TotalLe le) (p : α → Bool) (l : List α) : (l.mergeSort le).filter p = (l.filter p).mergeSort le := by
  refine sort_unique h ?_ fun c => ?_
  · exact (sort_pairwise h l).sublist List.filter_sublist
  · rw [List.filter_filter, List.filter_filter]
    have e : ∀ m : List α, m.filter (fun a => sameRank le c a && p a) = (m.filter (sameRank le c)).filter p := fun m => by
      rw [List.filter_filter]
      exact List.filter_congr fun a _ => Bool.and_comm _ _
    rw [e, e, sort_stable h]
theorem dataLe_tot {β : Type} (k : β → PyData) : TotalLe (dataLe false k) := sortLe_total _ _ _
/-- sorted, of alike data -/
theorem sortO_enc {enc : α → PyData} [A : AlkD enc] (xs : List α) (hs : sortableB (xs.map enc) = true) (h : A.dep ≤ 60 := by decide) : sortO (xs.map enc) = some (.nl ((xs.mergeSort (dataLe false enc)).map enc)) := sortO_ty _ (fun _ _ => rfl) xs hs h
end
end Z

/-! Z43: dicts made of alike pairs. -/
namespace Z
open PySem PySem.Spec PyProof.Rows L2
section
variable {κ : Type} [DecidableEq κ] {α : Type}
theorem pairsD_ty {enc : κ → PyData} {ev : α → PyData} {tk : Bool} [KeyT enc tk] : ∀ m : List (κ × α), pairsD tk (m.map fun p => .tuple [enc p.1, ev p.2]) = some (dEnc enc ev m)
  | [] => rfl
  | p :: m => by
    rw [List.map_cons, pairsD, if_pos (keyOk_ty p.1), pairsD_ty m]
    rfl
def mputs (acc m : List (κ × α)) : List (κ × α) := m.foldl (fun a p => mput a p.1 p.2) acc
theorem dMerge_ty {enc : κ → PyData} {ev : α → PyData} {tk : Bool} [KeyT enc tk] : ∀ (m acc : List (κ × α)), acc.length + m.length ≤ 16777216 → dMerge tk (dEnc enc ev acc) (dEnc enc ev m) = some (dEnc enc ev (mputs acc m))
  | [], acc, _ => rfl
  | p :: m, acc, h => by
    rw [List.length_cons] at h
    have h2 := mput_len (m := acc) (k := p.1) (v := p.2)
    show (dPut tk (dEnc enc ev acc) (enc p.1) (ev p.2)).bind _ = _
    rw [dPut_ty acc p.1 p.2 (by rw [sizeLine_eq]; omega), Option.bind_some]
    exact dMerge_ty m _ (by omega)
theorem mlook_puts {f : κ → α} {k : κ} : ∀ (m acc : List (κ × α)), (∀ p ∈ m, p.2 = f p.1) → mlook (mputs acc m) k = if k ∈ m.map (·.1) then some (f k) else mlook acc k
  | [], acc, _ => by simp [mputs]
  | p :: m, acc, h => by
    have ih := mlook_puts (f := f) (k := k) m (mput acc p.1 p.2) fun q hq => h q (List.mem_cons_of_mem _ hq)
    show mlook (mputs (mput acc p.1 p.2) m) k = _
    rw [ih, mlook_put]
    have hp := h p List.mem_cons_self
    by_cases h1 : k ∈ m.map (·.1)
    · rw [if_pos h1, if_pos (by rw [List.map_cons]; exact List.mem_cons_of_mem _ h1)]
    · rw [if_neg h1]
      by_cases h2 : k = p.1
      · rw [if_pos h2, if_pos (by rw [h2]; simp), hp, h2]
      · rw [if_neg h2, if_neg (by rw [List.map_cons, List.mem_cons]; exact fun z => z.elim h2 h1)]
/-- dict([(k, f k) for k in ks]) -/
theorem dict_fun {enc : κ → PyData} {ev : α → PyData} {tk : Bool} [KeyT enc tk] (f : κ → α) (ks : List κ) (h : ks.length ≤ 16777216) : ∃ m : List (κ × α), (pairsD tk (ks.map fun k => .tuple [enc k, ev (f k)])).bind (dMerge tk []) = some (dEnc enc ev m) ∧
    ∀ k, mlook m k = if k ∈ ks then some (f k) else none := by
  refine ⟨mputs [] (ks.map fun k => (k, f k)), ?_, fun k => ?_⟩
  · have e := pairsD_ty (enc := enc) (ev := ev) (tk := tk) (ks.map fun k => (k, f k))
    rw [List.map_map] at e
    have e : pairsD tk (ks.map fun k => .tuple [enc k, ev (f k)]) = some (dEnc enc ev (ks.map fun k => (k, f k))) := e
    rw [e, Option.bind_some, ← dEnc_nil enc ev]
    exact dMerge_ty _ _ (by simpa using h)
  · rw [mlook_puts (f := f) _ _ (fun p hp => by obtain ⟨k, _, rfl⟩ := List.mem_map.mp hp; rfl)]
    simp [mlook_nil, List.map_map, Function.comp_def]
end
end Z

/-! Z44: min, max of two alike data. -/
namespace Z
open PySem PySem.Spec PyProof.Rows L2 PySem.W
def rBest2 (K : PySem.W.Frag) (best : PyData → List PyData → PyData) : List V → Hp → VK → Prop := fun vs H Q => ∃ x y d e, vs = [x, y] ∧ DpAll K H [x, y] [d, e] ∧ AlikeAll [d, e] ∧ PyData.depthAll [d, e] ≤ 60 ∧ ∀ (i : Nat) (z : V), [x, y][i]? = some z → [d, e][i]? = some (best d [e]) → Q z H
theorem call_min_twoH {prog : Program} {w : World} {A : Around} {E : Value → Shared → Prop} {s : Shared} {a b : Value} {Q : Value → Shared → Prop}
    (h : wpAny (model prog w) A.in1 (pyIter (.ref s.heap.objs.size)) (fun it s₂ => ∃ I fp wr G n P St H bt, it = .ref I ∧ WalksS prog w A.in1 I fp wr G n P St ∧ St 0 s₂ ∧ (∀ b ∈ fp, b < s₂.heap.objs.size) ∧ 0 < n ∧
      (∀ b o, H.get? b = some o → b ∉ wr) ∧ (∀ b o, H.get? b = some o → s₂.heap.get? b = some o) ∧ CmpIn prog w A.in1 .Lt H P bt ∧ ∀ v s', P (argBest bt (n - 1)) v → Moved wr G s₂ s' → Q v s') E
      { s with heap := s.heap.push { cls := .type "tuple", data := .seq #[a, b] } }) :
    wpAny (model prog w) A (call (.builtin "min") [a, b]) Q E s := by
  have hname : (toString "min" ++ toString ".loop" : String) = "min.loop" := by decide
  refine call_function_tree F.kind_min F.plain_min F.entry_min (F.args_min2 _ _) ?_
  show wpAny _ A.in1 (Builtin.Builtins.bindParams "min" ["key", "default"] 0 ⟨[], []⟩ >>= _) _ _ s
  refine wpAny_bind (wpAny_of_eq (show Builtin.Builtins.bindParams "min" ["key", "default"] 0 ⟨[], []⟩ = pure [none, none] from rfl) ?_)
  show wpAny _ A.in1 (newTuple [a, b] >>= _) _ _ s
  refine wpAny_bind (wpAny_newObj_type ?_)
  refine wpAny_bind (wpAny_mono h (fun it s₂ h₂ => ?_) fun _ _ e => e)
  obtain ⟨I, fp, wr, G, n, P, St, H, bt, rfl, W, hst, hfp, hn, hw, hkeep, hcmp, hQ⟩ := h₂
  refine wpAny_bind (wpAny_newObj_type ?_)
  have hSf : s₂.heap.objs.size ∉ fp := fun hm => Nat.lt_irrefl _ (hfp _ hm)
  rw [hname]
  refine wpAny_pure ⟨plainId_quiet F.plain_min_loop _, codeAny_min_loop_firstH W H hw bt hcmp s₂.heap.objs.size hSf (fresh_in hkeep) _ hn (fun b o e => Heap.get?_push_of_some _ (hkeep b o e)) (W.frame 0 s₂ _ s₂.toks hst (Nat.le_refl _) fun b _ o e => Heap.get?_push_of_some _ e) (Heap.get?_push_size _ rfl) fun v s' hP hm => ?_⟩
  exact hQ v s' hP (Moved.drop_new (tk := s₂.toks) hm (Nat.le_refl _))
theorem min_two_data {prog : Program} {w : World} {A : Around} {E : Value → Shared → Prop} {s : Shared} {a b : Value} {x y : PyData} {as : List Addr} {Q : Value → Shared → Prop} (hh : A.handled = none) (hr : ReadsAll s.heap [a, b] [x, y] as) (ha : AlikeAll [x, y]) (hu : A.units + 1 + PyData.depthAll [x, y] < cLine)
    (h : ∀ (i : Nat) v h' tk bs, (#[a, b] : Array Value)[i]? = some v → Reads h' v (minD x [y]) bs → (∀ b o, s.heap.get? b = some o → h'.get? b = some o) → Q v { s with heap := h', toks := tk }) :
    wpAny (model prog w) A (call (.builtin "min") [a, b]) Q E s := by
  have hT : (s.heap.push { cls := .type "tuple", data := .seq #[a, b] }).IsTuple s.heap.objs.size #[a, b] := ⟨_, Heap.get?_push_size _ rfl, rfl, 0, rfl⟩
  have k0 : ∀ c o, s.heap.get? c = some o → (s.heap.push { cls := .type "tuple", data := .seq #[a, b] }).get? c = some o := fun c o e => Heap.get?_push_of_some _ e
  have hr2 : ReadsAll (s.heap.push { cls := .type "tuple", data := .seq #[a, b] }) (#[a, b] : Array Value).toList [x, y] as := PyProof.Rows.ReadsAll.keeps k0 hr
  refine call_min_twoH (PySem.W.iter_tupleW (A := A.in1) (s := { s with heap := s.heap.push { cls := .type "tuple", data := .seq #[a, b] } }) hh hT fun s₂ e W st hfp hw hk => ?_)
  refine ⟨_, _, _, _, _, _, _, _, _, rfl, W, st, hfp, by simp, hw, hk, PySem.W.cmpIn_lt (A := A.in1) (s := { s with heap := s.heap.push { cls := .type "tuple", data := .seq #[a, b] } }) hr2 ha (by show A.units + 1 + _ < _; exact hu), fun v s' hP m => ?_⟩
  obtain ⟨h', tk, rfl, hk'⟩ := PySem.W.moved_old e rfl m
  obtain ⟨bs, r, _, _, _⟩ := PySem.W.readsAll_atA hr2 _ v hP
  have e2 := (PySem.W.argBest_fold dataLt PyData.none x [y] [y].length (Nat.le_refl _)).2
  rw [List.take_length] at e2
  exact h _ v h' tk bs hP (PySem.W.reads_keeps hk' (by unfold minD; rw [← e2]; exact r)) fun c o ec => hk' c o (k0 c o ec)
theorem cr_min2D [TB : Tabs] {X : Cx} (hc : X.calm = true) (hu : X.A.units + 65 < cLine) : CallR X (.builtin "min") (rBest2 X.K minD) := by
  intro pins s σ H vs us Q I r h
  obtain ⟨x, y, d, e, rfl, hd, ha, hdep, q⟩ := h
  obtain ⟨u, v, rfl, r1, r2⟩ := vals2 r
  have rv : Vals [x, y] [u, v] := .cons r1 (.cons r2 .nil)
  obtain ⟨as, ra⟩ := Dp.readsAll I [d, e] [x, y] [u, v] hd rv
  exact min_two_data (I.ok.hd hc) ra ha (by omega) fun i v h' tk bs hv hr hk => best_fin minD_mem I hd ha rv q i v h' tk bs hv hr hk
theorem call_max_twoH {prog : Program} {w : World} {A : Around} {E : Value → Shared → Prop} {s : Shared} {a b : Value} {Q : Value → Shared → Prop}
    (h : wpAny (model prog w) A.in1 (pyIter (.ref s.heap.objs.size)) (fun it s₂ => ∃ I fp wr G n P St H bt, it = .ref I ∧ WalksS prog w A.in1 I fp wr G n P St ∧ St 0 s₂ ∧ (∀ b ∈ fp, b < s₂.heap.objs.size) ∧ 0 < n ∧
      (∀ b o, H.get? b = some o → b ∉ wr) ∧ (∀ b o, H.get? b = some o → s₂.heap.get? b = some o) ∧ CmpIn prog w A.in1 .Gt H P bt ∧ ∀ v s', P (argBest bt (n - 1)) v → Moved wr G s₂ s' → Q v s') E
      { s with heap := s.heap.push { cls := .type "tuple", data := .seq #[a, b] } }) :
    wpAny (model prog w) A (call (.builtin "max") [a, b]) Q E s := by
  have hname : (toString "max" ++ toString ".loop" : String) = "max.loop" := by decide
  refine call_function_tree F.kind_max F.plain_max F.entry_max (F.args_max2 _ _) ?_
  show wpAny _ A.in1 (Builtin.Builtins.bindParams "max" ["key", "default"] 0 ⟨[], []⟩ >>= _) _ _ s
  refine wpAny_bind (wpAny_of_eq (show Builtin.Builtins.bindParams "max" ["key", "default"] 0 ⟨[], []⟩ = pure [none, none] from rfl) ?_)
  show wpAny _ A.in1 (newTuple [a, b] >>= _) _ _ s
  refine wpAny_bind (wpAny_newObj_type ?_)
  refine wpAny_bind (wpAny_mono h (fun it s₂ h₂ => ?_) fun _ _ e => e)
  obtain ⟨I, fp, wr, G, n, P, St, H, bt, rfl, W, hst, hfp, hn, hw, hkeep, hcmp, hQ⟩ := h₂
  refine wpAny_bind (wpAny_newObj_type ?_)
  have hSf : s₂.heap.objs.size ∉ fp := fun hm => Nat.lt_irrefl _ (hfp _ hm)
  rw [hname]
  refine wpAny_pure ⟨plainId_quiet F.plain_max_loop _, codeAny_max_loop_firstH W H hw bt hcmp s₂.heap.objs.size hSf (fresh_in hkeep) _ hn (fun b o e => Heap.get?_push_of_some _ (hkeep b o e)) (W.frame 0 s₂ _ s₂.toks hst (Nat.le_refl _) fun b _ o e => Heap.get?_push_of_some _ e) (Heap.get?_push_size _ rfl) fun v s' hP hm => ?_⟩
  exact hQ v s' hP (Moved.drop_new (tk := s₂.toks) hm (Nat.le_refl _))
theorem max_two_data {prog : Program} {w : World} {A : Around} {E : Value → Shared → Prop} {s : Shared} {a b : Value} {x y : PyData} {as : List Addr} {Q : Value → Shared → Prop} (hh : A.handled = none) (hr : ReadsAll s.heap [a, b] [x, y] as) (ha : AlikeAll [x, y]) (hu : A.units + 1 + PyData.depthAll [x, y] < cLine)
    (h : ∀ (i : Nat) v h' tk bs, (#[a, b] : Array Value)[i]? = some v → Reads h' v (maxD x [y]) bs → (∀ b o, s.heap.get? b = some o → h'.get? b = some o) → Q v { s with heap := h', toks := tk }) :
    wpAny (model prog w) A (call (.builtin "max") [a, b]) Q E s := by
  have hT : (s.heap.push { cls := .type "tuple", data := .seq #[a, b] }).IsTuple s.heap.objs.size #[a, b] := ⟨_, Heap.get?_push_size _ rfl, rfl, 0, rfl⟩
  have k0 : ∀ c o, s.heap.get? c = some o → (s.heap.push { cls := .type "tuple", data := .seq #[a, b] }).get? c = some o := fun c o e => Heap.get?_push_of_some _ e
  have hr2 : ReadsAll (s.heap.push { cls := .type "tuple", data := .seq #[a, b] }) (#[a, b] : Array Value).toList [x, y] as := PyProof.Rows.ReadsAll.keeps k0 hr
  refine call_max_twoH (PySem.W.iter_tupleW (A := A.in1) (s := { s with heap := s.heap.push { cls := .type "tuple", data := .seq #[a, b] } }) hh hT fun s₂ e W st hfp hw hk => ?_)
  refine ⟨_, _, _, _, _, _, _, _, _, rfl, W, st, hfp, by simp, hw, hk, PySem.W.cmpIn_gt (A := A.in1) (s := { s with heap := s.heap.push { cls := .type "tuple", data := .seq #[a, b] } }) hr2 ha (by show A.units + 1 + _ < _; exact hu), fun v s' hP m => ?_⟩
  obtain ⟨h', tk, rfl, hk'⟩ := PySem.W.moved_old e rfl m
  obtain ⟨bs, r, _, _, _⟩ := PySem.W.readsAll_atA hr2 _ v hP
  have e2 := (PySem.W.argBest_fold (fun a b => dataLt b a) PyData.none x [y] [y].length (Nat.le_refl _)).2
  rw [List.take_length] at e2
  exact h _ v h' tk bs hP (PySem.W.reads_keeps hk' (by unfold maxD; rw [← e2]; exact r)) fun c o ec => hk' c o (k0 c o ec)
theorem cr_max2D [TB : Tabs] {X : Cx} (hc : X.calm = true) (hu : X.A.units + 65 < cLine) : CallR X (.builtin "max") (rBest2 X.K maxD) := by
  intro pins s σ H vs us Q I r h
  obtain ⟨x, y, d, e, rfl, hd, ha, hdep, q⟩ := h
  obtain ⟨u, v, rfl, r1, r2⟩ := vals2 r
  have rv : Vals [x, y] [u, v] := .cons r1 (.cons r2 .nil)
  obtain ⟨as, ra⟩ := Dp.readsAll I [d, e] [x, y] [u, v] hd rv
  exact max_two_data (I.ok.hd hc) ra ha (by omega) fun i v h' tk bs hv hr hk => best_fin maxD_mem I hd ha rv q i v h' tk bs hv hr hk
def isLst : PyData → Bool
  | .list _ => true
  | _ => false
def pBest2 (best : PyData → List PyData → PyData) (d e : PyData) : Option RO := if (alikeB [d, e] && decide (PyData.depthAll [d, e] ≤ 60) && !isLst d) = true then some (.sc (best d [e])) else none
section
variable [TB : Tabs] {K : PySem.W.Frag}
theorem op2_best2 {best : PyData → List PyData → PyData} : Op2 K (pBest2 best) fun x y H Q => rBest2 K best [x, y] H Q := by
  intro G H x y Q d e r s vx vy h q
  unfold pBest2 at h
  by_cases hz : (alikeB [d, e] && decide (PyData.depthAll [d, e] ≤ 60) && !isLst d) = true
  · rw [if_pos hz] at h
    cases h
    simp only [Bool.and_eq_true, decide_eq_true_eq] at hz
    have rx : RD K G x d := by
      rcases vx with r | ⟨ds, _, _, rfl, _⟩
      · exact r
      · cases hz.2
    have ry : RD K G y e := by
      rcases vy with r | ⟨ds, _, _, rfl, _⟩
      · exact r
      · exfalso
        have ha := (alikeB_all hz.1.1).1 d (by simp) (.list ds) (by simp)
        cases d with
        | list _ => cases hz.2
        | _ => simp [PySem.W.alike] at ha
    refine ⟨x, y, d, e, rfl, .cons (RD.dp _ _ (dp_mono s _ _ rx)) (.cons (RD.dp _ _ (dp_mono s _ _ ry)) .nil), alikeB_all hz.1.1, hz.1.2, fun i z h1 h2 => ?_⟩
    match i, h1, h2 with
    | 0, h1, h2 =>
      cases h1
      have h2 : d = best d [e] := Option.some.inj h2
      rw [← h2] at q
      exact q.1 _ rx
    | 1, h1, h2 =>
      cases h1
      have h2 : e = best d [e] := Option.some.inj h2
      rw [← h2] at q
      exact q.1 _ ry
    | _ + 2, h1, _ => simp at h1
  · rw [if_neg hz] at h
    cases h
end
theorem pBest2_ty {α : Type} {best : PyData → List PyData → PyData} {enc : α → PyData} [A : AlkD enc] (x y : α) (hl : ∀ z ds, enc z ≠ .list ds) (h : A.dep ≤ 60 := by decide) : pBest2 best (enc x) (enc y) = some (.sc (best (enc x) [enc y])) := by
  unfold pBest2
  rw [if_pos]
  rw [Bool.and_eq_true, Bool.and_eq_true]
  refine ⟨⟨alikeB_ty (enc := enc) [x, y], decide_eq_true (Nat.le_trans (depthAll_ty (enc := enc) [x, y]) h)⟩, ?_⟩
  have := hl x
  cases e : enc x with
  | list ds => exact absurd e (this ds)
  | _ => rfl
end Z

/-! Z45: the shared defs _law_draws, _law_take, _law_alike. -/
namespace Z
open PySem PySem.Spec PyProof.Rows L2
def b__law_draws : ZSD :=
    (zSeq (zSet 1 (zLst zaN))
    (zSeq (zFor (zIt (zN 0)) (gN 2) (zSeq (zSet 5 (z1 pAbs (zN 2)))
    (zSeq (zIfS (zB (z2 (pCmp fun i j => decide (i < j)) (zN 5) (z2 pPow (zK (.int 10)) (zK (.int 18))))) (zSeq (zSet 6 (z2 pMod (z1 pToInt (z2 pAdd (z2 pMul (zN 5) (zK (.int 48271))) (zK (.int 11)))) (zK (.int 2147483647))))
    (zSeq (zExpr (zMeth mApp 1 (zlC (zF (z2 pMod (z1 pToInt (z2 pAdd (z2 pMul (zN 6) (zK (.int 69621))) (zN 5))) (zK (.int 2147483629)))) zlN)))
    (zSeq (zExpr (zMeth mApp 1 (zlC (zF (z2 pMod (z1 pToInt (z2 pAdd (zN 6) (z2 pDiv (zN 5) (zK (.int 7))))) (zK (.int 1000003)))) zlN)))
    (zSet 5 (zK (.int 0)))))) zNx)
    (zFor (zRng (zlC (zK (.int 60)) zlN)) (gN 4) (zIfS (zB (z2 (pCmp fun i j => decide (j < i)) (zN 5) (zK (.int 0)))) (zSeq (zExpr (zMeth mApp 1 (zlC (zF (z2 pMod (z1 pToInt (zN 5)) (zK (.int 997)))) zlN)))
    (zSet 5 (z2 pDiv (zN 5) (zK (.int 997))))) zNx)))))
    (zSeq (zSet 3 (zK (.int 1)))
    (zSeq (zIfS (zB (z2 (pCmp fun i j => decide (j < i)) (z1S pLen (zN 0)) (zK (.int 0)))) (zSet 3 (z2 pAdd (zK (.int 1)) (z1 pAbs (z2S pIx (zN 0) (zK (.int 0)))))) zNx)
    (zSeq (zFor (zRng (zlC (zK (.int 900)) zlN)) (gN 4) (zSeq (zSet 3 (z2 pMod (z1 pToInt (z2 pAdd (z2 pMul (zN 3) (zK (.int 48271))) (zK (.int 69621)))) (zK (.int 2147483647))))
    (zExpr (zMeth mApp 1 (zlC (zF (z2 pDiv (zN 3) (zK (.int 5)))) zlN)))))
    (zRet (z1 pLRev (zN 1))))))))
def m__law_draws : Mir := runB 7 b__law_draws
def b__law_take : ZSD :=
    (zSeq (zIfS (zB (z2 pEq (z1S pLen (zN 0)) (zK (.int 0)))) (zRet (zK (.int 0))) zNx)
    (zRet (z2 pMod (z1 pToInt (zMeth mPop 0 zlN)) (zN 1))))
def m__law_take : Mir := runB 2 b__law_take
def b__law_alike (φ : Mir) : ZSD :=
    (zSeq (zIfS (zOrT (zTru (zIsi "list" (zN 1))) (zTru (zIsi "tuple" (zN 1)))) (zSeq (zIfS (zOrT (zB (z2 pNe (zIsi "list" (zN 0)) (zIsi "list" (zN 1)))) (zB (z2 pNe (zIsi "tuple" (zN 0)) (zIsi "tuple" (zN 1))))) (zRet (zK (.bool false))) zNx)
    (zRet (zAnd (z2 pEq (z1S pLen (zN 0)) (z1S pLen (zN 1))) (z2 pEq (zLc (zRng (zlC (z1S pLen (zN 1)) zlN)) [2] (gN 2) (zNotT (zTru (zCall φ 2 (zlC (zV (z2S pIx (zN 0) (zN 2))) (zlC (zV (z2S pIx (zN 1) (zN 2))) zlN))))) (zN 2)) (zLst zaN))))) zNx)
    (zSeq (zIfS (zB (z2 (pIs false) (zN 1) (zK .none))) (zRet (z2 (pIs false) (zN 0) (zK .none))) zNx)
    (zSeq (zIfS (zOrT (zTru (zIsi "bool" (zN 1))) (zTru (zIsi "bool" (zN 0)))) (zRet (zAnd (zIsi "bool" (zN 0)) (zAnd (zIsi "bool" (zN 1)) (z2 pEq (zN 0) (zN 1))))) zNx)
    (zSeq (zIfS (zTru (zIsi "int" (zN 1))) (zRet (zAnd (zIsi "int" (zN 0)) (z2 pEq (zN 0) (zN 1)))) zNx)
    (zRet (zAnd (zIsi "str" (zN 0)) (z2 pEq (zN 0) (zN 1))))))))
def m__law_alike : Nat → Mir
  | 0 => fun _ => .stuck
  | n + 1 => runB 3 (b__law_alike (m__law_alike n))
/-! ### _law_draws -/
def cL (L : List Int) : Option Cell := some (.lst false false (L.map .int))
theorem mApp_gen {ds : List PyData} {e : PyData} (h : ds.length < 16777216) : mApp ds [e] = some (.none, ds ++ [e]) := by
  show (if ds.length < sizeLine then some (PyData.none, ds ++ [e]) else none) = _
  rw [if_pos (by rw [sizeLine_eq]; exact h)]
theorem divOk_k7 : divOk 7 = true := divOk_small (by decide) (by decide)
def PD (ns : List Int) (B : Nat) (ks : List Int) (τ : Fr) : Prop := ∃ (L : List Int) (o2 o3 o4 o5 o6 : Option Cell), L.length + ks.length * 62 ≤ B ∧ τ = [some (.scr ns), some (.lst false false (L.map .int)), o2, o3, o4, o5, o6]
def PD2 (ns : List Int) (B : Nat) (o2 o3 o6 : Option Cell) (ks : List Nat) (τ : Fr) : Prop := ∃ (L : List Int) (o4 : Option Cell) (v : Int), L.length + ks.length ≤ B ∧ τ = [some (.scr ns), some (.lst false false (L.map .int)), o2, o3, o4, some (.fz (.int v)), o6]
def PD3 (ns : List Int) (B : Nat) (o2 o5 o6 : Option Cell) (ks : List Nat) (τ : Fr) : Prop := ∃ (L : List Int) (o4 : Option Cell) (v : Int), L.length + ks.length ≤ B ∧ τ = [some (.scr ns), some (.lst false false (L.map .int)), o2, some (.fz (.int v)), o4, o5, o6]
theorem rng60 : rngI [60] = some ((List.range 60).map fun k : Nat => PyData.int (k : Nat)) := rngI_nat (n := 60) (by decide)
theorem rng900 : rngI [900] = some ((List.range 900).map fun k : Nat => PyData.int (k : Nat)) := rngI_nat (n := 900) (by decide)
theorem divOk_997 : divOk 997 = true := divOk_small (by decide) (by decide)
theorem draws_ok (ns : List Int) (h : ns.length ≤ 63) : ∃ (L : List Int) (τ : Fr), m__law_draws [.scr ns] = .ok (.lst false false (L.map .int)) τ := by
  suffices hh : ∃ L : List Int, Gv b__law_draws (frame0 7 [.scr ns]) (.lst false false (L.map .int)) by
    obtain ⟨L, hh⟩ := hh
    obtain ⟨τ, e⟩ := Gv.run (n := 7) hh
    exact ⟨L, τ, e⟩
  unfold b__law_draws
  have step : ∃ τ1 L o2 o3 o4 o5 o6, zFor (zIt (zN 0)) (gN 2) (zSeq (zSet 5 (z1 pAbs (zN 2)))
    (zSeq (zIfS (zB (z2 (pCmp fun i j => decide (i < j)) (zN 5) (z2 pPow (zK (.int 10)) (zK (.int 18))))) (zSeq (zSet 6 (z2 pMod (z1 pToInt (z2 pAdd (z2 pMul (zN 5) (zK (.int 48271))) (zK (.int 11)))) (zK (.int 2147483647))))
    (zSeq (zExpr (zMeth mApp 1 (zlC (zF (z2 pMod (z1 pToInt (z2 pAdd (z2 pMul (zN 6) (zK (.int 69621))) (zN 5))) (zK (.int 2147483629)))) zlN)))
    (zSeq (zExpr (zMeth mApp 1 (zlC (zF (z2 pMod (z1 pToInt (z2 pAdd (zN 6) (z2 pDiv (zN 5) (zK (.int 7))))) (zK (.int 1000003)))) zlN)))
    (zSet 5 (zK (.int 0)))))) zNx)
    (zFor (zRng (zlC (zK (.int 60)) zlN)) (gN 4) (zIfS (zB (z2 (pCmp fun i j => decide (j < i)) (zN 5) (zK (.int 0)))) (zSeq (zExpr (zMeth mApp 1 (zlC (zF (z2 pMod (z1 pToInt (zN 5)) (zK (.int 997)))) zlN)))
    (zSet 5 (z2 pDiv (zN 5) (zK (.int 997))))) zNx)))) [some (.scr ns), some (.lst false false []), none, none, none, none, none] = .ok .nx τ1 ∧ (L : List Int).length ≤ 3906 ∧ τ1 = [some (.scr ns), some (.lst false false (L.map .int)), o2, o3, o4, o5, o6] := by
    obtain ⟨τ1, e1, e2⟩ := for_ty (enc := PyData.int) (τ := [some (.scr ns), some (.lst false false []), none, none, none, none, none]) (g := gN 2) (p := zSeq (zSet 5 (z1 pAbs (zN 2)))
    (zSeq (zIfS (zB (z2 (pCmp fun i j => decide (i < j)) (zN 5) (z2 pPow (zK (.int 10)) (zK (.int 18))))) (zSeq (zSet 6 (z2 pMod (z1 pToInt (z2 pAdd (z2 pMul (zN 5) (zK (.int 48271))) (zK (.int 11)))) (zK (.int 2147483647))))
    (zSeq (zExpr (zMeth mApp 1 (zlC (zF (z2 pMod (z1 pToInt (z2 pAdd (z2 pMul (zN 6) (zK (.int 69621))) (zN 5))) (zK (.int 2147483629)))) zlN)))
    (zSeq (zExpr (zMeth mApp 1 (zlC (zF (z2 pMod (z1 pToInt (z2 pAdd (zN 6) (z2 pDiv (zN 5) (zK (.int 7))))) (zK (.int 1000003)))) zlN)))
    (zSet 5 (zK (.int 0)))))) zNx)
    (zFor (zRng (zlC (zK (.int 60)) zlN)) (gN 4) (zIfS (zB (z2 (pCmp fun i j => decide (j < i)) (zN 5) (zK (.int 0)))) (zSeq (zExpr (zMeth mApp 1 (zlC (zF (z2 pMod (z1 pToInt (zN 5)) (zK (.int 997)))) zlN)))
    (zSet 5 (z2 pDiv (zN 5) (zK (.int 997))))) zNx)))) (it := zIt (zN 0)) ns (PD ns 3906) (τi := [some (.scr ns), some (.lst false false []), none, none, none, none, none]) (by simp) ⟨[], none, none, none, none, none, by simp; omega, rfl⟩ (by
      rintro x xs τ ⟨L, o2, o3, o4, o5, o6, hl, rfl⟩
      rw [List.length_cons] at hl
      refine ⟨_, rfl, ?_⟩
      refine @Go.turnS _ _ _ _ _ ?_
      simp
      refine Go.seqP (fun τ => ∃ (L' : List Int) (v : Int) (o6' : Option Cell), L'.length ≤ L.length + 2 ∧ τ = [some (.scr ns), some (.lst false false (L'.map .int)), some (.fz (.int x)), o3, o4, some (.fz (.int v)), o6']) ?_ ?_
      · have hp : pPow (.int 10) (.int 18) = some (.sc (.int 1000000000000000000)) := by rw [pPow_int (by decide)]; rfl
        generalize (if x < 0 then -x else x) = a
        by_cases h1 : a < 1000000000000000000
        · have g1 : ∀ e, mApp (L.map .int) [e] = some (.none, L.map .int ++ [e]) := fun e => mApp_gen (by simp; omega)
          have g2 : ∀ e1 e2, mApp (L.map .int ++ [e1]) [e2] = some (.none, L.map .int ++ [e1] ++ [e2]) := fun e1 e2 => mApp_gen (by simp; omega)
          simp [hp, h1, g1, g2, mulOk, divOk_k7]
          exact ⟨L ++ [((a * 48271 + 11) % 2147483647 * 69621 + a) % 2147483629, ((a * 48271 + 11) % 2147483647 + a / 7) % 1000003], by simp, by simp⟩
        · simp [hp, h1]
          exact ⟨L, by omega, rfl⟩
      · rintro τ ⟨L', v, o6', hl', rfl⟩
        refine Go.one ?_
        refine for_ty (enc := fun k : Nat => PyData.int (k : Nat)) (List.range 60) (PD2 ns (L.length + 62) (some (.fz (.int x))) o3 o6') (τi := [some (.scr ns), some (.lst false false (L'.map .int)), some (.fz (.int x)), o3, o4, some (.fz (.int v)), o6']) (by simp [rng60]) ⟨L', o4, v, by simp; omega, rfl⟩ ?_ ?_
        · rintro k ks τ ⟨M, o4, v, hm, rfl⟩
          rw [List.length_cons] at hm
          refine ⟨_, rfl, Go.turn (Go.one ?_)⟩
          have hM : M.length < 16777216 := by omega
          by_cases hv : 0 < v
          · simp [hv, mApp_gen (ds := M.map .int) (by simpa using hM), divOk_997]
            exact ⟨M ++ [v % 997], _, v / 997, by simp; omega, by simp; rfl⟩
          · simp [hv]
            exact ⟨M, _, v, by omega, rfl⟩
        · rintro τ ⟨M, o4, v, hm, rfl⟩
          exact ⟨M, _, _, _, _, _, by simp at hm ⊢; omega, rfl⟩) (R := PD ns 3906 []) (fun τ h => h)
    obtain ⟨L, o2, o3, o4, o5, o6, hl, rfl⟩ := e2
    exact ⟨_, L, o2, o3, o4, o5, o6, e1, by simpa using hl, rfl⟩
  obtain ⟨τ1, L, o2, o3, o4, o5, o6, e1, hl, rfl⟩ := step
  suffices hg : ∃ (M : List Int), Gv (zSeq (zSet 3 (zK (.int 1)))
    (zSeq (zIfS (zB (z2 (pCmp fun i j => decide (j < i)) (z1S pLen (zN 0)) (zK (.int 0)))) (zSet 3 (z2 pAdd (zK (.int 1)) (z1 pAbs (z2S pIx (zN 0) (zK (.int 0)))))) zNx)
    (zSeq (zFor (zRng (zlC (zK (.int 900)) zlN)) (gN 4) (zSeq (zSet 3 (z2 pMod (z1 pToInt (z2 pAdd (z2 pMul (zN 3) (zK (.int 48271))) (zK (.int 69621)))) (zK (.int 2147483647))))
    (zExpr (zMeth mApp 1 (zlC (zF (z2 pDiv (zN 3) (zK (.int 5)))) zlN)))))
    (zRet (z1 pLRev (zN 1)))))) [some (.scr ns), some (.lst false false (L.map .int)), o2, o3, o4, o5, o6] (.lst false false (M.map .int)) by
    obtain ⟨M, hg⟩ := hg
    refine ⟨M, Gv.seq ?_⟩
    simp [frame0]
    exact Gv.seq ⟨_, e1, hg⟩
  have s3 : ∃ v : Int, zIfS (zB (z2 (pCmp fun i j => decide (j < i)) (z1S pLen (zN 0)) (zK (.int 0)))) (zSet 3 (z2 pAdd (zK (.int 1)) (z1 pAbs (z2S pIx (zN 0) (zK (.int 0)))))) zNx [some (.scr ns), some (.lst false false (L.map .int)), o2, some (.fz (.int 1)), o4, o5, o6] = .ok .nx [some (.scr ns), some (.lst false false (L.map .int)), o2, some (.fz (.int v)), o4, o5, o6] := by
    cases ns with
    | nil => exact ⟨1, by simp⟩
    | cons n ns =>
      have h0 : (0 : Int) < (ns.length : Int) + 1 := by omega
      exact ⟨1 + (if n < 0 then -n else n), by simp [h0]⟩
  obtain ⟨v, s3⟩ := s3
  have s4 : ∃ τ1, zFor (zRng (zlC (zK (.int 900)) zlN)) (gN 4) (zSeq (zSet 3 (z2 pMod (z1 pToInt (z2 pAdd (z2 pMul (zN 3) (zK (.int 48271))) (zK (.int 69621)))) (zK (.int 2147483647))))
    (zExpr (zMeth mApp 1 (zlC (zF (z2 pDiv (zN 3) (zK (.int 5)))) zlN)))) [some (.scr ns), some (.lst false false (L.map .int)), o2, some (.fz (.int v)), o4, o5, o6] = .ok .nx τ1 ∧ PD3 ns 4806 o2 o5 o6 [] τ1 := by
    refine for_ty (enc := fun k : Nat => PyData.int (k : Nat)) (List.range 900) (PD3 ns 4806 o2 o5 o6) (τi := [some (.scr ns), some (.lst false false (L.map .int)), o2, some (.fz (.int v)), o4, o5, o6]) (by simp [rng900]) ⟨L, o4, v, by simp; omega, rfl⟩ ?_ (fun τ h => h)
    rintro k ks τ ⟨M, o4, v, hm, rfl⟩
    rw [List.length_cons] at hm
    refine ⟨_, rfl, ?_⟩
    refine @Go.turnS _ _ _ _ _ ?_
    simp [mulOk]
    refine Go.one ?_
    simp [mApp_gen (ds := M.map .int) (by simp; omega)]
    exact ⟨M ++ [(v * 48271 + 69621) % 2147483647 / 5], _, _, by simp; omega, by simp; exact ⟨rfl, rfl⟩⟩
  obtain ⟨τ1, e4, M, o4', v', hm, rfl⟩ := s4
  refine ⟨M.reverse, Gv.seq ?_⟩
  simp
  refine Gv.seq ⟨_, s3, ?_⟩
  refine Gv.seq ⟨_, e4, ?_⟩
  refine Gv.ret ?_
  simp
/-! ### _law_take -/
def tkR (L : List Int) (n : Int) : Int := match L.getLast? with
  | some x => x % n
  | none => 0
theorem tkR_ge {L : List Int} {n : Int} (h : 0 < n) : 0 ≤ tkR L n := by
  unfold tkR
  split
  · exact Int.emod_nonneg _ (Int.ne_of_gt h)
  · exact Int.le_refl _
theorem tkR_lt {L : List Int} {n : Int} (h : 0 < n) : tkR L n < n := by
  unfold tkR
  split
  · exact Int.emod_lt_of_pos _ h
  · exact h
theorem tkR_nat (L : List Int) (n : Nat) (h : 0 < n) : ∃ k : Nat, tkR L n = k ∧ k < n := by
  have a0 := tkR_ge (L := L) (n := n) (by omega)
  have a1 := tkR_lt (L := L) (n := n) (by omega)
  exact ⟨(tkR L n).toNat, by omega, by omega⟩
theorem mPop_snoc {ds : List PyData} {e : PyData} : mPop (ds ++ [e]) [] = some (e, ds) := by
  show (((ds ++ [e])[(ds ++ [e]).length - 1]?).map fun d => (d, (ds ++ [e]).dropLast)) = _
  simp
/-- what a law draws from -/
abbrev Tk := List Int
def Tk.ds (L : Tk) : List PyData := List.map PyData.int L
def Tk.nx (L : Tk) : Tk := List.dropLast L
theorem take_ok (L : Tk) {n : Int} (h0 : 0 < n) : ∃ τ, m__law_take [.lst true false (Tk.ds L), .fz (.int n)] = .ok (.fz (.int (tkR L n))) τ ∧ cellAt τ 0 = some (.lst true false (Tk.ds (Tk.nx L))) := by
  rcases List.eq_nil_or_concat L with rfl | ⟨M, x, rfl⟩
  · simp [m__law_take, runB_ev, frame0, b__law_take, Tk.ds, Tk.nx, tkR]
  · have h1 : ¬ ((M.length : Int) + 1 = 0) := by omega
    simp [m__law_take, runB_ev, frame0, b__law_take, Tk.ds, Tk.nx, tkR, h1, mPop_snoc, pMod_int h0]
section
variable {τ : Fr} {i : Nat}
@[simp] theorem k__law_take {L : Tk} {n : Int} {ls : List LR} (h : noObj τ ls = true) (hi : isL τ i (Tk.ds L)) (h0 : 0 < n) : kCs m__law_take 2 (.sl i :: ls) τ (some [.lst true false (Tk.ds L), .fz (.int n)]) = .ok (.cl (.fz (.int (tkR L n)))) (putDs i (Tk.ds (Tk.nx L)) τ) := kCs_one (take_ok L h0) hi h rfl
theorem k__law_draws {ns : List Int} (hl : ns.length ≤ 63) : ∃ L : Tk, ∀ (τ : Fr) (ls : List LR), noObj τ ls = true → kCs m__law_draws 1 ls τ (some [.scr ns]) = .ok (.cl (.lst false false (Tk.ds L))) τ := by
  obtain ⟨L, τ', e⟩ := draws_ok ns hl
  exact ⟨L, fun τ ls h => kCs_pure ⟨τ', e⟩ h rfl⟩
end
/-! ### _law_alike, of a thing and itself -/
def plainD : Nat → PyData → Prop
  | 0, _ => False
  | n + 1, .list ds => ds.length ≤ 1000000 ∧ ∀ d ∈ ds, plainD n d
  | n + 1, .tuple ds => ds.length ≤ 1000000 ∧ ∀ d ∈ ds, plainD n d
  | _ + 1, .str s => PyData.strOk s = true
  | _ + 1, .dict _ => False
  | _ + 1, _ => True
theorem ll_nil0 : pEq (.list []) (.list []) = some (.sc (.bool true)) := pEq_ty (enc := fun xs : List Nat => PyData.list (xs.map fun k : Nat => PyData.int (k : Nat))) (x := []) (y := [])
def isDat (c : Cell) (d : PyData) : Prop := c = .fz d ∨ ∃ b k ds, d = .list ds ∧ c = .lst b k ds
theorem alike_step {n : Nat} {ds : List PyData} {c1 c2 : Cell} {d : PyData} (hd : d = .list ds ∨ d = .tuple ds) (h1 : isDat c1 d) (h2 : isDat c2 d) (hl : ds.length ≤ 1000000) (ih : ∀ e ∈ ds, ∃ τ, m__law_alike n [.fz e, .fz e] = .ok (.fz (.bool true)) τ) :
    ∃ τ, m__law_alike (n + 1) [c1, c2] = .ok (.fz (.bool true)) τ := by
  have hr : rngI [(ds.length : Int)] = some ((List.range ds.length).map fun k : Nat => PyData.int (k : Nat)) := rngI_nat (by omega)
  have hk : ∀ (τ : Fr) (ls : List LR) (e : PyData), e ∈ ds → noObj τ ls = true → kCs (m__law_alike n) 2 ls τ (some [.fz e, .fz e]) = .ok (.cl (.fz (.bool true))) τ := fun τ ls e he hn => kCs_pure (ih e he) hn rfl
  have hg : ∀ k ∈ List.range ds.length, ∃ e, ds[k]? = some e ∧ e ∈ ds := fun k hk => ⟨ds[k]'(List.mem_range.mp hk), List.getElem?_eq_getElem _, List.getElem_mem _⟩
  have hb := pNe_self (k := 0) (sh_bool (b := true))
  have hb2 := pNe_self (k := 0) (sh_bool (b := false))
  rcases hd with rfl | rfl
  · rcases h1 with rfl | ⟨b1, k1, ds1, e1, rfl⟩ <;> rcases h2 with rfl | ⟨b2, k2, ds2, e2, rfl⟩ <;> (try cases e1) <;> (try cases e2) <;>
    · simp [m__law_alike, runB_ev, frame0, b__law_alike, tyD, isiTab, hb, hb2, hr]
      rw [kLc_ty (List.range ds.length) (fun k : Nat => PyData.int (k : Nat)) (fun _ => false) (fun k : Nat => PyData.int (k : Nat)) rfl (fun k hkm => by
        obtain ⟨e, he, hm⟩ := hg k hkm
        simp [he, hk _ _ e hm]) (by simp; omega)]
      simp [ll_nil0]
  · rcases h1 with rfl | ⟨b1, k1, ds1, e1, rfl⟩ <;> rcases h2 with rfl | ⟨b2, k2, ds2, e2, rfl⟩ <;> (try cases e1) <;> (try cases e2) <;>
    · simp [m__law_alike, runB_ev, frame0, b__law_alike, tyD, isiTab, hb, hb2, hr]
      rw [kLc_ty (List.range ds.length) (fun k : Nat => PyData.int (k : Nat)) (fun _ => false) (fun k : Nat => PyData.int (k : Nat)) rfl (fun k hkm => by
        obtain ⟨e, he, hm⟩ := hg k hkm
        simp [he, hk _ _ e hm]) (by simp; omega)]
      simp [ll_nil0]
theorem alike_refl : ∀ (n : Nat) (d : PyData) (c1 c2 : Cell), plainD n d → isDat c1 d → isDat c2 d → ∃ τ, m__law_alike n [c1, c2] = .ok (.fz (.bool true)) τ
  | 0, _, _, _, h, _, _ => h.elim
  | n + 1, d, c1, c2, h, h1, h2 => by
    have one : ∀ e : PyData, (∀ ds, e ≠ .list ds) → isDat c1 e → isDat c2 e → c1 = .fz e ∧ c2 = .fz e := fun e he h1 h2 => by
      rcases h1 with rfl | ⟨_, _, ds, e1, _⟩
      · rcases h2 with rfl | ⟨_, _, ds, e1, _⟩
        · exact ⟨rfl, rfl⟩
        · exact (he ds e1).elim
      · exact (he ds e1).elim
    cases d with
    | list ds => exact alike_step (.inl rfl) h1 h2 h.1 fun e he => alike_refl n e _ _ (h.2 e he) (.inl rfl) (.inl rfl)
    | tuple ds => exact alike_step (.inr rfl) h1 h2 h.1 fun e he => alike_refl n e _ _ (h.2 e he) (.inl rfl) (.inl rfl)
    | dict _ => exact h.elim
    | none =>
      obtain ⟨rfl, rfl⟩ := one _ (fun _ e => by cases e) h1 h2
      simp [m__law_alike, runB_ev, frame0, b__law_alike, tyD, isiTab]
    | bool b =>
      obtain ⟨rfl, rfl⟩ := one _ (fun _ e => by cases e) h1 h2
      simp [m__law_alike, runB_ev, frame0, b__law_alike, tyD, isiTab, pEq_self (k := 0) sh_bool]
    | int i =>
      obtain ⟨rfl, rfl⟩ := one _ (fun _ e => by cases e) h1 h2
      simp [m__law_alike, runB_ev, frame0, b__law_alike, tyD, isiTab]
    | str s =>
      obtain ⟨rfl, rfl⟩ := one _ (fun _ e => by cases e) h1 h2
      simp [m__law_alike, runB_ev, frame0, b__law_alike, tyD, isiTab, pEq_str h h]
theorem k__law_alike {n : Nat} {τ : Fr} {ls : List LR} {d : PyData} {c1 c2 : Cell} (hp : plainD n d) (h1 : isDat c1 d) (h2 : isDat c2 d) (h : noObj τ ls = true) : kCs (m__law_alike n) 2 ls τ (some [c1, c2]) = .ok (.cl (.fz (.bool true))) τ := kCs_pure (alike_refl n d c1 c2 hp h1 h2) h rfl
end Z

/-! Z46: zip of two sequences, each a list or a tuple. -/
namespace Z
open PySem PySem.Spec PyProof.Rows L2
def SqX (K : PySem.W.Frag) (bl : Bool) (H : Hp) (a : Addr) (xs : List V) : Prop := if bl = true then SqL K H a xs else SqT K H a xs
def ItzX (K : PySem.W.Frag) (b1 b2 : Bool) (a b : Addr) : It :=
  ⟨fun i H => ∃ (xs ys : List V) (x y : V), SqX K b1 H a xs ∧ SqX K b2 H b ys ∧ xs[i]? = some x ∧ ys[i]? = some y,
    fun i H v H' => ∃ T x y, v = .ref T ∧ H T = none ∧ H' = upd H T (.tup [x, y]) ∧ (∀ xs, SqX K b1 H a xs → xs[i]? = some x) ∧ ∀ ys, SqX K b2 H b ys → ys[i]? = some y,
    fun i H => ∃ xs ys : List V, SqX K b1 H a xs ∧ SqX K b2 H b ys ∧ i ≤ xs.length ∧ i ≤ ys.length ∧ (xs.length = i ∨ ys.length = i)⟩
/-- the iterator of a sequence, and the sequence -/
def IsX (bl : Bool) (h : Heap) (a : Addr) (items : Array Value) : Prop := if bl = true then h.IsList a items else h.IsTuple a items
def IsXI (bl : Bool) (h : Heap) (it a : Addr) (i : Nat) : Prop := if bl = true then h.IsListIter it a i else h.IsTupleIter it a i
theorem IsXI.obj {bl : Bool} {h : Heap} {it a : Addr} {i : Nat} (x : IsXI bl h it a i) : ∃ o, h.get? it = some o ∧ o.data = .fields #[.ref a, .int i 0] := by
  unfold IsXI at x
  split at x
  · obtain ⟨o, h1, _, h3⟩ := x; exact ⟨o, h1, h3⟩
  · obtain ⟨o, h1, _, h3⟩ := x; exact ⟨o, h1, h3⟩
theorem IsXI.at {bl : Bool} {h h' : Heap} {it a : Addr} {i : Nat} (x : IsXI bl h it a i) (k : ∀ o, h.get? it = some o → h'.get? it = some o) : IsXI bl h' it a i := by
  unfold IsXI at *
  split
  · rename_i t; rw [if_pos t] at x; exact Heap.IsListIter.at x k
  · rename_i t; rw [if_neg t] at x; exact Heap.IsTupleIter.at x k
theorem drawsX {prog : Program} {w : World} {A : Around} (hh : A.handled = none) (bl : Bool) (it l : Addr) (hne : l ≠ it) (items : Array Value) :
    Draws prog w A it [it, l] items.size (fun i v => items[i]? = some v) (fun i h => IsXI bl h it l i ∧ IsX bl h l items) := by
  cases bl with
  | true => exact Draws.list hh it l hne items
  | false => exact Draws.tuple hh it l hne items
theorem inv_x {X : Cx} {pins : List (Addr × Obj)} {σ : L2.St} {H : Hp} {s : Shared} {bl : Bool} {a : Addr} {xs : List V} (I : Inv X pins σ H s) (h : SqX X.K bl H a xs) : ∃ its : List Value, Vals xs its ∧ IsX bl s.heap a its.toArray ∧ ∃ o, s.heap.get? a = some o := by
  cases bl with
  | true =>
    obtain ⟨its, rv, p, _⟩ := I.list (show SqL X.K H a xs from h)
    obtain ⟨o, _, ho, _⟩ := id p
    exact ⟨its, rv, p.isList, o, ho⟩
  | false =>
    obtain ⟨its, rv, p, _⟩ := I.tuple (show SqT X.K H a xs from h)
    obtain ⟨o, ho, _⟩ := id p
    exact ⟨its, rv, p, o, ho⟩
theorem sqX_inj {X : Cx} {pins : List (Addr × Obj)} {σ : L2.St} {H : Hp} {s : Shared} {bl : Bool} {a : Addr} {xs ys : List V} (I : Inv X pins σ H s) (h : SqX X.K bl H a xs) (h' : SqX X.K bl H a ys) : xs = ys := by
  cases bl with
  | true => exact I.list_inj h h'
  | false => exact I.tuple_inj h h'
theorem sep_of {z TI TO i1 i2 a b : Addr} (D : ZipApart z TI TO i1 i2 a b) : ZipSep2 z TI TO i1 i2 [i1, a] [i2, b] where
  TIz := D.TIz
  TOz := D.TOz
  TITO := D.TITO
  TIi1 := D.TIi1
  mem1 := by simp
  zf1 := by simp [Ne.symm D.i1z, Ne.symm D.l1z]
  Tf1 := by simp [D.TOi1, Ne.symm D.l1TO]
  TIi2 := D.TIi2
  mem2 := by simp
  zf2 := by simp [Ne.symm D.i2z, Ne.symm D.l2z]
  Tf2 := by simp [D.TOi2, Ne.symm D.l2TO]
  sep1_2 := by simp [D.i12, Ne.symm D.l2i1]
  sep2_1 := by simp [Ne.symm D.i12, Ne.symm D.l1i2]
theorem turn_zipX {P : Program} {w : World} {K : PySem.W.Frag} {elts : List Expr} {kk : Nat} {tpos : Pos} {b1 b2 : Bool} {a b z TI TO i1 i2 : Addr} (D : ZipApart z TI TO i1 i2 a b) :
    Turn P w K (.Tuple elts kk tpos) (ItzX K b1 b2 a b) [z, TI, TO, i1, i2] z (fun i h => IsZip h z TI TO .none ∧ IsPair h TI (.ref i1) (.ref i2) ∧ (∃ x y, IsPair h TO x y) ∧ IsXI b1 h i1 a i ∧ IsXI b2 h i2 b i) where
  mem := by simp
  obj := fun i h st c hc => by
    obtain ⟨hz, hTI, ⟨x, y, hTO⟩, h1, h2⟩ := st
    obtain ⟨o1, e1, d1⟩ := h1.obj
    obtain ⟨o2, e2, d2⟩ := h2.obj
    have e' : c = z ∨ c = TI ∨ c = TO ∨ c = i1 ∨ c = i2 := by simpa using hc
    rcases e' with q | q | q | q | q
    · rw [q]; exact ⟨_, hz, fun v q => nomatch q⟩
    · rw [q]; exact ⟨_, hTI, fun v q => nomatch q⟩
    · rw [q]; exact ⟨_, hTO, fun v q => nomatch q⟩
    · rw [q]; exact ⟨o1, e1, fun v q => by rw [d1] at q; cases q⟩
    · rw [q]; exact ⟨o2, e2, fun v q => by rw [d2] at q; cases q⟩
  keep := fun i h h' st k => by
    obtain ⟨hz, hTI, ⟨x, y, hTO⟩, h1, h2⟩ := st
    exact ⟨k z (by simp) _ hz, k TI (by simp) _ hTI, ⟨x, y, k TO (by simp) _ hTO⟩, h1.at fun o q => k i1 (by simp) o q, h2.at fun o q => k i2 (by simp) o q⟩
  item := by
    intro X hP hw hK hc i pins s σ H E I hf st hg
    subst hP hw hK
    obtain ⟨hz, hTI, ⟨x0, y0, hTO⟩, h1, h2⟩ := st
    obtain ⟨xs, ys, x, y, hqx, hqy, hx, hy⟩ := hg
    obtain ⟨its, rv, p, _, _⟩ := inv_x I hqx
    obtain ⟨its2, rv2, p2, _, _⟩ := inv_x I hqy
    obtain ⟨u, hu, ru⟩ := rv.get hx
    obtain ⟨u2, hu2, ru2⟩ := rv2.get hy
    have hzl : z < s.heap.objs.size := Heap.lt_size hz
    have lt1 : i < its.toArray.size := by simpa using (List.getElem?_eq_some_iff.mp hu).1
    have lt2 : i < its2.toArray.size := by simpa using (List.getElem?_eq_some_iff.mp hu2).1
    refine wpAny_pyNext_zipD2_item (sep_of D) (drawsX (prog := X.prog) (w := X.w) (A := X.A.in1) (I.ok.hd hc) b1 i1 a D.l1i1 its.toArray) (drawsX (prog := X.prog) (w := X.w) (A := X.A.in1) (I.ok.hd hc) b2 i2 b D.l2i2 its2.toArray) hz hTI hTO ⟨h1, p⟩ ⟨h2, p2⟩ lt1 lt2 fun u' u2' h' tk e1 e2 z' TO' h1' h2' hT hsz hk => ?_
    have e1 : u' = u := by
      have e1 : its.toArray[i]? = some u' := e1
      simp at e1; rw [hu] at e1; exact (Option.some.inj e1).symm
    have e2 : u2' = u2 := by
      have e2 : its2.toArray[i]? = some u2' := e2
      simp at e2; rw [hu2] at e2; exact (Option.some.inj e2).symm
    subst e1 e2
    refine ⟨_, rfl, wpAny_letOwnedTupleGo_zip (s := { s with heap := h', toks := tk }) z' fun h'' z'' sb => ?_⟩
    have hT2 : h''.get? s.heap.objs.size = some { cls := .type "tuple", data := .seq #[u', u2'] } := (sb.2 _ (Nat.ne_of_gt hzl)).trans hT
    have new : ObjOk X.prog X.w (upd H s.heap.objs.size (.tup [x, y])) h'' s.heap.objs.size (.tup [x, y]) :=
      ⟨by show 2 ≤ sizeLine; decide, [u', u2'], .cons ru (.cons ru2 .nil), ⟨_, hT2, rfl, _, rfl⟩⟩
    have I1 : Inv X pins σ (upd H s.heap.objs.size (.tup [x, y])) { s with heap := h'', toks := tk } :=
      I.turnedNew (t' := tk) (ch := [z, TI, TO, i1, i2]) (fun c o hb q => (sb.2 c (fun q' => hb (by simp [q']))).trans (hk c o (fun q' => hb (by simp [q'])) (fun q' => hb (by simp [q'])) (fun q' => hb (by simp [q'])) (fun q' => hb (by simp [q'])) q)) hf (Nat.le_refl _) new
    refine ⟨.ref s.heap.objs.size, _, I1, rfl, ⟨_, x, y, rfl, I.hok.fresh (Nat.le_refl _), rfl, fun l hl => by rw [sqX_inj I hl hqx]; exact hx, fun l hl => by rw [sqX_inj I hl hqy]; exact hy⟩, ⟨z'', ?_, ⟨u', u2', ?_⟩, ?_, ?_⟩, fun c hcm => ?_⟩
    · exact (sb.2 _ D.TIz).trans (hk _ _ D.TIz D.TITO D.TIi1 D.TIi2 hTI)
    · exact (sb.2 _ D.TOz).trans TO'
    · exact h1'.1.at fun o q => (sb.2 _ D.i1z).trans q
    · exact h2'.1.at fun o q => (sb.2 _ D.i2z).trans q
    · have hlt : c < s.heap.objs.size := by
        obtain ⟨o1, g1, _⟩ := h1.obj
        obtain ⟨o2, g2, _⟩ := h2.obj
        have e' : c = z ∨ c = TI ∨ c = TO ∨ c = i1 ∨ c = i2 := by simpa using hcm
        rcases e' with q | q | q | q | q
        · rw [q]; exact hzl
        · rw [q]; exact Heap.lt_size hTI
        · rw [q]; exact Heap.lt_size hTO
        · rw [q]; exact Heap.lt_size g1
        · rw [q]; exact Heap.lt_size g2
      rw [upd_ne (Nat.ne_of_lt hlt)]
      exact (hf c hcm).1
  done := by
    intro X hP hw hK hc i pins s σ H E I hf st hg
    subst hP hw hK
    obtain ⟨hz, hTI, ⟨x0, y0, hTO⟩, h1, h2⟩ := st
    obtain ⟨xs, ys, hqx, hqy, hl1, hl2, hend⟩ := hg
    obtain ⟨its, rv, p, _, _⟩ := inv_x I hqx
    obtain ⟨its2, rv2, p2, _, _⟩ := inv_x I hqy
    have l1 := rv.length
    have l2 := rv2.length
    exact wpAny_pyNext_zipD2_end (sep_of D) (drawsX (prog := X.prog) (w := X.w) (A := X.A.in1) (I.ok.hd hc) b1 i1 a D.l1i1 its.toArray) (drawsX (prog := X.prog) (w := X.w) (A := X.A.in1) (I.ok.hd hc) b2 i2 b D.l2i2 its2.toArray) hz hTI hTO ⟨h1, p⟩ ⟨h2, p2⟩ (by simp; omega) (by simp; omega) (by simp; omega) fun h' tk hk => ⟨rfl, I.turnedL (t' := tk) (ch := [z, TI, TO, i1, i2]) (fun c o hb q =>
      hk c o (fun q' => hb (by simp [q'])) (fun q' => hb (by simp [q'])) (fun q' => hb (by simp [q'])) (fun q' => hb (by simp [q'])) q) hf⟩
  self := fun A i s Q E st h => wpAny_pyIter_zip st.1 h
end Z

/-! Z47: for .. in zip(a, b). -/
namespace Z
open PySem PySem.Spec PyProof.Rows L2
def itX (bl : Bool) (a : Addr) : Obj := if bl = true then { cls := .type "list_iterator", data := .fields #[.ref a, .int 0 0] } else { cls := .type "tuple_iterator", data := .fields #[.ref a, .int 0 0] }
theorem beginsX (bl : Bool) (a : Addr) (items : Array Value) : Begins (.ref a) (itX bl a) fun h => IsX bl h a items := by
  cases bl with
  | true => exact begins_list a items
  | false => exact begins_tuple a items
theorem isXI_new {bl : Bool} {h : Heap} {it a : Addr} (e : h.get? it = some (itX bl a)) : IsXI bl h it a 0 := by
  cases bl with
  | true => exact ⟨_, e, rfl, rfl⟩
  | false => exact ⟨_, e, rfl, rfl⟩
def iZipX (K : PySem.W.Frag) (ta : TA) : TI := fun σ H R => ta σ H fun vs H1 => ∃ a b xs ys b1 b2, vs = [.ref a, .ref b] ∧ SqX K b1 H1 a xs ∧ SqX K b2 H1 b ys ∧ R (ItzX K b1 b2 a b) H1
theorem pi_zipX {X : Cx} {e e2 : Expr} {ta : TA} {p pos tpos : Pos} {elts : List Expr} {kk : Nat} (hg : Gl X "zip") (hm : X.mg "zip" = none) (ha : PA X [e, e2] ta)
    (hs : starEach [e, e2] X.env = (false, eval e X.env) :: starEach [e2] X.env := by rfl) (hpl : (backTo pos (starEach [e2] X.env)).any (·.1) = false := by rfl) :
    PI X (.Tuple elts kk tpos) (.Call (.Name "zip" p) [e, e2] [] pos) (iZipX X.K ta) := by
  refine ⟨fun pins s σ H R I h => ?_⟩
  refine Call_ (ld_blt I hg hm PyProof.Rows.boot_zip (PyProof.Rows.callWith_type1 (thn (ha.run pos pins s σ H _ I h) fun us s1 ⟨vs, H1, I1, r1, q1⟩ => ?_) hs hpl))
  obtain ⟨a, b, xs, ys, b1, b2, ex, hqx, hqy, q⟩ := q1
  subst ex
  obtain ⟨u1, u2, rfl, r, r'⟩ := vals2 r1
  cases r
  cases r'
  have fresh5 : ∀ c, c ∈ [s1.heap.objs.size + 4, s1.heap.objs.size + 2, s1.heap.objs.size + 3, s1.heap.objs.size, s1.heap.objs.size + 1] → FpOk X pins H1 c := fun c hcm => by
    have e' : c = s1.heap.objs.size + 4 ∨ c = s1.heap.objs.size + 2 ∨ c = s1.heap.objs.size + 3 ∨ c = s1.heap.objs.size ∨ c = s1.heap.objs.size + 1 := by simpa using hcm
    have hle : s1.heap.objs.size ≤ c := by
      rcases e' with z | z | z | z | z
      · rw [z]; exact Nat.le_add_right _ _
      · rw [z]; exact Nat.le_add_right _ _
      · rw [z]; exact Nat.le_add_right _ _
      · rw [z]; exact Nat.le_refl _
      · rw [z]; exact Nat.le_add_right _ _
    exact I1.fpOk hle (I1.hok.fresh hle)
  obtain ⟨its, rv, p1, o1, ho1⟩ := inv_x I1 hqx
  obtain ⟨its2, rv2, p2, o2, ho2⟩ := inv_x I1 hqy
  refine zip_begins2 (beginsX b1 a its.toArray) (beginsX b2 b its2.toArray) p1 p2 fun h' hz hTI hTO g1 g2 hsz hk => wpAny_pyIter_zip hz ?_
  have I2 : Inv X pins σ H1 { s1 with heap := h' } := I1.kept (t' := s1.toks) hk
  exact ⟨s1.heap.objs.size + 4, [s1.heap.objs.size + 4, s1.heap.objs.size + 2, s1.heap.objs.size + 3, s1.heap.objs.size, s1.heap.objs.size + 1], _, _, H1, rfl, I2, turn_zipX (PySem.W.ktu_apart s1.heap.objs.size a b (Heap.lt_size ho1) (Heap.lt_size ho2)), ⟨hz, hTI, ⟨_, _, hTO⟩, isXI_new g1, isXI_new g2⟩, fresh5, q⟩
/-! ### a new list that is frozen at once -/
def tmpL : LR → Fr → Res LR
  | .cl (.lst _ _ ds), τ => .ok (.cl (.fz (.list ds))) τ
  | .cl (.fz d), τ => .ok (.cl (.fz d)) τ
  | .sl i, τ => .ok (.sl i) τ
  | _, _ => .stuck
def zTmp (a : ZD) : ZD := fun τ => (a τ).bind tmpL
section
variable [TB : Tabs]
variable {X : Cx} {K : PySem.W.Frag} {W : WZ} {σ σ1 σ2 : Z.St} {G G1 G2 H H1 H2 : Hp} {τ τ1 τ2 : Fr} {v x y w u : V} {l m : LR} {d e k : PyData} {a b c : Expr} {p pos : Pos} {da db dc : ZD}
theorem tmp_fin {Q : VK} (s : SR K G τ σ H) (x : Ex K σ G τ H G1 τ1 H1) (r : RL K σ H τ1 G1 H1 v l) (h : Fin K W σ G τ H (tmpL l τ1) Q) : Q v H1 := by
  cases l with
  | sl i => exact h G1 H1 v x r
  | cl c =>
    cases c with
    | fz d => exact h G1 H1 v x r
    | lst b k ds =>
      obtain ⟨G3, y3, q3⟩ := Ex.freezeT s x r
      exact h G3 H1 v y3 ⟨q3, fun o => nomatch o⟩
    | _ => exact h.elim
theorem ze_tmp (ha : ZE X W a da) : ZE X W a (zTmp da) := by
  refine ⟨⟨fun pins s σ H Q I h => ha.pe.run pins s σ H Q I ?_⟩⟩
  obtain ⟨G, τ, s, h⟩ := h
  exact nextE (Ex.refl s) h fun l τ2 G2 H2 v _ y r q => tmp_fin s y r q
/-- no new thing -/
def calmL : LR → Bool
  | .sl _ => true
  | .cl (.fz _) => true
  | _ => false
theorem RL.at (r : RL K σ H τ1 G1 H1 v l) (hc : calmL l = true) (m1 : Sub G1 G2) : RL K σ H2 τ1 G2 H1 v l := by
  cases l with
  | sl i => exact r
  | cl c =>
    cases c with
    | fz d => exact ⟨dp_mono m1 _ _ r.1, fun o => nomatch o⟩
    | _ => cases hc
def zipL (ds es : List PyData) : List PyData := List.zipWith (fun d e => .tuple [d, e]) ds es
def kZp (τ : Fr) (l m : LR) : Option (List PyData × List Nat × Bool) → Option (List PyData × List Nat × Bool) → Res (List PyData × List Nat)
  | some (ds, ss, _), some (es, ts, _) => if calmL l && calmL m then .ok (zipL ds es, ss ++ ts) τ else .stuck
  | _, _ => .stuck
def zZip (a b : ZD) : ZID := fun τ => (zTmp a τ).bind fun l τ1 => (zTmp b τ1).bind fun m τ2 => kZp τ2 l m (seqL τ2 l) (seqL τ2 m)
theorem walk_zipX {b1 b2 : Bool} {a b : Addr} {xs ys : List V} : Walk (ItzX K b1 b2 a b) (min xs.length ys.length) (fun H => SqX K b1 H a xs ∧ SqX K b2 H b ys) (YPair (fun i => xs[i]?) (fun i => ys[i]?)) := by
  refine ⟨fun i _ hi q => ⟨xs, ys, xs[i]'(by omega), ys[i]'(by omega), q.1, q.2, by simp, by simp⟩, fun _ q => ⟨xs, ys, q.1, q.2, by omega, by omega, by omega⟩, fun i H v H' _ q y => ?_⟩
  obtain ⟨T, x, y, h1, h2, h3, h4, h5⟩ := y
  exact ⟨T, x, y, h1, h2, h3, h4 xs q.1, h5 ys q.2⟩
theorem zi_zip {elts : List Expr} {kk : Nat} {tpos : Pos} (hg : Gl X "zip") (hm : X.mg "zip" = none) (ha : ZE X W a da) (hb : ZE X W b db) (hs : starEach [a, b] X.env = (false, eval a X.env) :: starEach [b] X.env := by rfl)
    (hs2 : starEach [b] X.env = (false, eval b X.env) :: starEach [] X.env := by rfl) (hpl : (backTo pos (starEach [b] X.env)).any (·.1) = false := by rfl) : ZI X W (.Tuple elts kk tpos) (.Call (.Name "zip" p) [a, b] [] pos) (zZip da db) := by
  refine ⟨⟨fun pins s σ H R I h => (pi_zipX hg hm (pa_cons (ze_tmp ha).pe (pa_cons (ze_tmp hb).pe pa_nil hs2) hs) hs hpl).run pins s σ H R I ?_⟩⟩
  show tZ X.K W (zTmp da) σ H fun x H1 => tZ X.K W (zTmp db) σ H1 fun y H2 => ∃ a b xs ys b1 b2, [x, y] = [.ref a, .ref b] ∧ SqX X.K b1 H2 a xs ∧ SqX X.K b2 H2 b ys ∧ R (ItzX X.K b1 b2 a b) H2
  obtain ⟨G, τ, s, h⟩ := h
  refine nextI (Ex.refl s) h fun l τ1 G1 H1 v e1 x1 r1 h1 => ?_
  refine nextI x1 h1 fun m τ2 G2 H2 u e2 x2 r2 h2 => ?_
  have x := x1.trans x2
  have r1' := r1.keep s x1 x2
  cases E1 : seqL τ2 l with
  | none => rw [E1] at h2; exact h2.elim
  | some t1 =>
  obtain ⟨ds, ss, bl⟩ := t1
  cases E2 : seqL τ2 m with
  | none => rw [E1, E2] at h2; exact h2.elim
  | some t2 =>
  obtain ⟨es, ts, bl2⟩ := t2
  rw [E1, E2] at h2
  have h2 : FinI X.K W σ G τ H (if calmL l && calmL m then .ok (zipL ds es, ss ++ ts) τ2 else .stuck) R := h2
  by_cases hc : (calmL l && calmL m) = true
  · rw [if_pos hc] at h2
    rw [Bool.and_eq_true] at hc
    have r1'' : RL X.K σ H2 τ2 G2 H2 v l := r1'.at hc.1 Sub.refl
    obtain ⟨G3, y3, hs3, p3, vs, rfl, q1, hq1⟩ := seqL_ok x.sr (Ex.refl x.sr) r1'' E1
    have r2'' : RL X.K σ H2 τ2 G3 H2 u m := r2.at hc.2 y3.kp.1
    obtain ⟨G4, y4, hs4, p4, ws, rfl, q2, hq2⟩ := seqL_ok y3.sr (Ex.refl y3.sr) r2'' E2
    have q1' := dps_mono y4.kp.1 _ _ q1
    have sq1 : ∀ G5 H5, Sub G4 G5 → Sub G5 H5 → (∀ a, LkA σ ss a → H5 a = H2 a) → SqX X.K bl H5 p3 vs := fun G5 H5 m1 m2 m3 => by
      unfold SqX
      cases bl with
      | true => rw [if_pos rfl] at hq1 ⊢; exact hq1.2 G5 H5 (y4.kp.1.trans m1) m2 m3
      | false => rw [if_neg Bool.false_ne_true] at hq1 ⊢; exact sqt_mono m2 (sqt_mono m1 (sqt_mono y4.kp.1 hq1))
    have sq2 : ∀ G5 H5, Sub G4 G5 → Sub G5 H5 → (∀ a, LkA σ ts a → H5 a = H2 a) → SqX X.K bl2 H5 p4 ws := fun G5 H5 m1 m2 m3 => by
      unfold SqX
      cases bl2 with
      | true => rw [if_pos rfl] at hq2 ⊢; exact hq2.2 G5 H5 m1 m2 m3
      | false => rw [if_neg Bool.false_ne_true] at hq2 ⊢; exact sqt_mono m2 (sqt_mono m1 hq2)
    refine ⟨p3, p4, vs, ws, bl, bl2, rfl, sq1 G4 H2 Sub.refl y4.sr.sub (fun _ _ => rfl), sq2 G4 H2 Sub.refl y4.sr.sub (fun _ _ => rfl), ?_⟩
    refine h2 G4 H2 _ (x.trans (y3.trans y4)) (fun i hi => ?_) (itOk_pair walk_zipX ?_ (fun G5 H5 m1 m2 m3 => ⟨sq1 G5 H5 m1 m2 fun a ⟨i, hi, e⟩ => m3 a ⟨i, List.mem_append_left _ hi, e⟩, sq2 G5 H5 m1 m2 fun a ⟨i, hi, e⟩ => m3 a ⟨i, List.mem_append_right _ hi, e⟩⟩) fun i x y hi e1 e2 => ?_)
    · rcases List.mem_append.mp hi with hi | hi
      · exact hs3 i hi
      · exact hs4 i hi
    · unfold zipL
      rw [List.length_zipWith, dps_len q1', dps_len q2]
    · obtain ⟨d, g1, g2⟩ := dps_getV q1' e1
      obtain ⟨e, g3, g4⟩ := dps_getV q2 e2
      exact ⟨d, e, by unfold zipL; rw [List.getElem?_zipWith, g1, g3], g2, g4⟩
  · rw [if_neg hc] at h2; exact h2.elim
end
/-! ### equations -/
section
variable {τ : Fr} {a b : ZD} {l m : LR} {d : PyData} {ds es : List PyData} {ss ts : List Nat} {b1 b2 k : Bool} {i : Nat}
@[simp] theorem zTmp_ev : zTmp a τ = (a τ).bind tmpL := Eq.trans rfl rfl
@[simp] theorem tmpL_sl : tmpL (.sl i) τ = .ok (.sl i) τ := Eq.trans rfl rfl
@[simp] theorem tmpL_fz : tmpL (.cl (.fz d)) τ = .ok (.cl (.fz d)) τ := Eq.trans rfl rfl
@[simp] theorem tmpL_lst : tmpL (.cl (.lst b1 k ds)) τ = .ok (.cl (.fz (.list ds))) τ := Eq.trans rfl rfl
def kZb (l m : LR) (τ : Fr) : Res (List PyData × List Nat) := kZp τ l m (seqL τ l) (seqL τ m)
def kZa (b : ZD) (l : LR) (τ : Fr) : Res (List PyData × List Nat) := ((b τ).bind tmpL).bind (kZb l)
@[simp] theorem zZip_ev : zZip a b τ = ((a τ).bind tmpL).bind (kZa b) := Eq.trans rfl rfl
@[simp] theorem kZa_ev : kZa b l τ = ((b τ).bind tmpL).bind (kZb l) := Eq.trans rfl rfl
@[simp] theorem kZb_ev : kZb l m τ = kZp τ l m (seqL τ l) (seqL τ m) := Eq.trans rfl rfl
@[simp] theorem calmL_sl : calmL (.sl i) = true := Eq.trans rfl rfl
@[simp] theorem calmL_fz : calmL (.cl (.fz d)) = true := Eq.trans rfl rfl
theorem kZp_if : kZp τ l m (some (ds, ss, b1)) (some (es, ts, b2)) = if calmL l && calmL m then .ok (zipL ds es, ss ++ ts) τ else .stuck := Eq.trans rfl rfl
@[simp] theorem kZp_ev (h : (calmL l && calmL m) = true) : kZp τ l m (some (ds, ss, b1)) (some (es, ts, b2)) = .ok (zipL ds es, ss ++ ts) τ := by rw [kZp_if, if_pos h]
theorem zipL_ty {α β : Type} {e1 : α → PyData} {e2 : β → PyData} (xs : List α) (ys : List β) : zipL (xs.map e1) (ys.map e2) = (xs.zip ys).map fun p => PyData.tuple [e1 p.1, e2 p.2] := by
  unfold zipL
  rw [List.zipWith_map, List.zip, List.map_zipWith]
end
end Z

/-! Z48: a, b = x, y for names that comprehensions catch. -/
namespace Z
open PySem PySem.Spec PyProof.Rows L2
variable [TB : Tabs]
section
variable {X : Cx} {K : PySem.W.Frag} {W : WZ} {σ σ1 σ2 : Z.St} {G G1 G2 H H1 H2 : Hp} {τ τ1 τ2 : Fr} {v x y w : V} {l : LR} {d e : PyData} {a b c : Expr} {tg : Expr} {p pos : Pos} {da db dc : ZD}
theorem zs_par2c {i j : Nat} {nx ny : Str} {px py pt : Pos} {kt k2 : Nat} {pt2 : Pos} {das : ZLD} (hc : X.calm = true) (hN : X.N.Nodup) (hi : X.N[i]? = some nx) (hj : X.N[j]? = some ny) (hij : i ≠ j)
    (hx : Loc X.env.scope nx) (hy : Loc X.env.scope ny) (ha : ZL X W [a, b] das)
    (hw : swappedStores [.Tuple [.Name nx px, .Name ny py] kt pt] (.Tuple [a, b] k2 pt2) X.env = pure none := by rfl)
    (hf : X.fn nx = true ∨ X.env.scope.names.lookup nx = some .local := by first | exact .inl rfl | exact .inr rfl | assumption) (hf2 : X.fn ny = true ∨ X.env.scope.names.lookup ny = some .local := by first | exact .inl rfl | exact .inr rfl | assumption)
    (hn : (assignEach [.Name nx px, .Name ny py] X.env).length = 2 := by rfl) (hst : (assignEach [.Name nx px, .Name ny py] X.env).findIdx? (·.1) = none := by rfl)
    (hs : swapsWithSole [.Tuple [.Name nx px, .Name ny py] kt pt] (.Tuple [a, b] k2 pt2) pos.line X.env = pure false := by rfl) :
    ZS X W (.Assign [.Tuple [.Name nx px, .Name ny py] kt pt] (.Tuple [a, b] k2 pt2) pos) (zPar2 i j das) := by
  refine ⟨⟨fun pins s σ H D I h => (ps_asg (pe_tup ha.pa) (pg_tup hc (pgs_cons (pg_name hN hi hx hf) (pgs_cons (pg_name hN hj hy hf2) pgs_nil)) hn hst) hs hw).run pins s σ H D I ?_⟩⟩
  obtain ⟨G, τ, s, h⟩ := h
  refine nextLS s h fun ls τ1 G1 H1 vs e x r h => ?_
  split at h
  · rename_i c1 c2
    match vs, r with
    | [v, w], r =>
      have r1 := r.get (i := 0) rfl rfl
      have r2 := r.get (i := 1) rfl rfl
      refine ⟨by show 2 ≤ sizeLine; decide, fun p hp => ⟨p, [v, w], rfl, SqT.of upd_same, rfl, v, [w], rfl, w, [], rfl, rfl, ?_⟩⟩
      have sx : Sx X.K G τ σ H G1 ((τ1.set i (some c1)).set j (some c2)) ((σ.set i (some v)).set j (some w)) H1 := ?_
      · exact h G1 _ _ (sx.trans (Ex.laid sx.sr hp).sx)
      refine Sx.setMore (Sx.set s x r1 i) r2.1 r2.2 (fun o k ck hk ok => ?_) j
      rcases getElem?_set_some hk with ⟨e1, e2, hl⟩ | ⟨e1, hk⟩
      · cases e2
        subst e1
        rw [List.getElem?_set, if_pos rfl, if_pos (by rw [← x.sr.len]; exact hl)]
        intro z
        cases z
        exact r.apart (i := 0) (j := 1) (by decide) rfl rfl ok o rfl rfl
      · rw [List.getElem?_set_ne (fun q => e1 q.symm)]
        exact RL.fresh s x r2 o k ck hk ok
  · exact h.elim
end
end Z

/-! Z49: lemmas that most laws want. -/
namespace Z
open PySem PySem.Spec PyProof.Rows L2
section
variable {τ : Fr}
theorem pAdd_tup {xs ys : List PyData} (h : xs.length + ys.length ≤ 16777216) : pAdd (.tuple xs) (.tuple ys) = some (.sc (.tuple (xs ++ ys))) := by
  show (if xs.length + ys.length ≤ sizeLine then some (RO.sc (.tuple (xs ++ ys))) else none) = _
  rw [if_pos (by rw [sizeLine_eq]; exact h)]
theorem pAdd_lst {xs ys : List PyData} (h : xs.length + ys.length ≤ 16777216) : pAdd (.list xs) (.list ys) = some (.nl (xs ++ ys)) := by
  show (if xs.length + ys.length ≤ sizeLine then some (RO.nl (xs ++ ys)) else none) = _
  rw [if_pos (by rw [sizeLine_eq]; exact h)]
theorem rng_at {m n x : Nat} {xs : List Nat} (h : List.range m ++ x :: xs = List.range n) : x = m ∧ m < n ∧ List.range (m + 1) ++ xs = List.range n := by
  have hl : m < n := by
    have := congrArg List.length h
    simp at this; omega
  have hx : x = m := by
    have e : (List.range m ++ x :: xs)[m]? = (List.range n)[m]? := by rw [h]
    rw [List.getElem?_append_right (by simp), List.getElem?_range hl] at e
    simpa using e
  refine ⟨hx, hl, ?_⟩
  rw [List.range_succ, List.append_assoc, ← h, hx]
  rfl
theorem rng_end {m n : Nat} (h : List.range m ++ [] = List.range n) : m = n := by
  have := congrArg List.length h
  simpa using this
/-- as Gv, with what is true of the frame behind -/
def Gw (q : ZSD) (τ : Fr) (c : Cell) (P : Fr → Prop) : Prop := ∃ τ', finB (q τ) = .ok c τ' ∧ P τ'
theorem Gw.run {n : Nat} {q : ZSD} {cs : List Cell} {c : Cell} {P : Fr → Prop} (h : Gw q (frame0 n cs) c P) : ∃ τ', runB n q cs = .ok c τ' ∧ P τ' := by
  obtain ⟨τ', e, p⟩ := h
  exact ⟨τ', by rw [runB_ev]; exact e, p⟩
theorem Gw.seq {p q : ZSD} {τ : Fr} {c : Cell} {P : Fr → Prop} (h : ∃ τ1, p τ = .ok .nx τ1 ∧ Gw q τ1 c P) : Gw (zSeq p q) τ c P := by
  obtain ⟨τ1, e, τ2, e2, h2⟩ := h
  exact ⟨τ2, by rw [zSeq_ev, e, kSeq_nx, e2], h2⟩
theorem Gw.ret {p : ZSD} {τ : Fr} {c : Cell} {P : Fr → Prop} (h : ∃ τ1, p τ = .ok (.rt c) τ1 ∧ P τ1) : Gw p τ c P := by
  obtain ⟨τ1, e, h⟩ := h
  exact ⟨τ1, by rw [e]; rfl, h⟩
theorem Gw.stop {p q : ZSD} {τ : Fr} {c : Cell} {P : Fr → Prop} (h : ∃ τ1, p τ = .ok (.rt c) τ1 ∧ P τ1) : Gw (zSeq p q) τ c P := by
  obtain ⟨τ1, e, h⟩ := h
  exact ⟨τ1, by rw [zSeq_ev, e]; rfl, h⟩
theorem Gv.stop {p q : ZSD} {τ : Fr} {c : Cell} (h : ∃ τ1, p τ = .ok (.rt c) τ1) : Gv (zSeq p q) τ c := by
  obtain ⟨τ1, h⟩ := h
  exact ⟨τ1, by simp [h]⟩
/-! ### slices at written places -/
theorem cutD_toI {α : Type} {xs : List α} {i : Int} (h : 0 ≤ i) : cutD xs none (some i) = xs.take i.toNat := by
  obtain ⟨n, rfl⟩ := Int.eq_ofNat_of_zero_le h
  exact cutD_to
theorem cutD_fromI {α : Type} {xs : List α} {i : Int} (h : 0 ≤ i) : cutD xs (some i) none = xs.drop i.toNat := by
  obtain ⟨n, rfl⟩ := Int.eq_ofNat_of_zero_le h
  exact cutD_from
theorem sIx_pos {n d k : Nat} : HT.sIx n d (some (k : Int)) = min k n := by
  unfold HT.sIx
  simp
  first
    | omega
    | (split <;> omega)
    | skip
theorem sIx_neg {n d : Nat} : HT.sIx n d (some (-1)) = n - 1 := by
  unfold HT.sIx
  simp
  first
    | omega
    | (split <;> omega)
    | skip
theorem cutD_last {α : Type} {xs : List α} : cutD xs none (some (-1)) = xs.dropLast := by
  unfold cutD
  rw [sIx_neg, show HT.sIx xs.length 0 none = 0 from rfl, List.drop_zero, List.dropLast_eq_take]
  rfl
theorem cutD_both {α : Type} {xs : List α} {i j : Nat} : cutD xs (some (i : Int)) (some (j : Int)) = (xs.drop i).take (j - i) := by
  unfold cutD
  rw [sIx_pos, sIx_pos]
  by_cases h : i ≤ xs.length
  · rw [Nat.min_eq_left h]
    by_cases h2 : j ≤ xs.length
    · rw [Nat.min_eq_left h2]
    · rw [Nat.min_eq_right (by omega), List.take_of_length_le (by simp), List.take_of_length_le (by simp; omega)]
  · rw [Nat.min_eq_right (a := i) (by omega), List.drop_of_length_le (by omega), List.drop_of_length_le (by omega)]
    simp
theorem bestMax {xs : List Nat} {m : Nat} (h1 : m ∈ xs) (h2 : ∀ x ∈ xs, x ≤ m) : bestO PySem.W.maxD (xs.map fun k : Nat => PyData.int (k : Nat)) = some (.sc (.int (m : Nat))) := by
  cases xs with
  | nil => cases h1
  | cons x xs =>
    rw [bestO_ty (enc := fun k : Nat => PyData.int (k : Nat)), maxD_nat]
    have a := h2 _ (maxN_mem x xs)
    have b := maxN_ge x xs m h1
    rw [show maxN x xs = m by omega]
theorem bestMax_ex {xs : List Nat} (h : xs ≠ []) : ∃ m ∈ xs, bestO PySem.W.maxD (xs.map fun k : Nat => PyData.int (k : Nat)) = some (.sc (.int (m : Nat))) := by
  cases xs with
  | nil => exact absurd rfl h
  | cons x xs => exact ⟨_, maxN_mem x xs, by rw [bestO_ty (enc := fun k : Nat => PyData.int (k : Nat)), maxD_nat]⟩
theorem bestMin_ex {xs : List Nat} (h : xs ≠ []) : ∃ m ∈ xs, bestO PySem.W.minD (xs.map fun k : Nat => PyData.int (k : Nat)) = some (.sc (.int (m : Nat))) := by
  cases xs with
  | nil => exact absurd rfl h
  | cons x xs => exact ⟨_, minN_mem x xs, by rw [bestO_ty (enc := fun k : Nat => PyData.int (k : Nat)), minD_nat]⟩
theorem bestMin {xs : List Nat} {m : Nat} (h1 : m ∈ xs) (h2 : ∀ x ∈ xs, m ≤ x) : bestO PySem.W.minD (xs.map fun k : Nat => PyData.int (k : Nat)) = some (.sc (.int (m : Nat))) := by
  cases xs with
  | nil => cases h1
  | cons x xs =>
    rw [bestO_ty (enc := fun k : Nat => PyData.int (k : Nat)), minD_nat]
    have a := h2 _ (minN_mem x xs)
    have b := minN_le x xs m h1
    rw [show minN x xs = m by omega]
theorem srt_nat (xs : List Nat) : sortableB (xs.map fun k : Nat => PyData.int (k : Nat)) = true := by
  unfold sortableB
  rw [Bool.or_eq_true, Bool.or_eq_true]
  left; right
  rw [List.all_eq_true]
  intro d hd
  obtain ⟨l, _, rfl⟩ := List.mem_map.mp hd
  rfl
theorem srt_int (xs : List Int) : sortableB (xs.map PyData.int) = true := by
  unfold sortableB
  rw [Bool.or_eq_true, Bool.or_eq_true]
  left; right
  rw [List.all_eq_true]
  intro d hd
  obtain ⟨l, _, rfl⟩ := List.mem_map.mp hd
  rfl
theorem sortO_nat (xs : List Nat) : sortO (xs.map fun k : Nat => PyData.int (k : Nat)) = some (.nl ((xs.mergeSort fun x y => decide (x ≤ y)).map fun k : Nat => PyData.int (k : Nat))) :=
  sortO_ty (enc := fun k : Nat => PyData.int (k : Nat)) _ (fun x y => by rw [PySem.W.dataLt_int, Bool.eq_iff_iff]; simp) xs (srt_nat xs)
theorem sortO_int (xs : List Int) : sortO (xs.map PyData.int) = some (.nl ((xs.mergeSort fun x y => decide (x ≤ y)).map PyData.int)) :=
  sortO_ty (enc := PyData.int) _ (fun x y => by rw [PySem.W.dataLt_int, Bool.eq_iff_iff]; simp) xs (srt_int xs)
theorem sort_done {xs : List Nat} (h : xs.Pairwise (· ≤ ·)) : (xs.mergeSort fun x y => decide (x ≤ y)) = xs := List.mergeSort_of_pairwise (h.imp fun h => decide_eq_true h)
theorem plainD_tupN (n : Nat) (xs : List Nat) (h : xs.length ≤ 1000000) : plainD (n + 2) (.tuple (xs.map fun k : Nat => PyData.int (k : Nat))) := ⟨by simpa using h, fun d hd => by
  obtain ⟨x, _, rfl⟩ := List.mem_map.mp hd
  trivial⟩
theorem plainD_lstN (n : Nat) (xs : List Nat) (h : xs.length ≤ 1000000) : plainD (n + 2) (.list (xs.map fun k : Nat => PyData.int (k : Nat))) := ⟨by simpa using h, fun d hd => by
  obtain ⟨x, _, rfl⟩ := List.mem_map.mp hd
  trivial⟩
theorem plainD_tup (n : Nat) (ds : List PyData) (h : ds.length ≤ 1000000) (h2 : ∀ d ∈ ds, plainD n d) : plainD (n + 1) (.tuple ds) := ⟨h, h2⟩
theorem plainD_lst (n : Nat) (ds : List PyData) (h : ds.length ≤ 1000000) (h2 : ∀ d ∈ ds, plainD n d) : plainD (n + 1) (.list ds) := ⟨h, h2⟩
theorem dropLast_map {α β : Type} (f : α → β) (xs : List α) : (xs.map f).dropLast = xs.dropLast.map f := by simp
end
end Z

/-! Z50: encoders by name, total orders of typed things. -/
namespace Z
open PySem PySem.Spec PyProof.Rows L2
/-- a strict total order -/
class TO (α : Type) where
  lt : α → α → Bool
  irr : ∀ a, lt a a = false
  tr : ∀ a b c, lt a b = true → lt b c = true → lt a c = true
  tri : ∀ a b, lt a b = false → lt b a = false → a = b
section
variable {α β γ : Type}
theorem TO.asym [T : TO α] {a b : α} (h : T.lt a b = true) : T.lt b a = false := by
  cases e : T.lt b a with
  | false => rfl
  | true =>
    have := T.tr a b a h e
    rw [T.irr] at this
    cases this
theorem TO.ntr [T : TO α] {a b c : α} (h : T.lt b a = false) (h2 : T.lt c b = false) : T.lt c a = false := by
  cases e : T.lt c a with
  | false => rfl
  | true =>
    cases e2 : T.lt a b with
    | true =>
      have := T.tr c a b e e2
      rw [h2] at this
      cases this
    | false =>
      have := T.tri a b e2 h
      subst this
      rw [h2] at e
      cases e
instance toNat : TO Nat := ⟨fun a b => decide (a < b), fun a => by simp, fun a b c h1 h2 => by simp at *; omega, fun a b h1 h2 => by simp at *; omega⟩
instance toInt : TO Int := ⟨fun a b => decide (a < b), fun a => by simp, fun a b c h1 h2 => by simp at *; omega, fun a b h1 h2 => by simp at *; omega⟩
theorem lt_nat {a b : Nat} : TO.lt a b = decide (a < b) := rfl
theorem lt_int {a b : Int} : TO.lt a b = decide (a < b) := rfl
instance toProd [S : TO α] [T : TO β] : TO (α × β) := ⟨fun p q => S.lt p.1 q.1 || (!S.lt q.1 p.1 && T.lt p.2 q.2), fun a => by rw [S.irr, T.irr]; rfl, fun a b c h1 h2 => by
    rw [Bool.or_eq_true, Bool.and_eq_true, Bool.not_eq_true'] at *
    rcases h1 with h1 | ⟨h1, h1'⟩
    · rcases h2 with h2 | ⟨h2, h2'⟩
      · exact .inl (S.tr _ _ _ h1 h2)
      · cases e : S.lt b.1 c.1 with
        | true => exact .inl (S.tr _ _ _ h1 e)
        | false => rw [S.tri _ _ e h2] at h1; exact .inl h1
    · rcases h2 with h2 | ⟨h2, h2'⟩
      · cases e : S.lt a.1 b.1 with
        | true => exact .inl (S.tr _ _ _ e h2)
        | false => rw [S.tri _ _ e h1]; exact .inl h2
      · cases e : S.lt a.1 c.1 with
        | true => exact .inl rfl
        | false => exact .inr ⟨TO.ntr h1 h2, T.tr _ _ _ h1' h2'⟩, fun a b h1 h2 => by
    rw [Bool.or_eq_false_iff, Bool.and_eq_false_iff] at *
    have e := S.tri _ _ h1.1 h2.1
    have i : (!S.lt b.1 a.1) = true := by rw [e, S.irr]; rfl
    have i2 : (!S.lt a.1 b.1) = true := by rw [e, S.irr]; rfl
    rw [i] at h1
    rw [i2] at h2
    exact Prod.ext e (T.tri _ _ (h1.2.resolve_left (by simp)) (h2.2.resolve_left (by simp)))⟩
def lexB (lt : α → α → Bool) : List α → List α → Bool
  | [], [] => false
  | [], _ :: _ => true
  | _ :: _, [] => false
  | x :: xs, y :: ys => lt x y || (!lt y x && lexB lt xs ys)
theorem lexB_irr [T : TO α] : ∀ a : List α, lexB T.lt a a = false
  | [] => rfl
  | x :: xs => by rw [lexB, T.irr, lexB_irr xs]; rfl
theorem lexB_tr [T : TO α] : ∀ a b c : List α, lexB T.lt a b = true → lexB T.lt b c = true → lexB T.lt a c = true
  | [], [], _, h, _ => by cases h
  | _ :: _, [], _, h, _ => by cases h
  | _, _ :: _, [], _, h => by cases h
  | [], _ :: _, _ :: _, _, _ => rfl
  | x :: xs, y :: ys, z :: zs, h1, h2 => by
    rw [lexB, Bool.or_eq_true, Bool.and_eq_true, Bool.not_eq_true'] at *
    rcases h1 with h1 | ⟨h1, h1'⟩
    · rcases h2 with h2 | ⟨h2, h2'⟩
      · exact .inl (T.tr _ _ _ h1 h2)
      · cases e : T.lt y z with
        | true => exact .inl (T.tr _ _ _ h1 e)
        | false => rw [T.tri _ _ e h2] at h1; exact .inl h1
    · rcases h2 with h2 | ⟨h2, h2'⟩
      · cases e : T.lt x y with
        | true => exact .inl (T.tr _ _ _ e h2)
        | false => rw [T.tri _ _ e h1]; exact .inl h2
      · cases e : T.lt x z with
        | true => exact .inl rfl
        | false => exact .inr ⟨TO.ntr h1 h2, lexB_tr xs ys zs h1' h2'⟩
theorem lexB_tri [T : TO α] : ∀ a b : List α, lexB T.lt a b = false → lexB T.lt b a = false → a = b
  | [], [], _, _ => rfl
  | [], _ :: _, h, _ => by cases h
  | _ :: _, [], _, h => by cases h
  | x :: xs, y :: ys, h1, h2 => by
    rw [lexB, Bool.or_eq_false_iff, Bool.and_eq_false_iff] at *
    have e := T.tri _ _ h1.1 h2.1
    subst e
    have i : (!T.lt x x) = true := by rw [T.irr]; rfl
    rw [i] at h1 h2
    rw [lexB_tri xs ys (h1.2.resolve_left (by simp)) (h2.2.resolve_left (by simp))]
instance toList [T : TO α] : TO (List α) := ⟨lexB T.lt, lexB_irr, lexB_tr, lexB_tri⟩
theorem lt_prod [S : TO α] [T : TO β] {p q : α × β} : TO.lt p q = (S.lt p.1 q.1 || (!S.lt q.1 p.1 && T.lt p.2 q.2)) := rfl
theorem lt_cons [T : TO α] {x y : α} {xs ys : List α} : TO.lt (x :: xs) (y :: ys) = (T.lt x y || (!T.lt y x && TO.lt xs ys)) := rfl
theorem lt_cons_self [T : TO α] {x : α} {xs ys : List α} : TO.lt (x :: xs) (x :: ys) = TO.lt xs ys := by rw [lt_cons, T.irr]; rfl
theorem lt_nil_cons [T : TO α] {y : α} {ys : List α} : TO.lt ([] : List α) (y :: ys) = true := rfl
theorem lt_to_nil [T : TO α] {xs : List α} : TO.lt xs ([] : List α) = false := by cases xs <;> rfl
/-! ### the least -/
theorem least_mem [T : TO α] (x : α) (xs : List α) : minT T.lt x xs ∈ x :: xs := minT_mem _ xs x
theorem least_le [T : TO α] (x : α) (xs : List α) : ∀ y ∈ x :: xs, T.lt y (minT T.lt x xs) = false := minT_le T.lt T.irr (fun _ _ _ h1 h2 => TO.ntr h1 h2) (fun _ _ h => TO.asym h) xs x
theorem least_one [T : TO α] {xs ys : List α} {m k : α} (h1 : m ∈ xs) (h2 : ∀ x ∈ xs, T.lt x m = false) (h3 : k ∈ xs) (h4 : ∀ x ∈ xs, T.lt x k = false) : m = k := T.tri _ _ (h4 m h1) (h2 k h3)
/-! ### sorting -/
def leT [T : TO α] (x y : α) : Bool := !T.lt y x
theorem leT_tot [T : TO α] (a b : α) : (leT a b || leT b a) = true := by
  unfold leT
  cases e : T.lt b a with
  | false => rfl
  | true => rw [TO.asym e]; rfl
theorem leT_tr [T : TO α] (a b c : α) (h1 : leT a b = true) (h2 : leT b c = true) : leT a c = true := by
  unfold leT at *
  rw [Bool.not_eq_true'] at *
  exact TO.ntr h1 h2
theorem leT_anti [T : TO α] {a b : α} (h1 : leT a b = true) (h2 : leT b a = true) : a = b := by
  unfold leT at *
  rw [Bool.not_eq_true'] at *
  exact T.tri _ _ h2 h1
def sortT [T : TO α] (xs : List α) : List α := xs.mergeSort leT
theorem sortT_pw [T : TO α] (xs : List α) : (sortT xs).Pairwise fun a b => leT a b = true := List.pairwise_mergeSort (le := leT) (fun a b c h1 h2 => leT_tr a b c h1 h2) leT_tot xs
theorem sortT_perm [T : TO α] (xs : List α) : (sortT xs).Perm xs := List.mergeSort_perm xs leT
@[simp] theorem sortT_mem [T : TO α] {xs : List α} {x : α} : x ∈ sortT xs ↔ x ∈ xs := List.mem_mergeSort
@[simp] theorem sortT_len [T : TO α] {xs : List α} : (sortT xs).length = xs.length := List.length_mergeSort _
theorem sortT_done [T : TO α] {xs : List α} (h : xs.Pairwise fun a b => leT a b = true) : sortT xs = xs := List.mergeSort_of_pairwise h
theorem sorted_one [T : TO α] : ∀ {xs ys : List α}, xs.Perm ys → xs.Pairwise (fun a b => leT a b = true) → ys.Pairwise (fun a b => leT a b = true) → xs = ys
  | [], ys, h, _, _ => by rw [List.nil_perm.mp h]
  | x :: xs, [], h, _, _ => by have := h.length_eq; simp at this
  | x :: xs, y :: ys, h, h1, h2 => by
    obtain ⟨a1, a2⟩ := List.pairwise_cons.mp h1
    obtain ⟨b1, b2⟩ := List.pairwise_cons.mp h2
    have e : x = y := by
      rcases List.mem_cons.mp (h.mem_iff.mp List.mem_cons_self) with e | e
      · exact e
      · rcases List.mem_cons.mp (h.mem_iff.mpr (List.mem_cons_self (a := y))) with e2 | e2
        · exact e2.symm
        · exact leT_anti (a1 y e2) (b1 x e)
    subst e
    rw [sorted_one (List.Perm.cons_inv h) a2 b2]
theorem sortT_eq [T : TO α] {xs ys : List α} (h : xs.Perm ys) : sortT xs = sortT ys := sorted_one ((sortT_perm xs).trans (h.trans (sortT_perm ys).symm)) (sortT_pw xs) (sortT_pw ys)

/-! ### encoders -/
def natE (k : Nat) : PyData := .int (k : Nat)
def tupE (e : α → PyData) (xs : List α) : PyData := .tuple (xs.map e)
def lstE (e : α → PyData) (xs : List α) : PyData := .list (xs.map e)
def pairE (e : α → PyData) (f : β → PyData) (p : α × β) : PyData := .tuple [e p.1, f p.2]
def tripE (e : α → PyData) (f : β → PyData) (g : γ → PyData) (p : α × β × γ) : PyData := .tuple [e p.1, f p.2.1, g p.2.2]
instance alkNatE : AlkD natE := alkNat
instance alkTupE {e : α → PyData} [A : AlkD e] : AlkD (tupE e) := alkTup (A := A)
instance alkLstE {e : α → PyData} [A : AlkD e] : AlkD (lstE e) := ⟨A.dep + 1, fun xs ys => by unfold lstE; rw [PySem.W.alike]; exact alikeAll_ty xs ys, fun _ => rfl, fun xs => by
  have := depthAll_ty (enc := e) xs
  simp only [lstE, PyData.depth]
  omega⟩
instance alkPairE {e : α → PyData} {f : β → PyData} [A : AlkD e] [B : AlkD f] : AlkD (pairE e f) := ⟨max A.dep B.dep + 1, fun p q => by unfold pairE; simp [PySem.W.alike, PySem.W.alikeAll, A.alk, B.alk], fun _ => rfl, fun p => by
  have := A.dpt p.1
  have := B.dpt p.2
  simp only [pairE, PyData.depth, PyData.depthAll]
  omega⟩
instance alkTripE {e : α → PyData} {f : β → PyData} {g : γ → PyData} [A : AlkD e] [B : AlkD f] [C : AlkD g] : AlkD (tripE e f g) := ⟨max A.dep (max B.dep C.dep) + 1, fun p q => by unfold tripE; simp [PySem.W.alike, PySem.W.alikeAll, A.alk, B.alk, C.alk], fun _ => rfl, fun p => by
  have := A.dpt p.1
  have := B.dpt p.2.1
  have := C.dpt p.2.2
  simp only [tripE, PyData.depth, PyData.depthAll]
  omega⟩
instance eqdNatE : EqD natE := eqdNat
instance eqdTupE {e : α → PyData} [E : EqD e] : EqD (tupE e) := eqdTup (E := E)
instance eqdLstE {e : α → PyData} [E : EqD e] : EqD (lstE e) := eqdLst (E := E)
instance eqdPairE {e : α → PyData} {f : β → PyData} [E : EqD e] [F : EqD f] : EqD (pairE e f) := ⟨max E.dep F.dep + 1, fun p => by
    unfold pairE
    rw [sh_tuple]
    intro d hd
    simp only [List.mem_cons, List.not_mem_nil, or_false] at hd
    rcases hd with rfl | rfl
    · exact (E.shd _).mono (by omega)
    · exact (F.shd _).mono (by omega), fun p q => by
    unfold pairE
    rw [eqv_tuple]
    simp only [PyData.eqvAll, Bool.and_eq_true, and_true, E.eqv, F.eqv]
    exact ⟨fun h => Prod.ext h.1 h.2, fun h => by rw [h]; exact ⟨rfl, rfl⟩⟩⟩
instance eqdTripE {e : α → PyData} {f : β → PyData} {g : γ → PyData} [E : EqD e] [F : EqD f] [G : EqD g] : EqD (tripE e f g) := ⟨max E.dep (max F.dep G.dep) + 1, fun p => by
    unfold tripE
    rw [sh_tuple]
    intro d hd
    simp only [List.mem_cons, List.not_mem_nil, or_false] at hd
    rcases hd with rfl | rfl | rfl
    · exact (E.shd _).mono (by omega)
    · exact (F.shd _).mono (by omega)
    · exact (G.shd _).mono (by omega), fun p q => by
    unfold tripE
    rw [eqv_tuple]
    simp only [PyData.eqvAll, Bool.and_eq_true, and_true, E.eqv, F.eqv, G.eqv]
    exact ⟨fun h => Prod.ext h.1 (Prod.ext h.2.1 h.2.2), fun h => by rw [h]; exact ⟨rfl, rfl, rfl⟩⟩⟩
/-- the data's order is the things' -/
class OrdD [T : TO α] (enc : α → PyData) : Prop where
  ord : ∀ x y, PySem.W.dataLt (enc x) (enc y) = T.lt x y
instance ordNatE : OrdD natE := ⟨fun x y => by
  unfold natE
  rw [PySem.W.dataLt_int, Bool.eq_iff_iff]
  show _ ↔ decide (x < y) = true
  simp⟩
instance ordInt : OrdD PyData.int := ⟨fun x y => PySem.W.dataLt_int x y⟩
theorem ordAll {e : α → PyData} [T : TO α] [A : AlkD e] [E : EqD e] [O : OrdD e] : ∀ xs ys : List α, PySem.W.rowLt (xs.map e) (ys.map e) = lexB T.lt xs ys
  | [], [] => PyProof.Rows.lex_irrefl _
  | [], y :: ys => by
    show PySem.W.rowLt [] (e y :: ys.map e) = true
    unfold PySem.W.rowLt
    rw [PySem.W.toks_all_cons]
    simp only [PySem.W.keyToksAll]
    rw [PyProof.Rows.lex_diff (by simp)]
    rfl
  | x :: xs, [] => by
    show PySem.W.rowLt (e x :: xs.map e) [] = false
    unfold PySem.W.rowLt
    rw [PySem.W.toks_all_cons]
    simp only [PySem.W.keyToksAll]
    rw [PyProof.Rows.lex_diff (by simp)]
    rfl
  | x :: xs, y :: ys => by
    have ih := ordAll (e := e) xs ys
    show PySem.W.rowLt (e x :: xs.map e) (e y :: ys.map e) = _
    unfold PySem.W.rowLt at ih ⊢
    rw [PySem.W.dataLt_cons (A.alk x y), ih, O.ord, lexB]
    by_cases h : x = y
    · subst h
      rw [if_pos ((E.eqv x x).mpr rfl), T.irr]
      rfl
    · rw [if_neg (fun z => h ((E.eqv x y).mp z))]
      cases h1 : T.lt x y with
      | true => rfl
      | false =>
        cases h2 : T.lt y x with
        | true => rfl
        | false => exact absurd (T.tri _ _ h1 h2) h
instance ordTupE {e : α → PyData} [T : TO α] [A : AlkD e] [E : EqD e] [O : OrdD e] : OrdD (tupE e) := ⟨fun xs ys => by
  unfold tupE
  rw [PySem.W.dataLt_tuple]
  exact ordAll xs ys⟩
instance ordLstE {e : α → PyData} [T : TO α] [A : AlkD e] [E : EqD e] [O : OrdD e] : OrdD (lstE e) := ⟨fun xs ys => by
  unfold lstE
  rw [PySem.W.dataLt_list]
  exact ordAll xs ys⟩
theorem ord2 {d d' : PyData} {lt lt' : Bool} {eq : Prop} (h : PySem.W.dataLt d d' = lt) (ht : eq → lt = false) (ht' : eq → lt' = false) (htri : lt = false → lt' = false → eq) (rest : Bool) [Decidable eq] : (if eq then rest else lt) = (lt || (!lt' && rest)) := by
  by_cases z : eq
  · rw [if_pos z, ht z, ht' z]; rfl
  · rw [if_neg z]
    cases h1 : lt with
    | true => rfl
    | false =>
      cases h2 : lt' with
      | true => rfl
      | false => exact absurd (htri h1 h2) z
theorem ordHead {e : α → PyData} [T : TO α] [A : AlkD e] [E : EqD e] [O : OrdD e] (x y : α) (xs ys : List PyData) : PyProof.Rows.lexLt PyProof.Rows.itemOrd (PySem.W.keyToksAll (e x :: xs)) (PySem.W.keyToksAll (e y :: ys)) = (T.lt x y || (!T.lt y x && PySem.W.rowLt xs ys)) := by
  rw [PySem.W.dataLt_cons (A.alk x y), O.ord]
  by_cases h : x = y
  · subst h
    rw [if_pos ((E.eqv x x).mpr rfl), T.irr]
    rfl
  · rw [if_neg (fun z => h ((E.eqv x y).mp z))]
    cases h1 : T.lt x y with
    | true => rfl
    | false =>
      cases h2 : T.lt y x with
      | true => rfl
      | false => exact absurd (T.tri _ _ h1 h2) h
theorem rowLt_nil : PySem.W.rowLt [] [] = false := PyProof.Rows.lex_irrefl _
instance ordPairE {e : α → PyData} {f : β → PyData} [S : TO α] [T : TO β] [A : AlkD e] [E : EqD e] [O : OrdD e] [A2 : AlkD f] [E2 : EqD f] [O2 : OrdD f] : OrdD (pairE e f) := ⟨fun p q => by
  unfold pairE
  rw [PySem.W.dataLt_tuple, ordHead, lt_prod]
  congr 2
  show PyProof.Rows.lexLt PyProof.Rows.itemOrd (PySem.W.keyToksAll [f p.2]) (PySem.W.keyToksAll [f q.2]) = _
  rw [ordHead, rowLt_nil]
  simp⟩
instance ordTripE {e : α → PyData} {f : β → PyData} {g : γ → PyData} [S : TO α] [T : TO β] [U : TO γ] [A : AlkD e] [E : EqD e] [O : OrdD e] [A2 : AlkD f] [E2 : EqD f] [O2 : OrdD f] [A3 : AlkD g] [E3 : EqD g] [O3 : OrdD g] : OrdD (tripE e f g) := ⟨fun p q => by
  unfold tripE
  rw [PySem.W.dataLt_tuple, ordHead, lt_prod]
  congr 2
  show PyProof.Rows.lexLt PyProof.Rows.itemOrd (PySem.W.keyToksAll [f p.2.1, g p.2.2]) (PySem.W.keyToksAll [f q.2.1, g q.2.2]) = _
  rw [ordHead, lt_prod]
  congr 2
  show PyProof.Rows.lexLt PyProof.Rows.itemOrd (PySem.W.keyToksAll [g p.2.2]) (PySem.W.keyToksAll [g q.2.2]) = _
  rw [ordHead, rowLt_nil]
  simp⟩
/-! ### min, sorted -/
theorem bestO_least {enc : α → PyData} [T : TO α] [A : AlkD enc] [O : OrdD enc] {xs : List α} {m : α} (h1 : m ∈ xs) (h2 : ∀ x ∈ xs, T.lt x m = false) (h : A.dep ≤ 60 := by decide) : bestO PySem.W.minD (xs.map enc) = some (.sc (enc m)) := by
  cases xs with
  | nil => cases h1
  | cons x xs =>
    rw [bestO_ty (enc := enc) x xs h, minD_ty T.lt O.ord]
    rw [least_one (ys := []) (least_mem x xs) (least_le x xs) h1 h2]
theorem bestO_greatest {enc : α → PyData} [T : TO α] [A : AlkD enc] [O : OrdD enc] {xs : List α} {m : α} (h1 : m ∈ xs) (h2 : ∀ x ∈ xs, T.lt m x = false) (h : A.dep ≤ 60 := by decide) : bestO PySem.W.maxD (xs.map enc) = some (.sc (enc m)) := by
  cases xs with
  | nil => cases h1
  | cons x xs =>
    rw [bestO_ty (enc := enc) x xs h, maxD_ty T.lt O.ord]
    have g1 := maxT_mem T.lt xs x
    have g2 := minT_le (fun a b => T.lt b a) T.irr (fun _ _ _ h1 h2 => TO.ntr h2 h1) (fun _ _ h => TO.asym h) xs x
    have e : maxT T.lt x xs = m := T.tri _ _ (g2 m h1) (h2 _ g1)
    rw [e]
theorem bestO_ex {enc : α → PyData} [T : TO α] [A : AlkD enc] [O : OrdD enc] {xs : List α} (hn : xs ≠ []) (h : A.dep ≤ 60 := by decide) : ∃ m ∈ xs, (∀ x ∈ xs, T.lt x m = false) ∧ bestO PySem.W.minD (xs.map enc) = some (.sc (enc m)) := by
  cases xs with
  | nil => exact absurd rfl hn
  | cons x xs => exact ⟨_, least_mem x xs, least_le x xs, by rw [bestO_ty (enc := enc) x xs h, minD_ty T.lt O.ord]⟩
theorem pBest2_min {enc : α → PyData} [T : TO α] [A : AlkD enc] [O : OrdD enc] (x y : α) (hl : ∀ z ds, enc z ≠ .list ds) (h : A.dep ≤ 60 := by decide) : pBest2 PySem.W.minD (enc x) (enc y) = some (.sc (enc (if T.lt y x = true then y else x))) := by
  rw [pBest2_ty x y hl h, show [enc y] = [y].map enc from rfl, minD_ty T.lt O.ord]
  rfl
theorem sortO_T {enc : α → PyData} [T : TO α] [A : AlkD enc] [O : OrdD enc] (xs : List α) (hs : sortableB (xs.map enc) = true) (h : A.dep ≤ 60 := by decide) : sortO (xs.map enc) = some (.nl ((sortT xs).map enc)) := sortO_ty _ (fun x y => by rw [O.ord]; rfl) xs hs h
theorem srt_pairE {e : α → PyData} {f : β → PyData} (xs : List (α × β)) : sortableB (xs.map (pairE e f)) = true := by
  unfold sortableB
  rw [Bool.or_eq_true, Bool.or_eq_true]
  left; left
  rw [List.all_eq_true]
  intro d hd
  obtain ⟨l, _, rfl⟩ := List.mem_map.mp hd
  rfl
theorem srt_tripE {e : α → PyData} {f : β → PyData} {g : γ → PyData} (xs : List (α × β × γ)) : sortableB (xs.map (tripE e f g)) = true := by
  unfold sortableB
  rw [Bool.or_eq_true, Bool.or_eq_true]
  left; left
  rw [List.all_eq_true]
  intro d hd
  obtain ⟨l, _, rfl⟩ := List.mem_map.mp hd
  rfl
theorem srt_tupE {e : α → PyData} (xs : List (List α)) (h : ∀ l ∈ xs, l ≠ []) : sortableB (xs.map (tupE e)) = true := by
  unfold sortableB
  rw [Bool.or_eq_true, Bool.or_eq_true]
  left; left
  rw [List.all_eq_true]
  intro d hd
  obtain ⟨l, hl, rfl⟩ := List.mem_map.mp hd
  cases l with
  | nil => exact absurd rfl (h [] hl)
  | cons _ _ => rfl
end
end Z

/-! Z51: loops that judge, calls that change one thing. -/
namespace Z
open PySem PySem.Spec PyProof.Rows L2
section
variable {τ : Fr}
theorem cellAt_gt {i : Nat} {c : Cell} (h : cellAt τ i = some c) : τ[i]? = some (some c) := by
  unfold cellAt at h
  split at h
  · rename_i o e
    rw [e, h]
  · cases h
/-- a loop that ends with `bad` at the first item that is not ok; then `good` -/
theorem Gv.judge {it : ZID} {g : ZGD} {p q : ZSD} {ds : List PyData} {τi : Fr} {good bad : Cell} (ok : PyData → Bool) (I : Fr → Prop) (hi : it τ = .ok (ds, []) τi) (h0 : I τi)
    (hg : ∀ d τ, d ∈ ds → ok d = true → I τ → ∃ τ1, g d τ = some τ1 ∧ ∃ τ2, p τ1 = .ok .nx τ2 ∧ I τ2)
    (hb : ∀ d τ, d ∈ ds → ok d = false → I τ → ∃ τ1, g d τ = some τ1 ∧ ∃ τ2, p τ1 = .ok (.rt bad) τ2)
    (hq : ∀ τ, I τ → ∃ τ', q τ = .ok (.rt good) τ') : Gv (zSeq (zFor it g p) q) τ (if ds.all ok = true then good else bad) := by
  have hR := turns_rt (g := g) (p := p) (fun es τ => I τ ∧ (∀ d ∈ es, d ∈ ds) ∧ ds.all ok = es.all ok) (fun c _ => c = bad ∧ ds.all ok = false) ?_ (ds := ds) (τ := τi) ⟨h0, fun _ h => h, rfl⟩
  · rcases hR with ⟨τ', e, hI, _, ha⟩ | ⟨c, τ', e, rfl, ha⟩
    · obtain ⟨τ2, e2⟩ := hq τ' hI
      refine ⟨τ2, ?_⟩
      rw [zSeq_ev, zFor_ev, hi, ok_bind, kFor_free, e, kSeq_nx, e2, ha]
      rfl
    · refine ⟨τ', ?_⟩
      rw [zSeq_ev, zFor_ev, hi, ok_bind, kFor_free, e, kSeq_rt, ha]
      rfl
  · rintro d es τ ⟨hI, hs, ha⟩
    have hd := hs d List.mem_cons_self
    cases e : ok d with
    | true =>
      obtain ⟨τ1, e1, τ2, e2, h2⟩ := hg d τ hd e hI
      refine ⟨τ1, e1, ?_⟩
      rw [e2]
      exact ⟨h2, fun x hx => hs x (List.mem_cons_of_mem _ hx), by rw [ha, List.all_cons, e]; rfl⟩
    | false =>
      obtain ⟨τ1, e1, τ2, e2⟩ := hb d τ hd e hI
      refine ⟨τ1, e1, ?_⟩
      rw [e2]
      exact ⟨bad, τ2, rfl, rfl, by rw [ha, List.all_cons, e]; rfl⟩
/-- .. of True, False -/
theorem Gv.judgeB {it : ZID} {g : ZGD} {p q : ZSD} {ds : List PyData} {τi : Fr} (ok : PyData → Bool) (I : Fr → Prop) (hi : it τ = .ok (ds, []) τi) (h0 : I τi)
    (hg : ∀ d τ, d ∈ ds → ok d = true → I τ → ∃ τ1, g d τ = some τ1 ∧ ∃ τ2, p τ1 = .ok .nx τ2 ∧ I τ2)
    (hb : ∀ d τ, d ∈ ds → ok d = false → I τ → ∃ τ1, g d τ = some τ1 ∧ ∃ τ2, p τ1 = .ok (.rt (.fz (.bool false))) τ2)
    (hq : ∀ τ, I τ → ∃ τ', q τ = .ok (.rt (.fz (.bool true))) τ') : Gv (zSeq (zFor it g p) q) τ (.fz (.bool (ds.all ok))) := by
  have := Gv.judge ok I hi h0 hg hb hq
  cases e : ds.all ok <;> rw [e] at this <;> exact this
theorem okArgs_obj {i : Nat} {c : Cell} : ∀ {pre post : List LR}, cellAt τ i = some c → c.obj = true → noObj τ pre = true → noObj τ post = true → okArgs τ (pre ++ .sl i :: post) = true
  | [], post, hc, ho, _, h2 => by
    rw [List.nil_append, okArgs_sl, noObj_ok h2, Bool.and_true]
    cases e : post.any (isSl i) with
    | false => simp
    | true =>
      obtain ⟨l, hl, e2⟩ := List.any_eq_true.mp e
      cases l with
      | cl c => cases e2
      | sl j =>
        have : j = i := by simpa [isSl] using e2
        subst this
        have := noObj_mem h2 j hl
        rw [objAt_ev, hc, objO_ev, ho] at this
        cases this
  | .cl x :: pre, post, hc, ho, h1, h2 => by
    rw [noObj_cl] at h1
    exact okArgs_obj (pre := pre) hc ho h1 h2
  | .sl j :: pre, post, hc, ho, h1, h2 => by
    rw [noObj_sl, Bool.and_eq_true] at h1
    rw [List.cons_append, okArgs_sl, okArgs_obj (pre := pre) hc ho h1.2 h2, Bool.and_true]
    have := h1.1
    rw [Bool.not_eq_true'] at this
    simp at this
    simp [this]
theorem find_pre {i : Nat} {c : Cell} {pre post : List LR} (hc : cellAt τ i = some c) (ho : c.obj = true) (h1 : noObj τ pre = true) : (pre ++ .sl i :: post).findIdx? (isSl i) = some pre.length := by
  induction pre with
  | nil => rw [List.nil_append, List.findIdx?_cons, if_pos (by simp [isSl])]; rfl
  | cons l pre ih =>
    have hl : isSl i l = false := by
      cases l with
      | cl x => rfl
      | sl j =>
        cases e : isSl i (.sl j) with
        | false => rfl
        | true =>
          have : j = i := by simpa [isSl] using e
          subst this
          rw [noObj_sl, Bool.and_eq_true, Bool.not_eq_true', objAt_ev, hc, objO_ev, ho] at h1
          cases h1.1
    have h1' : noObj τ pre = true := by
      cases l with
      | cl x => rwa [noObj_cl] at h1
      | sl j => rw [noObj_sl, Bool.and_eq_true] at h1; exact h1.2
    rw [List.cons_append, List.findIdx?_cons, hl, if_neg Bool.false_ne_true, ih h1']
    rfl
theorem find_other {i j : Nat} {c : Cell} {pre post : List LR} (hj : objAt τ j = true) (hij : j ≠ i) (h1 : noObj τ pre = true) (h2 : noObj τ post = true) : (pre ++ .sl i :: post).findIdx? (isSl j) = none := by
  rw [List.findIdx?_eq_none_iff]
  intro l hl
  cases e : isSl j l with
  | false => rfl
  | true =>
    cases l with
    | cl x => cases e
    | sl k =>
      have : k = j := by simpa [isSl] using e
      subst this
      rcases List.mem_append.mp hl with h | h
      · rw [noObj_mem h1 k h] at hj; cases hj
      · rcases List.mem_cons.mp h with h | h
        · cases h; exact absurd rfl hij
        · rw [noObj_mem h2 k h] at hj; cases hj
theorem kCs_obj {φ : Mir} {np i : Nat} {pre post : List LR} {cs : List Cell} {r c c' : Cell} {τ1 : Fr} (h : φ cs = .ok r τ1) (hc : cellAt τ i = some c) (ho : c.obj = true) (hm : merge c τ1[pre.length]? = some c') (h1 : noObj τ pre = true) (h2 : noObj τ post = true) (hl : cs.length = np) :
    kCs φ np (pre ++ .sl i :: post) τ (some cs) = .ok (.cl r) (τ.set i (some c')) := by
  rw [kCs_ev (okArgs_obj hc ho h1 h2) hl, h, kR_ok]
  congr 1
  refine List.ext_getElem? fun j => ?_
  unfold backF
  rw [List.getElem?_mapIdx, List.getElem?_set]
  have hci := cellAt_gt hc
  by_cases hj : i = j
  · subst hj
    have hlt := (List.getElem?_eq_some_iff.mp hci).1
    rw [if_pos rfl, if_pos hlt, hci]
    simp only [Option.map_some, back1, ho, if_true, find_pre (post := post) hc ho h1, hm]
  · rw [if_neg hj]
    cases e : τ[j]? with
    | none => rfl
    | some o =>
      cases o with
      | none => rfl
      | some x =>
        cases hx : x.obj with
        | false => simp [back1, hx]
        | true =>
          have hoj : objAt τ j = true := by
            rw [objAt_ev]
            unfold cellAt
            rw [e]
            exact hx
          simp only [Option.map_some, back1, hx, if_true, find_other (c := c) hoj (fun z => hj z.symm) h1 h2]
theorem merge_d {l k t : Bool} {kvs kvs' : List (PyData × PyData)} {τ1 : Fr} {n : Nat} {t' : Bool} (h : cellAt τ1 n = some (.dct true k t' kvs')) : merge (.dct l k t kvs) τ1[n]? = some (.dct l k t' kvs') := by
  rw [cellAt_gt h]
  exact if_pos rfl
theorem merge_l {l k : Bool} {ds ds' : List PyData} {τ1 : Fr} {n : Nat} (h : cellAt τ1 n = some (.lst true k ds')) : merge (.lst l k ds) τ1[n]? = some (.lst l k ds') := by
  rw [cellAt_gt h]
  rfl
end
end Z

/-! Z52: loops as folds of typed states. -/
namespace Z
open PySem PySem.Spec PyProof.Rows L2
abbrev nE (k : Nat) : PyData := .int (k : Nat)
instance ordNat : OrdD nE := ordNatE
section
variable {α β γ S : Type} {τ : Fr}
@[simp] theorem pairE_ap {e : α → PyData} {f : β → PyData} {p : α × β} : pairE e f p = .tuple [e p.1, f p.2] := rfl
@[simp] theorem tripE_ap {e : α → PyData} {f : β → PyData} {g : γ → PyData} {p : α × β × γ} : tripE e f g p = .tuple [e p.1, f p.2.1, g p.2.2] := rfl
@[simp] theorem tupE_ap {e : α → PyData} {xs : List α} : tupE e xs = .tuple (xs.map e) := rfl
@[simp] theorem lstE_ap {e : α → PyData} {xs : List α} : lstE e xs = .list (xs.map e) := rfl
def foldE (step : S → α → Option S) : S → List α → Option S
  | s, [] => some s
  | s, x :: xs => match step s x with
    | some s' => foldE step s' xs
    | none => none
theorem turns_exit {enc : α → PyData} {g : ZGD} {p : ZSD} {bad : Cell} (F : S → Fr → Prop) (step : S → α → Option S) : ∀ (xs : List α) (s : S) (τ : Fr), F s τ →
    (∀ s x τ, x ∈ xs → F s τ → ∃ τ1, g (enc x) τ = some τ1 ∧ (∀ s', step s x = some s' → ∃ τ2, p τ1 = .ok .nx τ2 ∧ F s' τ2) ∧ (step s x = none → ∃ τ2, p τ1 = .ok (.rt bad) τ2)) →
    (∀ s', foldE step s xs = some s' → ∃ τ', zTurns g p (xs.map enc) τ = .ok .nx τ' ∧ F s' τ') ∧ (foldE step s xs = none → ∃ τ', zTurns g p (xs.map enc) τ = .ok (.rt bad) τ')
  | [], s, τ, h, _ => ⟨fun s' e => by cases e; exact ⟨τ, rfl, h⟩, fun e => by cases e⟩
  | x :: xs, s, τ, h, hs => by
    obtain ⟨τ1, e1, h1, h2⟩ := hs s x τ List.mem_cons_self h
    have hs' := fun s y τ (hy : y ∈ xs) => hs s y τ (List.mem_cons_of_mem _ hy)
    refine ⟨fun s' e => ?_, fun e => ?_⟩
    · unfold foldE at e
      cases hst : step s x with
      | none => rw [hst] at e; cases e
      | some t =>
        rw [hst] at e
        obtain ⟨τ2, e2, hF⟩ := h1 t hst
        obtain ⟨τ', e3, h3⟩ := (turns_exit F step xs t τ2 hF hs').1 s' e
        refine ⟨τ', ?_, h3⟩
        rw [List.map_cons]
        show zTurns g p (enc x :: xs.map enc) τ = _
        rw [zTurns, e1]
        dsimp only
        rw [e2]
        exact e3
    · unfold foldE at e
      rw [List.map_cons]
      show ∃ τ', zTurns g p (enc x :: xs.map enc) τ = _
      cases hst : step s x with
      | none =>
        obtain ⟨τ2, e2⟩ := h2 hst
        refine ⟨τ2, ?_⟩
        rw [zTurns, e1]
        dsimp only
        rw [e2]
      | some t =>
        rw [hst] at e
        obtain ⟨τ2, e2, hF⟩ := h1 t hst
        obtain ⟨τ', e3⟩ := (turns_exit F step xs t τ2 hF hs').2 e
        refine ⟨τ', ?_⟩
        rw [zTurns, e1]
        dsimp only
        rw [e2]
        exact e3
theorem for_exit {enc : α → PyData} {it : ZID} {g : ZGD} {p : ZSD} {bad : Cell} {τi : Fr} (xs : List α) (s : S) (F : S → Fr → Prop) (step : S → α → Option S) (hi : it τ = .ok (xs.map enc, []) τi) (h : F s τi)
    (hs : ∀ s x τ, x ∈ xs → F s τ → ∃ τ1, g (enc x) τ = some τ1 ∧ (∀ s', step s x = some s' → ∃ τ2, p τ1 = .ok .nx τ2 ∧ F s' τ2) ∧ (step s x = none → ∃ τ2, p τ1 = .ok (.rt bad) τ2)) :
    (∀ s', foldE step s xs = some s' → ∃ τ', zFor it g p τ = .ok .nx τ' ∧ F s' τ') ∧ (foldE step s xs = none → ∃ τ', zFor it g p τ = .ok (.rt bad) τ') := by
  obtain ⟨h1, h2⟩ := turns_exit F step xs s τi h hs
  refine ⟨fun s' e => ?_, fun e => ?_⟩
  · obtain ⟨τ', e1, h3⟩ := h1 s' e
    exact ⟨τ', by rw [zFor_ev, hi, ok_bind, kFor_free, e1], h3⟩
  · obtain ⟨τ', e1⟩ := h2 e
    exact ⟨τ', by rw [zFor_ev, hi, ok_bind, kFor_free, e1]⟩
theorem foldE_some (step : S → α → S) : ∀ (xs : List α) (s : S), foldE (fun s x => some (step s x)) s xs = some (xs.foldl step s)
  | [], s => rfl
  | x :: xs, s => foldE_some step xs (step s x)
/-- a loop that goes through, as a fold -/
theorem for_fold {enc : α → PyData} {it : ZID} {g : ZGD} {p : ZSD} {τi : Fr} (xs : List α) (s : S) (F : S → Fr → Prop) (step : S → α → S) (hi : it τ = .ok (xs.map enc, []) τi) (h : F s τi)
    (hs : ∀ s x τ, x ∈ xs → F s τ → ∃ τ1, g (enc x) τ = some τ1 ∧ ∃ τ2, p τ1 = .ok .nx τ2 ∧ F (step s x) τ2) :
    ∃ τ', zFor it g p τ = .ok .nx τ' ∧ F (xs.foldl step s) τ' :=
  (for_exit (bad := .fz .none) xs s F (fun s x => some (step s x)) hi h (fun s x τ hx hF => by
    obtain ⟨τ1, e1, τ2, e2, h2⟩ := hs s x τ hx hF
    exact ⟨τ1, e1, fun s' e => by cases e; exact ⟨τ2, e2, h2⟩, fun e => by cases e⟩)).1 _ (foldE_some step xs s)
/-- a loop by the items that were gone through; it may end the def -/
theorem turns_pre {enc : α → PyData} {g : ZGD} {p : ZSD} (P : List α → Fr → Prop) (T : Cell → Prop) : ∀ (post pre : List α) (τ : Fr), P pre τ →
    (∀ pre' x post' τ, pre ++ post = pre' ++ x :: post' → P pre' τ → ∃ τ1, g (enc x) τ = some τ1 ∧ ((∃ τ2, p τ1 = .ok .nx τ2 ∧ P (pre' ++ [x]) τ2) ∨ ∃ c τ2, p τ1 = .ok (.rt c) τ2 ∧ T c)) →
    (∃ τ', zTurns g p (post.map enc) τ = .ok .nx τ' ∧ P (pre ++ post) τ') ∨ ∃ c τ', zTurns g p (post.map enc) τ = .ok (.rt c) τ' ∧ T c
  | [], pre, τ, h, _ => .inl ⟨τ, rfl, by rw [List.append_nil]; exact h⟩
  | x :: post, pre, τ, h, hs => by
    obtain ⟨τ1, e1, h1⟩ := hs pre x post τ rfl h
    rw [List.map_cons]
    rcases h1 with ⟨τ2, e2, h2⟩ | ⟨c, τ2, e2, h2⟩
    · have ih := turns_pre P T post (pre ++ [x]) τ2 h2 (fun pre' y post' τ e hp => hs pre' y post' τ (by rw [← e, List.append_assoc]; rfl) hp)
      rw [List.append_assoc] at ih
      have ev : zTurns g p (enc x :: post.map enc) τ = zTurns g p (post.map enc) τ2 := by
        rw [zTurns, e1]
        dsimp only
        rw [e2]
      rw [ev]
      exact ih
    · refine .inr ⟨c, τ2, ?_, h2⟩
      rw [zTurns, e1]
      dsimp only
      rw [e2]
theorem for_preX {enc : α → PyData} {it : ZID} {g : ZGD} {p : ZSD} {τi : Fr} (xs : List α) (P : List α → Fr → Prop) (T : Cell → Prop) (hi : it τ = .ok (xs.map enc, []) τi) (h : P [] τi)
    (hs : ∀ pre x post τ, xs = pre ++ x :: post → P pre τ → ∃ τ1, g (enc x) τ = some τ1 ∧ ((∃ τ2, p τ1 = .ok .nx τ2 ∧ P (pre ++ [x]) τ2) ∨ ∃ c τ2, p τ1 = .ok (.rt c) τ2 ∧ T c)) :
    (∃ τ', zFor it g p τ = .ok .nx τ' ∧ P xs τ') ∨ ∃ c τ', zFor it g p τ = .ok (.rt c) τ' ∧ T c := by
  rcases turns_pre P T xs [] τi h (fun pre x post τ e hp => hs pre x post τ e hp) with ⟨τ', e1, h3⟩ | ⟨c, τ', e1, h3⟩
  · exact .inl ⟨τ', by rw [zFor_ev, hi, ok_bind, kFor_free, e1], h3⟩
  · exact .inr ⟨c, τ', by rw [zFor_ev, hi, ok_bind, kFor_free, e1], h3⟩
theorem for_pre {enc : α → PyData} {it : ZID} {g : ZGD} {p : ZSD} {τi : Fr} (xs : List α) (P : List α → Fr → Prop) (hi : it τ = .ok (xs.map enc, []) τi) (h : P [] τi)
    (hs : ∀ pre x post τ, xs = pre ++ x :: post → P pre τ → ∃ τ1, g (enc x) τ = some τ1 ∧ ∃ τ2, p τ1 = .ok .nx τ2 ∧ P (pre ++ [x]) τ2) :
    ∃ τ', zFor it g p τ = .ok .nx τ' ∧ P xs τ' := by
  rcases for_preX (enc := enc) (it := it) (g := g) (p := p) (τ := τ) xs P (fun _ => False) hi h (fun pre x post τ e hp => by
    obtain ⟨τ1, e1, h1⟩ := hs pre x post τ e hp
    exact ⟨τ1, e1, .inl h1⟩) with h | ⟨_, _, _, h⟩
  · exact h
  · exact h.elim
/-- .. over a list in a slot: own (locked while it is walked) or frozen; the frame by what stands in the slot -/
theorem for_slotP {enc : α → PyData} {g : ZGD} {p : ZSD} {i : Nat} {c : Cell} (xs : List α) (P : Cell → List α → Fr → Prop)
    (hc : c = .lst false false (xs.map enc) ∨ c = .lst true false (xs.map enc) ∨ c = .fz (.list (xs.map enc)) ∨ c = .fz (.tuple (xs.map enc))) (hi : cellAt τ i = some c) (h : ∀ c', P c' [] (τ.set i (some c')))
    (hs : ∀ c' pre x post τ, xs = pre ++ x :: post → P c' pre τ → ∃ τ1, g (enc x) τ = some τ1 ∧ ∃ τ2, p τ1 = .ok .nx τ2 ∧ P c' (pre ++ [x]) τ2)
    (hF : ∀ c' pre τ, P c' pre τ → τ[i]? = some (some c') ∧ P c pre (τ.set i (some c))) :
    ∃ τ', zFor (zIt (zN i)) g p τ = .ok .nx τ' ∧ P c xs τ' := by
  have hci := cellAt_gt hi
  have hlt := (List.getElem?_eq_some_iff.mp hci).1
  have hset : τ.set i (some c) = τ := by
    refine List.ext_getElem? fun j => ?_
    rw [List.getElem?_set]
    split
    · rename_i e
      subst e
      rw [hci]
    · rfl
  have hz : zN i τ = .ok (.sl i) τ := by rw [zN_ev hi]
  have key : ∀ l : Bool, c = .lst l false (xs.map enc) → ∃ τ', zFor (zIt (zN i)) g p τ = .ok .nx τ' ∧ P c xs τ' := by
    rintro l rfl
    have hl : lockL [i] 0 τ = τ.set i (some (.lst l true (xs.map enc))) := by
      refine List.ext_getElem? fun j => ?_
      rw [lockL_get, List.getElem?_set]
      by_cases e : i = j
      · subst e
        rw [if_pos rfl, if_pos hlt, hci]
        simp
      · rw [if_neg e]
        cases τ[j]? with
        | none => rfl
        | some o => simp [Ne.symm e]
    obtain ⟨τ', e1, h1⟩ : ∃ τ', zTurns g p (xs.map enc) (τ.set i (some (.lst l true (xs.map enc)))) = .ok .nx τ' ∧ P (.lst l true (xs.map enc)) xs τ' := by
      rcases turns_pre (enc := enc) (g := g) (p := p) (P (.lst l true (xs.map enc))) (fun _ => False) xs [] _ (h _) (fun pre x post τ e hp => by
        obtain ⟨τ1, e1, h1⟩ := hs _ pre x post τ e hp
        exact ⟨τ1, e1, .inl h1⟩) with h | ⟨_, _, _, h⟩
      · exact h
      · exact h.elim
    obtain ⟨hg, hF2⟩ := hF _ _ _ h1
    refine ⟨_, ?_, hF2⟩
    rw [zFor_ev, zIt_ev, hz, ok_bind, kIt_ev, itL_sl, hi, itO_lst, retI_ev, ok_bind]
    unfold kFor
    rw [lockAll_L, hl, e1]
    show Res.ok _ (unlock τ [i] τ') = _
    rw [unlock_L]
    congr 1
    refine List.ext_getElem? fun j => ?_
    rw [unlockL_get, List.getElem?_set]
    have hlt' := (List.getElem?_eq_some_iff.mp hg).1
    by_cases ej : i = j
    · subst ej
      rw [if_pos rfl, if_pos hlt', hg, hci]
      simp
    · rw [if_neg ej]
      cases τ'[j]? with
      | none => rfl
      | some o => simp [Ne.symm ej]
  rcases hc with hc | hc | hc | hc
  · exact key false hc
  · exact key true hc
  · subst hc
    exact for_pre xs (P _) (by rw [zIt_ev, hz, ok_bind, kIt_ev, itL_sl, hi, itO_fl, retI_ev]) (by have := h (.fz (.list (xs.map enc))); rwa [hset] at this) (fun pre x post τ e hp => hs _ pre x post τ e hp)
  · subst hc
    exact for_pre xs (P _) (by rw [zIt_ev, hz, ok_bind, kIt_ev, itL_sl, hi, itO_ft, retI_ev]) (by have := h (.fz (.tuple (xs.map enc))); rwa [hset] at this) (fun pre x post τ e hp => hs _ pre x post τ e hp)
/-- .. as a fold -/
theorem for_slot {enc : α → PyData} {g : ZGD} {p : ZSD} {i : Nat} {c : Cell} (xs : List α) (s : S) (F : Cell → S → Fr → Prop) (step : S → α → S)
    (hc : c = .lst false false (xs.map enc) ∨ c = .lst true false (xs.map enc) ∨ c = .fz (.list (xs.map enc)) ∨ c = .fz (.tuple (xs.map enc))) (hi : cellAt τ i = some c) (h : ∀ c', F c' s (τ.set i (some c')))
    (hs : ∀ c' s x τ, x ∈ xs → F c' s τ → ∃ τ1, g (enc x) τ = some τ1 ∧ ∃ τ2, p τ1 = .ok .nx τ2 ∧ F c' (step s x) τ2)
    (hF : ∀ c' s τ, F c' s τ → τ[i]? = some (some c') ∧ F c s (τ.set i (some c))) :
    ∃ τ', zFor (zIt (zN i)) g p τ = .ok .nx τ' ∧ F c (xs.foldl step s) τ' :=
  for_slotP xs (fun c' pre τ => F c' (pre.foldl step s) τ) hc hi h (fun c' pre x post τ e hp => by
    obtain ⟨τ1, e1, τ2, e2, h2⟩ := hs c' _ x τ (by rw [e]; simp) hp
    exact ⟨τ1, e1, τ2, e2, by rw [List.foldl_append]; exact h2⟩) (fun c' pre τ hp => hF c' _ τ hp)
end
end Z

/-! Z53: small equations. -/
namespace Z
open PySem PySem.Spec PyProof.Rows L2
section
variable {α β γ S : Type} {τ : Fr}
theorem pEq_bool {a b : Bool} : pEq (.bool a) (.bool b) = some (.sc (.bool (decide (a = b)))) := by
  rw [pEq_sh (k := 0) (k' := 0) sh_bool sh_bool]
  cases a <;> cases b <;> simp [PyData.eqv]
theorem pNe_bool {a b : Bool} : pNe (.bool a) (.bool b) = some (.sc (.bool (!decide (a = b)))) := by
  rw [pNe_sh (k := 0) (k' := 0) sh_bool sh_bool]
  cases a <;> cases b <;> simp [PyData.eqv]
theorem ixN_nat {n k : Nat} (h : k < n) : ixN n (k : Int) = some k := by
  unfold ixN
  rw [if_pos (by omega), if_pos (by omega)]
  rfl
/-- a choice of three written numbers by a draw -/
theorem pick3 {a b c : Nat} (L : Tk) : ∃ v : Nat, atI [PyData.int (a : Int), .int (b : Int), .int (c : Int)] (tkR L 3) = some (.int (v : Int)) ∧ (v = a ∨ v = b ∨ v = c) := by
  obtain ⟨k, hk, hk2⟩ := tkR_nat L 3 (by decide)
  have hk : tkR L 3 = k := hk
  rw [hk]
  have : k = 0 ∨ k = 1 ∨ k = 2 := by omega
  rcases this with rfl | rfl | rfl
  · exact ⟨a, by simp, .inl rfl⟩
  · exact ⟨b, by simp, .inr (.inl rfl)⟩
  · exact ⟨c, by simp, .inr (.inr rfl)⟩
theorem pick2 {a b : Nat} (L : Tk) : ∃ v : Nat, atI [PyData.int (a : Int), .int (b : Int)] (tkR L 2) = some (.int (v : Int)) ∧ (v = a ∨ v = b) := by
  obtain ⟨k, hk, hk2⟩ := tkR_nat L 2 (by decide)
  have hk : tkR L 2 = k := hk
  rw [hk]
  have : k = 0 ∨ k = 1 := by omega
  rcases this with rfl | rfl
  · exact ⟨a, by simp, .inl rfl⟩
  · exact ⟨b, by simp, .inr rfl⟩
/-- .. among typed things -/
theorem pickT {xs : List α} {e : α → PyData} (L : Tk) (h : xs ≠ []) : ∃ x ∈ xs, atI (xs.map e) (tkR L (xs.length : Int)) = some (e x) := by
  have hp : 0 < xs.length := List.length_pos_iff.mpr h
  obtain ⟨k, hk, hk2⟩ := tkR_nat L xs.length hp
  rw [hk, atI_nat, List.getElem?_map, List.getElem?_eq_getElem hk2]
  exact ⟨xs[k], List.getElem_mem hk2, rfl⟩
theorem replicate_flat {x : α} : ∀ n : Nat, (List.replicate n [x]).flatten = List.replicate n x
  | 0 => rfl
  | n + 1 => by rw [List.replicate_succ, List.flatten_cons, replicate_flat n]; rfl
/-- [x] * n -/
theorem pMul_one {x : PyData} {n : Nat} (h : n ≤ 1000000) : pMul (.list [x]) (.int (n : Int)) = some (.nl (List.replicate n x)) := by
  rw [pMul_lst (by omega) (by omega) (by simp; omega)]
  simp [replicate_flat]
theorem all_some {xs : List (Option α)} (h : ∀ (i : Nat), i < xs.length → ∃ p, xs[i]? = some (some p)) : ∃ ys : List α, xs = ys.map some := by
  refine ⟨xs.filterMap id, ?_⟩
  induction xs with
  | nil => rfl
  | cons x xs ih =>
    obtain ⟨p, hp⟩ := h 0 (by simp)
    simp at hp
    subst hp
    rw [List.filterMap_cons]
    simp only [id_eq, List.map_cons]
    rw [← ih fun i hi => by
      obtain ⟨p, hp⟩ := h (i + 1) (by simpa using hi)
      exact ⟨p, by simpa using hp⟩]
end
end Z

/-! Z54: raise, try, isinstance of an exception. -/
namespace Z
open PySem PySem.Spec PyProof.Rows L2
/-- what is known of the classes of exceptions -/
structure ExT (K : PySem.W.Frag) (mg : Str → Option Value) (names : List Str) (sub : Str → Str → Bool) : Prop where
  ec : ∀ m ∈ names, ∃ D, mg m = some (.ref D) ∧ ExcC K D ∧ ∀ c ∈ names, ∃ C, mg c = some (.ref C) ∧ PySem.W.kitOne K (.ref D) (.ref C) = some (sub m c) ∧ PySem.W.exmOne K (.ref D) (.ref C) = some (sub m c)
def zRaise (n : Str) : ZSD := fun τ => .exc n τ
section
variable [TB : Tabs] {X : Cx} {W : WZ}
theorem zs_raise {x m : Str} {C : Addr} {B newId initId : String} {bmB : List Value} {j : Nat} {p p2 pos pos' : Pos} (hc : X.calm = true) (tk : L2N.Takes X (wz X.mg W)) (F : ExcBaseFacts B newId initId bmB) (q : PySem.W.excIn X.K C bmB newId = true) (gC : X.mg x = some (.ref C))
    (kC : PySem.W.keepIn X.K (.ref C) = true) (r : Raises X (.ref C)) (hg : Gl X x) (hdb : (x == ("__debug__" : Str)) = false := by decide) :
    ZS X W (.Raise (some (.Call (.Name x p) [.Constant (.str m) j p2] [] pos)) none pos') (zRaise x) := by
  refine ⟨⟨fun pins s σ H D I h => (L2N.ps_raise hc tk (L2N.pmk_own F q gC kC r hg hdb)).run pins s σ H D I ?_⟩⟩
  obtain ⟨G, τ, s0, h⟩ := h
  exact ⟨rfl, x, gC, h G σ H (Sx.refl s0)⟩
end
/-! ### more exceptions in hand -/
@[reducible] def Tabs.more (T : Tabs) (a : Addr) (n : Str) : Tabs := ⟨T.t, fun b m => T.ex b m ∨ (b = a ∧ m = n)⟩
section
variable {K : PySem.W.Frag} {G G' H H' : Hp} {σ : Z.St} {τ : Fr} {v : V} {c : Cell}
theorem CR.tabs {T T' : Tabs} (h : @CR T K G H v c) (hx : ∀ a n, c = .exc n → T.ex a n → T'.ex a n) : @CR T' K G H v c := by
  cases c with
  | exc n => obtain ⟨a, e, q⟩ := h; exact ⟨a, e, hx a n rfl q⟩
  | fz d => exact h
  | lst l k ds => exact h
  | dct l k t kvs => exact h
  | scr ns => exact h
theorem SR.tabs {T T' : Tabs} (h : @SR T K G τ σ H) (ht : T.t = T'.t) (hx : ∀ (i : Nat) a n, τ[i]? = some (some (.exc n)) → T.ex a n → T'.ex a n) : @SR T' K G τ σ H :=
  @SR.mk T' K G τ σ H (@SR.len T K G τ σ H h) (@SR.sub T K G τ σ H h) (fun i c hi => by
    obtain ⟨v, e, r⟩ := @SR.cell T K G τ σ H h i c hi
    exact ⟨v, e, CR.tabs r fun a n ec q => hx i a n (by rw [← ec]; exact hi) q⟩) (@SR.sep T K G τ σ H h) (fun P hP => @SR.tab T K G τ σ H h P (by rw [ht]; exact hP))
def isExc : Option Cell → Bool
  | some (.exc _) => true
  | _ => false
end
/-- try: p, except one of the classes that isE tells, as the name i: q -/
def zTry (i : Nat) (isE : Str → Option Bool) (p q : ZSD) : ZSD := fun τ => match p τ with
  | .ok f τ1 => .ok f τ1
  | .exc m τ1 => if τ1.any isExc || decide (τ1.length ≤ i) || objAt τ1 i then .stuck else match isE m with
    | some true => (match q (τ1.set i (some (.exc m))) with
      | .ok (.rt c) τ2 => if (τ2.set i none).any isExc || isExc (some c) || objAt τ2 i then .stuck else .ok (.rt c) (τ2.set i none)
      | _ => .stuck)
    | some false => .exc m τ1
    | none => .stuck
  | .stuck => .stuck
section
variable [TB : Tabs] {X : Cx} {W : WZ}
theorem any_exc {τ : Fr} (h : τ.any isExc = false) {i : Nat} {n : Str} (e : τ[i]? = some (some (.exc n))) : False := by
  have := List.any_eq_false.mp h _ (List.mem_of_getElem? e)
  exact this rfl
theorem zs_try {i : Nat} {x n : Str} {C : Addr} {names : List Str} {sub : Str → Str → Bool} {body suite : List Stmt} {b₀ : Stmt} {np pos pos' : Pos} {p q : ZSD} (hs : X.stack = X.env :: X.outer) (hf : X.env.frame = some X.env.locals) (hN : X.N.Nodup) (hi : X.N[i]? = some n) (hln : X.env.kindOf n = some .local)
    (hg : Gl X x) (hdb : (x == ("__debug__" : Str)) = false) (hm : X.mg x = some (.ref C)) (tk : L2N.Takes X (wz X.mg W)) (ET : ExT X.K X.mg names sub) (hx : x ∈ names)
    (hb : ∀ (W' : WZ) (pn : List (Addr × Obj)) (xe : Value → Shared → Prop), L2N.Takes (X.tr pn xe) (wz X.mg W') → PassesOwn (model X.prog X.w) X.A X.env xe → ZSs (X.tr pn xe) W' body p)
    (hsu : ∀ (a : Addr) (oe : Obj) (D : Addr) (m : Str) (pn : List (Addr × Obj)), m ∈ names → X.mg m = some (.ref D) → L2N.Zn (.ref D) none oe → (∃ vs, oe.data = .fields vs) → (∀ b k, TB.ex b k → False) → @ZSs (TB.more a m) (X.suite a ((a, oe) :: pn)) wF (b₀ :: suite) q) (hno : ∀ b k, TB.ex b k → False) :
    ZS X W (.Try body [.ExceptHandler (some (.Name x np)) (some n) (b₀ :: suite) pos'] [] [] pos) (zTry i (fun m => if m ∈ names then some (sub m x) else none) p q) := by
  refine ⟨⟨fun pins s σ H D I h => ?_⟩⟩
  refine (L2N.ps_try_as (i := i) (tb := fun W0 => tZS X.K (fun m σ' H' => ∀ cls, X.mg m = some cls → W0 cls none σ' H') p) (ts := fun a cls d D' σ' H' => d = none ∧ ∃ m Dm, m ∈ names ∧ cls = .ref Dm ∧ X.mg m = some cls ∧ @tZS (TB.more a m) X.K wF q D' σ' H') (Wout := wz X.mg W) hs hf hN hi hln ⟨hg, hdb, .inl hm⟩ tk (fun W0 pn xe tk0 hp => ?_) (fun a oe cls d pn hz hf' => ?_)).run pins s σ H D I ?_
  · exact (hb _ pn xe (tk0.imp fun c d σ' H' ⟨hd, m, hm', hW⟩ => by subst hd; exact hW c hm') hp).ps
  · refine ⟨fun pins' s' σ' H' D' I' h' => ?_⟩
    obtain ⟨hd, m, Dm, hmn, rfl, hmm, h'⟩ := h'
    subst hd
    exact (@ZSs.ps (TB.more a m) _ _ _ _ (hsu a oe Dm m pn hmn hmm hz hf' hno)).run pins' s' σ' H' D' I' h'
  · obtain ⟨G, τ, s0, h⟩ := h
    refine ⟨G, τ, s0, ?_⟩
    unfold zTry at h
    cases ep : p τ with
    | stuck => rw [ep] at h; exact h
    | ok f τ1 =>
      rw [ep] at h
      cases f <;> exact h
    | exc m τ1 =>
      rw [ep] at h
      dsimp only at h
      split at h
      · exact h.elim
      · rename_i hc
        rw [Bool.or_eq_true, Bool.or_eq_true, not_or, not_or, decide_eq_true_eq] at hc
        obtain ⟨⟨hex, hlen⟩, hob⟩ := hc
        have hex := Bool.eq_false_iff.mpr hex
        have hob := Bool.eq_false_iff.mpr hob
        intro G1 σ1 H1 x1 cls hcls
        by_cases hmn : m ∈ names
        · rw [if_pos hmn] at h
          obtain ⟨Dm, e1, EC, hall⟩ := ET.ec m hmn
          obtain ⟨C', e2, e3, e4⟩ := hall x hx
          rw [hm] at e2
          cases e2
          rw [e1] at hcls
          cases hcls
          refine ⟨sub m x, e4, fun hb' a ha => ?_, fun hb' => ?_⟩
          · rw [hb'] at h
            dsimp only at h
            refine ⟨rfl, m, Dm, hmn, rfl, e1, ?_⟩
            have hli : i < τ1.length := by omega
            have hli2 : i < σ1.length := by rw [← x1.sr.len]; exact hli
            have s2 : @SR (TB.more a m) X.K G1 (τ1.set i (some (.exc m))) (σ1.set i (some (V.ref a))) H1 := by
              refine @SR.mk (TB.more a m) X.K G1 (τ1.set i (some (.exc m))) (σ1.set i (some (V.ref a))) H1 ?_ x1.sr.sub (fun j c hj => ?_) (fun j k cj ck v hjk hj hk oj ok sj => ?_) (fun P hP => x1.sr.tab P hP)
              · rw [List.length_set, List.length_set]; exact x1.sr.len
              · rw [List.getElem?_set] at hj
                by_cases hij : i = j
                · subst hij
                  rw [if_pos rfl, if_pos hli] at hj
                  cases hj
                  exact ⟨.ref a, by rw [List.getElem?_set, if_pos rfl, if_pos hli2], a, rfl, .inr ⟨rfl, rfl⟩⟩
                · rw [if_neg hij] at hj
                  obtain ⟨v, e, r⟩ := x1.sr.cell j c hj
                  exact ⟨v, by rw [List.getElem?_set, if_neg hij]; exact e, CR.tabs r fun b n ec _ => (any_exc hex (by rw [← ec]; exact hj)).elim⟩
              · have nj : i ≠ j := fun z => by
                  subst z
                  rw [List.getElem?_set, if_pos rfl, if_pos hli] at hj
                  cases hj; cases oj
                have nk : i ≠ k := fun z => by
                  subst z
                  rw [List.getElem?_set, if_pos rfl, if_pos hli] at hk
                  cases hk; cases ok
                rw [List.getElem?_set, if_neg nj] at hj sj
                rw [List.getElem?_set, if_neg nk] at hk ⊢
                exact x1.sr.sep j k cj ck v hjk hj hk oj ok sj
            refine ⟨G1, τ1.set i (some (.exc m)), s2, ?_⟩
            cases eq : q (τ1.set i (some (.exc m))) with
            | stuck => rw [eq] at h; exact h.elim
            | exc k τ2 => rw [eq] at h; exact h.elim
            | ok f τ2 =>
              rw [eq] at h
              cases f with
              | nx => exact h.elim
              | bk => exact h.elim
              | ct => exact h.elim
              | rt c =>
                dsimp only at h
                split at h
                · exact h.elim
                · rename_i hc2
                  rw [Bool.or_eq_true, Bool.or_eq_true, not_or, not_or] at hc2
                  obtain ⟨⟨hc2, hc3⟩, hc4⟩ := hc2
                  have hc2 := Bool.eq_false_iff.mpr hc2
                  have hc4 := Bool.eq_false_iff.mpr hc4
                  intro G2 σ2 H2 v x2 r2
                  have sr2 := @Sx.sr (TB.more a m) _ _ _ _ _ _ _ _ _ x2
                  have kp2 := @Sx.kp (TB.more a m) _ _ _ _ _ _ _ _ _ x2
                  have on2 := @Sx.ownN (TB.more a m) _ _ _ _ _ _ _ _ _ x2
                  have kl2 := @Sx.keepL (TB.more a m) _ _ _ _ _ _ _ _ _ x2
                  have len2 := @SR.len (TB.more a m) _ _ _ _ _ sr2
                  have sub2 := @SR.sub (TB.more a m) _ _ _ _ _ sr2
                  have cell2 := @SR.cell (TB.more a m) _ _ _ _ _ sr2
                  have sep2 := @SR.sep (TB.more a m) _ _ _ _ _ sr2
                  have tab2 := @SR.tab (TB.more a m) _ _ _ _ _ sr2
                  have ownOf : ∀ {b : Addr}, @OwnN (τ1.set i (some (.exc m))) (σ1.set i (some (V.ref a))) b → OwnN τ1 σ1 b := fun {b} ⟨j, c', h1, h2, h3, h4, h5⟩ => by
                    have nj : i ≠ j := fun z => by
                      subst z
                      rw [List.getElem?_set, if_pos rfl, if_pos hli] at h1
                      cases h1; cases h2
                    rw [List.getElem?_set, if_neg nj] at h1 h5
                    exact ⟨j, c', h1, h2, h3, h4, h5⟩
                  have owdOf : ∀ {b : Addr}, Ownd (τ1.set i (some (.exc m))) (σ1.set i (some (V.ref a))) b → Ownd τ1 σ1 b := fun {b} ⟨j, c', h1, h2, h3, h5⟩ => by
                    have nj : i ≠ j := fun z => by
                      subst z
                      rw [List.getElem?_set, if_pos rfl, if_pos hli] at h1
                      cases h1; cases h2
                    rw [List.getElem?_set, if_neg nj] at h1 h5
                    exact ⟨j, c', h1, h2, h3, h5⟩
                  have x3 : Sx X.K G1 τ1 σ1 H1 G2 (τ2.set i none) (σ2.set i none) H2 := by
                    have srt : SR X.K G2 (τ2.set i none) (σ2.set i none) H2 := by
                      refine SR.mk ?_ sub2 (fun j c' hj => ?_) (fun j k cj ck v hjk hj hk oj ok sj => ?_) (fun P hP => tab2 P hP)
                      · rw [List.length_set, List.length_set]; exact len2
                      · have nj : i ≠ j := fun z => by
                          subst z
                          rw [List.getElem?_set, if_pos rfl] at hj
                          split at hj <;> cases hj
                        have hj0 := hj
                        rw [List.getElem?_set, if_neg nj] at hj
                        obtain ⟨v', e, r⟩ := cell2 j c' hj
                        exact ⟨v', by rw [List.getElem?_set, if_neg nj]; exact e, CR.tabs r fun b k ec _ => (any_exc hc2 (by rw [← ec]; exact hj0)).elim⟩
                      · have nj : i ≠ j := fun z => by
                          subst z
                          rw [List.getElem?_set, if_pos rfl] at hj
                          split at hj <;> cases hj
                        have nk : i ≠ k := fun z => by
                          subst z
                          rw [List.getElem?_set, if_pos rfl] at hk
                          split at hk <;> cases hk
                        rw [List.getElem?_set, if_neg nj] at hj sj
                        rw [List.getElem?_set, if_neg nk] at hk ⊢
                        exact sep2 j k cj ck v hjk hj hk oj ok sj
                    refine ⟨srt, kp2.imp fun b hb => .inl (owdOf hb), fun b hb => ?_, fun j c' hj o md => ?_⟩
                    · obtain ⟨j, c', h1, h2, h3, h4, h5⟩ := hb
                      have nj : i ≠ j := fun z => by
                        subst z
                        rw [List.getElem?_set, if_pos rfl] at h1
                        split at h1 <;> cases h1
                      rw [List.getElem?_set, if_neg nj] at h1 h5
                      exact (on2 b ⟨j, c', h1, h2, h3, h4, h5⟩).imp_left ownOf
                    · have nj : i ≠ j := fun z => by
                        subst z
                        rw [List.getElem?_set, if_pos rfl] at hj
                        split at hj <;> cases hj
                      rw [List.getElem?_set, if_neg nj] at hj
                      obtain ⟨c0, z1, z2, z3, z4, z5⟩ := kl2 j c' hj o md
                      rw [List.getElem?_set, if_neg nj] at z1
                      refine ⟨c0, z1, z2, z3, z4, ?_⟩
                      rw [List.getElem?_set, if_neg nj, z5, List.getElem?_set, if_neg nj]
                  refine h G2 (σ2.set i none) H2 v (x1.trans x3) ?_
                  refine RtOk.back x1 ⟨CR.tabs r2.1 fun b k ec _ => by rw [ec] at hc3; exact (hc3 rfl).elim, fun o => ⟨(r2.2 o).1, (r2.2 o).2.1, fun b eb => ?_⟩⟩
                  exact ((r2.2 o).2.2 b eb).imp_left ownOf
          · rw [hb'] at h
            exact ⟨rfl, m, e1, h G1 σ1 H1 x1⟩
        · rw [if_neg hmn] at h
          exact h.elim
end
end Z

/-! Z55: isinstance of an exception, defs that are handed one. -/
namespace Z
open PySem PySem.Spec PyProof.Rows L2
/-- the exceptions in hand are pinned in X -/
def ExIn (TB : Tabs) (X : Cx) (names : List Str) : Prop := ∀ a m, TB.ex a m → m ∈ names ∧ ∃ oe D, (a, oe) ∈ X.pn ∧ X.mg m = some (.ref D) ∧ Zc (.ref D) none oe ∧ ∃ vs : Array Value, oe.data = .fields vs
def rIsX (TB : Tabs) (mg : Str → Option Value) (sub : Str → Str → Bool) (c : Str) : List V → Hp → VK → Prop := fun xs H Q => ∃ a m C, TB.ex a m ∧ mg c = some (.ref C) ∧ xs = [.ref a, .ref C] ∧ Q (.bl (sub m c)) H
theorem call_isX {TB : Tabs} {X : Cx} {names : List Str} {sub : Str → Str → Bool} {c : Str} (ET : ExT X.K X.mg names sub) (hx : ExIn TB X names) (hc : c ∈ names) : CallR X (.builtin "isinstance") (rIsX TB X.mg sub c) := by
  rintro pins s σ H xs us Q I r ⟨a, m, C, hex, hmc, rfl, q⟩
  obtain ⟨hm, oe, D, hpn, hmD, hz, vs, hv⟩ := hx a m hex
  obtain ⟨D', e1, EC, hall⟩ := ET.ec m hm
  rw [hmD] at e1
  cases e1
  obtain ⟨C', e2, e3, _⟩ := hall c hc
  rw [hmc] at e2
  cases e2
  cases r with
  | cons rx rr =>
    cases rr with
    | cons rt rr =>
      cases rr
      cases rx
      cases rt
      obtain ⟨hget, _⟩ := I.pin (a, oe) (List.mem_append_left _ hpn)
      have J : PySem.W.InstAt s.heap a oe D none := by
        obtain ⟨oc, od, oda, osl⟩ := oe
        obtain ⟨z1, z2⟩ := hz
        dsimp only at z1 z2 hv
        subst z1 z2 hv
        exact ⟨hget, rfl, rfl, trivial⟩
      exact PySem.W.kia_one (PySem.W.handS_kitx_exc EC.hg EC.hk EC.hs EC.hd EC.ha EC.hn EC.ht EC.hm) I.kIn J e3 (fun z => nomatch z) fun tk => ⟨.bl (sub m c), H, I.kept (t' := tk) fun _ _ z => z, rfl, q⟩
def zIsE (sub : Str → Str → Bool) (i : Nat) (c : Str) : ZD := fun τ => match cellAt τ i with
  | some (.exc m) => .ok (.cl (.fz (.bool (sub m c)))) τ
  | _ => .stuck
section
variable [TB : Tabs] {X : Cx} {W : WZ}
theorem ze_isE {x n c : Str} {i : Nat} {p p1 p2 pos : Pos} {C : Addr} {names : List Str} {sub : Str → Str → Bool} (ET : ExT X.K X.mg names sub) (hx : ExIn TB X names) (hc : c ∈ names) (hmc : X.mg c = some (.ref C)) (hgc : Gl X c) (hdc : (c == ("__debug__" : Str)) = false)
    (hg : Gl X x) (hm : X.mg x = none) (hv : bootBuiltins x = some (.builtin "isinstance")) (hN : X.N[i]? = some n) (hvi : Vis X.env.scope n) (hdn : (n == ("__debug__" : Str)) = false) (hcd : (n == ("__classdict__" : Str)) = false) (hn : x ≠ "__name__" := by decide) (hdb : (x == ("__debug__" : Str)) = false := by decide)
    (he : starEach [.Name n p1, .Name c p2] X.env = (false, eval (.Name n p1) X.env) :: starEach [.Name c p2] X.env := by rfl) (he2 : starEach [.Name c p2] X.env = (false, eval (.Name c p2) X.env) :: starEach [] X.env := by rfl)
    (hpl : (backTo pos (starEach [.Name c p2] X.env)).any (·.1) = false := by rfl) : ZE X W (.Call (.Name x p) [.Name n p1, .Name c p2] [] pos) (zIsE sub i c) := by
  refine ⟨⟨fun pins s σ H Q I h => (pe_callB (call_isX ET hx hc) hg hm hv (pa_cons (pe_var hN hvi hdn hcd) (pa_cons (pe_glob (v := .ref C) hgc hmc rfl hdc) pa_nil he2) he) hn hdb he hpl).run pins s σ H Q I ?_⟩⟩
  obtain ⟨G, τ, s0, h⟩ := tZ_to h
  unfold zIsE at h
  split at h
  · rename_i m em
    obtain ⟨v, e, a, rfl, hex⟩ := s0.cell i _ (cellAt_some em)
    exact ⟨.ref a, e, a, m, C, hex, hmc, rfl, h G H _ (Ex.refl s0) ⟨.bl _, fun o => nomatch o⟩⟩
  · exact h.elim
end

/-! ### a def that is handed an exception, within an except suite -/
/-- what such a def gives: a text, by the class's name -/
def spP (K : PySem.W.Frag) (mg : Str → Option Value) (t : Addr → Prop) (names : List Str) (φ : Mir) (p : Addr × Obj) : Sp := fun vs H Q E => vs = [.ref p.1] ∧ ∃ m D G, m ∈ names ∧ mg m = some (.ref D) ∧ Zc (.ref D) none p.2 ∧ (Sub G H ∧ ∀ P, t P → G P = none ∧ TabO H P) ∧ match φ [.exc m] with
  | .ok (.fz d) _ => ∀ G' H' v, Kp (fun _ => False) G H G' H' → (Sub G' H' ∧ ∀ P, t P → G' P = none ∧ TabO H' P) → RD K G' v d → Q v H'
  | _ => False
structure FnP (P : Program) (w : World) (K : PySem.W.Frag) (mg : Str → Option Value) (base : Heap) (k : Nat) (f : Addr) (fd : FuncData) (ps : List Str) (sp : Addr × Obj → Sp) : Prop where
  len : ∀ p vs H Q E, sp p vs H Q E → vs.length = ps.length
  run : ∀ (A : Around) (outer : List Env) (s : Shared) (H : Hp) (args : Args) (us : List Value) (vs : List V) (Q : VK) (p : Addr × Obj), L2H.RoomH k A → L2H.Hot1 A p → L2H.PinOk outer H s p → Env0 P w K mg base A outer s H → BindsTo s fd args (ps.zip us) → Vals vs us → sp p vs H Q (fun _ _ _ => False) →
    codeAny (model P w) A (.call (.ref f) args) (L2.CR (L2N.CX P w) outer P w H s Q (fun _ _ _ => False)) s
section
variable {P : Program} {w : World} {K : PySem.W.Frag} {mg : Str → Option Value} {base : Heap}
theorem zfnP {k : Nat} {f : Addr} {name qual x : Str} {params : Arguments} {body : List Stmt} {scope : Scope} {dV kV doc pm cdv ct oc : Value} {an od : Option Addr} {osl : Array (Option Value)} {N : List Str} {d : ZSD} {t : Addr → Prop} {names : List Str}
    (lk : K.lookup f = some ⟨oc, od, .func (PySem.W.fnOf name qual params body scope dV kV doc pm an cdv ct), osl⟩) (hcd : PySem.W.codeIn K cdv qual = true) (S : FnScope N [x] scope)
    (hbody : ∀ (A : Around) (outer : List Env) (s : Shared) (H : Hp) (p : Addr × Obj) (m : Str) (D : Addr), L2H.Hot1 A p → L2H.RoomH k (A.deeper (envOfC qual scope s.heap.objs.size f cdv)) → m ∈ names → mg m = some (.ref D) → Zc (.ref D) none p.2 → (∃ vs, p.2.data = .fields vs) →
      @ZSs ⟨t, fun a n => a = p.1 ∧ n = m⟩ (L2H.cxH (L2N.CX P w) P w K mg base N qual scope f cdv A outer s H (fun _ _ _ => False) p) wF body d) :
    FnP P w K mg base (k + 1) f (PySem.W.fnOf name qual params body scope dV kV doc pm an cdv ct) [x] (spP K mg t names (runB N.length d)) := by
  refine ⟨fun p vs H Q E z => by rw [z.1]; rfl, ?_⟩
  intro A outer s H args us vs Q p room hot hpin e0 bnd rv ⟨ev, m, D, G, hm, hmD, hz, hG, hφ⟩
  subst ev
  have inK : K.In s.heap := e0.mod.kin.keeps fun b o z => (e0.bs b o z).1
  have noL : s.heap.NoLimit := e0.mod.nolimit.keeps fun b o z => (e0.bs b o z).1
  have hkd : ∀ y ∈ [x].zip us, scope.names.lookup y.1 = some .local ∨ (scope.names.lookup y.1 = some .cell ∧ ((cellsFrom (s.heap.objs.size + 1) scope.names []).lookup y.1).isSome = true) := by
    rintro ⟨n, u⟩ hy
    exact (S.par n (List.of_mem_zip hy).1).imp_right fun q => ⟨q, PySem.W.cellsFrom_some _ _ _ (.inl q)⟩
  refine codeAny_call_function room.depth (inK _ _ lk) rfl S.co S.gen rfl (PySem.W.codeRec_of inK hcd) (bnd _ _ _ _ (wpAny_newFunctionEnv_cells S.kind hkd fun env he s1 y => ?_))
  subst he
  refine ⟨noL.keeps y.toInCall.keep, codeAny_func ?_⟩
  obtain ⟨vs1, hd1, _⟩ := hot.2
  have hZ := hbody A outer s H p m D hot (room.deeper _) hm hmD hz ⟨vs1, hd1⟩
  have I0 := L2H.inv_startH (CX := L2N.CX P w) (E := fun _ _ _ => False) S hpin e0 (vs := [.ref p.1]) rfl rv y
  letI TB : Tabs := ⟨t, fun a n => a = p.1 ∧ n = m⟩
  have AO : ArgOk K G H [V.ref p.1] [.exc m] := by
    refine ⟨rfl, hG, fun i v c hv hc => ?_, fun i c hc o => ?_, fun i j ci cj v n hi hj oi oj => ?_⟩
    · cases i with
      | zero =>
        cases hv; cases hc
        exact ⟨p.1, rfl, rfl, rfl⟩
      | succ i => simp at hv
    · cases i with
      | zero => cases hc; cases o
      | succ i => simp at hc
    · cases i with
      | zero => cases hi; cases oi
      | succ i => simp at hi
  have SR0 := SR.start (N := N) AO
  refine wpAny_mono (hZ.ps.run [] s1 (L2.start N [.ref p.1]) H { nx := fun _ H' => Q .non H', rt := Q } I0 ⟨G, frame0 N.length [.exc m], SR0, ?_⟩) (fun fl s' hs => ?_) fun e s' he => ?_
  · have own0 : ∀ {a : Addr}, Ownd (frame0 N.length [.exc m]) (L2.start N [.ref p.1]) a → False := fun {a} z => by
      obtain ⟨i, c, h1, h2, _⟩ := own_start z
      cases i with
      | zero => cases h1; cases h2
      | succ i => simp at h1
    unfold runB at hφ
    cases e : d (frame0 N.length [.exc m]) with
    | stuck => rw [e] at hφ; exact hφ
    | exc n τ' => rw [e] at hφ; exact hφ.elim
    | ok fl τ' =>
      rw [e] at hφ
      cases fl with
      | bk => exact hφ.elim
      | ct => exact hφ.elim
      | nx =>
        intro G' σ' H' z
        exact hφ G' H' .non (z.kp.imp fun a ha => (own0 ha).elim) z.sr.okh .non
      | rt c =>
        cases c with
        | fz dd =>
          intro G' σ' H' v z q
          exact hφ G' H' v (z.kp.imp fun a ha => (own0 ha).elim) z.sr.okh q.1
        | lst _ _ _ => exact hφ.elim
        | dct _ _ _ _ => exact hφ.elim
        | exc _ => exact hφ.elim
        | scr _ => exact hφ.elim
  · cases fl with
    | ret u =>
      obtain ⟨v, σ', H', J, ru, q⟩ := hs
      exact ⟨v, H', J.os, J.bare, J.base, J.hok, ru, q⟩
    | next =>
      obtain ⟨σ', H', J, q⟩ := hs
      exact ⟨V.non, H', J.os, J.bare, J.base, J.hok, rfl, q⟩
    | brk => obtain ⟨_, _, _, q⟩ := hs; exact q.elim
    | cont => obtain ⟨_, _, _, q⟩ := hs; exact q.elim
  · exact he
end
end Z

/-! Z56: the call of such a def. -/
namespace Z
open PySem PySem.Spec PyProof.Rows L2
/-- the exceptions in hand are handled here -/
def ExHot (TB : Tabs) (X : Cx) (names : List Str) : Prop := ∀ a m, TB.ex a m → m ∈ names ∧ ∃ oe D, (a, oe) ∈ X.pn ∧ L2H.Hot1 X.A (a, oe) ∧ X.mg m = some (.ref D) ∧ Zc (.ref D) none oe
theorem ExHot.exIn {TB : Tabs} {X : Cx} {names : List Str} (h : ExHot TB X names) : ExIn TB X names := fun a m q => by
  obtain ⟨h1, oe, D, h2, ⟨_, vs, h3, _⟩, h4, h5⟩ := h a m q
  exact ⟨h1, oe, D, h2, h4, h5, vs, h3⟩
def kExc (φ : Mir) (τ : Fr) : Res LR → Res LR := fun r => r
def zCallP (φ : Mir) (i : Nat) : ZD := fun τ => match cellAt τ i with
  | some (.exc m) => (match φ [.exc m] with
    | .ok (.fz d) _ => .ok (.cl (.fz d)) τ
    | _ => .stuck)
  | _ => .stuck
section
variable [TB : Tabs] {X : Cx} {W : WZ}
theorem kp_none {K : PySem.W.Frag} {G H G' H' : Hp} {τ : Fr} {σ : Z.St} (s : SR K G τ σ H) (kp : Kp (fun _ => False) G H G' H') (ok : Sub G' H' ∧ ∀ P, Tabs.t P → G' P = none ∧ TabO H' P) : Ex K σ G τ H G' τ H' := by
  refine ⟨⟨s.len, ok.1, fun i c hi => ?_, s.sep, ok.2⟩, kp.imp fun a z => z.elim, fun i c hi o => ⟨c, hi, o, rfl, rfl⟩⟩
  obtain ⟨v, e, r⟩ := s.cell i c hi
  exact ⟨v, e, r.mono kp.1 fun a o _ _ nt h => kp.2.1 a o h nt fun z => z⟩
theorem ze_callP {x y n : Str} {i k : Nat} {f : Addr} {fd : FuncData} {p1 q pos : Pos} {φ : Mir} {names : List Str} (F : FnP X.prog X.w X.K X.mg X.base k f fd [y] (spP X.K X.mg TB.t names φ)) (hr : L2H.RoomH k X.A) (hh : ExHot TB X names)
    (hg : Gl X x) (hm : X.mg x = some (.ref f)) (hk : PySem.W.keepIn X.K (.ref f) = true) (hb : Binds X.K fd [y] []) (hN : X.N[i]? = some n) (hvi : Vis X.env.scope n) (hdn : (n == ("__debug__" : Str)) = false) (hcd : (n == ("__classdict__" : Str)) = false) (hdb : (x == ("__debug__" : Str)) = false)
    (he : starEach [.Name n p1] X.env = (false, eval (.Name n p1) X.env) :: starEach [] X.env := by rfl) (hpl : (backTo pos (starEach [] X.env)).any (·.1) = false := by rfl) : ZE X W (.Call (.Name x q) [.Name n p1] [] pos) (zCallP φ i) := by
  refine ⟨⟨fun pins s σ H Q I h => ?_⟩⟩
  obtain ⟨G, τ, s0, h⟩ := tZ_to h
  unfold zCallP at h
  split at h
  · rename_i m em
    obtain ⟨v, ev, a, rfl, hex⟩ := s0.cell i _ (cellAt_some em)
    obtain ⟨hmn, oe, D, hpn, hot, hmD, hz⟩ := hh a m hex
    refine wpAny_Call_Name_kw (ld_glob I hg hm ?_ hdb)
    refine PySem.W.callWith_K (h₀ := X.base) I.ok.mod.kin hk (thn ((pa_cons (pe_var hN hvi hdn hcd) pa_nil he).run pos pins s σ H (fun vs H1 => vs = [V.ref a] ∧ H1 = H) I ⟨.ref a, ev, rfl, rfl⟩) fun us s1 ⟨vs, H1, I1, r, e1, e2⟩ => ⟨I1.kIn, ?_⟩) he hpl
    subst e1 e2
    have ul : us.length = 1 := by rw [← r.length]; rfl
    have bnd := hb s1 us I1.kIn (by rw [List.append_nil]; exact ul)
    rw [List.append_nil] at bnd
    have P1 := I1.pin (a, oe) (List.mem_append_left _ hpn)
    have pin : L2H.PinOk X.stack H1 s1 (a, oe) := ⟨P1.1, P1.2.1, fun z => (List.mem_cons.mp (I1.stkSub a z)).elim P1.2.2.1 P1.2.2.2.1, P1.2.2.2.2⟩
    refine wpAny_call (codeAny_mono (F.run X.A X.stack s1 H1 ⟨us, []⟩ us [.ref a] Q (a, oe) hr hot pin I1.env0 bnd r ⟨rfl, m, D, G, hmn, hmD, hz, s0.okh, ?_⟩) fun res s' hq => ?_)
    · split at h
      · rename_i d τ2 eφ
        try rw [eφ]
        intro G' H' v kp ok rd
        exact h G' H' v (kp_none s0 kp ok) ⟨rd, fun o => nomatch o⟩
      · exact h.elim
    · cases res with
      | error u =>
        obtain ⟨_, _, _, _, _, _, _, _, _, _, _, _, z⟩ := hq
        exact z.elim
      | ok fl =>
        cases fl with
        | ret u => exact I1.after hq
        | next => exact hq.elim
        | brk => exact hq.elim
        | cont => exact hq.elim
  · exact h.elim
end
end Z

/-! Z57: list comprehensions where an exception is handled. -/
namespace Z
open PySem PySem.Spec PyProof.Rows L2
section
variable {prog : Program} {w : World} {A : Around} {E : Value → Shared → Prop} {s : Shared}
/-- a list's iterator ends while an exception is handled -/
theorem next_end_hot {it l x1 : Addr} {i : Nat} {items : Array Value} {Q : Option Value → Shared → Prop} (hot : HotX.HotAt A x1 s.heap) (hne : x1 ≠ it) (hit : s.heap.IsListIter it l i) (hl : s.heap.IsList l items) (hx : items[i]? = none)
    (hQ : ∀ h', Heap.ExtBut it s.heap h' → Q none { s with heap := h' }) : wpAny (model prog w) A (pyNext (.ref it)) Q E s := by
  obtain ⟨hh, o1, vs1, g1, d1, c1⟩ := hot
  obtain ⟨o, ho, hc, hd⟩ := id hit
  obtain ⟨ol, hol, _, nl, hdl⟩ := hl
  unfold pyNext
  refine wpAny_bind (wpAny_attempt (wpAny_callSpecial?_slot (name := Str.ofString "__next__") hit.typeIs slot_listiter_next (wpAny_call_entry slot_listiter_next hit.typeIs entry_listiter_next ?_ (args_listiter_next _))))
  show wpAny _ _ (field (.ref it) 0 >>= _) _ _ s
  refine wpAny_bind (wpAny_field ho hd (x := .ref l) rfl ?_)
  show wpAny _ _ (if (Value.ref l == Value.none) = true then _ else _) _ _ s
  rw [if_neg (show ¬ ((Value.ref l == Value.none) = true) from Bool.false_ne_true)]
  show wpAny _ _ (field (.ref it) 1 >>= _) _ _ s
  refine wpAny_bind (wpAny_field ho hd (x := .int i 0) rfl ?_)
  show wpAny _ _ (seqItems? (.ref l) >>= _) _ _ s
  refine wpAny_bind (wpAny_seqItems hol hdl ?_)
  simp only [Int.toNat_natCast, hx]
  refine wpAny_bind (wpAny_rule (wpAny_bind (wpAny_setField ho hd (by simp) ?_)))
  show wpAny _ _ (newExc (.type "StopIteration") [] >>= _) _ _ _
  refine wpAny_bind ?_
  simp only [newExc, newTuple]
  refine wpAny_bind (wpAny_newObj_type ?_ (by size_fits))
  refine wpAny_bind (m := firstArgMember _ _) (wpAny_of_eq (a := Value.none) (by first | rfl | (simp only [firstArgMember]; rfl)) ?_)
  refine wpAny_newObj_type ?_ (by size_fits)
  have kx : ∀ {h : Heap}, Heap.SameBut it s.heap h → h.get? x1 = some o1 := fun {h} z => (z.2 x1 hne).trans g1
  refine HotX.raiseNew_hot (x1 := x1) ⟨hh, o1, vs1, Heap.get?_push_of_some _ (Heap.get?_push_of_some _ (kx (Heap.SameBut.update ..))), d1, c1⟩ (Nat.ne_of_lt (Heap.lt_size (Heap.get?_push_of_some _ (kx (Heap.SameBut.update ..))))) (Heap.get?_push_size _ rfl) rfl (by first | (simp; done) | (simp; omega) | (simp only [Array.size_append]; simp; omega)) ?_
  refine wpAny_bind (wpAny_isInstance (T := "StopIteration") (b := true) ⟨_, Heap.get?_update_self _ (Heap.get?_push_size _ rfl) rfl, rfl⟩ isSubtype_stop ?_)
  refine wpAny_pure (hQ _ fun b u hb e => ?_)
  have up : ∀ f : Obj → Obj, (s.heap.update it f).get? b = s.heap.get? b := fun f => (Heap.SameBut.update s.heap it f).2 b hb
  rw [Heap.get?_update_other _ _ (Nat.ne_of_gt (Heap.lt_size (Heap.get?_push_of_some _ ((up _).trans e))))]
  exact Heap.get?_push_of_some _ (Heap.get?_push_of_some _ ((up _).trans e))
end
open L2H in
theorem turnH_list {P : Program} {w : World} {K : PySem.W.Frag} {tg : Expr} (a it : Addr) : TurnH P w K tg (Itl K a) [it] it (fun i h => h.IsListIter it a i) := by
  have T := turn_list (P := P) (w := w) (K := K) (tg := tg) a it
  refine ⟨T.mem, T.obj, T.keep, ?_, ?_, T.self⟩
  · intro X hP hw hK hc i pins s σ H E I hf st hg
    subst hP hw hK
    obtain ⟨xs, x, hq, hx⟩ := hg
    obtain ⟨its, rv, pl, hz⟩ := I.list hq
    obtain ⟨u, hu, ru⟩ := rv.get hx
    obtain ⟨f0, f1, f2, f3, f4, f5⟩ := hf it (by simp)
    refine wpAny_pyNext_list_item st pl.isList (x := u) (by simpa using hu) fun h' st' sb => ?_
    have J : Inv X pins σ H { s with heap := h' } := I.turned (t' := s.toks) (fun b o hb e => (sb.2 b hb).trans e) f0 f1 f3 f4 f5
    obtain ⟨o, e, c, d⟩ := id st'
    refine ⟨u, rfl, go_of (s := { s with heap := h' }) e c d (by decide) ⟨x, H, J, ru, ⟨rfl, fun ys hy => ?_⟩, st', fun b hb => (hf b hb).1⟩⟩
    rw [I.list_inj hy hq]
    exact hx
  · intro X hP hw hK hc i pins s σ H E I hf st hg
    subst hP hw hK
    obtain ⟨xs, hq, hx⟩ := hg
    obtain ⟨its, rv, pl, hz⟩ := I.list hq
    obtain ⟨f0, f1, f2, f3, f4, f5⟩ := hf it (by simp)
    have hl := rv.length
    obtain ⟨p, ⟨hh, v1, e1, c1⟩, hp⟩ := hc
    have hpin := List.mem_append_left pins hp
    exact next_end_hot (x1 := p.1) ⟨hh, p.2, v1, (I.pin p hpin).1, e1, c1⟩ (f5 p hpin) st pl.isList (by simp; omega) fun h' eb => ⟨rfl, I.turned (t' := s.toks) (fun b o hb e => eb b o hb e) f0 f1 f3 f4 f5⟩
open L2H in
theorem piH_list {X : Cx} {tg l : Expr} {tl : TE} (hl : PE X l tl) : PIH X tg l (iList X.K tl) := by
  refine ⟨fun pins s σ H R I h => thn (hl.run pins s σ H _ I h) fun v s1 ⟨x, H1, I1, r1, a, e, ⟨xs, hq⟩, q⟩ => ?_⟩
  subst e
  cases r1
  obtain ⟨its, rv, pl, hz⟩ := I1.list hq
  refine wpAny_pyIter_list pl.isList ⟨s1.heap.objs.size, [s1.heap.objs.size], _, _, H1, rfl, I1.kept (t' := s1.toks) fun b o e => Heap.get?_push_of_some _ e, turnH_list a _, ⟨_, Heap.get?_push_size _ rfl, rfl, rfl⟩, fun b hb => ?_, q⟩
  rw [show b = s1.heap.objs.size by simpa using hb]
  exact I1.fpOk (Nat.le_refl _) (I1.hok.fresh (Nat.le_refl _))
/-- a block's context, with the handled exception pinned -/
abbrev blkH (X : Cx) (p : Addr × Obj) (s : Shared) (H : Hp) (scope : Scope) (cenv : Env) (fp : List Addr) : Cx := { X.blk s H scope cenv fp with pn := [p] }
theorem blkH_inv {X : Cx} {p : Addr × Obj} {s0 : Shared} {H0 : Hp} {scope : Scope} {cenv : Env} {fp : List Addr} {pins : List (Addr × Obj)} {σ : Z.St} {H : Hp} {s : Shared} (I : Inv (X.blk s0 H0 scope cenv fp) pins σ H s)
    (h : s.heap.get? p.1 = some p.2 ∧ H p.1 = none ∧ p.1 ≠ cenv.locals ∧ p.1 ∉ frs X.stack ∧ ∀ v, p.2.data ≠ .cell v) : Inv (blkH X p s0 H0 scope cenv fp) pins σ H s := by
  have k := I.ok
  refine ⟨⟨k.mod, k.kind, k.glob, k.blt, k.above, k.inj, k.has, k.cab, k.hd, k.frames, k.stk, k.exf, k.bs, k.bsz, k.noex, k.exfs, k.funs, k.frf⟩, I.os, I.bare, I.base, I.loc, I.cell, I.free, I.freeC, fun q hq => ?_, I.hok, I.len⟩
  rcases List.mem_append.mp hq with hq | hq
  · rw [show q = p by simpa using hq]; exact h
  · exact I.pin q (List.mem_append_right _ hq)
open L2H in
/-- a comprehension, where p's exception is handled -/
theorem lc_hot {X : Cx} {p : Addr × Obj} {pins : List (Addr × Obj)} {s : Shared} {σ : Z.St} {H : Hp} {Q : VK} {elt tg iter : Expr} {ifs : List Expr} {scope : Scope} {own : List (Str × Nat)} {pos pos' : Pos} {wi : TI} {g : TG} {tt : TT} {te : TE} {use : Option (Value → Sem Unit)} {Qf : Value → Shared → Prop}
    (hot : Hot1 X.A p) (hpn : p ∈ X.pn) (hN : X.N.Nodup) (I : Inv X pins σ H s) (hi : PIH X tg iter wi) (ok : BlkOk X.N X.env.scope scope own)
    (hg : ∀ (s : Shared) (H : Hp) (C : Addr) (cl : List (Str × Addr)) (fp : List Addr), PG (blkH X p s H scope (compEnvC scope cl C X.env) fp) tg g) (ht : ∀ (s : Shared) (H : Hp) (C : Addr) (cl : List (Str × Addr)) (fp : List Addr), PTs (blkH X p s H scope (compEnvC scope cl C X.env) fp) ifs tt)
    (he : ∀ (s : Shared) (H : Hp) (C : Addr) (cl : List (Str × Addr)) (fp : List Addr), PE (blkH X p s H scope (compEnvC scope cl C X.env) fp) elt te) (hs : ∀ x, foldedSetIterable iter X.env x = pure x) (h : tLc wi g tt te (own.map (·.2)) σ H Q)
    (hRR : ∀ D C s' m H', Inv X pins σ H' s' → Q (.ref D) H' → s'.heap.Ns C m → FpOk X pins H' C → compPost (model X.prog X.w) X.A X.xe use Qf (.ref D) C (.ok .next) s') :
    wpAny (model X.prog X.w) X.A (comprehension (.ListComp elt [⟨tg, iter, ifs, 0⟩] scope pos) scope X.env pos' (newList []) false (eval iter X.env) use) Qf X.xe s := by
  have closed : ∀ y ∈ scope.names, y.2 = .free → ∃ c, X.env.cells.lookup y.1 = some c := fun y hy e => (ok.free y hy e).elim (fun k => I.ok.has _ (.inl k)) fun k => I.ok.has _ (.inr k)
  refine wpAny_comprehension_free (use := use) rfl hs (closure_ok closed) ok.kind (fun y hy e => by rw [ok.uniq y hy, e]) (thn (hi.run pins s σ H _ I h) fun xv s1 hx => thn hx fun itv s2 h2 => ?_)
  obtain ⟨it, fp, tn, J, H2, e, I2, T, st2, f2, q⟩ := h2
  subst e
  refine wpAny_newObj_type (newEnv_comp ?_) (by show 0 ≤ sizeLine; decide)
  obtain ⟨D, hD⟩ : ∃ D, D = s2.heap.objs.size := ⟨_, rfl⟩
  rw [← hD]
  obtain ⟨W, ⟨m0, w0⟩, turn⟩ := q D (I2.hok.fresh (Nat.le_of_eq hD.symm))
  obtain ⟨s3, hs3⟩ : ∃ s3 : Shared, s3 = { s2 with heap := s2.heap.push { cls := .type "list", data := .seq ([] : List Value).toArray } } := ⟨_, rfl⟩
  have I3 : Inv X pins σ (upd H2 D (.lst [])) s3 := by
    rw [hs3]
    refine I2.laid (t' := s2.toks) (fun b o e => Heap.get?_push_of_some _ e) (Nat.le_of_eq hD.symm) ⟨Nat.zero_le _, [], 0, .nil, ?_⟩
    rw [hD]
    exact Heap.get?_push_size _ rfl
  have g3 : s3.heap = s2.heap.push { cls := .type "list", data := .seq ([] : List Value).toArray } := by rw [hs3]
  have small : ∀ b ∈ fp, b < s2.heap.objs.size := fun b hb => by
    obtain ⟨o, e, _⟩ := T.obj _ _ st2 b hb
    exact Heap.lt_size e
  have f3 : ∀ b ∈ fp, FpOk X pins (upd H2 D (.lst [])) b ∧ b < s3.heap.objs.size := fun b hb => by
    have hlt := small b hb
    refine ⟨⟨?_, (f2 b hb).2⟩, by rw [g3, Heap.size_push]; exact Nat.lt_succ_of_lt hlt⟩
    rw [upd_ne (by rw [hD]; exact Nat.ne_of_lt hlt)]
    exact (f2 b hb).1
  have st3 : tn 0 s3.heap := T.keep _ _ _ st2 fun b _ o e => by rw [g3]; exact Heap.get?_push_of_some _ e
  have P3 := I3.pin p (List.mem_append_left _ hpn)
  have I4 := blkH_inv (p := p) (block_start I3 ok hN f3) ⟨pushCells_keeps _ _ _ _ (Heap.get?_push_of_some _ P3.1), P3.2.1, Nat.ne_of_lt (Heap.lt_size P3.1), fun z => (List.mem_cons.mp (I3.stkSub _ z)).elim P3.2.2.1 P3.2.2.2.1, P3.2.2.2.2⟩
  have pg := hg s3 (upd H2 D (.lst [])) s3.heap.objs.size (cellsFrom (s3.heap.objs.size + 1) scope.names (cloFrom X.env.cells scope.names [])) fp
  have pt := ht s3 (upd H2 D (.lst [])) s3.heap.objs.size (cellsFrom (s3.heap.objs.size + 1) scope.names (cloFrom X.env.cells scope.names [])) fp
  have pe := he s3 (upd H2 D (.lst [])) s3.heap.objs.size (cellsFrom (s3.heap.objs.size + 1) scope.names (cloFrom X.env.cells scope.names [])) fp
  rw [← hs3]
  show codeAny _ _ (.compStart (.ListComp elt [⟨tg, iter, ifs, 0⟩] scope pos) 0 (.ref it) (.ref D) (compEnvC scope (cellsFrom (s3.heap.objs.size + 1) scope.names (cloFrom X.env.cells scope.names [])) s3.heap.objs.size X.env)) (compPost (model X.prog X.w) X.A X.xe use Qf (.ref D) s3.heap.objs.size) { s3 with heap := pushCells (s3.heap.push { cls := .type "dict", data := .dict #[] }) scope.names }
  have nfp : ∀ b ∈ fp, (upd H2 D (.lst [])) b = none := fun b hb => (f3 b hb).1.1
  generalize hce : compEnvC scope (cellsFrom (s3.heap.objs.size + 1) scope.names (cloFrom X.env.cells scope.names [])) s3.heap.objs.size X.env = ce at I4 pg pt pe ⊢
  have cL : ce.locals = s3.heap.objs.size := by subst hce; rfl
  generalize hH3 : upd H2 D (.lst []) = H3 at I3 I4 pg pt pe w0 nfp f3
  generalize hs4 : ({ s3 with heap := pushCells (s3.heap.push { cls := .type "dict", data := .dict #[] }) scope.names } : Shared) = s4 at I4 ⊢
  have st4 : tn 0 s4.heap := T.keep _ _ _ st3 fun b _ o e => by rw [← hs4]; exact pushCells_keeps _ _ _ _ (Heap.get?_push_of_some _ e)
  have hotB : HotC (blkH X p s3 H3 scope ce fp) := ⟨p, hot, List.mem_singleton.mpr rfl⟩
  have pne : ∀ b ∈ fp, p.1 ≠ b := fun b hb => (f3 b hb).1.2.2.2.2.2 p (List.mem_append_left _ hpn)
  have stat : ∀ {σ' : Z.St} {H' : Hp} {s' : Shared}, Inv (blkH X p s3 H3 scope ce fp) [] σ' H' s' → (∀ b ∈ fp, H' b = none) → ∀ b ∈ fp, FpOk (blkH X p s3 H3 scope ce fp) [] H' b := fun {σ' H' s'} I' hn b hb =>
    ⟨hn b hb, (I'.ok.exf b hb).1, I'.ok.exfs b hb, .inl hb, fun x c e => (I'.ok.exf b hb).2 x c e, fun q hq => by rw [show q = p by simpa using hq]; exact pne b hb⟩
  have loop : codeAny (model X.prog X.w) X.A (.compLoop (.ListComp elt [⟨tg, iter, ifs, 0⟩] scope pos) 0 (.ref it) (.ref D) ce) (compPost (model X.prog X.w) X.A X.xe use Qf (.ref D) s3.heap.objs.size) s4 := by
    refine compLoop_any (fun n s' => ∃ i H', Inv (blkH X p s3 H3 scope ce fp) [] (wipe σ (own.map (·.2))) H' s' ∧ tn i s'.heap ∧ (∀ b ∈ fp, H' b = none) ∧ W i n H') ?_ m0 ⟨0, H3, I4, st4, nfp, w0⟩
    rintro n s5 ⟨i, H5, I5, st5, n5, w5⟩
    rcases turn i n H5 w5 with ⟨stop, qq⟩ | ⟨go, Nx, hNx, step⟩
    · refine thnF (T.done (blkH X p s3 H3 scope ce fp) rfl rfl rfl hotB i [] s5 _ H5 (fun _ _ => False) I5 (stat I5 n5) st5 stop) fun r s6 ⟨hr, I6⟩ => ?_
      subst hr
      have I7 : Inv X pins σ H5 s6 := I3.call' (ch := fp) I6.os I6.base I6.hok I6.bare fun b hb => ⟨(f3 b hb).1.2.2.2.1, (f3 b hb).1.2.1, (f3 b hb).1.2.2.2.2.1, (f3 b hb).1.2.2.2.2.2⟩
      have nC : H5 s3.heap.objs.size = none := by rw [← cL]; exact I6.free
      obtain ⟨m, hn, _⟩ := I6.loc
      have hn : s6.heap.Ns ce.locals m := hn
      rw [cL] at hn
      exact hRR D s3.heap.objs.size s6 m H5 I7 qq hn (I3.fpOk (Nat.le_refl _) nC)
    · refine thnF (T.item (blkH X p s3 H3 scope ce fp) rfl rfl rfl hotB i [] s5 _ H5 (fun _ _ => False) I5 (stat I5 n5) st5 go) fun r s6 ⟨u, hr, h6⟩ => ?_
      subst hr
      refine thnF h6 fun _ s7 ⟨x, H7, I7, r7, y7, st7, n7⟩ => ?_
      have I7' := I7.pinned (stat I7 n7) (T.obj _ _ st7)
      refine thnF (pg.run _ s7 _ H7 x u _ I7' r7 (step x H7 y7)) fun _ s8 ⟨σ8, H8, I8, hw8, q8⟩ => ?_
      refine thnF (pt.run _ s8 σ8 H8 _ I8 q8) fun b s9 ⟨H9, I9, q9⟩ => ?_
      have fin : ∀ {s' : Shared} {H' : Hp}, Inv (blkH X p s3 H3 scope ce fp) ([] ++ pinsAt fp s7.heap) σ8 H' s' → Nx H' → ∃ m, m < n ∧ ∃ i H', Inv (blkH X p s3 H3 scope ce fp) [] (wipe σ (own.map (·.2))) H' s' ∧ tn i s'.heap ∧ (∀ b ∈ fp, H' b = none) ∧ W i m H' := fun {s' H'} I' nx => by
        obtain ⟨m', hm, w'⟩ := hNx H' nx
        have back : ∀ b ∈ fp, ∀ o, s7.heap.get? b = some o → s'.heap.get? b = some o ∧ H' b = none := fun b hb o e => ⟨(I'.pin (b, o) (List.mem_append_right _ (List.mem_append_right _ (mem_pinsAt hb e)))).1, (I'.pin (b, o) (List.mem_append_right _ (List.mem_append_right _ (mem_pinsAt hb e)))).2.1⟩
        refine ⟨m', hm, i + 1, H', (I'.unpinned (pins := [])).weak (by rw [← hw8, wipe_length]) (fun j v e => (wipe_some (by rw [hw8]; exact e)).1), T.keep _ _ _ st7 fun b hb o e => (back b hb o e).1, fun b hb => ?_, w'⟩
        obtain ⟨o, e, _⟩ := T.obj _ _ st7 b hb
        exact (back b hb o e).2
      cases b with
      | false =>
        simp only [Bool.false_eq_true, if_false] at q9 ⊢
        exact fin I9 q9
      | true =>
        simp only [if_true] at q9 ⊢
        exact thnF (pe.run _ s9 σ8 H9 _ I9 q9) fun z s10 ⟨yv, H10, I10, r10, acc, hD10, hz10, nx⟩ => app_ok (X := blkH X p s3 H3 scope ce fp) I10 hD10 hz10 r10 fun s11 I11 => fin I11 nx
  exact codeAny_compStart_list loop (T.self X.A 0 _ _ _ st4 loop)
end Z

/-! Z58: where an exception is handled: targets that are tuples, comprehensions as rules. -/
namespace Z
open PySem PySem.Spec PyProof.Rows L2
section
variable {prog : Program} {w : World} {A : Around} {E : Value → Shared → Prop} {s : Shared}
theorem tupend_hot {it t x1 : Addr} {i : Nat} {items : Array Value} {Q : Option Value → Shared → Prop} (hot : HotX.HotAt A x1 s.heap) (hne : x1 ≠ it)
    (hit : IsTupIter s.heap it t i) (ht : IsTup s.heap t items) (hx : items[i]? = none)
    (hQ : ∀ h', Heap.ExtBut it s.heap h' → Q none { s with heap := h' }) : wpAny (model prog w) A (pyNext (.ref it)) Q E s := by
  obtain ⟨hh, o1, vs1, g1, d1, c1⟩ := hot
  obtain ⟨o, ho, hc, hd⟩ := id hit
  obtain ⟨ol, hol, _, nl, hdl⟩ := ht
  unfold pyNext
  refine wpAny_bind (wpAny_attempt (wpAny_callSpecial?_slot (name := Str.ofString "__next__") hit.typeIs slot_tupleiter_next (wpAny_call_entry slot_tupleiter_next hit.typeIs entry_tupleiter_next ?_ (args_tupleiter_next _))))
  show wpAny _ _ (field (.ref it) 0 >>= _) _ _ s
  refine wpAny_bind (wpAny_field ho hd (x := .ref t) rfl ?_)
  show wpAny _ _ (if (Value.ref t == Value.none) = true then _ else _) _ _ s
  rw [if_neg (show ¬ ((Value.ref t == Value.none) = true) from Bool.false_ne_true)]
  show wpAny _ _ (field (.ref it) 1 >>= _) _ _ s
  refine wpAny_bind (wpAny_field ho hd (x := .int i 0) rfl ?_)
  show wpAny _ _ (seqItems? (.ref t) >>= _) _ _ s
  refine wpAny_bind (wpAny_seqItems hol hdl ?_)
  simp only [Int.toNat_natCast, hx]
  refine wpAny_bind (wpAny_rule (wpAny_bind (wpAny_setField ho hd (by simp) ?_)))
  show wpAny _ _ (newExc (.type "StopIteration") [] >>= _) _ _ _
  refine wpAny_bind ?_
  simp only [newExc, newTuple]
  refine wpAny_bind (wpAny_newObj_type ?_ (by size_fits))
  refine wpAny_bind (m := firstArgMember _ _) (wpAny_of_eq (a := Value.none) (by first | rfl | (simp only [firstArgMember]; rfl)) ?_)
  refine wpAny_newObj_type ?_ (by size_fits)
  have kx : ∀ {h : Heap}, Heap.SameBut it s.heap h → h.get? x1 = some o1 := fun {h} z => (z.2 x1 hne).trans g1
  refine HotX.raiseNew_hot (x1 := x1) ⟨hh, o1, vs1, Heap.get?_push_of_some _ (Heap.get?_push_of_some _ (kx (Heap.SameBut.update ..))), d1, c1⟩ (Nat.ne_of_lt (Heap.lt_size (Heap.get?_push_of_some _ (kx (Heap.SameBut.update ..))))) (Heap.get?_push_size _ rfl) rfl (by first | (simp; done) | (simp; omega) | (simp only [Array.size_append]; simp; omega)) ?_
  refine wpAny_bind (wpAny_isInstance (T := "StopIteration") (b := true) ⟨_, Heap.get?_update_self _ (Heap.get?_push_size _ rfl) rfl, rfl⟩ isSubtype_stop ?_)
  refine wpAny_pure (hQ _ fun b u hb e => ?_)
  have up : ∀ f : Obj → Obj, (s.heap.update it f).get? b = s.heap.get? b := fun f => (Heap.SameBut.update s.heap it f).2 b hb
  rw [Heap.get?_update_other _ _ (Nat.ne_of_gt (Heap.lt_size (Heap.get?_push_of_some _ ((up _).trans e))))]
  exact Heap.get?_push_of_some _ (Heap.get?_push_of_some _ ((up _).trans e))
theorem unpackItems_hot {t x1 : Addr} {items : Array Value} {Q : List Value → Shared → Prop} (hot : HotX.HotAt A x1 s.heap) (ht : IsTup s.heap t items)
    (hQ : ∀ h', Heap.ExtBut s.heap.objs.size s.heap h' → Q items.toList { s with heap := h' }) : wpAny (model prog w) A (unpackItems (.ref t) items.size none) Q E s := by
  have hlt : t ≠ s.heap.objs.size := by obtain ⟨o, ho, _⟩ := ht; exact Nat.ne_of_lt (Heap.lt_size ho)
  unfold unpackItems
  refine wpAny_bind ?_
  · unfold notIterableAtAll
    refine wpAny_bind (wpAny_specialOf ht.typeIs slot_tuple_iter.lookup ?_)
    refine wpAny_pure ?_
    simp only [Bool.false_eq_true, if_false]
    refine wpAny_bind (wpAny_holding (iter_tuple ht ?_))
    refine wpAny_bind (wpAny_holding (draw_tuple hlt items.size 0 _ _ ⟨_, Heap.get?_push_size _ rfl, rfl, rfl⟩ (ht.push _) (by omega) fun h₁ hit₁ hs₁ => ?_))
    have hall : List.take items.size (List.drop 0 items.toList) = items.toList := by
      rw [List.drop_zero]; exact List.take_of_length_le (by simp)
    rw [hall]
    rw [if_neg (by simp)]
    have ht₁ : IsTup h₁ t items := (ht.push _).extBut hs₁.extBut hlt
    obtain ⟨hh, o1, vs1, g1, d1, c1⟩ := hot
    have hne : x1 ≠ s.heap.objs.size := Nat.ne_of_lt (Heap.lt_size g1)
    refine wpAny_bind (wpAny_holding (tupend_hot (x1 := x1) ⟨hh, o1, vs1, hs₁.extBut x1 _ hne (Heap.get?_push_of_some _ g1), d1, c1⟩ hne hit₁ ht₁ (by simp) fun h₂ he₂ => ?_))
    simp only [Option.isSome_none, Bool.false_eq_true, if_false]
    refine wpAny_pure (hQ h₂ fun b o hb e => he₂ b o hb (hs₁.extBut b o hb (Heap.get?_push_of_some _ e)))
theorem assignTup_hot {env : Env} {elts : List Expr} {k x1} {pos : Pos} {t : Addr} {items : Array Value} {Q : Unit → Shared → Prop} (hot : HotX.HotAt A x1 s.heap) (ht : IsTup s.heap t items)
    (hn : (assignEach elts env).length = items.size) (hstar : (assignEach elts env).findIdx? (·.1) = none)
    (h : ∀ h', Heap.ExtBut s.heap.objs.size s.heap h' → wpAny (model prog w) A (assignInOrder ((assignEach elts env).map (·.2)) items.toList) Q E { s with heap := h' }) :
    wpAny (model prog w) A (assign (.Tuple elts k pos) env (.ref t)) Q E s := by
  rw [assign_Tuple]
  refine wpAny_bind (wpAny_standAt ?_)
  unfold unpack
  rw [hn, hstar]
  exact wpAny_bind (wpAny_holding (unpackItems_hot hot ht h))
end
section
variable {X : Cx} {pos : Pos}
theorem pg_tupH {es : List Expr} {k : Nat} {t : TGs} {n : Nat} (hc : L2H.HotC X) (h : PGs X es t)
    (hn : (assignEach es X.env).length = n := by rfl) (hst : (assignEach es X.env).findIdx? (·.1) = none := by rfl) : PG X (.Tuple es k pos) (gTup X.K n t) := by
  refine ⟨fun pins s σ H v u Q I r hw => ?_⟩
  obtain ⟨a, xs, e1, hq, hl, hw⟩ := hw
  subst e1
  cases r
  obtain ⟨its, rv, ht, hz⟩ := I.tuple hq
  obtain ⟨p, ⟨hh, v1, e1, c1⟩, hp⟩ := hc
  refine assignTup_hot (x1 := p.1) ⟨hh, p.2, v1, (I.pin p (List.mem_append_left pins hp)).1, e1, c1⟩ ht (by simp [hn, ← hl, rv.length]) hst fun h' hx => ?_
  have I1 : Inv X pins σ H { s with heap := h' } := I.kept (t' := s.toks) fun b o e => hx b o (Nat.ne_of_lt (Heap.lt_size e)) e
  exact h.run pins _ σ H xs _ Q I1 (by simpa using rv) hw
/-- a target that is a tuple, of tuples only -/
def gTt (gs : List PyData → Fr → Option Fr) : ZGD
  | .tuple ds, τ => gs ds τ
  | _, _ => none
theorem zg_tupH [TB : Tabs] {es : List Expr} {k n : Nat} {ts : List Nat} {gs : List PyData → Fr → Option Fr} (hc : L2H.HotC X) (h : ZGs X es ts gs) (hl : LenOk n gs)
    (hn : (assignEach es X.env).length = n := by rfl) (hst : (assignEach es X.env).findIdx? (·.1) = none := by rfl) : ZG X (.Tuple es k pos) ts (gTt gs) := by
  refine ⟨⟨fun pins s σ H v u Q I r h0 => (pg_tupH hc h.pgs hn hst).run pins s σ H v u Q I r ?_⟩, fun d τ τ' e j hj => by
    cases d with
    | tuple ds => exact h.out ds τ τ' e j hj
    | _ => cases e⟩
  obtain ⟨G, τ, d, s, q, h⟩ := h0
  cases d with
  | tuple ds =>
    cases q with
    | @tup a vs _ hs qs =>
      cases e : gs ds τ with
      | none => rw [show gTt gs (.tuple ds) τ = gs ds τ from rfl, e] at h; exact h.elim
      | some τ' =>
        rw [show gTt gs (.tuple ds) τ = gs ds τ from rfl, e] at h
        exact ⟨a, vs, rfl, SqT.of (s.sub _ _ hs), by rw [dps_len qs]; exact hl _ _ _ e, G, τ, ds, s, qs, by rw [e]; exact h⟩
  | _ => exact h.elim
end
section
variable [TB : Tabs] {X : Cx} {W : WZ} {pos : Pos}
/-- an own list, by its name, where an exception is handled -/
structure ZIH (X : Cx) (W : WZ) (tg iter : Expr) (d : ZID) : Prop where
  pi : L2H.PIH X tg iter (tZI X.K W d)
def zItO (i : Nat) : ZID := fun τ => match cellAt τ i with
  | some (.lst _ _ ds) => .ok (ds, [i]) τ
  | _ => .stuck
theorem zi_itH {tg : Expr} {x : Str} {i : Nat} {p : Pos} (hN : X.N[i]? = some x) (hv : Vis X.env.scope x) (h1 : (x == ("__debug__" : Str)) = false) (h2 : (x == ("__classdict__" : Str)) = false) : ZIH X W tg (.Name x p) (zItO i) := by
  refine ⟨⟨fun pins s σ H R I h => (piH_list (pe_var hN hv h1 h2)).run pins s σ H R I ?_⟩⟩
  obtain ⟨G, τ, s0, h⟩ := h
  unfold zItO at h
  split at h
  · rename_i b k ds ec
    obtain ⟨v, e, p, vs, rfl, g, hp, qs⟩ := s0.cell i _ (cellAt_some ec)
    refine ⟨.ref p, e, p, rfl, ⟨vs, SqL.of hp⟩, h G H _ (Ex.refl s0) (fun j hj => ?_) (itOk_list (fun G2 H2 m1 m2 hk => SqL.of ((hk p ⟨i, by simp, e⟩).trans hp)) qs)⟩
    rw [List.mem_singleton.mp hj]
    exact ⟨_, cellAt_some ec, rfl⟩
  · exact h.elim
abbrev InBlkH (X : Cx) (q : Addr × Obj) (scope : Scope) (P : Cx → Prop) : Prop := ∀ (s : Shared) (H : Hp) (C : Addr) (cl : List (Str × Addr)) (fp : List Addr), P (blkH X q s H scope (compEnvC scope cl C X.env) fp)
theorem ze_lcH {q : Addr × Obj} {elt tg iter : Expr} {ifs : List Expr} {scope : Scope} {own : List (Str × Nat)} {it : ZID} {ts : List Nat} {g : ZGD} {tt : ZTD} {te : ZD} (hot : L2H.Hot1 X.A q) (hpn : q ∈ X.pn) (hN : X.N.Nodup) (hi : ZIH X W tg iter it) (ok : BlkOk X.N X.env.scope scope own) (hts : ∀ i ∈ ts, i ∈ own.map (·.2))
    (hg : InBlkH X q scope fun B => ZG B tg ts g) (ht : InBlkH X q scope fun B => ZTs B wF ifs tt) (he : InBlkH X q scope fun B => ZE B wF elt te) (hs : ∀ x, foldedSetIterable iter X.env x = pure x := by intro _; rfl) :
    ZE X W (.ListComp elt [⟨tg, iter, ifs, 0⟩] scope pos) (zLc it (own.map (·.2)) g tt te) := by
  refine ⟨⟨fun pins s σ H Q I h => ?_⟩⟩
  rw [eval_ListComp]
  refine lc_hot hot hpn hN I hi.pi ok (fun s H C cl fp => (hg s H C cl fp).pg) (fun s H C cl fp => (ht s H C cl fp).pts) (fun s H C cl fp => (ze_dat (he s H C cl fp)).pe) hs (tz_lc (hg s H 0 [] []).out hts h) fun D C s' m H' I' q hn f => ⟨m, hn, fun h'' sb => ?_⟩
  obtain ⟨f0, f1, f2, f3, f4, f5⟩ := f
  exact ⟨.ref D, H', I'.turned (t' := s'.toks) (fun b o hb e => (sb.2 b hb).trans e) f0 f1 f3 f4 f5, rfl, q⟩
theorem zs_setLcH {q : Addr × Obj} {i : Nat} {nm : Str} {py : Pos} {elt tg iter : Expr} {ifs : List Expr} {scope : Scope} {own : List (Str × Nat)} {spos : Pos} {it : ZID} {ts : List Nat} {g : ZGD} {tt : ZTD} {te : ZD} (hot : L2H.Hot1 X.A q) (hpn : q ∈ X.pn) (hN : X.N.Nodup) (hy : X.N[i]? = some nm) (hyl : X.env.scope.names.lookup nm = some .local)
    (hsw : swapsWith (.ListComp elt [⟨tg, iter, ifs, 0⟩] scope pos) (some (.Name nm py)) spos.line X.env = pure true) (hi : ZIH X W tg iter it) (ok : BlkOk X.N X.env.scope scope own) (hts : ∀ i ∈ ts, i ∈ own.map (·.2))
    (hg : InBlkH X q scope fun B => ZG B tg ts g) (ht : InBlkH X q scope fun B => ZTs B wF ifs tt) (he : InBlkH X q scope fun B => ZE B wF elt te) (hs : ∀ x, foldedSetIterable iter X.env x = pure x := by intro _; rfl) :
    ZS X W (.Assign [.Name nm py] (.ListComp elt [⟨tg, iter, ifs, 0⟩] scope pos) spos) (zSet i (zLc it (own.map (·.2)) g tt te)) := by
  refine ⟨⟨fun pins s σ H D I h => ?_⟩⟩
  have h1 : tLc (tZI X.K W it) (tZG X.K ts g) (tZT X.K wF tt) (tZ X.K wF (zF te)) (own.map (·.2)) σ H (fun x H1 => D.nx (σ.set i (some x)) H1) := by
    refine tz_lc (W := W) (Q := fun x H1 => D.nx (σ.set i (some x)) H1) (hg s H 0 [] []).out hts ?_
    obtain ⟨G, τ, s, h⟩ := h
    have h : FinS X.K W σ G τ H (((zLc it (own.map (·.2)) g tt te τ).bind valL).bind fun l τ1 => match l with
      | .cl c => .ok .nx (τ1.set i (some c))
      | _ => .stuck) D := h
    refine tZ_of s ?_
    cases e : zLc it (own.map (·.2)) g tt te τ with
    | stuck => rw [e] at h; exact h
    | exc n τ1 => rw [e] at h; exact fun G' H' x => h G' _ H' x.sx
    | ok l τ1 =>
      rw [e] at h
      cases l with
      | sl j => 
        unfold zLc at e
        cases e2 : it τ with
        | stuck => rw [e2] at e; cases e
        | exc n τ1 => rw [e2] at e; cases e
        | ok r τ1 =>
          rw [e2] at e
          dsimp only [Res.bind] at e
          split at e <;> cases e
      | cl c => exact fun G1 H1 v x r => h G1 _ H1 (Sx.set s x r i)
  rw [exec_Assign_Name_used _ _ _ _ hsw]
  refine wpAny_bind (wpAny_standAt (wpAny_bind ?_))
  show wpAny _ X.A (do let _ ← comprehension (.ListComp elt [⟨tg, iter, ifs, 0⟩] scope pos) scope X.env (firstIterPos [⟨tg, iter, ifs, 0⟩] pos) (newList []) false (eval iter X.env) (some (assign (.Name nm py) X.env))) _ _ s
  refine wpAny_bind (thn (lc_hot (Qf := fun _ s' => SP X pins D .next s') hot hpn hN I hi.pi ok (fun s H C cl fp => (hg s H C cl fp).pg) (fun s H C cl fp => (ht s H C cl fp).pts) (fun s H C cl fp => (ze_dat (he s H C cl fp)).pe) hs h1 fun L C s' m H' I' q hn f => ?_) fun _ s' hq => wpAny_pure (wpAny_pure hq))
  show wpAny _ _ (assign (.Name nm py) X.env (.ref L)) _ _ _
  refine wpAny_assign_Name (store_ok2 (v := V.ref L) I' hN hy (.inl hyl) rfl (fun s2 I2 ⟨a, sb, ha⟩ => ?_) (.inr hyl))
  obtain ⟨f0, f1, f2, f3, f4, f5⟩ := f
  have haC : C ≠ a := by
    rcases ha with z | z
    · rw [z]; exact f1
    · exact fun e => f4 nm a z e.symm
  refine ⟨m, hn.sameBut sb haC, fun h3 sb3 => ?_⟩
  exact ⟨_, H', I2.turned (t' := s2.toks) (fun b o hb e => (sb3.2 b hb).trans e) f0 f1 f3 f4 f5, q⟩
end
end Z

/-! Z59: methods that leave the list as it is: x.index(v). -/
namespace Z
open PySem PySem.Spec PyProof.Rows L2
variable [TB : Tabs]
abbrev LV := List PyData → List PyData → Option PyData
def MethV (K : PySem.W.Frag) (f : LV) (r : V → List V → Hp → VK → Prop) : Prop :=
  ∀ (H : Hp) (p : Addr) (vs ws : List V) (ds es : List PyData) (d : PyData) (Q : VK), SqL K H p vs → RDs K H vs ds → RDs K H ws es → f ds es = some d → (∀ v, (∀ G, RD K G v d) → Q v H) → r (.ref p) ws H Q
def mIdx : LV := fun ds es => match es with
  | [e] => if SeqAt.shaped (.list ds) = true ∧ SeqAt.shaped e = true then (match ds.findIdx? fun z => PyData.eqv z e with
    | some j => some (.int (j : Nat))
    | none => none) else none
  | _ => none
def lstAt (τ : Fr) (i : Nat) : Option (List PyData) := match cellAt τ i with
  | some (.lst _ _ ds) => some ds
  | some (.fz (.list ds)) => some ds
  | _ => none
/-- x.m(..), x a list that stays -/
def zMethV (f : LV) (i : Nat) (as : ZLD) : ZD := fun τ => match lstAt τ i with
  | some _ => (as τ).bind fun ls τ1 => (match lstAt τ1 i, datsL τ1 ls with
    | some ds, some es => (match f ds es with
      | some d => .ok (.cl (.fz d)) τ1
      | none => .stuck)
    | _, _ => .stuck)
  | none => .stuck
section
variable {X : Cx} {K : PySem.W.Frag} {W : WZ} {σ : Z.St} {G G1 H H1 : Hp} {τ τ1 : Fr}
theorem lst_at (s : SR K G τ σ H) {i : Nat} {ds : List PyData} (e : lstAt τ i = some ds) : ∃ p vs, σ[i]? = some (some (V.ref p)) ∧ SqL K H p vs ∧ RDs K H vs ds := by
  unfold lstAt at e
  split at e
  · rename_i b k ds' ec
    cases e
    obtain ⟨v, z, p, vs, rfl, g, hh, q⟩ := s.cell i _ (cellAt_some ec)
    exact ⟨p, vs, z, SqL.of hh, dps_mono s.sub _ _ q⟩
  · rename_i ds' ec
    cases e
    obtain ⟨v, z, q⟩ := s.cell i _ (cellAt_some ec)
    cases q with
    | @lst p vs _ hs qs => exact ⟨p, vs, z, SqL.of (s.sub _ _ hs), dps_mono s.sub _ _ qs⟩
  · cases e
theorem methV_core {f : LV} {r : V → List V → Hp → VK → Prop} {i : Nat} {das : ZLD} {Q : VK} (hr : MethV K f r) (h : tZ K W (zMethV f i das) σ H Q) : tBM K "list" r (tZ K W (zN i)) (tZL K W das) σ H Q := by
  obtain ⟨G, τ, s, h⟩ := tZ_to h
  unfold zMethV at h
  cases el : lstAt τ i with
  | none => rw [el] at h; exact h.elim
  | some ds0 =>
  rw [el] at h
  dsimp only at h
  obtain ⟨p, vs0, hp, hs0, _⟩ := lst_at s el
  refine ⟨G, τ, s, ?_⟩
  have ec : ∃ c, cellAt τ i = some c := by
    unfold lstAt at el
    cases e : cellAt τ i with
    | none => rw [e] at el; cases el
    | some c => exact ⟨c, rfl⟩
  obtain ⟨c, ec⟩ := ec
  unfold zN
  rw [ec]
  intro G1 H1 v x1 r1
  have r1 : σ[i]? = some (some v) := r1
  rw [hp] at r1; cases r1
  obtain ⟨p1, vs1, hp1, hs1, _⟩ := lst_at x1.sr el
  rw [hp] at hp1; cases hp1
  refine ⟨.inl ⟨rfl, vs1, hs1⟩, G1, τ, x1.sr, ?_⟩
  cases ea : das τ with
  | stuck => rw [ea] at h; exact h
  | exc n τ1 => rw [ea] at h; exact fun G2 H2 y => h G2 H2 (x1.trans y)
  | ok ls τ1 =>
    rw [ea] at h
    intro G2 H2 ws x2 rs
    dsimp only [Res.bind] at h
    cases e2 : lstAt τ1 i with
    | none => rw [e2] at h; exact h.elim
    | some ds =>
      rw [e2] at h
      cases e3 : datsL τ1 ls with
      | none => rw [e3] at h; exact h.elim
      | some es =>
        rw [e3] at h
        dsimp only at h
        cases e4 : f ds es with
        | none => rw [e4] at h; exact h.elim
        | some d =>
          rw [e4] at h
          obtain ⟨p2, vs2, hp2, hs2, qs2⟩ := lst_at x2.sr e2
          rw [hp] at hp2; cases hp2
          exact hr H2 p vs2 ws ds es d Q hs2 qs2 (dps_mono x2.sr.sub _ _ (datsL_rds x2.sr rs e3)) e4 fun v rv => h G2 H2 v (x1.trans x2) ⟨rv G2, fun o => nomatch o⟩
theorem ze_methV {f : LV} {r : V → List V → Hp → VK → Prop} {i : Nat} {nm name : Str} {id : String} {np apos cpos : Pos} {e : Expr} {es : List Expr} {das : ZLD} (hr : MethV X.K f r) (hN : X.N[i]? = some nm) (hv : Vis X.env.scope nm) (slot : Slot "list" name id) (hty : typeOf (.builtin id) = pure (.type "method_descriptor")) (hm : MtR X id r) (ha : ZL X W (e :: es) das)
    (hbase : attributeBase (.Name nm np) name X.env (eval (.Name nm np) X.env) = eval (.Name nm np) X.env := by rfl)
    (hfew : ((backTo cpos (starEach (e :: es) X.env)).all (fun x => !x.1) && (backToKw cpos (keywordEach [] X.env)).all (fun x => x.1.isSome)
      && decide ((e :: es).length + ([] : List Keyword).length + (if ([] : List Keyword).isEmpty then 0 else 1) < 30)) = true := by rfl)
    (hline : (apos.endLine == cpos.line) = true := by rfl) (hs : starEach (e :: es) X.env = (false, eval e X.env) :: starEach es X.env := by rfl) (hplain : (backTo cpos (starEach es X.env)).any (·.1) = false := by rfl) (hd : (nm == ("__debug__" : Str)) = false := by decide) (hcd : (nm == ("__classdict__" : Str)) = false := by decide) :
    ZE X W (.Call (.Attribute (.Name nm np) name apos) (e :: es) [] cpos) (zMethV f i das) :=
  ⟨⟨fun pins s σ H Q I h => (pe_bm PySem.F.plainAttrs_list slot hty hm (ze_name (W := W) hN hv hd hcd).pe ha.pa hbase hfew hline hs hplain).run pins s σ H Q I (methV_core hr h)⟩⟩
theorem meth_idx : MethV K mIdx (rIndexD K) := fun H p vs ws ds es d Q hs qs qe e h => by
  unfold mIdx at e
  split at e
  · rename_i e1
    split at e
    · rename_i hsh
      split at e
      · rename_i j hj
        cases e
        cases qe with
        | cons q1 q2 =>
          cases q2
          obtain ⟨hlt, h1, h2⟩ := List.findIdx?_eq_some_iff_getElem.mp hj
          refine ⟨p, _, e1, ds, j, ds[j], rfl, rfl, .lst hs (RDs.dp _ _ qs), RD.dp _ _ q1, hsh.1, hsh.2, List.getElem?_eq_getElem hlt, h1, fun m z hm hz => ?_, h _ fun G => .int _⟩
          obtain ⟨hm', rfl⟩ := List.getElem?_eq_some_iff.mp hz
          exact Bool.eq_false_iff.mpr (by simpa using h2 m hm)
      · cases e
    · cases e
  · cases e
theorem room65H {k : Nat} {A : Around} (r : L2H.RoomH k A) : A.units + 65 < cLine := by have := r.un; omega
end
end Z

/-! Z60: the classes of exceptions from the top's facts; glue. -/
namespace Z
open PySem PySem.Spec PyProof.Rows L2
theorem roomS {k : Nat} {A : Around} {v : Option Value} (r : Room k A) : L2H.RoomH k (A.mark v) := ⟨r.dp, r.un⟩
theorem room64H {k : Nat} {A : Around} (r : L2H.RoomH k A) : A.units + 64 < cLine := by have := r.un; omega
/-- of a class of exceptions -/
structure ClsE (K : PySem.W.Frag) (mg : Str → Option Value) (x : Str) (C : Addr) : Prop where
  g : mg x = some (.ref C)
  k : PySem.W.keepIn K (.ref C) = true
  e : ExcC K C
  i : (PySem.W.clsIn K C).isSome = true
  t : PySem.W.typeIn K (.ref C) = some (.type "type")
theorem ClsE.raises {X : Cx} {x : Str} {C : Addr} (h : ClsE X.K X.mg x C) : Raises X (.ref C) := raises_own h.e.hs h.t
theorem exT_of {K : PySem.W.Frag} {mg : Str → Option Value} (cls : List (Str × Addr)) {sub : Str → Str → Bool} (h : ∀ p ∈ cls, ClsE K mg p.1 p.2) (hr : ∀ p ∈ cls, sub p.1 p.1 = true)
    (hs : ∀ p ∈ cls, ∀ q ∈ cls, PySem.W.subIn K (.ref p.2) (.ref q.2) = some (sub p.1 q.1)) : ExT K mg (cls.map (·.1)) sub := by
  refine ⟨fun m hm => ?_⟩
  obtain ⟨p, hp, rfl⟩ := List.mem_map.mp hm
  refine ⟨p.2, (h p hp).g, (h p hp).e, fun c hc => ?_⟩
  obtain ⟨q, hq, rfl⟩ := List.mem_map.mp hc
  have kc : PySem.W.kitCls K (.ref p.2) (.ref q.2) = some (sub p.1 q.1) := by
    unfold PySem.W.kitCls
    dsimp only
    rw [if_pos (by rw [(h q hq).i, (h q hq).t]; rfl)]
    exact hs p hp q hq
  refine ⟨q.2, (h q hq).g, ?_, ?_⟩
  · unfold PySem.W.kitOne
    by_cases e : (Value.ref p.2 == Value.ref q.2) = true
    · rw [if_pos e]
      have e2 : p.2 = q.2 := by simpa using e
      have e1 := hs p hp q hq
      rw [← e2] at e1
      rw [hs p hp p hp] at e1
      rw [← Option.some.inj e1, hr p hp]
    · rw [if_neg e]; exact kc
  · unfold PySem.W.exmOne
    rw [if_pos (by rw [(h q hq).e.hs]; rfl)]
    exact kc
/-- a def that is handed an exception, at a name -/
structure DefP (P : Program) (w : World) (K : PySem.W.Frag) (mg : Str → Option Value) (base : Heap) (t : Addr → Prop) (names : List Str) (k : Nat) (x : Str) (f : Addr) (fd : FuncData) (y : Str) (φ : Mir) : Prop where
  F : FnP P w K mg base k f fd [y] (spP K mg t names φ)
  hm : mg x = some (.ref f)
  hk : PySem.W.keepIn K (.ref f) = true
  hb : Binds K fd [y] []
theorem FnP.mono {P : Program} {w : World} {K : PySem.W.Frag} {mg : Str → Option Value} {base : Heap} {k k' : Nat} {f : Addr} {fd : FuncData} {ps : List Str} {sp : Addr × Obj → Sp} (F : FnP P w K mg base k f fd ps sp) (h : k ≤ k') : FnP P w K mg base k' f fd ps sp :=
  ⟨F.len, fun A outer s H args us vs Q p hr => F.run A outer s H args us vs Q p (hr.mono h)⟩
/-- in a suite -/
theorem exHot_suite {TB : Tabs} {X : Cx} {names : List Str} {a : Addr} {oe : Obj} {D : Addr} {m : Str} {pn : List (Addr × Obj)} (hm : m ∈ names) (hD : X.mg m = some (.ref D)) (hz : L2N.Zn (.ref D) none oe) (hf : ∃ vs, oe.data = .fields vs) (hno : ∀ b k, TB.ex b k → False) :
    ExHot (TB.more a m) (X.suite a ((a, oe) :: pn)) names := fun b k h => by
  rcases h with h | ⟨rfl, rfl⟩
  · exact (hno b k h).elim
  · obtain ⟨vs, hv⟩ := hf
    exact ⟨hm, oe, D, List.mem_cons_self, ⟨rfl, vs, hv, hz.2.2 vs hv⟩, hD, hz.1, hz.2.1⟩
/-- in a def that is handed one -/
theorem exHot_def {t : Addr → Prop} {X : Cx} {names : List Str} {p : Addr × Obj} {D : Addr} {m : Str} (hm : m ∈ names) (hD : X.mg m = some (.ref D)) (hz : Zc (.ref D) none p.2) (hot : L2H.Hot1 X.A p) (hp : p ∈ X.pn) :
    ExHot ⟨t, fun a n => a = p.1 ∧ n = m⟩ X names := fun b k h => by
  obtain ⟨rfl, rfl⟩ := h
  exact ⟨hm, p.2, D, hp, hot, hD, hz⟩
end Z

/-! Z61: dicts that are locked while they are walked. -/
namespace Z
open PySem PySem.Spec PyProof.Rows L2
variable [TB : Tabs]
section
variable {X : Cx} {K : PySem.W.Frag} {W : WZ} {σ σ1 σ2 : Z.St} {G G1 G2 H H1 H2 : Hp} {τ τ1 τ2 : Fr} {v x y w u : V} {l : LR} {d e k : PyData} {a b c : Expr} {p pos : Pos} {da db dc : ZD} {tk : Bool} {kvs kvs' : List (PyData × PyData)} {q : Addr} {o : HO}
/-- another cell, another thing at its address -/
theorem SR.writeC (s : SR K G τ σ H) {i : Nat} {c c' : Cell} (h : τ[i]? = some (some c)) (oc : c.obj = true) (hv : σ[i]? = some (some (.ref q))) (r : CR K G (upd H q o) (.ref q) c') : SR K G (τ.set i (some c')) σ (upd H q o) := by
  obtain ⟨q', u0, e, g, hh, nu0⟩ := s.objAtN h oc
  rw [hv] at e; cases e
  have inv : ∀ (j : Nat) (cj : Cell), (τ.set i (some c'))[j]? = some (some cj) → (j = i ∧ cj = c') ∨ (j ≠ i ∧ τ[j]? = some (some cj)) := fun j cj hj => by
    rcases getElem?_set_some hj with ⟨e1, e2, _⟩ | ⟨e1, e2⟩
    · cases e2; exact .inl ⟨e1, rfl⟩
    · exact .inr ⟨e1, e2⟩
  refine ⟨by rw [List.length_set]; exact s.len, fun a z hz => ?_, fun j cj hj => ?_, fun j k cj ck v n zj zk oj ok sj => ?_, fun P hP => ?_⟩
  · have : a ≠ q := fun ea => by rw [ea, g] at hz; cases hz
    rw [upd_ne this]; exact s.sub a z hz
  · rcases inv j cj hj with ⟨rfl, rfl⟩ | ⟨ne, hj⟩
    · exact ⟨_, hv, r⟩
    · obtain ⟨v', e', r'⟩ := s.cell j cj hj
      refine ⟨v', e', r'.mono Sub.refl fun a z ev ocj _ ha => ⟨?_, GS.rfl⟩⟩
      rw [upd_ne]; exact ha
      rintro rfl
      exact s.sep i j _ _ _ (Ne.symm ne) h hj oc ocj hv (by rw [e', ev])
  · have old : ∀ (j : Nat) (cj : Cell), (τ.set i (some c'))[j]? = some (some cj) → cj.obj = true → ∃ c0 : Cell, τ[j]? = some (some c0) ∧ c0.obj = true := fun j cj hj o => by
      rcases inv j cj hj with ⟨rfl, rfl⟩ | ⟨_, hj⟩
      · exact ⟨_, h, oc⟩
      · exact ⟨cj, hj, o⟩
    obtain ⟨c1, h1, o1⟩ := old j cj zj oj
    obtain ⟨c2, h2, o2⟩ := old k ck zk ok
    exact s.sep j k c1 c2 v n h1 h2 o1 o2 sj
  · obtain ⟨t1, t2⟩ := s.tab P hP
    have ne := t2.ne hh nu0
    obtain ⟨ps, t2, t3⟩ := t2
    exact ⟨t1, ps, by rw [upd_ne ne]; exact t2, t3⟩
def dO (tk : Bool) (ks : List (Key × V)) (kt : List (List Key × V)) : HO := if tk = true then .dT kt else .dK ks
/-- what stands at a dict's address -/
theorem DctR.at {lk : Bool} (h : DctR K G H q lk tk kvs) : ∃ u, AtK H q lk u ∧ Mut (some u) ∧ ∀ {H' : Hp} {lk' : Bool}, AtK H' q lk' u → DctR K G H' q lk' tk kvs := by
  unfold DctR at h
  split at h
  · rename_i t
    obtain ⟨ks, h1, h2⟩ := h
    exact ⟨_, h1, trivial, fun {H' lk'} z => by unfold DctR; rw [if_pos t]; exact ⟨ks, z, h2⟩⟩
  · rename_i t
    obtain ⟨ks, h1, h2⟩ := h
    exact ⟨_, h1, trivial, fun {H' lk'} z => by unfold DctR; rw [if_neg t]; exact ⟨ks, z, h2⟩⟩
/-- the lock is set -/
theorem SR.lockD (s : SR K G τ σ H) {i : Nat} {b : Bool} (h : τ[i]? = some (some (.dct b false tk kvs))) : ∃ q u, σ[i]? = some (some (V.ref q)) ∧ H q = some u ∧ Mut (some u) ∧ ∀ od, SR K G (τ.set i (some (.dct b true tk kvs))) σ (upd H q (.frz od u)) := by
  obtain ⟨v, e, q, rfl, g, hd⟩ := s.cell i _ h
  obtain ⟨u, h1, h2, h3⟩ := hd.at
  exact ⟨q, u, e, h1, h2, fun od => s.writeC h rfl e ⟨q, rfl, g, h3 (by unfold AtK; rw [if_pos rfl]; exact ⟨od, upd_same⟩)⟩⟩
/-- .. and taken away -/
theorem Sx.unlockD {i : Nat} {b b' tk' : Bool} {u : HO} {od : Obj} (h : τ[i]? = some (some (.dct b false tk kvs))) (hv : σ[i]? = some (some (V.ref q))) (hq : H q = some u) (nu : NT u) (s : SR K G τ σ H)
    (y : Sx K G (τ.set i (some (.dct b true tk kvs))) σ (upd H q (.frz od u)) G2 τ2 σ2 H2) (h2 : τ2[i]? = some (some (.dct b' true tk' kvs'))) :
    H2 q = some (.frz od u) ∧ Sx K G τ σ H G2 (τ2.set i (some (.dct b' false tk' kvs'))) σ2 (upd H2 q u) := by
  have il : i < τ.length := (List.getElem?_eq_some_iff.mp h).1
  have il2 : i < τ2.length := (List.getElem?_eq_some_iff.mp h2).1
  have hL : (τ.set i (some (.dct b true tk kvs)))[i]? = some (some (.dct b true tk kvs)) := by rw [List.getElem?_set, if_pos rfl, if_pos il]
  have hLn : ∀ {j : Nat}, j ≠ i → (τ.set i (some (Cell.dct b true tk kvs)))[j]? = τ[j]? := fun {j} n => List.getElem?_set_ne (Ne.symm n)
  have ownL : ∀ a, Ownd (τ.set i (some (.dct b true tk kvs))) σ a → a ≠ q ∧ Ownd τ σ a := fun a ⟨j, c, z1, z2, z3, z4⟩ => by
    by_cases e : j = i
    · subst e; rw [hL] at z1; cases z1; cases z3
    · rw [hLn e] at z1
      exact ⟨fun ea => s.sep j i _ _ _ e z1 h z2 rfl (by rw [z4, ea]) hv, j, c, z1, z2, z3, z4⟩
  obtain ⟨cl, m1, m2, m3, m4, m5⟩ := y.keepL i _ h2 rfl (.inr rfl)
  rw [hL] at m1; cases m1
  have m3 : b = b' := m3
  have hq2 : H2 q = some (.frz od u) := (y.kp.2.1 q _ upd_same (fun _ z => by cases z) fun z => (ownL q z).1 rfl).1
  have hv2 : σ2[i]? = some (some (V.ref q)) := by rw [m5]; exact hv
  refine ⟨hq2, ?_, ⟨y.kp.1, fun a z hz nz no => ?_, fun a hz => ?_⟩, fun a hz => ?_, fun j c' hj ho hm => ?_⟩
  · obtain ⟨v', e', q', ev, g', hd'⟩ := y.sr.cell i _ h2
    rw [hv2] at e'; cases e'; cases ev
    obtain ⟨u', w1, w2, w3⟩ := hd'.at
    rw [AtK, if_pos rfl] at w1
    obtain ⟨od', w1⟩ := w1
    rw [hq2] at w1; cases w1
    exact y.sr.writeC h2 rfl hv2 ⟨q, rfl, g', w3 (by unfold AtK; rw [if_neg Bool.false_ne_true]; exact upd_same)⟩
  · have ne : a ≠ q := fun ea => no ⟨i, _, h, rfl, rfl, by rw [ea]; exact hv⟩
    obtain ⟨z1, z2⟩ := y.kp.2.1 a z (by rw [upd_ne ne]; exact hz) nz fun w => no (ownL a w).2
    exact ⟨by rw [upd_ne ne]; exact z1, z2⟩
  · have ne : a ≠ q := fun ea => by rw [ea, upd_same] at hz; cases hz
    rw [upd_ne ne] at hz
    have := y.kp.2.2 a hz
    rw [upd_ne ne] at this
    exact this
  · obtain ⟨j, c, z1, z2, z3, z4, z5⟩ := hz
    by_cases e : j = i
    · subst e
      rw [hv2] at z5; cases z5
      rw [List.getElem?_set, if_pos rfl, if_pos il2] at z1
      cases z1
      exact .inl ⟨j, _, h, rfl, rfl, m3.trans z4, hv⟩
    · rw [List.getElem?_set_ne (Ne.symm e)] at z1
      rcases y.ownN a ⟨j, c, z1, z2, z3, z4, z5⟩ with ⟨j', c', w1, w2, w3, w4, w5⟩ | w
      · by_cases e' : j' = i
        · subst e'; rw [hL] at w1; cases w1; cases w3
        · rw [hLn e'] at w1
          exact .inl ⟨j', c', w1, w2, w3, w4, w5⟩
      · refine .inr ?_
        by_cases ea : a = q
        · rw [ea, upd_same] at w; cases w
        · rw [upd_ne ea] at w; exact w
  · by_cases e : j = i
    · subst e
      rw [List.getElem?_set, if_pos rfl, if_pos il2] at hj
      cases hj
      exact ⟨_, h, rfl, m3, rfl, m5⟩
    · rw [List.getElem?_set_ne (Ne.symm e)] at hj
      obtain ⟨c, w1, w2, w3, w4, w5⟩ := y.keepL j c' hj ho hm
      rw [hLn e] at w1
      exact ⟨c, w1, w2, w3, w4, w5⟩
theorem Ex.unlockD {i : Nat} {b b' tk' : Bool} {u : HO} {od : Obj} (h : τ[i]? = some (some (.dct b false tk kvs))) (hv : σ[i]? = some (some (V.ref q))) (hq : H q = some u) (nu : NT u) (s : SR K G τ σ H)
    (y : Ex K σ G (τ.set i (some (.dct b true tk kvs))) (upd H q (.frz od u)) G2 τ2 H2) (h2 : τ2[i]? = some (some (.dct b' true tk' kvs'))) :
    H2 q = some (.frz od u) ∧ Ex K σ G τ H G2 (τ2.set i (some (.dct b' false tk' kvs'))) (upd H2 q u) := by
  obtain ⟨h1, z⟩ := Sx.unlockD h hv hq nu s y.sx h2
  have il : i < τ.length := (List.getElem?_eq_some_iff.mp h).1
  have il2 : i < τ2.length := (List.getElem?_eq_some_iff.mp h2).1
  refine ⟨h1, z.sr, z.kp, fun j c' hj ho => ?_⟩
  by_cases e : j = i
  · subst e
    rw [List.getElem?_set, if_pos rfl, if_pos il2] at hj
    cases hj
    obtain ⟨c, w1, w2, w3, w4⟩ := y.mode j _ h2 rfl
    rw [List.getElem?_set, if_pos rfl, if_pos il] at w1
    cases w1
    exact ⟨_, h, rfl, w3, rfl⟩
  · rw [List.getElem?_set_ne (Ne.symm e)] at hj
    obtain ⟨c, w1, w2, w3, w4⟩ := y.mode j c' hj ho
    rw [List.getElem?_set_ne (Ne.symm e)] at w1
    exact ⟨c, w1, w2, w3, w4⟩
/-- p, while the dict at i is locked -/
def zLkE (i : Nat) (p : ZD) : ZD := fun τ => match cellAt τ i with
  | some (.dct b false tk kvs) => (match p (τ.set i (some (.dct b true tk kvs))) with
    | .ok l τ2 => (match cellAt τ2 i with
      | some (.dct b' true tk' kvs') => .ok l (τ2.set i (some (.dct b' false tk' kvs')))
      | _ => .stuck)
    | _ => .stuck)
  | some (.dct _ true _ _) => p τ
  | _ => .stuck
theorem ze_lock {i : Nat} (hp : ZE X W a da) : ZE X W a (zLkE i da) := by
  refine ⟨⟨fun pins s σ H Q I h => ?_⟩⟩
  obtain ⟨G, τ, s0, h⟩ := tZ_to h
  unfold zLkE at h
  split at h
  · rename_i b tk kvs ec
    obtain ⟨q, u, hv, hq, mu, lk⟩ := s0.lockD (cellAt_some ec)
    refine (pe_lock hp.pe).run pins s σ H Q I ⟨q, u, hq, mu, fun od => ?_⟩
    refine tZ_of (lk od) ?_
    have nu : NT u := fun ps z => by rw [z] at mu; exact mu.elim
    cases e : da (τ.set i (some (.dct b true tk kvs))) with
    | stuck => rw [e] at h; exact h.elim
    | exc n τ2 => rw [e] at h; exact h.elim
    | ok l τ2 =>
      rw [e] at h
      dsimp only at h
      split at h
      · rename_i b' tk' kvs' e2
        intro G2 H2 v x r
        obtain ⟨w1, w2⟩ := x.unlockD (cellAt_some ec) hv hq nu s0 (cellAt_some e2)
        refine ⟨w1, h G2 _ v w2 ?_⟩
        cases l with
        | sl j => exact r
        | cl c =>
          obtain ⟨r1, r2⟩ := r
          refine ⟨r1.mono Sub.refl fun z o ev oc _ hz => ⟨?_, GS.rfl⟩, fun oc => ⟨(r2 oc).1, (r2 oc).2.1, fun z ez => ?_⟩⟩
          · have := (r2 oc).2.2 z ev
            have ne : z ≠ q := fun ea => by rw [ea, upd_same] at this; cases this
            rw [upd_ne ne]; exact hz
          · have := (r2 oc).2.2 z ez
            have ne : z ≠ q := fun ea => by rw [ea, upd_same] at this; cases this
            rw [upd_ne ne] at this; exact this
      · exact h.elim
  · exact hp.pe.run pins s σ H Q I (tZ_of s0 h)
  · exact h.elim
/-- a statement, while the dict at i is locked -/
def unlD (i : Nat) (τ2 : Fr) (f : Fl) : Res Fl := match cellAt τ2 i with
  | some (.dct b' true tk' kvs') => .ok f (τ2.set i (some (.dct b' false tk' kvs')))
  | _ => .stuck
def zLkS (i : Nat) (p : ZSD) : ZSD := fun τ => match cellAt τ i with
  | some (.dct b false tk kvs) => (match p (τ.set i (some (.dct b true tk kvs))) with
    | .ok f τ2 => unlD i τ2 f
    | _ => .stuck)
  | some (.dct _ true _ _) => p τ
  | _ => .stuck
theorem unlD_ok {i : Nat} {f f' : Fl} {τ3 : Fr} (h : unlD i τ2 f = .ok f' τ3) : f' = f ∧ ∃ b' tk' kvs', cellAt τ2 i = some (.dct b' true tk' kvs') ∧ τ3 = τ2.set i (some (.dct b' false tk' kvs')) := by
  unfold unlD at h
  split at h
  · rename_i b' tk' kvs' e
    cases h
    exact ⟨rfl, _, _, _, e, rfl⟩
  · cases h
theorem zs_lock {st : Stmt} {i : Nat} {p : ZSD} (hp : ZS X W st p) : ZS X W st (zLkS i p) := by
  refine ⟨⟨fun pins s σ H D I h => ?_⟩⟩
  obtain ⟨G, τ, s0, h⟩ := h
  unfold zLkS at h
  split at h
  · rename_i b tk kvs ec
    obtain ⟨q, u, hv, hq, mu, lk⟩ := s0.lockD (cellAt_some ec)
    refine (ps_lock hp.ps).run pins s σ H D I ⟨q, u, hq, mu, fun od => ⟨G, _, lk od, ?_⟩⟩
    have nu : NT u := fun ps z => by rw [z] at mu; exact mu.elim
    cases e : p (τ.set i (some (.dct b true tk kvs))) with
    | stuck => rw [e] at h; exact h.elim
    | exc n τ2 => rw [e] at h; exact h.elim
    | ok f τ2 =>
      rw [e] at h
      dsimp only at h
      cases e3 : unlD i τ2 f with
      | stuck => rw [e3] at h; exact h.elim
      | exc n τ3 => unfold unlD at e3; split at e3 <;> cases e3
      | ok f' τ3 =>
        rw [e3] at h
        obtain ⟨rfl, b', tk', kvs', e2, rfl⟩ := unlD_ok e3
        have un : ∀ {G2 σ2 H2}, Sx X.K G (τ.set i (some (.dct b true tk kvs))) σ (upd H q (.frz od u)) G2 τ2 σ2 H2 → H2 q = some (.frz od u) ∧ Sx X.K G τ σ H G2 (τ2.set i (some (.dct b' false tk' kvs'))) σ2 (upd H2 q u) := fun {G2 σ2 H2} y => Sx.unlockD (cellAt_some ec) hv hq nu s0 y (cellAt_some e2)
        cases f' with
        | nx => exact fun G2 σ2 H2 y => ⟨(un y).1, h G2 σ2 _ (un y).2⟩
        | bk => exact fun G2 σ2 H2 y => ⟨(un y).1, h G2 σ2 _ (un y).2⟩
        | ct => exact fun G2 σ2 H2 y => ⟨(un y).1, h G2 σ2 _ (un y).2⟩
        | rt c =>
          intro G2 σ2 H2 v y r
          refine ⟨(un y).1, h G2 σ2 _ v (un y).2 ?_⟩
          obtain ⟨r1, r2⟩ := r
          have hL : (τ.set i (some (.dct b true tk kvs)))[i]? = some (some (.dct b true tk kvs)) := by rw [List.getElem?_set, if_pos rfl, if_pos (List.getElem?_eq_some_iff.mp (cellAt_some ec)).1]
          have fre : ∀ z, OwnN (τ.set i (some (.dct b true tk kvs))) σ z ∨ (upd H q (.frz od u)) z = none → z ≠ q ∧ (OwnN τ σ z ∨ H z = none) := fun z hz => by
            rcases hz with ⟨j, c', w1, w2, w3, w4, w5⟩ | w
            · by_cases ej : j = i
              · subst ej; rw [hL] at w1; cases w1; cases w3
              · rw [List.getElem?_set_ne (Ne.symm ej)] at w1
                exact ⟨fun ea => s0.sep j i _ _ _ ej w1 (cellAt_some ec) w2 rfl (by rw [w5, ea]) hv, .inl ⟨j, c', w1, w2, w3, w4, w5⟩⟩
            · by_cases ea : z = q
              · rw [ea, upd_same] at w; cases w
              · rw [upd_ne ea] at w; exact ⟨ea, .inr w⟩
          refine ⟨r1.mono Sub.refl fun z o ev oc _ hz => ⟨?_, GS.rfl⟩, fun oc => ⟨(r2 oc).1, (r2 oc).2.1, fun z ez => (fre z ((r2 oc).2.2 z ez)).2⟩⟩
          rw [upd_ne (fre z ((r2 oc).2.2 z ev)).1]; exact hz
  · exact hp.ps.run pins s σ H D I ⟨G, τ, s0, h⟩
  · exact h.elim
end
end Z

/-! Z62: for k in d. -/
namespace Z
open PySem PySem.Spec PyProof.Rows L2
variable [TB : Tabs]
section
variable {X : Cx} {K : PySem.W.Frag} {W : WZ} {σ σ1 σ2 : Z.St} {G G1 G2 H H1 H2 : Hp} {τ τ1 τ2 : Fr} {v x y w u : V} {l : LR} {d e k : PyData} {a b c : Expr} {p pos : Pos} {da db dc : ZD} {tk : Bool} {kvs kvs' : List (PyData × PyData)} {q : Addr} {o : HO}
theorem kD_rd {k : Key} (e : keyD d = some k) : RD K G (kV k) d := by
  cases d with
  | int i => cases e; exact .int i
  | str s => cases e; exact .str s
  | _ => cases e
theorem ksD_rd : ∀ {ds : List PyData} {ks : List Key}, keysD ds = some ks → RDs K G (ks.map kV) ds
  | [], _, e => by cases e; exact .nil
  | d :: ds, _, e => by
    unfold keysD at e
    split at e
    · rename_i k ks e1 e2
      cases e
      exact .cons (kD_rd e1) (ksD_rd e2)
    · cases e
theorem paired_getR {α β : Type} {R : α → β → Prop} : ∀ {xs : List α} {ys : List β}, Paired R xs ys → ∀ {i : Nat} {y : β}, ys[i]? = some y → ∃ x, xs[i]? = some x ∧ R x y
  | _, _, .nil, i, y, h => by cases h
  | _, _, .cons r t, 0, y, h => by cases h; exact ⟨_, rfl, r⟩
  | _, _, .cons r t, i + 1, y, h => paired_getR t h
/-- the keys of the dict at i, which is locked -/
def zItD (i : Nat) : ZID := fun τ => match cellAt τ i with
  | some (.dct _ true _ kvs) => .ok (kvs.map (·.1), [i]) τ
  | _ => .stuck
theorem zi_itD {tg : Expr} {x : Str} {i : Nat} (hN : X.N[i]? = some x) (hv : Vis X.env.scope x) (h1 : (x == ("__debug__" : Str)) = false := by rfl) (h2 : (x == ("__classdict__" : Str)) = false := by rfl) : ZI X W tg (.Name x p) (zItD i) := by
  refine ⟨⟨fun pins s σ H R I h => (pi_keys (pe_var hN hv h1 h2)).run pins s σ H R I ?_⟩⟩
  obtain ⟨G, τ, s0, h⟩ := h
  unfold zItD at h
  split at h
  · rename_i b tk kvs ec
    obtain ⟨v, e, q, rfl, g, hd⟩ := s0.cell i _ (cellAt_some ec)
    have hss : ∀ j ∈ [i], ∃ c : Cell, τ[j]? = some (some c) ∧ c.lkb = true := fun j hj => by
      rw [List.mem_singleton.mp hj]; exact ⟨_, cellAt_some ec, rfl⟩
    have lka : LkA σ [i] q := ⟨i, List.mem_singleton.mpr rfl, e⟩
    unfold DctR at hd
    split at hd
    · obtain ⟨ks, ha, pr⟩ := hd
      rw [AtK, if_pos rfl] at ha
      obtain ⟨od, ha⟩ := ha
      refine ⟨.ref q, e, q, od, rfl, .inr ⟨ks, ha, h G H _ (Ex.refl s0) hss ⟨_, _, (by rw [List.length_map, Paired.length pr]; exact walk_keysT (d := q) (o := od) (kvs := ks)), fun G2 H2 m1 m2 lk => (lk q lka).trans ha, fun i' x H2 H' G2 hi m1 m2 y => ?_⟩⟩⟩
      · obtain ⟨rfl, k, w, t, hk, rfl, ht⟩ := y
        obtain ⟨pv, z1, z2, z3⟩ := paired_getR pr hk
        have hkd : (kvs.map (·.1))[i']? = some pv.1 := by rw [List.getElem?_map, z1]; rfl
        obtain ⟨ds, hds, hkk⟩ : ∃ ds, pv.1 = .tuple ds ∧ keysD ds = some k := by
          cases hp : pv.1 with
          | tuple ds => rw [hp] at z2; exact ⟨ds, rfl, z2⟩
          | _ => rw [hp] at z2; cases z2
        refine ⟨fun b => if b = t then some (.tup (k.map kV)) else G2 b, pv.1, hkd, ?_, fun b o hb => ?_, fun b o hb => ?_, fun b o hb => ⟨hb, ?_⟩, fun b hb => hb⟩
        · rw [hds]
          exact .tup (if_pos rfl) (ksD_rd hkk)
        · by_cases eb : b = t
          · subst eb
            have := m2 _ _ hb
            rw [ht] at this
            cases this
            exact if_pos rfl
          · exact (if_neg eb).trans hb
        · replace hb : (if b = t then some (HO.tup (k.map kV)) else G2 b) = some o := hb
          split at hb
          · rename_i eb
            cases hb
            rw [eb]; exact ht
          · exact m2 _ _ hb
        · by_cases eb : b = t
          · subst eb
            rw [ht] at hb
            cases hb
            exact .inr ⟨_, rfl⟩
          · exact .inl (if_neg eb)
    · obtain ⟨ks, ha, pr⟩ := hd
      rw [AtK, if_pos rfl] at ha
      obtain ⟨od, ha⟩ := ha
      refine ⟨.ref q, e, q, od, rfl, .inl ⟨ks, ha, h G H _ (Ex.refl s0) hss ⟨_, _, (by rw [List.length_map, Paired.length pr]; exact walk_keys (d := q) (o := od) (kvs := ks)), fun G2 H2 m1 m2 lk => (lk q lka).trans ha, fun i' x H2 H' G2 hi m1 m2 y => ?_⟩⟩⟩
      · obtain ⟨rfl, k, w, hk, rfl⟩ := y
        obtain ⟨pv, z1, z2, z3⟩ := paired_getR pr hk
        exact ⟨G2, pv.1, by rw [List.getElem?_map, z1]; rfl, kD_rd z2, Sub.refl, m2, fun b o hb => ⟨hb, GS.rfl⟩, fun b hb => hb⟩
  · exact h.elim
end
end Z

/-! Z63: sorted(d), list(d). -/
namespace Z
open PySem PySem.Spec PyProof.Rows L2
def rSortDK (K : PySem.W.Frag) : List V → Hp → VK → Prop := fun vs H Q => ∃ a, ∃ kvs : List (Key × V), ∃ ds, vs = [V.ref a] ∧ Rd H a (.dK kvs) ∧ DpAll K H (kvs.map fun kv => kV kv.1) ds ∧ PySem.W.AllAlike ds ∧ (PySem.W.Sortable ds ∨ PySem.W.Sortable0 ds) ∧ (∀ d ∈ ds, d.depth ≤ 60) ∧
  ∀ p, H p = none → Q (.ref p) (upd H p (.lst ((((kvs.map fun kv => kV kv.1).zip ds).mergeSort (PySem.W.dataLe false (·.2))).map (·.1))))
open PySem.W in
theorem cr_sortDK [TB : Tabs] {X : Cx} (hcalm : X.calm = true) (hu : X.A.units + 65 < cLine) : CallR X (.builtin "sorted") (rSortDK X.K) := by
  intro pins s σ H xs us Q I r q
  obtain ⟨a, kvs, ds, ex, hd, hks, ha, hs, hdep, q⟩ := q
  subst ex
  obtain ⟨u, eu, rx⟩ := vals1 r
  subst eu
  cases rx
  obtain ⟨z, lo, vs, rel, dd⟩ := dk_rd I.hok hd
  obtain ⟨ep, hat⟩ := dd.dictAt
  have ek : (kvs.map fun kv => kV kv.1) = vs.map fun p => kV p.1 := by
    have e := congrArg (List.map kV) rel.keys
    rw [List.map_map, List.map_map] at e
    exact e
  have h16 : vs.length ≤ sizeLine := by rw [← rel.length]; exact z
  refine Calls.call_function_entry PyProof.Rows.kind_sorted PyProof.Rows.plain_sorted PyProof.Rows.entry_sorted (PyProof.Rows.args_sorted1 _) ?_
  unfold Builtin.«sorted»
  refine wpAny_bind (m := checkCount "sorted" 1 1 _) (wpAny_pure ?_)
  refine wpAny_bind (PySem.W.kdu_collect (A := X.A.in1) (PySem.W.kdl_dict (knd := mixKind X.prog X.w) (kvs := vs) (ep := ep) lo) (I.ok.hd hcalm) hat h16 fun h' tk acc hk hacc => ?_)
  have hv : Vals (vs.map fun p => kV p.1) acc.toList := keys_at (by rw [Array.length_toList]; exact hacc.1) fun j v e => hacc.2 j v (by rw [← Array.getElem?_toList]; exact e)
  have I1 : Inv X pins σ H { s with heap := h', toks := tk } := I.kept hk
  obtain ⟨its, hits⟩ : ∃ its, its = acc.toList := ⟨_, rfl⟩
  rw [← hits] at hv ⊢
  have hal : its.length = kvs.length := by rw [← hv.length, List.length_map, rel.length]
  refine wpAny_bind (wpAny_newList ?_ (by rw [hal]; exact z))
  have hoL : (h'.push (seqObj "list" its.toArray 0)).get? h'.objs.size = some (seqObj "list" its.toArray 0) := Heap.get?_push_size _ rfl
  show wpAny _ _ _ _ _ { s with heap := h'.push (seqObj "list" its.toArray 0), toks := tk }
  rw [← ek] at hv
  obtain ⟨e1, e2⟩ := each_zip I1 hv hks
  have hm := zip_snd (dpa_len hks)
  have keepS : ∀ b o, h'.get? b = some o → (sortingHeap (h'.push (seqObj "list" its.toArray 0)) h'.objs.size its).get? b = some o := fun b o e =>
    sortingHeap_old (Nat.ne_of_lt (Heap.lt_size e)) (Heap.get?_push_of_some _ e)
  have er' : EachIs (fun u (b : V × PyData) => ∃ as, Reads (sortingHeap (h'.push (seqObj "list" its.toArray 0)) h'.objs.size its) u b.2 as) its ((kvs.map fun kv => kV kv.1).zip ds) := e2.mono fun _ _ ⟨as, r⟩ => ⟨as, PyProof.Rows.Reads.keeps keepS r⟩
  have hlen2 : its.length ≤ sizeLine := by rw [hal]; exact z
  have S : SortsAt X.prog X.w X.A.in1.in1 { s with heap := sortingHeap (h'.push (seqObj "list" its.toArray 0)) h'.objs.size its, toks := tk } _ its :=
    SortsAt.data0 (s := { s with heap := sortingHeap (h'.push (seqObj "list" its.toArray 0)) h'.objs.size its, toks := tk }) (each_map (R := fun v d => ∃ as, Reads (sortingHeap (h'.push (seqObj "list" its.toArray 0)) h'.objs.size its) v d as) (fun b : V × PyData => b.2) er') (by rw [hm]; exact ha) (by rw [hm]; exact hs) (by
      rw [hm]
      intro d hd
      have := hdep d hd
      show X.A.units + 2 + d.depth < cLine
      omega)
  refine wpAny_bind (wpAny_holding (wpAny_call_entry PyProof.Rows.slot_list_sort ⟨_, hoL, rfl⟩ PyProof.Rows.entry_list_sort
    (list_sort_vals (s := { s with heap := h'.push (seqObj "list" its.toArray 0), toks := tk }) hoL S hlen2 ⟨_, rfl, ?_⟩) (PyProof.Rows.args_list_sort _)))
  have ho := sortVals_data (enc := fun b : V × PyData => b.2) false e1 er' (by rw [hm]; exact ha)
  have hv2 := each_vals ho
  obtain ⟨e', he'⟩ := PyProof.Rows.sortedHeap_at (vs := its) (out := (sortVals _ false its its).toArray) hoL
  refine wpAny_pure ⟨_, rfl, .ref h'.objs.size, upd H h'.objs.size (.lst ((((kvs.map fun kv => kV kv.1).zip ds).mergeSort (dataLe false (·.2))).map (·.1))), I1.laid (t' := tk) (fun b u e => ?_) (Nat.le_refl _)
    (show ObjOk X.prog X.w _ _ _ (.lst ((((kvs.map fun kv => kV kv.1).zip ds).mergeSort (dataLe false (·.2))).map (·.1))) from ⟨?_, _, e', hv2, he'⟩), rfl, q _ (I1.hok.fresh (Nat.le_refl _))⟩
  · have hb : b < h'.objs.size := Heap.lt_size e
    rw [PyProof.Rows.sortedHeap_old (Nat.ne_of_lt hb) (by rw [size_push']; exact Nat.lt_succ_of_lt hb)]
    exact Heap.get?_push_of_some _ e
  · have hl := dpa_len hks
    rw [List.length_map, List.length_mergeSort, List.length_zip, List.length_map]
    omega
section
variable [TB : Tabs]
variable {X : Cx} {K : PySem.W.Frag} {W : WZ} {σ : Z.St} {G H : Hp} {τ : Fr} {a : Expr} {p pos : Pos} {da : ZD}
theorem keys_rds : ∀ {kvs : List (PyData × PyData)} {ks : List (Key × V)}, Paired (DR K G keyD) kvs ks → RDs K H (ks.map fun kv => kV kv.1) (kvs.map (·.1))
  | _, _, .nil => .nil
  | _, _, .cons r t => .cons (kD_rd r.1) (keys_rds t)
def kListD (τ : Fr) : Option (Bool × List (PyData × PyData)) → Res LR
  | some (false, kvs) => .ok (.cl (.lst false false (kvs.map (·.1)))) τ
  | _ => .stuck
def kSort2 (τ : Fr) : Option RO → Res LR
  | some (.nl ds) => .ok (.cl (.lst false false ds)) τ
  | _ => .stuck
def kSortD (τ : Fr) : Option (Bool × List (PyData × PyData)) → Res LR
  | some (false, kvs) => kSort2 τ (sortO (kvs.map (·.1)))
  | _ => .stuck
/-- list(d) -/
def zListD (a : ZD) : ZD := fun τ => (a τ).bind fun l τ1 => kListD τ1 (dOf (rdL τ1 l))
/-- sorted(d) -/
def zSortD (a : ZD) : ZD := fun τ => (a τ).bind fun l τ1 => kSortD τ1 (dOf (rdL τ1 l))
theorem lst_new {G1 H1 : Hp} {τ1 : Fr} (x : Ex K σ G τ H G1 τ1 H1) {p : Addr} (hp : H1 p = none) {vs : List V} {ds : List PyData} (r : RDs K G1 vs ds) :
    Ex K σ G τ H G1 τ1 (upd H1 p (.lst vs)) ∧ RL K σ H τ1 G1 (upd H1 p (.lst vs)) (.ref p) (.cl (.lst false false ds)) :=
  ⟨x.trans (Ex.laid x.sr hp), ⟨⟨p, vs, rfl, sub_none x.sr.sub hp, upd_same, r⟩, fun _ => ⟨rfl, rfl, fun a e => by cases e; exact x.kp.2.2 _ hp⟩⟩⟩
theorem ze_listD {x : Str} (hc : X.calm = true) (hg : Gl X x) (hm : X.mg x = none) (hv : bootBuiltins x = some (.type "list")) (ha : ZE X W a da)
    (hn : x ≠ "__name__" := by decide) (hdb : (x == ("__debug__" : Str)) = false := by decide) (he : starEach [a] X.env = (false, eval a X.env) :: starEach [] X.env := by rfl) : ZE X W (.Call (.Name x p) [a] [] pos) (zListD da) := by
  refine ⟨⟨fun pins s σ H Q I h => (pe_callTy (call_listD hc) hg hm hv (pa1 ha.pe he) hn hdb he (by rfl)).run pins s σ H Q I ?_⟩⟩
  obtain ⟨G, τ, s, h⟩ := tZ_to h
  refine nextE (Ex.refl s) h fun l τ1 G1 H1 v e1 x1 r1 h1 => ?_
  cases e2 : dOf (rdL τ1 l) with
  | none => rw [e2] at h1; exact h1.elim
  | some t =>
    obtain ⟨tk, kvs⟩ := t
    rw [e2] at h1
    cases tk with
    | true => exact h1.elim
    | false =>
      obtain ⟨_, _, e3⟩ := dOf_some e2
      obtain ⟨a, rfl, g, dr⟩ := RL.cell x1.sr r1 e3
      obtain ⟨ks, ho, pr⟩ := (show ∃ ks, AtK H1 a _ (.dK ks) ∧ Paired (DR X.K G1 keyD) kvs ks from dr)
      refine ⟨a, ks, rfl, ho.rd, fun p hp => ?_⟩
      obtain ⟨x2, r2⟩ := lst_new x1 hp (keys_rds pr)
      exact h1 _ _ _ x2 r2
theorem ze_sortD {x : Str} (hc : X.calm = true) (hu : X.A.units + 65 < cLine) (hg : Gl X x) (hm : X.mg x = none) (hv : bootBuiltins x = some (.builtin "sorted")) (ha : ZE X W a da)
    (hn : x ≠ "__name__" := by decide) (hdb : (x == ("__debug__" : Str)) = false := by decide) (he : starEach [a] X.env = (false, eval a X.env) :: starEach [] X.env := by rfl) : ZE X W (.Call (.Name x p) [a] [] pos) (zSortD da) := by
  refine ⟨⟨fun pins s σ H Q I h => (pe_callB (cr_sortDK hc hu) hg hm hv (pa1 ha.pe he) hn hdb he (by rfl)).run pins s σ H Q I ?_⟩⟩
  obtain ⟨G, τ, s, h⟩ := tZ_to h
  refine nextE (Ex.refl s) h fun l τ1 G1 H1 v e1 x1 r1 h1 => ?_
  cases e2 : dOf (rdL τ1 l) with
  | none => rw [e2] at h1; exact h1.elim
  | some t =>
    obtain ⟨tk, kvs⟩ := t
    rw [e2] at h1
    cases tk with
    | true => exact h1.elim
    | false =>
      have h1 : Fin X.K W σ G τ H (kSort2 τ1 (sortO (kvs.map (·.1)))) Q := h1
      cases e4 : sortO (kvs.map (·.1)) with
      | none => rw [e4] at h1; exact h1.elim
      | some ro =>
        obtain ⟨_, _, e3⟩ := dOf_some e2
        obtain ⟨a, rfl, g, dr⟩ := RL.cell x1.sr r1 e3
        obtain ⟨ks, ho, pr⟩ := (show ∃ ks, AtK H1 a _ (.dK ks) ∧ Paired (DR X.K G1 keyD) kvs ks from dr)
        have kr : RDs X.K G1 (ks.map fun kv => kV kv.1) (kvs.map (·.1)) := keys_rds pr
        have e5 := e4
        unfold sortO at e4
        split at e4
        · rename_i hz
          simp only [Bool.and_eq_true, List.all_eq_true, decide_eq_true_eq] at hz
          cases e4
          rw [e5] at h1
          refine ⟨a, ks, kvs.map (·.1), rfl, ho.rd, RDs.dp _ _ (dps_mono x1.sr.sub _ _ kr), fun d hd d' hd' => hz.1.1 d hd d' hd', sortableB_ok hz.1.2, hz.2, fun p hp => ?_⟩
          have rr : RDs X.K G1 ((((ks.map fun kv => kV kv.1).zip (kvs.map (·.1))).mergeSort (PySem.W.dataLe false (·.2))).map (·.1)) ((kvs.map (·.1)).mergeSort (PySem.W.dataLe false id)) := by
            rw [← sort_snd (dps_len kr)]
            exact rds_of fun b hb => rds_zip kr b (List.mem_mergeSort.mp hb)
          obtain ⟨x2, r2⟩ := lst_new x1 hp rr
          exact h1 _ _ _ x2 r2
        · cases e4
end
end Z

/-! Z64: dict comprehensions, keys ints, texts or tuples. -/
namespace Z
open PySem PySem.Spec PyProof.Rows L2
theorem d_dictSetG {X : Cx} {pins : List (Addr × Obj)} {σ : L2.St} {H H' : Hp} {s : Shared} {E : Value → Shared → Prop} {D : Addr} {y v : V} {u r : Value} {Q : Unit → Shared → Prop} (hu : X.A.units + 1 < cLine) (I : Inv X pins σ H s) (g : DPut H D y v H')
    (ry : RelV y u) (rv : RelV v r) (h : ∀ s', Inv X pins σ H' s' → Q () s') : wpAny (model X.prog X.w) X.A (dictSet D u r) Q E s := by
  rcases g with ⟨kvs, k, e, ey, l, eH⟩ | ⟨kvs, k, b, e, ey, eb, l, eH⟩
  · subst ey eH
    exact d_dictSet I e l ry rv h
  · subst ey eH
    cases (show u = Value.ref b from ry)
    obtain ⟨z, hd, xs, rel, dd⟩ := dt_of I.hok e
    have hz : xs.length ≤ sizeLine := by rw [← Paired.length rel]; exact z
    have hl : (putK kvs k v).length ≤ sizeLine := by have := length_putK kvs k v; omega
    refine wpAny_dictSet_heap (hsz := hz) (Nat.lt_of_succ_lt hu) (key_of I.hok eb) dd fun h' dd' hs => h _ ?_
    obtain ⟨q, es, ep, hq, h2, h3, h4, _, h5⟩ := dd'
    refine d_write I (by rw [e]; exact True.intro) hs ⟨q, hq⟩ ⟨hl, hd, _, (rel.put k eb rv).keeps fun c ys ec => ?_, q, es, ep, hq, h2, h3, h4, h5⟩
    rw [upd_ne (ne_of ec e (fun z => nomatch z))]
    exact ec
def o0 (b : Bool) : HO := if b = true then .dT [] else .dK []
/-- {k: v for target in iter if ..}: D the new dict -/
def tDcG (b : Bool) (wi : TI) (g : TG) (tt : TT) (tk tv : TE) (vs : List Nat) : TE := fun σ H Q => wi σ H fun J H1 => ∀ D, H1 D = none → ∃ W : Nat → Nat → Hp → Prop, (∃ m, W 0 m (upd H1 D (o0 b))) ∧ ∀ i m H, W i m H →
  (J.stop i H ∧ Q (.ref D) H) ∨ (J.go i H ∧ ∃ Nx : Hp → Prop, (∀ H', Nx H' → ∃ m', m' < m ∧ W (i + 1) m' H') ∧ ∀ x H', J.yld i H x H' → g x (wipe σ vs) H' fun σ2 H2 => wipe σ2 vs = wipe σ vs ∧ tt σ2 H2 fun b H3 =>
    if b = true then tk σ2 H3 fun y H4 => tv σ2 H4 fun z H5 => ∃ H6, DPut H5 D y z H6 ∧ Nx H6 else Nx H3)
theorem dc_gen {X : Cx} {b : Bool} {pins : List (Addr × Obj)} {s : Shared} {σ : Z.St} {H : Hp} {Q : VK} {kx vx tg iter : Expr} {ifs : List Expr} {scope : Scope} {own : List (Str × Nat)} {pos pos' : Pos} {wi : TI} {g : TG} {tt : TT} {tk tv : TE} {use : Option (Value → Sem Unit)} {Qf : Value → Shared → Prop}
    (hc : X.calm = true) (hu : X.A.units + 1 < cLine) (hN : X.N.Nodup) (I : Inv X pins σ H s) (hi : PI X tg iter wi) (ok : BlkOk X.N X.env.scope scope own)
    (hg : ∀ (s : Shared) (H : Hp) (C : Addr) (cl : List (Str × Addr)) (fp : List Addr), PG (X.blk s H scope (compEnvC scope cl C X.env) fp) tg g) (ht : ∀ (s : Shared) (H : Hp) (C : Addr) (cl : List (Str × Addr)) (fp : List Addr), PTs (X.blk s H scope (compEnvC scope cl C X.env) fp) ifs tt)
    (hk : ∀ (s : Shared) (H : Hp) (C : Addr) (cl : List (Str × Addr)) (fp : List Addr), PE (X.blk s H scope (compEnvC scope cl C X.env) fp) kx tk) (he : ∀ (s : Shared) (H : Hp) (C : Addr) (cl : List (Str × Addr)) (fp : List Addr), PE (X.blk s H scope (compEnvC scope cl C X.env) fp) vx tv)
    (hs : ∀ x, foldedSetIterable iter X.env x = pure x) (h : tDcG b wi g tt tk tv (own.map (·.2)) σ H Q)
    (hRR : ∀ D C s' m H', Inv X pins σ H' s' → Q (.ref D) H' → s'.heap.Ns C m → FpOk X pins H' C → compPost (model X.prog X.w) X.A X.xe use Qf (.ref D) C (.ok .next) s') :
    wpAny (model X.prog X.w) X.A (comprehension (.DictComp kx vx [⟨tg, iter, ifs, 0⟩] scope pos) scope X.env pos' newDict false (eval iter X.env) use) Qf X.xe s := by
  have closed : ∀ y ∈ scope.names, y.2 = .free → ∃ c, X.env.cells.lookup y.1 = some c := fun y hy e => (ok.free y hy e).elim (fun k => I.ok.has _ (.inl k)) fun k => I.ok.has _ (.inr k)
  refine wpAny_comprehension_free (use := use) rfl hs (closure_ok closed) ok.kind (fun y hy e => by rw [ok.uniq y hy, e]) (thn (hi.run pins s σ H _ I h) fun xv s1 hx => thn hx fun itv s2 h2 => ?_)
  obtain ⟨it, fp, tn, J, H2, e, I2, T, st2, f2, q⟩ := h2
  subst e
  refine wpAny_newObj_type (newEnv_comp ?_)
  obtain ⟨D, hD⟩ : ∃ D, D = s2.heap.objs.size := ⟨_, rfl⟩
  rw [← hD]
  obtain ⟨W, ⟨m0, w0⟩, turn⟩ := q D (I2.hok.fresh (Nat.le_of_eq hD.symm))
  obtain ⟨s3, hs3⟩ : ∃ s3 : Shared, s3 = { s2 with heap := s2.heap.push { cls := .type "dict", data := .dict #[] } } := ⟨_, rfl⟩
  have I3 : Inv X pins σ (upd H2 D (o0 b)) s3 := by
    rw [hs3]
    refine I2.laid (t' := s2.toks) (fun b o e => Heap.get?_push_of_some _ e) (Nat.le_of_eq hD.symm) ?_
    rw [hD]
    cases b with
    | false => exact dk_empty s2.heap I2.big
    | true => exact dt_empty s2.heap I2.big
  have g3 : s3.heap = s2.heap.push { cls := .type "dict", data := .dict #[] } := by rw [hs3]
  have small : ∀ b ∈ fp, b < s2.heap.objs.size := fun b hb => by
    obtain ⟨o, e, _⟩ := T.obj _ _ st2 b hb
    exact Heap.lt_size e
  generalize o0 b = oD at I3 w0
  have f3 : ∀ b ∈ fp, FpOk X pins (upd H2 D oD) b ∧ b < s3.heap.objs.size := fun b hb => by
    have hlt := small b hb
    refine ⟨⟨?_, (f2 b hb).2⟩, by rw [g3, Heap.size_push]; exact Nat.lt_succ_of_lt hlt⟩
    rw [upd_ne (by rw [hD]; exact Nat.ne_of_lt hlt)]
    exact (f2 b hb).1
  have st3 : tn 0 s3.heap := T.keep _ _ _ st2 fun b _ o e => by rw [g3]; exact Heap.get?_push_of_some _ e
  have I4 := block_start I3 ok hN f3
  have pg := hg s3 (upd H2 D oD) s3.heap.objs.size (cellsFrom (s3.heap.objs.size + 1) scope.names (cloFrom X.env.cells scope.names [])) fp
  have pt := ht s3 (upd H2 D oD) s3.heap.objs.size (cellsFrom (s3.heap.objs.size + 1) scope.names (cloFrom X.env.cells scope.names [])) fp
  have pk := hk s3 (upd H2 D oD) s3.heap.objs.size (cellsFrom (s3.heap.objs.size + 1) scope.names (cloFrom X.env.cells scope.names [])) fp
  have pe := he s3 (upd H2 D oD) s3.heap.objs.size (cellsFrom (s3.heap.objs.size + 1) scope.names (cloFrom X.env.cells scope.names [])) fp
  rw [← hs3]
  show codeAny _ _ (.compStart (.DictComp kx vx [⟨tg, iter, ifs, 0⟩] scope pos) 0 (.ref it) (.ref D) (compEnvC scope (cellsFrom (s3.heap.objs.size + 1) scope.names (cloFrom X.env.cells scope.names [])) s3.heap.objs.size X.env)) (compPost (model X.prog X.w) X.A X.xe use Qf (.ref D) s3.heap.objs.size) { s3 with heap := pushCells (s3.heap.push { cls := .type "dict", data := .dict #[] }) scope.names }
  have nfp : ∀ b ∈ fp, (upd H2 D oD) b = none := fun b hb => (f3 b hb).1.1
  generalize hce : compEnvC scope (cellsFrom (s3.heap.objs.size + 1) scope.names (cloFrom X.env.cells scope.names [])) s3.heap.objs.size X.env = ce at I4 pg pt pk pe ⊢
  have cL : ce.locals = s3.heap.objs.size := by subst hce; rfl
  generalize hH3 : upd H2 D oD = H3 at I3 I4 pg pt pk pe w0 nfp f3
  generalize hs4 : ({ s3 with heap := pushCells (s3.heap.push { cls := .type "dict", data := .dict #[] }) scope.names } : Shared) = s4 at I4 ⊢
  have st4 : tn 0 s4.heap := T.keep _ _ _ st3 fun b _ o e => by rw [← hs4]; exact pushCells_keeps _ _ _ _ (Heap.get?_push_of_some _ e)
  have stat : ∀ {σ' : Z.St} {H' : Hp} {s' : Shared}, Inv (X.blk s3 H3 scope ce fp) [] σ' H' s' → (∀ b ∈ fp, H' b = none) → ∀ b ∈ fp, FpOk (X.blk s3 H3 scope ce fp) [] H' b := fun {σ' H' s'} I' hn b hb =>
    ⟨hn b hb, (I'.ok.exf b hb).1, I'.ok.exfs b hb, .inl hb, fun x c e => (I'.ok.exf b hb).2 x c e, fun p hp => absurd (show p ∈ ([] : List (Addr × Obj)) ++ [] from hp) (by simp)⟩
  have loop : codeAny (model X.prog X.w) X.A (.compLoop (.DictComp kx vx [⟨tg, iter, ifs, 0⟩] scope pos) 0 (.ref it) (.ref D) ce) (compPost (model X.prog X.w) X.A X.xe use Qf (.ref D) s3.heap.objs.size) s4 := by
    refine compLoop_anyD (fun n s' => ∃ i H', Inv (X.blk s3 H3 scope ce fp) [] (wipe σ (own.map (·.2))) H' s' ∧ tn i s'.heap ∧ (∀ b ∈ fp, H' b = none) ∧ W i n H') ?_ m0 ⟨0, H3, I4, st4, nfp, w0⟩
    rintro n s5 ⟨i, H5, I5, st5, n5, w5⟩
    rcases turn i n H5 w5 with ⟨stop, qq⟩ | ⟨go, Nx, hNx, step⟩
    · refine thnF (T.done (X.blk s3 H3 scope ce fp) rfl rfl rfl hc i [] s5 _ H5 (fun _ _ => False) I5 (stat I5 n5) st5 stop) fun r s6 ⟨hr, I6⟩ => ?_
      subst hr
      have I7 : Inv X pins σ H5 s6 := I3.call' (ch := fp) I6.os I6.base I6.hok I6.bare fun b hb => ⟨(f3 b hb).1.2.2.2.1, (f3 b hb).1.2.1, (f3 b hb).1.2.2.2.2.1, (f3 b hb).1.2.2.2.2.2⟩
      have nC : H5 s3.heap.objs.size = none := by rw [← cL]; exact I6.free
      obtain ⟨m, hn, _⟩ := I6.loc
      have hn : s6.heap.Ns ce.locals m := hn
      rw [cL] at hn
      exact hRR D s3.heap.objs.size s6 m H5 I7 qq hn (I3.fpOk (Nat.le_refl _) nC)
    · refine thnF (T.item (X.blk s3 H3 scope ce fp) rfl rfl rfl hc i [] s5 _ H5 (fun _ _ => False) I5 (stat I5 n5) st5 go) fun r s6 ⟨u, hr, h6⟩ => ?_
      subst hr
      refine thnF h6 fun _ s7 ⟨x, H7, I7, r7, y7, st7, n7⟩ => ?_
      have I7' := I7.pinned (stat I7 n7) (T.obj _ _ st7)
      refine thnF (pg.run _ s7 _ H7 x u _ I7' r7 (step x H7 y7)) fun _ s8 ⟨σ8, H8, I8, hw8, q8⟩ => ?_
      refine thnF (pt.run _ s8 σ8 H8 _ I8 q8) fun b s9 ⟨H9, I9, q9⟩ => ?_
      have fin : ∀ {s' : Shared} {H' : Hp}, Inv (X.blk s3 H3 scope ce fp) ([] ++ pinsAt fp s7.heap) σ8 H' s' → Nx H' → ∃ m, m < n ∧ ∃ i H', Inv (X.blk s3 H3 scope ce fp) [] (wipe σ (own.map (·.2))) H' s' ∧ tn i s'.heap ∧ (∀ b ∈ fp, H' b = none) ∧ W i m H' := fun {s' H'} I' nx => by
        obtain ⟨m', hm, w'⟩ := hNx H' nx
        have back : ∀ b ∈ fp, ∀ o, s7.heap.get? b = some o → s'.heap.get? b = some o ∧ H' b = none := fun b hb o e => ⟨(I'.pin (b, o) (List.mem_append_right _ (List.mem_append_right _ (mem_pinsAt hb e)))).1, (I'.pin (b, o) (List.mem_append_right _ (List.mem_append_right _ (mem_pinsAt hb e)))).2.1⟩
        refine ⟨m', hm, i + 1, H', (I'.unpinned (pins := [])).weak (by rw [← hw8, wipe_length]) (fun j v e => (wipe_some (by rw [hw8]; exact e)).1), T.keep _ _ _ st7 fun b hb o e => (back b hb o e).1, fun b hb => ?_, w'⟩
        obtain ⟨o, e, _⟩ := T.obj _ _ st7 b hb
        exact (back b hb o e).2
      cases b with
      | false =>
        simp only [Bool.false_eq_true, if_false] at q9 ⊢
        exact fin I9 q9
      | true =>
        simp only [if_true] at q9 ⊢
        refine thnF (pk.run _ s9 σ8 H9 _ I9 q9) fun z s10 ⟨yk, H10, I10, r10, q10⟩ => ?_
        exact thnF (pe.run _ s10 σ8 H10 _ I10 q10) fun z2 s11 ⟨yv, H11, I11, r11, H12, pu, nx⟩ => d_dictSetG (X := X.blk s3 H3 scope ce fp) hu I11 pu r10 r11 fun s12 I12 => fin I12 nx
  exact codeAny_compStart_dict loop (T.self X.A 0 _ _ _ st4 loop)
theorem pe_dcG {X : Cx} {b : Bool} {kx vx tg iter : Expr} {ifs : List Expr} {scope : Scope} {own : List (Str × Nat)} {pos : Pos} {wi : TI} {g : TG} {tt : TT} {tk tv : TE} (hc : X.calm = true) (hu : X.A.units + 1 < cLine) (hN : X.N.Nodup) (hi : PI X tg iter wi) (ok : BlkOk X.N X.env.scope scope own)
    (hg : ∀ (s : Shared) (H : Hp) (C : Addr) (cl : List (Str × Addr)) (fp : List Addr), PG (X.blk s H scope (compEnvC scope cl C X.env) fp) tg g) (ht : ∀ (s : Shared) (H : Hp) (C : Addr) (cl : List (Str × Addr)) (fp : List Addr), PTs (X.blk s H scope (compEnvC scope cl C X.env) fp) ifs tt)
    (hk : ∀ (s : Shared) (H : Hp) (C : Addr) (cl : List (Str × Addr)) (fp : List Addr), PE (X.blk s H scope (compEnvC scope cl C X.env) fp) kx tk) (he : ∀ (s : Shared) (H : Hp) (C : Addr) (cl : List (Str × Addr)) (fp : List Addr), PE (X.blk s H scope (compEnvC scope cl C X.env) fp) vx tv)
    (hs : ∀ x, foldedSetIterable iter X.env x = pure x := by intro _; rfl) : PE X (.DictComp kx vx [⟨tg, iter, ifs, 0⟩] scope pos) (tDcG b wi g tt tk tv (own.map (·.2))) := by
  refine ⟨fun pins s σ H Q I h => ?_⟩
  rw [arm_eval_DictComp]
  refine dc_gen hc hu hN I hi ok hg ht hk he hs h fun D C s' m H' I' q hn f => ⟨m, hn, fun h'' sb => ?_⟩
  obtain ⟨f0, f1, f2, f3, f4, f5⟩ := f
  exact ⟨.ref D, H', I'.turned (t' := s'.toks) (fun b o hb e => (sb.2 b hb).trans e) f0 f1 f3 f4 f5, rfl, q⟩
/-- the loop over a walk -/
theorem dcg_it {J : It} {n : Nat} {G : Hp → Prop} {Y : Nat → Hp → V → Hp → Prop} (w : Walk J n G Y) {b : Bool} {g : TG} {tt : TT} {tk tv : TE} {vs : List Nat} {σ : L2.St} {H1 : Hp} {D : Addr} {Qd : Hp → Prop} (Pv : Nat → Hp → Prop) (h0 : Pv 0 (upd H1 D (o0 b))) (hG : ∀ i H, i ≤ n → Pv i H → G H)
    (hs : ∀ i x H H', i < n → Pv i H → Y i H x H' → g x (wipe σ vs) H' fun σ2 H2 => wipe σ2 vs = wipe σ vs ∧ tt σ2 H2 fun b H3 =>
      if b = true then tk σ2 H3 fun y H4 => tv σ2 H4 fun z H5 => ∃ H6, DPut H5 D y z H6 ∧ Pv (i + 1) H6 else Pv (i + 1) H3) (hd : ∀ H, Pv n H → Qd H) :
    ∃ W : Nat → Nat → Hp → Prop, (∃ m, W 0 m (upd H1 D (o0 b))) ∧ ∀ i m H, W i m H →
      (J.stop i H ∧ Qd H) ∨ (J.go i H ∧ ∃ Nx : Hp → Prop, (∀ H', Nx H' → ∃ m', m' < m ∧ W (i + 1) m' H') ∧ ∀ x H', J.yld i H x H' → g x (wipe σ vs) H' fun σ2 H2 => wipe σ2 vs = wipe σ vs ∧ tt σ2 H2 fun b H3 =>
        if b = true then tk σ2 H3 fun y H4 => tv σ2 H4 fun z H5 => ∃ H6, DPut H5 D y z H6 ∧ Nx H6 else Nx H3) := by
  refine ⟨fun i m H => m = n - i ∧ i ≤ n ∧ Pv i H, ⟨n, by simp, Nat.zero_le _, h0⟩, ?_⟩
  rintro i m H ⟨rfl, hi, p⟩
  have q := hG i H hi p
  rcases Nat.lt_or_ge i n with hlt | hge
  · exact .inr ⟨w.goes i H hlt q, Pv (i + 1), fun H' p' => ⟨n - (i + 1), by omega, rfl, hlt, p'⟩, fun x H' y => hs i x H H' hlt p (w.yields i H x H' hlt q y)⟩
  · have e : i = n := Nat.le_antisymm hi hge
    subst e
    exact .inl ⟨w.stops H q, hd H p⟩
end Z

/-! Z65: dict comprehensions as a rule. -/
namespace Z
open PySem PySem.Spec PyProof.Rows L2
variable [TB : Tabs]
def dcTurns (vs : List Nat) (g : ZGD) (tt : ZTD) (b : Bool) (tk tv : ZD) : List PyData → Fr → List (PyData × PyData) → Res (List (PyData × PyData))
  | [], τ, acc => .ok acc τ
  | d :: ds, τ, acc => match g d τ with
    | none => .stuck
    | some τ1 => match tt τ1 with
      | .ok true τ2 => (match zF tk τ2 with
        | .ok (.cl (.fz k)) τ3 => (match zF tv τ3 with
          | .ok (.cl (.fz r)) τ4 => (match dPut b acc k r with
            | some acc' => dcTurns vs g tt b tk tv ds (wipeF vs τ4) acc'
            | none => .stuck)
          | _ => .stuck)
        | _ => .stuck)
      | .ok false τ2 => dcTurns vs g tt b tk tv ds (wipeF vs τ2) acc
      | _ => .stuck
def zDc (b : Bool) (it : ZID) (vs : List Nat) (g : ZGD) (tt : ZTD) (tk tv : ZD) : ZD := fun τ => (it τ).bind fun r τ1 => match dcTurns vs g tt b tk tv r.1 (wipeF vs (lockAll r.2 τ1)) [] with
  | .ok acc τ2 => .ok (.cl (.dct false false b acc)) (restF vs τ1 (unlock τ1 r.2 τ2))
  | _ => .stuck
section
variable {X : Cx} {K : PySem.W.Frag} {W : WZ} {σ : Z.St} {G G1 G2 H H1 H2 : Hp} {τ τ1 τ2 : Fr} {pos : Pos}
theorem dctO_mono {b : Bool} {kvs : List (PyData × PyData)} {o : HO} (m : Sub G G1) (h : DctO K G b kvs o) : DctO K G1 b kvs o := by
  unfold DctO at *
  split
  · rename_i t
    rw [if_pos t] at h
    obtain ⟨ks, e, h⟩ := h
    exact ⟨ks, e, Paired.mapP h fun p q z => ⟨z.1, dp_mono m _ _ z.2⟩⟩
  · rename_i t
    rw [if_neg t] at h
    obtain ⟨ks, e, h⟩ := h
    exact ⟨ks, e, Paired.mapP h fun p q z => ⟨z.1, dp_mono m _ _ z.2⟩⟩
theorem DctO.nt3 {b : Bool} {kvs : List (PyData × PyData)} {o : HO} (h : DctO K G b kvs o) : ∀ xs, o ≠ .tup xs := by
  unfold DctO at h
  split at h
  · obtain ⟨ks, rfl, _⟩ := h; exact fun _ z => by cases z
  · obtain ⟨ks, rfl, _⟩ := h; exact fun _ z => by cases z
theorem tz_dc {b : Bool} {it : ZID} {vs ts : List Nat} {g : ZGD} {tt : ZTD} {tk tv : ZD} {Q : VK} (hout : Out ts g) (hts : ∀ i ∈ ts, i ∈ vs) (h : tZ K W (zDc b it vs g tt tk tv) σ H Q) :
    tDcG b (tZI K W it) (tZG K ts g) (tZT K wF tt) (tZ K wF (zF tk)) (tZ K wF (zF tv)) vs σ H Q := by
  obtain ⟨G, τ, s, h⟩ := tZ_to h
  refine ⟨G, τ, s, ?_⟩
  unfold zDc at h
  cases e : it τ with
  | stuck => rw [e] at h; exact h
  | exc n τ1 => rw [e] at h; exact h
  | ok r τ1 =>
    rw [e] at h
    obtain ⟨items, ss⟩ := r
    intro G1 H1 J x hss ok D hD
    dsimp only [Res.bind] at h
    obtain ⟨Gd, Y, wk, stab, yl⟩ := ok.ex
    have lenw : (wipe σ vs).length = σ.length := wipe_length _ _
    have sameB : ∀ j, j ∉ vs → (wipe σ vs)[j]? = σ[j]? := fun j hj => by rw [wipe_get, if_neg hj]
    have sB : SR K G1 (wipeF vs (lockAll ss τ1)) (wipe σ vs) H1 := (x.sr.lkEq (lockAll_eq ss τ1)).wiped lenw fun j hj => (sameB j hj).symm
    have gD : G1 D = none := sub_none x.sr.sub hD
    have notOwnB : ∀ p, LkA σ ss p → ¬ Ownd (wipeF vs (lockAll ss τ1)) (wipe σ vs) p := fun p ⟨i, hi, e4⟩ ⟨j, cj, q1, q2, q3, q4⟩ => by
      obtain ⟨hj, q1⟩ := wipeF_inv q1
      rw [sameB j hj] at q4
      exact keptL x.sr hss hi e4 ⟨j, cj, q1, q2, q3, q4⟩
    cases er : dcTurns vs g tt b tk tv items (wipeF vs (lockAll ss τ1)) [] with
    | stuck => rw [er] at h; exact h.elim
    | exc n τ2 => rw [er] at h; exact h.elim
    | ok acc0 τ0 =>
      rw [er] at h
      refine dcg_it (b := b) (g := tZG K ts g) (tt := tZT K wF tt) (tk := tZ K wF (zF tk)) (tv := tZ K wF (zF tv)) wk
        (fun i H' => ∃ G' τ' acc o, Ex K (wipe σ vs) G1 (wipeF vs (lockAll ss τ1)) H1 G' τ' H' ∧ G' D = none ∧ H' D = some o ∧ DctO K G' b acc o ∧ dcTurns vs g tt b tk tv (items.drop i) τ' acc = .ok acc0 τ0)
        ⟨G1, _, [], _, (Ex.refl sB).trans (Ex.laid sB hD), gD, upd_same, dctO_nil, by rw [List.drop_zero]; exact er⟩
        (fun i H' _ ⟨G', τ', acc, va, y, _⟩ => stab G' H' y.kp.1 y.sr.sub fun p hp => ?_) (fun i u H2 H3 hlt pv hy => ?_) fun H2 pv => ?_
      · obtain ⟨i, hi, e4⟩ := id hp
        obtain ⟨c, h1, h2⟩ := hss i hi
        obtain ⟨b', w, z1, _, z3, nt⟩ := x.sr.objAtN h1 (Cell.lkb_obj h2)
        rw [e4] at z1; cases z1
        rw [z3]
        exact (y.kp.2.1 p w z3 nt (notOwnB p hp)).1
      · obtain ⟨G2, τ2, acc, oD, y, gd2, hd2, rd2, ht⟩ := pv
        obtain ⟨G3, d, hd, rd, m1, m2, m3, m4⟩ := yl i u H2 H3 G2 hlt y.kp.1 y.sr.sub hy
        rw [List.drop_eq_getElem_cons hlt] at ht
        have ed : items[i] = d := by rw [List.getElem?_eq_getElem hlt] at hd; exact Option.some.inj hd
        rw [ed] at ht
        have y3 : Ex K (wipe σ vs) G1 (wipeF vs (lockAll ss τ1)) H1 G3 τ2 H3 := y.trans (Ex.stepIt y.sr m1 m2 m3 m4)
        have gd3 : G3 D = none := ((m3 D _ hd2).2.ne rd2.nt3).trans gd2
        have hd3 : H3 D = some oD := (m3 D _ hd2).1
        have rd3 : DctO K G3 b acc oD := dctO_mono m1 rd2
        refine ⟨G3, τ2, d, y3.sr, rd, ?_⟩
        cases e3 : g d τ2 with
        | none => simp only [dcTurns, e3] at ht; cases ht
        | some τ3 =>
          intro σ3 x3 sm
          have hl3 : σ3.length = σ.length := sm.1.trans lenw
          have out3 : ∀ j, j ∉ vs → σ3[j]? = (wipe σ vs)[j]? := fun j hj => sm.2 j fun z => hj (hts j z)
          refine ⟨by rw [wipe_same hl3 fun j hj => (out3 j hj).trans (sameB j hj)], ?_⟩
          have close : ∀ {G4 : Hp} {τ4 : Fr} {H4 : Hp}, Ex K σ3 G3 τ3 H3 G4 τ4 H4 → Ex K (wipe σ vs) G1 (wipeF vs (lockAll ss τ1)) H1 G4 (wipeF vs τ4) H4 := fun {G4 τ4 H4} z => by
            refine ⟨z.sr.wiped (by rw [lenw, hl3]) out3, y3.kp.trans (z.kp) fun a ha => ?_, fun j c hj o => ?_⟩
            · rcases x3.own ha with q | q
              · exact .inl (y3.own q)
              · exact .inr (y3.kp.2.2 a q)
            · obtain ⟨h1, h2⟩ := wipeF_inv hj
              obtain ⟨c1, w1, w2, w3, w4⟩ := z.mode j c h2 o
              rw [hout d τ2 τ3 e3 j fun q => h1 (hts j q)] at w1
              obtain ⟨c2, p1, p2, p3, p4⟩ := y3.mode j c1 w1 w2
              exact ⟨c2, p1, p2, p3.trans w3, p4.trans w4⟩
          have keepD : ∀ {G4 : Hp} {τ4 : Fr} {H4 : Hp}, Ex K σ3 G3 τ3 H3 G4 τ4 H4 → G4 D = none ∧ H4 D = some oD ∧ DctO K G4 b acc oD := fun {G4 τ4 H4} z => by
            obtain ⟨q1, q2⟩ := z.kp.2.1 D _ hd3 rd3.nt fun ha => by
              rcases x3.own ha with q | q
              · obtain ⟨j, c, p1, p2, p3, p4⟩ := y3.own q
                obtain ⟨b', w, z1, _, z3⟩ := sB.objAt p1 p2
                rw [p4] at z1; cases z1
                rw [hD] at z3; cases z3
              · rw [hd3] at q; cases q
            exact ⟨(q2.ne rd3.nt3).trans gd3, q1, dctO_mono z.kp.1 rd3⟩
          refine ⟨G3, τ3, x3.sr, ?_⟩
          cases e4 : tt τ3 with
          | stuck => simp only [dcTurns, e3, e4] at ht; cases ht
          | exc n τ4 => simp only [dcTurns, e3, e4] at ht; cases ht
          | ok bb τ4 =>
            intro G4 H4 x4
            cases bb with
            | false =>
              rw [if_neg Bool.false_ne_true]
              simp only [dcTurns, e3, e4] at ht
              obtain ⟨k1, k2, k3⟩ := keepD x4
              exact ⟨G4, _, acc, oD, close x4, k1, k2, k3, ht⟩
            | true =>
              rw [if_pos rfl]
              simp only [dcTurns, e3, e4] at ht
              refine ⟨G4, τ4, x4.sr, ?_⟩
              cases e5 : zF tk τ4 with
              | stuck => simp only [e5] at ht; cases ht
              | exc n τ5 => simp only [e5] at ht; cases ht
              | ok l τ5 =>
                rcases l with i | c
                · simp only [e5] at ht; cases ht
                cases c with
                | lst _ _ _ => simp only [e5] at ht; cases ht
                | dct _ _ _ _ => simp only [e5] at ht; cases ht
                | exc _ => simp only [e5] at ht; cases ht
                | scr _ => simp only [e5] at ht; cases ht
                | fz kd =>
                  simp only [e5] at ht
                  intro G5 H5 yk x5 r5
                  have x45 := x4.trans x5
                  refine ⟨G5, τ5, x5.sr, ?_⟩
                  cases e6 : zF tv τ5 with
                  | stuck => simp only [e6] at ht; cases ht
                  | exc n τ6 => simp only [e6] at ht; cases ht
                  | ok l τ6 =>
                    rcases l with i | c
                    · simp only [e6] at ht; cases ht
                    cases c with
                    | lst _ _ _ => simp only [e6] at ht; cases ht
                    | dct _ _ _ _ => simp only [e6] at ht; cases ht
                    | exc _ => simp only [e6] at ht; cases ht
                    | scr _ => simp only [e6] at ht; cases ht
                    | fz rd =>
                      simp only [e6] at ht
                      intro G6 H6 yv x6 r6
                      have x46 := x45.trans x6
                      obtain ⟨k1, k2, k3⟩ := keepD x46
                      cases e7 : dPut b acc kd rd with
                      | none => simp only [e7] at ht; cases ht
                      | some acc' =>
                        simp only [e7] at ht
                        have kr : RD K G6 yk kd := dp_mono x6.kp.1 _ _ r5.1
                        obtain ⟨o', pu, od'⟩ := DctR.put x46.sr.sub (dctR_of k3 k2) (.inl kr) r6.1 e7
                        exact ⟨_, pu, G6, _, acc', o', Ex.sub0 sB hD (close x46) k1 ⟨_, k2, k3.nt⟩, k1, upd_same, od', ht⟩
      · obtain ⟨G2, τ2, acc, oD, y, gd2, hd2, rd2, ht⟩ := pv
        rw [List.drop_length] at ht
        cases ht
        refine h G2 H2 (.ref D) ?_ ⟨⟨D, rfl, gd2, dctR_of rd2 hd2⟩, fun _ => ⟨rfl, rfl, fun p ep => by cases ep; exact x.kp.2.2 _ hD⟩⟩
        exact x.trans (Ex.unblock x.sr hss y)
theorem ze_dc {b : Bool} {kx vx tg iter : Expr} {ifs : List Expr} {scope : Scope} {own : List (Str × Nat)} {it : ZID} {ts : List Nat} {g : ZGD} {tt : ZTD} {tk tv : ZD} (hc : X.calm = true) (hu : X.A.units + 1 < cLine) (hN : X.N.Nodup) (hi : ZI X W tg iter it) (ok : BlkOk X.N X.env.scope scope own) (hts : ∀ i ∈ ts, i ∈ own.map (·.2))
    (hg : InBlk X scope fun B => ZG B tg ts g) (ht : InBlk X scope fun B => ZTs B wF ifs tt) (hk : InBlk X scope fun B => ZE B wF kx tk) (he : InBlk X scope fun B => ZE B wF vx tv) (hs : ∀ x, foldedSetIterable iter X.env x = pure x := by intro _; rfl) :
    ZE X W (.DictComp kx vx [⟨tg, iter, ifs, 0⟩] scope pos) (zDc b it (own.map (·.2)) g tt tk tv) :=
  ⟨⟨fun pins s σ H Q I h => (pe_dcG hc hu hN hi.pi ok (fun s H C cl fp => (hg s H C cl fp).pg) (fun s H C cl fp => (ht s H C cl fp).pts) (fun s H C cl fp => (ze_dat (hk s H C cl fp)).pe) (fun s H C cl fp => (ze_dat (he s H C cl fp)).pe) hs).run pins s σ H Q I
    (tz_dc (hg s H 0 [] []).out hts h)⟩⟩
end
end Z

/-! Z66: a name takes another one's dict. -/
namespace Z
open PySem PySem.Spec PyProof.Rows L2
variable [TB : Tabs]
def zMove (i j : Nat) : ZSD := fun τ => match cellAt τ j with
  | some (.dct false false tk kvs) => if i = j ∨ τ.length ≤ i then .stuck else .ok .nx ((τ.set j none).set i (some (.dct false false tk kvs)))
  | _ => .stuck
section
variable {X : Cx} {K : PySem.W.Frag} {W : WZ} {σ : Z.St} {G H : Hp} {τ : Fr} {pos p1 p2 : Pos}
theorem Sx.move (s : SR K G τ σ H) {i j : Nat} {tk : Bool} {kvs : List (PyData × PyData)} {v : V} (h : τ[j]? = some (some (.dct false false tk kvs))) (hv : σ[j]? = some (some v)) (n : i ≠ j) (il : i < τ.length) :
    Sx K G τ σ H G ((τ.set j none).set i (some (.dct false false tk kvs))) (σ.set i (some v)) H := by
  obtain ⟨v', e, q, ev, g, hd⟩ := s.cell j _ h
  rw [hv] at e; cases e
  have get : ∀ (k : Nat) (c : Cell), ((τ.set j none).set i (some (.dct false false tk kvs)))[k]? = some (some c) → (k = i ∧ c = .dct false false tk kvs) ∨ (k ≠ i ∧ k ≠ j ∧ τ[k]? = some (some c)) := fun k c hk => by
    rcases getElem?_set_some hk with ⟨e1, e2, _⟩ | ⟨e1, e2⟩
    · cases e2; exact .inl ⟨e1, rfl⟩
    · by_cases ej : k = j
      · subst ej
        rw [List.getElem?_set] at e2
        rw [if_pos rfl] at e2
        split at e2 <;> cases e2
      · rw [List.getElem?_set_ne (Ne.symm ej)] at e2
        exact .inr ⟨e1, ej, e2⟩
  have il2 : i < σ.length := by rw [← s.len]; exact il
  have si : (σ.set i (some v))[i]? = some (some v) := by rw [List.getElem?_set, if_pos rfl, if_pos il2]
  have sn : ∀ {k : Nat}, k ≠ i → (σ.set i (some v))[k]? = σ[k]? := fun {k} hk => List.getElem?_set_ne (Ne.symm hk)
  refine ⟨⟨by rw [List.length_set, List.length_set, List.length_set]; exact s.len, s.sub, fun k c hk => ?_, fun k l ck cl w hkl hk hl ok ol sk => ?_, s.tab⟩, Kp.refl.imp fun _ h => .inl h, fun a ha => ?_, fun k c hk ho hm => ?_⟩
  · rcases get k c hk with ⟨rfl, rfl⟩ | ⟨h1, h2, h3⟩
    · exact ⟨v, si, q, ev, g, hd⟩
    · rw [sn h1]; exact s.cell k c h3
  · rcases get k ck hk with ⟨rfl, rfl⟩ | ⟨h1, h2, h3⟩
    · rw [si] at sk; cases sk
      rcases get l cl hl with ⟨rfl, _⟩ | ⟨w1, w2, w3⟩
      · exact (hkl rfl).elim
      · rw [sn w1]; exact s.sep j l _ _ _ (Ne.symm w2) h w3 rfl ol hv
    · rw [sn h1] at sk
      rcases get l cl hl with ⟨rfl, rfl⟩ | ⟨w1, w2, w3⟩
      · rw [si]
        intro e
        cases e
        exact s.sep k j _ _ _ h2 h3 h ok rfl sk hv
      · rw [sn w1]; exact s.sep k l ck cl w hkl h3 w3 ok ol sk
  · obtain ⟨k, c, z1, z2, z3, z4, z5⟩ := ha
    rcases get k c z1 with ⟨rfl, rfl⟩ | ⟨w1, w2, w3⟩
    · rw [si] at z5
      exact .inl ⟨j, _, h, rfl, rfl, rfl, by rw [hv]; exact z5⟩
    · rw [sn w1] at z5
      exact .inl ⟨k, c, w3, z2, z3, z4, z5⟩
  · rcases get k c hk with ⟨rfl, rfl⟩ | ⟨w1, w2, w3⟩
    · rcases hm with z | z <;> cases z
    · exact ⟨c, w3, ho, rfl, rfl, sn w1⟩
theorem zs_move {i j : Nat} {x y : Str} (hN : X.N.Nodup) (hi : X.N[i]? = some x) (hx : Loc X.env.scope x) (hj : X.N[j]? = some y) (hv : Vis X.env.scope y) (h1 : (y == ("__debug__" : Str)) = false := by rfl) (h2 : (y == ("__classdict__" : Str)) = false := by rfl)
    (hs : swapsWith (.Name y p2) (some (.Name x p1)) pos.line X.env = pure false := by rfl) (hf : X.fn x = true ∨ X.env.scope.names.lookup x = some .local := by first | exact .inl rfl | exact .inr rfl | assumption) :
    ZS X W (.Assign [.Name x p1] (.Name y p2) pos) (zMove i j) := by
  refine ⟨⟨fun pins s σ H D I h => (ps_set hN hi hx (pe_var hj hv h1 h2) hs hf).run pins s σ H D I ?_⟩⟩
  obtain ⟨G, τ, s0, h⟩ := h
  unfold zMove at h
  split at h
  · rename_i tk kvs ec
    split at h
    · exact h.elim
    · rename_i hn
      rw [not_or] at hn
      obtain ⟨v, e, r⟩ := s0.cell j _ (cellAt_some ec)
      exact ⟨v, e, h G _ H (Sx.move s0 (cellAt_some ec) e hn.1 (by omega))⟩
  · exact h.elim
end
end Z

/-! Z67: equations for exceptions, locks. -/
namespace Z
open PySem PySem.Spec PyProof.Rows L2
variable {τ τ1 τ2 : Fr} {i : Nat} {n m : Str} {c : Cell} {d : PyData}
theorem lose1_pure {ls : List LR} {j : Nat} {o : Option Cell} (hj : τ[j]? = some o) (h : ∀ i, LR.sl i ∈ ls → objAt τ i = false) : lose1 ls j o = o := by
  unfold lose1
  split
  · split
    · rename_i c hc
      exfalso
      rw [Bool.and_eq_true] at hc
      obtain ⟨q, hq, hq2⟩ := List.any_eq_true.mp hc.2
      have hm : LR.sl j ∈ ls := by
        cases q with
        | sl q => simp [isSl] at hq2; rw [← hq2]; exact hq
        | cl q => cases hq2
      have := h j hm
      have ho : c.obj = true := by simpa using hc.1
      simp [objAt_ev, cellAt, hj, ho] at this
    · rfl
  · rfl
theorem loseF_pure {ls : List LR} (h : ∀ i, LR.sl i ∈ ls → objAt τ i = false) : loseF ls τ = τ := by
  unfold loseF
  apply List.ext_getElem?
  intro j
  rw [List.getElem?_mapIdx]
  cases e : τ[j]? with
  | none => rfl
  | some o => exact congrArg some (lose1_pure e h)
theorem kCs_exc {φ : Mir} {np : Nat} {ls : List LR} {cs : List Cell} (h : ∃ τ', φ cs = .exc n τ') (hn : noObj τ ls = true) (hl : cs.length = np) : kCs φ np ls τ (some cs) = .exc n τ := by
  obtain ⟨τ', h⟩ := h
  rw [kCs_ev (noObj_ok hn) hl, h]
  show Res.exc n (loseF ls τ) = _
  rw [loseF_pure (noObj_mem hn)]
/-- a body that raises n -/
def Ge (q : ZSD) (τ : Fr) (n : Str) : Prop := ∃ τ', q τ = .exc n τ'
theorem Ge.run {k : Nat} {q : ZSD} {cs : List Cell} (h : Ge q (frame0 k cs) n) : ∃ τ', runB k q cs = .exc n τ' := by
  obtain ⟨τ', e⟩ := h
  exact ⟨τ', by rw [runB_ev, e]; rfl⟩
theorem Ge.seq {p q : ZSD} (h : ∃ τ1, p τ = .ok .nx τ1 ∧ Ge q τ1 n) : Ge (zSeq p q) τ n := by
  obtain ⟨τ1, e, τ', e2⟩ := h
  exact ⟨τ', by rw [zSeq_ev, e]; exact e2⟩
theorem Ge.stop {p q : ZSD} (h : ∃ τ1, p τ = .exc n τ1) : Ge (zSeq p q) τ n := by
  obtain ⟨τ1, e⟩ := h
  exact ⟨τ1, by rw [zSeq_ev, e]; rfl⟩
@[simp] theorem zRaise_ev : zRaise n τ = .exc n τ := Eq.trans rfl rfl
theorem zTry_ok {isE : Str → Option Bool} {p q : ZSD} {f : Fl} (h : p τ = .ok f τ1) : zTry i isE p q τ = .ok f τ1 := by
  unfold zTry; rw [h]
theorem zTry_exc {isE : Str → Option Bool} {p q : ZSD} (h : p τ = .exc m τ1) (h1 : τ1.any isExc = false) (h2 : i < τ1.length) (h3 : objAt τ1 i = false) (hE : isE m = some true) (hq : q (τ1.set i (some (.exc m))) = .ok (.rt c) τ2)
    (k1 : (τ2.set i none).any isExc = false) (k2 : isExc (some c) = false) (k3 : objAt τ2 i = false) : zTry i isE p q τ = .ok (.rt c) (τ2.set i none) := by
  unfold zTry
  rw [h]
  dsimp only
  rw [h1, h3, decide_eq_false (Nat.not_le_of_lt h2)]
  simp only [Bool.or_self, Bool.false_eq_true, if_false]
  rw [hE]
  dsimp only
  rw [hq]
  dsimp only
  rw [k1, k2, k3]
  simp
theorem zCallP_ev {φ : Mir} (h : cellAt τ i = some (.exc m)) (hφ : ∃ τ', φ [.exc m] = .ok (.fz d) τ') : zCallP φ i τ = .ok (.cl (.fz d)) τ := by
  obtain ⟨τ', e⟩ := hφ
  unfold zCallP
  rw [h]
  dsimp only
  rw [e]
theorem zIsE_ev {sub : Str → Str → Bool} {x : Str} (h : cellAt τ i = some (.exc m)) : zIsE sub i x τ = .ok (.cl (.fz (.bool (sub m x)))) τ := by
  unfold zIsE
  rw [h]
def resS : Res Cell → Option Str
  | .ok (.fz (.str s)) _ => some s
  | _ => none
/-- of a computed text -/
theorem of_resS {r : Res Cell} {s : Str} (h : resS r = some s) : ∃ τ, r = .ok (.fz (.str s)) τ := by
  unfold resS at h
  split at h
  · cases h; exact ⟨_, rfl⟩
  · cases h
/-! ### locks -/
theorem zLkE_ev {b tk b' tk' : Bool} {kvs kvs' : List (PyData × PyData)} {p : ZD} {l : LR} (h : cellAt τ i = some (.dct b false tk kvs)) (hp : p (τ.set i (some (.dct b true tk kvs))) = .ok l τ2) (h2 : cellAt τ2 i = some (.dct b' true tk' kvs')) :
    zLkE i p τ = .ok l (τ2.set i (some (.dct b' false tk' kvs'))) := by
  unfold zLkE
  rw [h]
  dsimp only
  rw [hp]
  dsimp only
  rw [h2]
theorem zLkS_ev {b tk b' tk' : Bool} {kvs kvs' : List (PyData × PyData)} {p : ZSD} {f : Fl} (h : cellAt τ i = some (.dct b false tk kvs)) (hp : p (τ.set i (some (.dct b true tk kvs))) = .ok f τ2) (h2 : cellAt τ2 i = some (.dct b' true tk' kvs')) :
    zLkS i p τ = .ok f (τ2.set i (some (.dct b' false tk' kvs'))) := by
  unfold zLkS
  rw [h]
  dsimp only
  rw [hp]
  show unlD i τ2 f = _
  unfold unlD
  rw [h2]
theorem zItD_ev {b tk : Bool} {kvs : List (PyData × PyData)} (h : cellAt τ i = some (.dct b true tk kvs)) : zItD i τ = .ok (kvs.map (·.1), [i]) τ := by
  unfold zItD
  rw [h]
theorem zItO_ev {b k : Bool} {ds : List PyData} (h : cellAt τ i = some (.lst b k ds)) : zItO i τ = .ok (ds, [i]) τ := by
  unfold zItO
  rw [h]
end Z

/-! Z68: dicts as sets of keys. -/
namespace Z
open PySem PySem.Spec PyProof.Rows L2
section
variable {κ α : Type} [DecidableEq κ]
def keysOf (m : List (κ × α)) : List κ := m.map (·.1)
theorem mput_keys {m : List (κ × α)} {k : κ} {v : α} : keysOf (mput m k v) = if k ∈ keysOf m then keysOf m else keysOf m ++ [k] := by
  unfold mput keysOf
  by_cases h : k ∈ m.map (·.1)
  · rw [if_pos h, if_pos (by
      obtain ⟨p, hp, e⟩ := List.mem_map.mp h
      exact List.any_eq_true.mpr ⟨p, hp, by simpa using e⟩)]
    rw [List.map_map]
    refine List.map_congr_left fun p _ => ?_
    simp only [Function.comp_apply]
    split <;> rfl
  · rw [if_neg h, if_neg (by
      intro z
      obtain ⟨p, hp, e⟩ := List.any_eq_true.mp z
      exact h (List.mem_map.mpr ⟨p, hp, by simpa using e⟩))]
    simp
theorem mput_mem {m : List (κ × α)} {k x : κ} {v : α} : x ∈ keysOf (mput m k v) ↔ x = k ∨ x ∈ keysOf m := by
  rw [mput_keys]
  split
  · rename_i h
    constructor
    · exact .inr
    · rintro (rfl | h')
      · exact h
      · exact h'
  · simp [or_comm]
theorem mput_nodup {m : List (κ × α)} {k : κ} {v : α} (h : (keysOf m).Nodup) : (keysOf (mput m k v)).Nodup := by
  rw [mput_keys]
  split
  · exact h
  · rename_i hk
    rw [List.nodup_append]
    exact ⟨h, by simp, fun a ha b hb => by rw [List.mem_singleton.mp hb]; exact fun e => hk (e ▸ ha)⟩
theorem mputs_mem {x : κ} : ∀ {l m : List (κ × α)}, x ∈ keysOf (mputs m l) ↔ x ∈ keysOf m ∨ x ∈ keysOf l
  | [], m => by simp [mputs, keysOf]
  | p :: l, m => by
    unfold mputs
    rw [List.foldl_cons]
    have := mputs_mem (x := x) (l := l) (m := mput m p.1 p.2)
    unfold mputs at this
    rw [this, mput_mem]
    simp only [keysOf, List.map_cons, List.mem_cons]
    constructor
    · rintro ((h | h) | h)
      · exact .inr (.inl h)
      · exact .inl h
      · exact .inr (.inr h)
    · rintro (h | h | h)
      · exact .inl (.inr h)
      · exact .inl (.inl h)
      · exact .inr h
theorem mputs_nodup : ∀ {l m : List (κ × α)}, (keysOf m).Nodup → (keysOf (mputs m l)).Nodup
  | [], m, h => h
  | p :: l, m, h => by
    unfold mputs
    rw [List.foldl_cons]
    exact mputs_nodup (l := l) (mput_nodup h)
theorem mputs_len : ∀ {l m : List (κ × α)}, (mputs m l).length ≤ m.length + l.length
  | [], m => by simp [mputs]
  | p :: l, m => by
    unfold mputs
    rw [List.foldl_cons]
    have := mputs_len (l := l) (m := mput m p.1 p.2)
    unfold mputs at this
    have h2 := mput_len (m := m) (k := p.1) (v := p.2)
    simp only [List.length_cons]
    omega
theorem same_keys {xs ys : List κ} (h1 : xs.Nodup) (h2 : ys.Nodup) (h : ∀ x, x ∈ xs ↔ x ∈ ys) : xs.Perm ys := (List.perm_ext_iff_of_nodup h1 h2).mpr h
variable {enc : κ → PyData} {ev : α → PyData} {tk : Bool}
@[simp] theorem dEnc_keys {m : List (κ × α)} : (dEnc enc ev m).map (·.1) = (keysOf m).map enc := by
  unfold dEnc keysOf
  rw [List.map_map, List.map_map]; rfl
end
theorem zSortD_ev {a : ZD} {τ τ1 : Fr} {l : LR} {kvs : List (PyData × PyData)} (h : a τ = .ok l τ1) (h2 : dOf (rdL τ1 l) = some (false, kvs)) : zSortD a τ = kSort2 τ1 (sortO (kvs.map (·.1))) := by
  unfold zSortD
  rw [h]
  show kSortD τ1 (dOf (rdL τ1 l)) = _
  rw [h2]
  rfl
theorem zListD_ev {a : ZD} {τ τ1 : Fr} {l : LR} {kvs : List (PyData × PyData)} (h : a τ = .ok l τ1) (h2 : dOf (rdL τ1 l) = some (false, kvs)) : zListD a τ = .ok (.cl (.lst false false (kvs.map (·.1)))) τ1 := by
  unfold zListD
  rw [h]
  show kListD τ1 (dOf (rdL τ1 l)) = _
  rw [h2]
  rfl
end Z

/-! Z69: loops that judge, and end early. -/
namespace Z
open PySem PySem.Spec PyProof.Rows L2
variable {τ : Fr}
/-- a loop that ends with `bad`: some item is not ok -/
theorem Gv.judgeX {it : ZID} {g : ZGD} {p q : ZSD} {ds : List PyData} {τi : Fr} {bad : Cell} (ok : PyData → Bool) (I : Fr → Prop) (hi : it τ = .ok (ds, []) τi) (h0 : I τi)
    (hg : ∀ d τ, d ∈ ds → ok d = true → I τ → ∃ τ1, g d τ = some τ1 ∧ ∃ τ2, p τ1 = .ok .nx τ2 ∧ I τ2)
    (hb : ∀ d τ, d ∈ ds → ok d = false → I τ → ∃ τ1, g d τ = some τ1 ∧ ∃ τ2, p τ1 = .ok (.rt bad) τ2)
    (hx : ds.all ok = false) : Gv (zSeq (zFor it g p) q) τ bad := by
  have hR := turns_rt (g := g) (p := p) (fun es τ => I τ ∧ (∀ d ∈ es, d ∈ ds) ∧ ds.all ok = es.all ok) (fun c _ => c = bad ∧ ds.all ok = false) ?_ (ds := ds) (τ := τi) ⟨h0, fun _ h => h, rfl⟩
  · rcases hR with ⟨τ', e, hI, _, ha⟩ | ⟨c, τ', e, rfl, ha⟩
    · rw [hx] at ha; cases ha
    · refine ⟨τ', ?_⟩
      rw [zSeq_ev, zFor_ev, hi, ok_bind, kFor_free, e, kSeq_rt]
      rfl
  · rintro d es τ ⟨hI, hs, ha⟩
    have hd := hs d List.mem_cons_self
    cases e : ok d with
    | true =>
      obtain ⟨τ1, e1, τ2, e2, h2⟩ := hg d τ hd e hI
      refine ⟨τ1, e1, ?_⟩
      rw [e2]
      exact ⟨h2, fun x hx => hs x (List.mem_cons_of_mem _ hx), by rw [ha, List.all_cons, e]; rfl⟩
    | false =>
      obtain ⟨τ1, e1, τ2, e2⟩ := hb d τ hd e hI
      refine ⟨τ1, e1, ?_⟩
      rw [e2]
      exact ⟨bad, τ2, rfl, rfl, by rw [ha, List.all_cons, e]; rfl⟩
/-- .. all are ok -/
theorem Gv.judgeG {it : ZID} {g : ZGD} {p q : ZSD} {ds : List PyData} {τi : Fr} {good : Cell} (I : Fr → Prop) (hi : it τ = .ok (ds, []) τi) (h0 : I τi)
    (hg : ∀ d τ, d ∈ ds → I τ → ∃ τ1, g d τ = some τ1 ∧ ∃ τ2, p τ1 = .ok .nx τ2 ∧ I τ2)
    (hq : ∀ τ, I τ → ∃ τ', q τ = .ok (.rt good) τ') : Gv (zSeq (zFor it g p) q) τ good := by
  have := Gv.judge (bad := good) (fun _ => true) I hi h0 (fun d τ hd _ hI => hg d τ hd hI) (fun d τ _ h => by cases h) hq
  simpa using this
end Z

/-! Z70: rules for a law's common rows. -/
namespace Z
open PySem PySem.Spec PyProof.Rows L2
variable {α β : Type} {τ τ1 τ2 τi : Fr} {p q : ZSD} {c : Cell} {tt : ZTD} {te : ZD} {it : ZID} {vs ss : List Nat} {g : ZGD} {i : Nat}
/-- a def's call answers r (n: raises), and nothing else changes -/
abbrev Sp (φ : Mir) (np : Nat) (cs : List Cell) (r : Cell) : Prop := ∀ (τ0 : Fr) (ls : List LR), noObj τ0 ls = true → kCs φ np ls τ0 (some cs) = .ok (.cl r) τ0
abbrev SpX (φ : Mir) (np : Nat) (cs : List Cell) (n : Str) : Prop := ∀ (τ0 : Fr) (ls : List LR), noObj τ0 ls = true → kCs φ np ls τ0 (some cs) = .exc n τ0
theorem Sp.of {φ : Mir} {np : Nat} {cs : List Cell} {r : Cell} (h : ∃ τ, φ cs = .ok r τ) (hl : cs.length = np := by rfl) : Sp φ np cs r := fun _ _ hn => kCs_pure h hn hl
theorem SpX.of {φ : Mir} {np : Nat} {cs : List Cell} {n : Str} (h : ∃ τ, φ cs = .exc n τ) (hl : cs.length = np := by rfl) : SpX φ np cs n := fun _ _ hn => kCs_exc h hn hl
/-- if T: .. ; T is false -/
theorem Gv.ifF (h : ∃ τ1, tt τ = .ok false τ1 ∧ Gv q τ1 c) : Gv (zSeq (zIfS tt p zNx) q) τ c := by
  obtain ⟨τ1, e, τ', h⟩ := h
  exact ⟨τ', by rw [zSeq_ev, zIfS_ev, e]; exact h⟩
theorem Gv.ifT {p2 : ZSD} (h : ∃ τ1, tt τ = .ok true τ1 ∧ ∃ τ2, p τ1 = .ok (.rt c) τ2) : Gv (zSeq (zIfS tt p p2) q) τ c := by
  obtain ⟨τ1, e, τ2, h⟩ := h
  exact ⟨τ2, by rw [zSeq_ev, zIfS_ev, e]; simp [h]⟩
theorem Ge.ifT {n : Str} {p2 : ZSD} (h : ∃ τ1, tt τ = .ok true τ1 ∧ ∃ τ2, p τ1 = .exc n τ2) : Ge (zSeq (zIfS tt p p2) q) τ n := by
  obtain ⟨τ1, e, τ2, h⟩ := h
  exact ⟨τ2, by rw [zSeq_ev, zIfS_ev, e]; simp [h]⟩
theorem Ge.ifF {n : Str} (h : ∃ τ1, tt τ = .ok false τ1 ∧ Ge q τ1 n) : Ge (zSeq (zIfS tt p zNx) q) τ n := by
  obtain ⟨τ1, e, τ', h⟩ := h
  exact ⟨τ', by rw [zSeq_ev, zIfS_ev, e]; exact h⟩
/-- tests -/
theorem orF {ta tb : ZTD} (h1 : ta τ = .ok false τ1) (h2 : tb τ1 = .ok false τ2) : zOrT ta tb τ = .ok false τ2 := by rw [zOrT_ev, h1]; exact h2
theorem notT {ta : ZTD} (h : ta τ = .ok true τ1) : zNotT ta τ = .ok false τ1 := by rw [zNotT_ev, h]; rfl
theorem notF {ta : ZTD} (h : ta τ = .ok false τ1) : zNotT ta τ = .ok true τ1 := by rw [zNotT_ev, h]; rfl
theorem truT {a : ZD} {b : Bool} (h : a τ = .ok (.cl (.fz (.bool b))) τ1) : zTru a τ = .ok b τ1 := by rw [zTru_ev, h]; rfl
theorem bT {a : ZD} {b : Bool} (h : a τ = .ok (.cl (.fz (.bool b))) τ1) : zB a τ = .ok b τ1 := by rw [zB_ev, h]; rfl
/-- [x for x in xs if t] -/
theorem zLc_ty (xs : List α) (enc : α → PyData) (qf : α → Bool) (v : α → PyData) (hi : it τ = .ok (xs.map enc, ss) τi) (h : ∀ x ∈ xs, ∃ τ1, g (enc x) (blkF vs ss τi) = some τ1 ∧ ∃ τ2, tt τ1 = .ok (qf x) τ2 ∧ (qf x = true → ∃ τ3, zF te τ2 = .ok (.cl (.fz (v x))) τ3 ∧ wipeF vs τ3 = blkF vs ss τi) ∧ (qf x = false → wipeF vs τ2 = blkF vs ss τi)) (hl : xs.length ≤ 16777216) :
    zLc it vs g tt te τ = .ok (.cl (.lst false false ((xs.filter qf).map v))) τi := by
  rw [zLc_ev, hi]
  exact kLc_ty xs enc qf v rfl h hl
theorem zLc_map (xs : List α) (enc : α → PyData) (v : α → PyData) (hi : it τ = .ok (xs.map enc, ss) τi) (h : ∀ x ∈ xs, ∃ τ1, g (enc x) (blkF vs ss τi) = some τ1 ∧ ∃ τ3, zF te τ1 = .ok (.cl (.fz (v x))) τ3 ∧ wipeF vs τ3 = blkF vs ss τi) (hl : xs.length ≤ 16777216) :
    zLc it vs g zYes te τ = .ok (.cl (.lst false false (xs.map v))) τi := by
  rw [zLc_ev, hi]
  exact kLc_map xs enc v rfl h hl
theorem zLc_none (xs : List α) (enc : α → PyData) (hi : it τ = .ok (xs.map enc, ss) τi) (h : ∀ x ∈ xs, ∃ τ1, g (enc x) (blkF vs ss τi) = some τ1 ∧ ∃ τ2, tt τ1 = .ok false τ2 ∧ wipeF vs τ2 = blkF vs ss τi) (hl : xs.length ≤ 16777216) :
    zLc it vs g tt te τ = .ok (.cl (.lst false false [])) τi := by
  have := zLc_ty (te := te) xs enc (fun _ => false) enc hi (fun x hx => by
    obtain ⟨τ1, e1, τ2, e2, e3⟩ := h x hx
    exact ⟨τ1, e1, τ2, e2, fun z => (nomatch z), fun _ => e3⟩) hl
  simpa using this
/-- if [x for x in xs if t] != []: return False -/
theorem Gv.noneOf (xs : List α) (enc : α → PyData) (hi : it τ = .ok (xs.map enc, ss) τi) (h : ∀ x ∈ xs, ∃ τ1, g (enc x) (blkF vs ss τi) = some τ1 ∧ ∃ τ2, tt τ1 = .ok false τ2 ∧ wipeF vs τ2 = blkF vs ss τi) (hl : xs.length ≤ 16777216) (next : Gv q τi c) :
    Gv (zSeq (zIfS (zB (z2 pNe (zLc it vs g tt te) (zLst zaN))) p zNx) q) τ c := by
  refine Gv.ifF ⟨τi, ?_, next⟩
  have := zLc_none (te := te) xs enc hi h hl
  rw [zB_ev, z2_ev, this]
  simp [pNe_nil (ds := []) (k := 1) (by simp)]
theorem noneT (xs : List α) (enc : α → PyData) (hi : it τ = .ok (xs.map enc, ss) τi) (h : ∀ x ∈ xs, ∃ τ1, g (enc x) (blkF vs ss τi) = some τ1 ∧ ∃ τ2, tt τ1 = .ok false τ2 ∧ wipeF vs τ2 = blkF vs ss τi) (hl : xs.length ≤ 16777216) :
    zB (z2 pNe (zLc it vs g tt te) (zLst zaN)) τ = .ok false τi := by
  have := zLc_none (te := te) xs enc hi h hl
  rw [zB_ev, z2_ev, this]
  simp [pNe_nil (ds := []) (k := 1) (by simp)]
/-- return [x for x in xs if t] == [] -/
theorem Gv.retNone (xs : List α) (enc : α → PyData) (hi : it τ = .ok (xs.map enc, ss) τi) (h : ∀ x ∈ xs, ∃ τ1, g (enc x) (blkF vs ss τi) = some τ1 ∧ ∃ τ2, tt τ1 = .ok false τ2 ∧ wipeF vs τ2 = blkF vs ss τi) (hl : xs.length ≤ 16777216) :
    Gv (zRet (z2 pEq (zLc it vs g tt te) (zLst zaN))) τ (.fz (.bool true)) := by
  refine Gv.ret ⟨τi, ?_⟩
  have := zLc_none (te := te) xs enc hi h hl
  rw [zRet_ev, z2_ev, this]
  simp [pEq_nil (ds := []) (k := 1) (by simp)]
/-- all, any -/
theorem zQ_all (xs : List α) (enc : α → PyData) (f : α → Bool) (hi : it τ = .ok (xs.map enc, ss) τi) (h : ∀ x ∈ xs, ∃ τ1, g (enc x) (blkF vs ss τi) = some τ1 ∧ ∃ τ3, zF te τ1 = .ok (.cl (.fz (.bool (f x)))) τ3 ∧ wipeF vs τ3 = blkF vs ss τi) :
    zQ true it vs g zYes te τ = .ok (.cl (.fz (.bool (xs.all f)))) τi := by
  rw [zQ_ev, hi]
  exact kQ_allT xs enc f rfl h
theorem zQ_any (xs : List α) (enc : α → PyData) (f : α → Bool) (hi : it τ = .ok (xs.map enc, ss) τi) (h : ∀ x ∈ xs, ∃ τ1, g (enc x) (blkF vs ss τi) = some τ1 ∧ ∃ τ3, zF te τ1 = .ok (.cl (.fz (.bool (f x)))) τ3 ∧ wipeF vs τ3 = blkF vs ss τi) :
    zQ false it vs g zYes te τ = .ok (.cl (.fz (.bool (xs.any f)))) τi := by
  rw [zQ_ev, hi]
  exact kQ_anyT xs enc f rfl h
/-- try: return f(..) except E as e: return word(e) -/
theorem try_ok {e : ZD} {isE : Str → Option Bool} {d : PyData} (h : e τ = .ok (.cl (.fz d)) τ1) : Gv (zTry i isE (zRet e) q) τ (.fz d) := by
  refine Gv.ret ⟨τ1, zTry_ok ?_⟩
  rw [zRet_ev, h]; rfl
theorem try_exc {e : ZD} {isE : Str → Option Bool} {m s : Str} {φ : Mir} (h : e τ = .exc m τ1) (hw : ∃ τ', φ [.exc m] = .ok (.fz (.str s)) τ') (h1 : τ1.any isExc = false) (h2 : i < τ1.length) (h3 : objAt τ1 i = false) (hE : isE m = some true) : Gv (zTry i isE (zRet e) (zRet (zCallP φ i))) τ (.fz (.str s)) := by
  have hc : cellAt (τ1.set i (some (.exc m))) i = some (.exc m) := cellAt_set_eq h2
  have hp := zCallP_ev (d := .str s) hc hw
  have hn : ∀ (τ0 : Fr), (∀ o ∈ τ0, isExc o = false) → ∀ (k : Nat), ∀ o ∈ τ0.set k none, isExc o = false := fun τ0 h k o ho => by
    rcases List.mem_or_eq_of_mem_set ho with h' | h'
    · exact h _ h'
    · rw [h']; rfl
  refine Gv.ret ⟨(τ1.set i (some (.exc m))).set i none, zTry_exc (by rw [zRet_ev, h]; rfl) h1 h2 h3 hE ?_ ?_ rfl ?_⟩
  · rw [zRet_ev, hp]; rfl
  · rw [List.set_set, List.any_eq_false]
    intro o ho
    have := hn τ1 (fun o ho => by simpa using List.any_eq_false.mp h1 o ho) i o ho
    rw [this]; exact Bool.false_ne_true
  · rw [objAt_ev, cellAt_set_eq h2]; rfl
end Z

/-! Z71: dicts that are walked. -/
namespace Z
open PySem PySem.Spec PyProof.Rows L2
variable {α β : Type} {τ τ1 τ2 τ0 : Fr} {p q : ZSD} {i j : Nat} {g : ZGD} {b k tk : Bool} {kvs : List (PyData × PyData)}
theorem lockAll_dct (h : cellAt τ i = some (.dct b k tk kvs)) : lockAll [i] τ = τ := by
  refine mapIdx_idx fun n o ho => ?_
  by_cases e : n ∈ [i]
  · rw [if_pos e]
    rw [List.mem_singleton.mp e] at ho
    have := cellAt_get h
    rw [ho] at this
    cases this
    rfl
  · rw [if_neg e]
where
  mapIdx_idx {f : Nat → Option Cell → Option Cell} {τ : Fr} (h : ∀ n o, τ[n]? = some o → f n o = o) : τ.mapIdx f = τ := by
    refine List.ext_getElem? fun n => ?_
    rw [List.getElem?_mapIdx]
    cases e : τ[n]? with
    | none => rfl
    | some o => rw [Option.map_some, h n o e]
theorem unlock1_d {c0 : Option (Option Cell)} : unlock1 c0 (some (.dct b k tk kvs)) = some (.dct b k tk kvs) := by
  cases c0 with
  | none => rfl
  | some o => cases o with
    | none => rfl
    | some c => simp [unlock1, Cell.setLk]
theorem unlock_dct (h : cellAt τ i = some (.dct b k tk kvs)) : unlock τ0 [i] τ = τ := by
  refine lockAll_dct.mapIdx_idx fun n o ho => ?_
  by_cases e : n ∈ [i]
  · rw [if_pos e]
    rw [List.mem_singleton.mp e] at ho
    have := cellAt_get h
    rw [ho] at this
    cases this
    exact unlock1_d
  · rw [if_neg e]
/-- for x in d -/
theorem for_dict {enc : α → PyData} (xs : List α) (P : List α → Fr → Prop) (hc : cellAt τ i = some (.dct b false tk kvs)) (hk : kvs.map (·.1) = xs.map enc) (h0 : P [] (τ.set i (some (.dct b true tk kvs))))
    (hs : ∀ pre x post τ, xs = pre ++ x :: post → P pre τ → ∃ τ1, g (enc x) τ = some τ1 ∧ ∃ τ2, p τ1 = .ok .nx τ2 ∧ P (pre ++ [x]) τ2) (hP : ∀ τ, P xs τ → cellAt τ i = some (.dct b true tk kvs)) :
    ∃ τ', P xs τ' ∧ zLkS i (zFor (zItD i) g p) τ = .ok .nx (τ'.set i (some (.dct b false tk kvs))) := by
  have hi : i < τ.length := by
    have := cellAt_get hc
    exact (List.getElem?_eq_some_iff.mp this).1
  have hl : cellAt (τ.set i (some (.dct b true tk kvs))) i = some (.dct b true tk kvs) := cellAt_set_eq hi
  rcases turns_pre (enc := enc) (g := g) (p := p) P (fun _ => False) xs [] _ h0 (fun pre x post τ e hp => by
    obtain ⟨τ1, e1, τ2, e2, e3⟩ := hs pre x post τ e hp
    exact ⟨τ1, e1, .inl ⟨τ2, e2, e3⟩⟩) with ⟨τ', e, hp⟩ | ⟨_, _, _, z⟩
  · refine ⟨τ', hp, zLkS_ev hc (τ2 := τ') ?_ (hP _ hp)⟩
    rw [zFor_ev, zItD_ev hl]
    show onFr _ (zTurns g p (kvs.map (·.1)) (lockAll [i] _)) = _
    rw [lockAll_dct hl, hk, e]
    show Res.ok Fl.nx (unlock _ [i] τ') = _
    rw [unlock_dct (hP _ hp)]
  · exact z.elim
theorem zMove_ev {i j : Nat} (hc : cellAt τ j = some (.dct false false tk kvs)) (hij : i ≠ j) (hi : i < τ.length) : zMove i j τ = .ok .nx ((τ.set j none).set i (some (.dct false false tk kvs))) := by
  unfold zMove
  rw [hc]
  exact if_neg (fun z => z.elim hij fun z => by omega)
theorem wipe_set (h : cellAt τ j = none) (hj : j < τ.length) {o : Option Cell} : wipeF [j] (τ.set j o) = τ := by
  rw [wipeF_L]
  refine List.ext_getElem? fun n => ?_
  rw [wipeL_get, List.getElem?_set]
  by_cases e : j = n
  · subst e
    rw [if_pos rfl, if_pos hj, Option.map_some, if_pos (by simp)]
    unfold cellAt at h
    rw [List.getElem?_eq_getElem hj] at h ⊢
    have h : τ[j] = none := h
    rw [h]
  · rw [if_neg e]
    cases τ[n]? with
    | none => rfl
    | some o => rw [Option.map_some, if_neg (by simp; exact fun z => e z.symm)]
theorem wipe_at (hj : j < τ.length) : cellAt (wipeF [j] τ) j = none := by
  unfold cellAt
  rw [wipeF_L, wipeL_get, List.getElem?_eq_getElem hj, Option.map_some, if_pos (by simp)]
/-- [x for x in d] -/
theorem keysLc (hc : cellAt τ i = some (.dct b false tk kvs)) (hj : j < τ.length) (hl : kvs.length ≤ 16777216) : zLkE i (zLc (zItD i) [j] (gN j) zYes (zN j)) τ = .ok (.cl (.lst false false (kvs.map (·.1)))) τ := by
  have hi : i < τ.length := (List.getElem?_eq_some_iff.mp (cellAt_get hc)).1
  have hl1 : cellAt (τ.set i (some (.dct b true tk kvs))) i = some (.dct b true tk kvs) := cellAt_set_eq hi
  have hp : (zLc (zItD i) [j] (gN j) zYes (zN j)) (τ.set i (some (.dct b true tk kvs))) = .ok (.cl (.lst false false (kvs.map (·.1)))) (τ.set i (some (.dct b true tk kvs))) := by
    have := zLc_map (g := gN j) (vs := [j]) (te := zN j) (it := zItD i) (ss := [i]) (τi := τ.set i (some (.dct b true tk kvs))) (kvs.map (·.1)) id id (by rw [zItD_ev hl1]; simp) (fun x hx => by
      have hbl : j < (blkF [j] [i] (τ.set i (some (.dct b true tk kvs)))).length := by
        unfold blkF wipeF lockAll
        rw [List.length_mapIdx, List.length_mapIdx, List.length_set]; exact hj
      have hbn : cellAt (blkF [j] [i] (τ.set i (some (.dct b true tk kvs)))) j = none := by
        unfold blkF
        refine wipe_at ?_
        unfold lockAll
        rw [List.length_mapIdx, List.length_set]; exact hj
      generalize blkF [j] [i] (τ.set i (some (.dct b true tk kvs))) = B at *
      have e2 : zF (zN j) (B.set j (some (.fz x))) = .ok (.cl (.fz x)) (B.set j (some (.fz x))) := by
        simp [cellAt_set_eq hbl]
      exact ⟨B.set j (some (.fz x)), gN_ev, _, e2, wipe_set hbn hbl⟩) (by simpa using hl)
    simpa using this
  have := zLkE_ev hc hp hl1
  rw [List.set_set] at this
  rw [this]
  congr 1
  refine List.ext_getElem? fun n => ?_
  rw [List.getElem?_set]
  by_cases e : i = n
  · subst e
    rw [if_pos rfl, if_pos hi, cellAt_get hc]
  · rw [if_neg e]
variable {κ : Type} [DecidableEq κ] {enc : κ → PyData} {ev : β → PyData} {m : List (κ × β)}
theorem keysSorted [T : TO κ] [A : AlkD enc] [O : OrdD enc] (hc : cellAt τ i = some (.dct b false tk (dEnc enc ev m))) (hj : j < τ.length) (hl : m.length ≤ 16777216) (hs : sortableB ((keysOf m).map enc) = true) (hA : A.dep ≤ 60 := by decide) :
    (z1 pSorted (zLkE i (zLc (zItD i) [j] (gN j) zYes (zN j)))) τ = .ok (.cl (.lst false false ((sortT (keysOf m)).map enc))) τ := by
  rw [z1_ev, keysLc hc hj (by simpa using hl)]
  have := sortO_T (enc := enc) (keysOf m) hs hA
  simp [this]
theorem dictSorted [T : TO κ] [A : AlkD enc] [O : OrdD enc] {a : ZD} {l : LR} (ha : a τ = .ok l τ1) (hc : dOf (rdL τ1 l) = some (false, dEnc enc ev m)) (hs : sortableB ((keysOf m).map enc) = true) (hA : A.dep ≤ 60 := by decide) :
    zSortD a τ = .ok (.cl (.lst false false ((sortT (keysOf m)).map enc))) τ1 := by
  rw [zSortD_ev ha hc, dEnc_keys, sortO_T (enc := enc) (keysOf m) hs hA]
  rfl
end Z
namespace Z
open PySem PySem.Spec PyProof.Rows L2
variable {α : Type} {τ τi : Fr} {p q : ZSD} {it : ZID} {g : ZGD}
theorem tkR_ex (L : Tk) (n : Int) (h : 0 < n) : ∃ k : Nat, tkR L n = k ∧ (k : Int) < n := by
  have h0 := tkR_ge (L := L) h
  have h1 := tkR_lt (L := L) h
  exact ⟨(tkR L n).toNat, by omega, by omega⟩
/-- for x in xs: if f x: return v x ; .. -/
theorem Gv.find {enc : α → PyData} (xs : List α) (f : α → Bool) (v : α → Cell) (dflt : Cell) (I : Fr → Prop) (hi : it τ = .ok (xs.map enc, []) τi) (h0 : I τi)
    (hs : ∀ x τ, x ∈ xs → I τ → ∃ τ1, g (enc x) τ = some τ1 ∧ (f x = true → ∃ τ2, p τ1 = .ok (.rt (v x)) τ2) ∧ (f x = false → ∃ τ2, p τ1 = .ok .nx τ2 ∧ I τ2)) (hq : ∀ τ, I τ → Gv q τ dflt) :
    Gv (zSeq (zFor it g p) q) τ (match xs.find? f with | some x => v x | none => dflt) := by
  have key := turns_tyR (g := g) (p := p) (enc := enc) (fun ds τ => I τ ∧ (∀ x ∈ ds, x ∈ xs) ∧ ds.find? f = xs.find? f) (fun r => (xs.find? f = none ∧ ∃ τ', r = .ok .nx τ' ∧ I τ') ∨ ∃ x τ', xs.find? f = some x ∧ r = .ok (.rt (v x)) τ') (fun τ h => .inl ⟨h.2.2.symm.trans rfl, τ, rfl, h.1⟩) (fun x ds τ ⟨h1, h2, h3⟩ => by
    obtain ⟨τ1, e1, ht, hf⟩ := hs x τ (h2 x List.mem_cons_self) h1
    refine ⟨τ1, e1, ?_⟩
    cases e : f x with
    | true =>
      obtain ⟨τ2, e2⟩ := ht e
      rw [e2]
      show _ ∨ _
      refine .inr ⟨x, τ2, ?_, rfl⟩
      rw [← h3, List.find?_cons, e]
    | false =>
      obtain ⟨τ2, e2, h4⟩ := hf e
      rw [e2]
      exact ⟨h4, fun y hy => h2 y (List.mem_cons_of_mem _ hy), by rw [← h3, List.find?_cons, e]⟩) (xs := xs) (τ := τi) ⟨h0, fun _ h => h, rfl⟩
  have hk : zFor it g p τ = zTurns g p (xs.map enc) τi := by rw [zFor_ev, hi]; exact kFor_free
  rcases key with ⟨e, τ', e2, h⟩ | ⟨x, τ', e, e2⟩
  · rw [e]
    exact Gv.seq ⟨τ', hk.trans e2, hq τ' h⟩
  · rw [e]
    exact Gv.stop ⟨τ', hk.trans e2⟩
end Z
namespace Z
open PySem PySem.Spec PyProof.Rows L2
variable {α β S : Type} {τ : Fr} {it : ZID} {g : ZGD} {vs : List Nat} {te : ZD} {tt : ZTD}
/-- [f(draws, x) for x in xs] -/
theorem zLc_draw (T : S → Fr) (s0 : S) (hT : ∀ s, restL vs 0 (T s0) (wipeL vs 0 (T s)) = T s) (xs : List α) (enc : α → PyData) (ev : β → PyData) (Q : α → β → Prop) (hi : it τ = .ok (xs.map enc, []) (T s0))
    (h : ∀ x ∈ xs, ∀ s, ∃ τ1, g (enc x) (wipeL vs 0 (T s)) = some τ1 ∧ ∃ y s' τ3, zF te τ1 = .ok (.cl (.fz (ev y))) τ3 ∧ Q x y ∧ wipeL vs 0 τ3 = wipeL vs 0 (T s')) (hl : xs.length ≤ 16777216) :
    ∃ (zs : List (α × β)) (s' : S), zs.map (·.1) = xs ∧ (∀ z ∈ zs, Q z.1 z.2) ∧ zLc it vs g zYes te τ = .ok (.cl (.lst false false (zs.map fun z => ev z.2))) (T s') := by
  obtain ⟨zs, s', h1, h2, h3⟩ := kLc_st T s0 hT xs enc ev Q h hl
  exact ⟨zs, s', h1, h2, by rw [zLc_ev, hi]; exact h3⟩
end Z

namespace K14
open PySem PySem.Spec PyProof.Rows L2 Z
/-! ### the text -/
def topS (i : Nat) : Stmt := PySem.Challenge.pw_postlaid_k14_whole_stores_of_stamps.main.body.getD i (.Pass ⟨0, 0, 0, 0⟩)
abbrev s__law_draws : Stmt := topS 19
abbrev N__law_draws : List Str := ["script", "draws", "cell", "seed", "k", "number", "first"]
theorem sc__law_draws : FnScope N__law_draws ["script"] (defScope s__law_draws) := ⟨rfl, rfl, rfl, by decide +kernel, rfl, by decide +kernel, by decide +kernel⟩
abbrev s__law_take : Stmt := topS 20
abbrev N__law_take : List Str := ["draws", "bound"]
theorem sc__law_take : FnScope N__law_take ["draws", "bound"] (defScope s__law_take) := ⟨rfl, rfl, rfl, by decide +kernel, rfl, by decide +kernel, by decide +kernel⟩
abbrev s__law_stamps : Stmt := topS 24
abbrev N__law_stamps : List Str := ["draws", "most", "top", "rows", "turn", "one"]
theorem sc__law_stamps : FnScope N__law_stamps ["draws", "most", "top"] (defScope s__law_stamps) := ⟨rfl, rfl, rfl, by decide +kernel, rfl, by decide +kernel, by decide +kernel⟩
abbrev s__law_payable : Stmt := topS 28
abbrev N__law_payable : List Str := ["stamps", "store", "found", "k", "rows", "total", "many", "one"]
theorem sc__law_payable : FnScope N__law_payable ["stamps", "store"] (defScope s__law_payable) := ⟨rfl, rfl, rfl, by decide +kernel, rfl, by decide +kernel, by decide +kernel⟩
abbrev s__law_alike : Stmt := topS 21
abbrev N__law_alike : List Str := ["found", "due", "k"]
theorem sc__law_alike : FnScope N__law_alike ["found", "due"] (defScope s__law_alike) := ⟨rfl, rfl, rfl, by decide +kernel, rfl, by decide +kernel, by decide +kernel⟩
abbrev s_payable : Stmt := topS 12
abbrev N_payable : List Str := ["stamps", "store", "found", "stamp", "many", "later", "total", "times"]
theorem sc_payable : FnScope N_payable ["stamps", "store"] (defScope s_payable) := ⟨rfl, rfl, rfl, by decide +kernel, rfl, by decide +kernel, by decide +kernel⟩
abbrev s_least_over : Stmt := topS 13
abbrev N_least_over : List Str := ["stamps", "store", "total", "one"]
theorem sc_least_over : FnScope N_least_over ["stamps", "store", "total"] (defScope s_least_over) := ⟨rfl, rfl, rfl, by decide +kernel, rfl, by decide +kernel, by decide +kernel⟩
abbrev s__law_word : Stmt := topS 23
abbrev N__law_word : List Str := ["e", "kinds", "one"]
theorem sc__law_word : FnScope N__law_word ["e"] (defScope s__law_word) := ⟨rfl, rfl, rfl, by decide +kernel, rfl, by decide +kernel, by decide +kernel⟩
abbrev s__law_told : Stmt := topS 27
abbrev N__law_told : List Str := ["stamps", "store", "total", "e"]
theorem sc__law_told : FnScope N__law_told ["stamps", "store", "total"] (defScope s__law_told) := ⟨rfl, rfl, rfl, by decide +kernel, rfl, by decide +kernel, by decide +kernel⟩
abbrev s__law_says : Stmt := topS 22
abbrev N__law_says : List Str := ["told", "due"]
theorem sc__law_says : FnScope N__law_says ["told", "due"] (defScope s__law_says) := ⟨rfl, rfl, rfl, by decide +kernel, rfl, by decide +kernel, by decide +kernel⟩
abbrev s_is_number : Stmt := topS 8
abbrev N_is_number : List Str := ["value", "least", "most"]
theorem sc_is_number : FnScope N_is_number ["value", "least", "most"] (defScope s_is_number) := ⟨rfl, rfl, rfl, by decide +kernel, rfl, by decide +kernel, by decide +kernel⟩
abbrev s_are_stamps : Stmt := topS 17
abbrev N_are_stamps : List Str := ["value", "at", "one"]
theorem sc_are_stamps : FnScope N_are_stamps ["value"] (defScope s_are_stamps) := ⟨rfl, rfl, rfl, by decide +kernel, rfl, by decide +kernel, by decide +kernel⟩
abbrev s_is_stamp_store : Stmt := topS 11
abbrev N_is_stamp_store : List Str := ["stamps", "value", "one"]
theorem sc_is_stamp_store : FnScope N_is_stamp_store ["stamps", "value"] (defScope s_is_stamp_store) := ⟨rfl, rfl, rfl, by decide +kernel, rfl, by decide +kernel, by decide +kernel⟩
abbrev s_law : Stmt := topS 29
abbrev N_law : List Str := ["script", "draws", "stamps", "store", "greater", "due", "wider", "turn", "odd", "total", "rows", "told", "more", "stamp", "one", "value"]
theorem sc_law : FnScope N_law ["script"] (defScope s_law) := ⟨rfl, rfl, rfl, by decide +kernel, rfl, by decide +kernel, by decide +kernel⟩
/-! ### the classes of exceptions -/
abbrev exN : List Str := ["PostError", "OutOfRange", "Malformed", "NotThere", "Refused", "TooMuch"]
def exS (m c : Str) : Bool := m == c || (m == "OutOfRange" && c == "PostError") || (m == "Malformed" && c == "PostError") || (m == "NotThere" && c == "PostError") || (m == "Refused" && c == "PostError") || (m == "TooMuch" && c == "PostError")
abbrev exM (c : Str) : Str → Option Bool := fun m => if m ∈ exN then some (exS m c) else none
/-! ### what the defs compute -/
def l__law_stamps_1 : ZSD :=
    (zDPut 3 (z2 pAdd (zK (.int 1)) (zCall m__law_take 2 (zlC (zN 0) (zlC (zN 2) zlN)))) (zK (.bool true)))
def r__law_stamps_2 : ZSD :=
    (zRet (z1 pTuple (z1 pSorted (zLkE 3 (zLc (zItD 3) [5] (gN 5) zYes (zN 5))))))
def r__law_stamps_1 : ZSD :=
    (zSeq (zFor (zRng (zlC (z2 pAdd (zK (.int 1)) (zCall m__law_take 2 (zlC (zN 0) (zlC (zN 1) zlN)))) zlN)) (gN 4) l__law_stamps_1)
    r__law_stamps_2)
def b__law_stamps : ZSD :=
    (zSeq (zSet 3 (zDNew false))
    r__law_stamps_1)
def m__law_stamps : Mir := runB N__law_stamps.length b__law_stamps
def l__law_payable_1 : ZSD :=
    (zDPut 4 (z2 pAdd (zN 5) (z2 pMul (zN 6) (z2S pIx (zN 0) (zN 3)))) (zK (.bool true)))
def l__law_payable_2 : ZSD :=
    (zFor (zRng (zlC (z2 pAdd (z2S pIx (zN 1) (zN 3)) (zK (.int 1))) zlN)) (gN 6) l__law_payable_1)
def l__law_payable_3 : ZSD :=
    (zSeq (zSet 4 (zDNew false))
    (zSeq (zFor (zIt (zN 2)) (gN 5) l__law_payable_2)
    (zSet 2 (z1 pSorted (zLkE 4 (zLc (zItD 4) [7] (gN 7) zYes (zN 7)))))))
def r__law_payable_2 : ZSD :=
    (zRetM 2)
def r__law_payable_1 : ZSD :=
    (zSeq (zFor (zRng (zlC (z1S pLen (zN 0)) zlN)) (gN 3) l__law_payable_3)
    r__law_payable_2)
def b__law_payable : ZSD :=
    (zSeq (zSet 2 (zLst (zaC (zK (.int 0)) zaN)))
    r__law_payable_1)
def m__law_payable : Mir := runB N__law_payable.length b__law_payable
def l_payable_1 : ZSD :=
    (zDPut 5 (z2 pAdd (zN 6) (z2 pMul (zN 7) (zN 3))) (zK (.bool true)))
def l_payable_2 : ZSD :=
    (zFor (zRng (zlC (z2 pAdd (zN 4) (zK (.int 1))) zlN)) (gN 7) l_payable_1)
def l_payable_3 : ZSD :=
    (zSeq (zSet 5 (zDNew false))
    (zSeq (zLkS 2 (zFor (zItD 2) (gN 6) l_payable_2))
    (zMove 2 5)))
def r_payable_2 : ZSD :=
    (zRet (z1 pTuple (zSortD (zN 2))))
def r_payable_1 : ZSD :=
    (zSeq (zFor (zZip (zN 0) (zN 1)) (gT (gsC (gN 3) (gsC (gN 4) gsN))) l_payable_3)
    r_payable_2)
def b_payable : ZSD :=
    (zSeq (zSet 2 (zDisp (zpC (zK (.int 0)) (zK (.bool true)) zpN)))
    r_payable_1)
def m_payable : Mir := runB N_payable.length b_payable
def l_least_over_1 : ZSD :=
    (zIfS (zB (z2 (pCmp fun i j => decide (j ≤ i)) (zN 3) (zN 2))) (zRetM 3) zNx)
def r_least_over_2 : ZSD :=
    (zRet (zK .none))
def r_least_over_1 : ZSD :=
    (zSeq (zFor (zIt (zCall m_payable 2 (zlC (zN 0) (zlC (zN 1) zlN)))) (gN 3) l_least_over_1)
    r_least_over_2)
def b_least_over : ZSD :=
    (zSeq (zIfS (zB (z2 (pCmp fun i j => decide (i < j)) (zN 2) (zK (.int 0)))) (zRaise "OutOfRange") zNx)
    r_least_over_1)
def m_least_over : Mir := runB N_least_over.length b_least_over
def r__law_word_2 : ZSD :=
    (zRet (z2S pIx (zLst (zaC (zK (.str (Str.ofString "range"))) (zaC (zK (.str (Str.ofString "form"))) (zaC (zK (.str (Str.ofString "none"))) (zaC (zK (.str (Str.ofString "refused"))) (zaC (zK (.str (Str.ofString "much"))) zaN)))))) (zMethV mIdx 1 (zlC (zF (zK (.bool true))) zlN))))
def r__law_word_1 : ZSD :=
    (zSeq (zIfS (zB (z2 pNe (z1S pLen (zLc (zItO 1) [2] (gN 2) (zTru (zN 2)) (zN 2))) (zK (.int 1)))) (zRet (zK (.str (Str.ofString "many")))) zNx)
    r__law_word_2)
def b__law_word : ZSD :=
    (zSeq (zSet 1 (zLst (zaC (zIsE exS 0 "OutOfRange") (zaC (zIsE exS 0 "Malformed") (zaC (zIsE exS 0 "NotThere") (zaC (zIsE exS 0 "Refused") (zaC (zIsE exS 0 "TooMuch") zaN)))))))
    r__law_word_1)
def m__law_word : Mir := runB N__law_word.length b__law_word
def b__law_told : ZSD :=
    (zTry 3 (exM "PostError") (zRet (zCall m_least_over 3 (zlC (zN 0) (zlC (zN 1) (zlC (zN 2) zlN))))) (zRet (zCallP m__law_word 3)))
def m__law_told : Mir := runB N__law_told.length b__law_told
def b__law_says : ZSD :=
    (zRet (zAnd (zIsi "bool" (zN 0)) (z2 pEq (zN 0) (zN 1))))
def m__law_says : Mir := runB N__law_says.length b__law_says
def r_are_stamps_2 : ZSD :=
    (zRet (zQ true (zRng (zlC (zK (.int 1)) (zlC (z1S pLen (zN 0)) zlN))) [1] (gN 1) zYes (z2 (pCmp fun i j => decide (i < j)) (z2S pIx (zN 0) (z2 pSub (zN 1) (zK (.int 1)))) (z2S pIx (zN 0) (zN 1)))))
def r_are_stamps_1 : ZSD :=
    (zSeq (zIfS (zNotT (zTru (zQ true (zIt (zN 0)) [2] (gN 2) zYes (zCall m_is_number 3 (zlC (zN 2) (zlC (zV (zK (.int 1))) (zlC (zV (zK (.int 1000))) zlN))))))) (zRet (zK (.bool false))) zNx)
    r_are_stamps_2)
def b_are_stamps : ZSD :=
    (zSeq (zIfS (zOrT (zNotT (zTru (zIsi "tuple" (zN 0)))) (zNotT (zB (zChain (pCmp fun i j => decide (i ≤ j)) (pCmp fun i j => decide (i ≤ j)) (zK (.int 1)) (z1S pLen (zN 0)) (zK (.int 6)))))) (zRet (zK (.bool false))) zNx)
    r_are_stamps_1)
def m_are_stamps : Mir := runB N_are_stamps.length b_are_stamps
def b_is_stamp_store : ZSD :=
    (zSeq (zIfS (zOrT (zNotT (zTru (zIsi "tuple" (zN 1)))) (zB (z2 pNe (z1S pLen (zN 1)) (z1S pLen (zN 0))))) (zRet (zK (.bool false))) zNx)
    (zRet (zQ true (zIt (zN 1)) [2] (gN 2) zYes (zCall m_is_number 3 (zlC (zN 2) (zlC (zV (zK (.int 0))) (zlC (zV (zK (.int 20))) zlN)))))))
def m_is_stamp_store : Mir := runB N_is_stamp_store.length b_is_stamp_store
def l_law_1 : ZSD :=
    (zSeq (zSet 9 (zCall m__law_take 2 (zlC (zN 1) (zlC (zV (z2 pAdd (z2S pIx (zN 5) (z1 pNeg (zK (.int 1)))) (zK (.int 6)))) zlN))))
    (zSeq (zSet 10 (zLc (zIt (zN 5)) [14] (gN 14) (zB (z2 (pCmp fun i j => decide (j ≤ i)) (zN 14) (zN 9))) (zN 14)))
    (zSeq (zSet 11 (zCall m__law_told 3 (zlC (zN 2) (zlC (zN 3) (zlC (zN 9) zlN)))))
    (zSeq (zIfS (zNotT (zTru (zCall (m__law_alike 12) 2 (zlC (zN 11) (zlC (zV (zIf (zB (z2 pNe (zN 10) (zLst zaN))) (z2S pIx (zN 10) (zK (.int 0))) (zK .none))) zlN))))) (zRet (zK (.bool false))) zNx)
    (zSeq (zSet 12 (zCall m__law_told 3 (zlC (zN 2) (zlC (zN 4) (zlC (zN 9) zlN)))))
    (zIfS (zAndT (zB (z2 (pIs true) (zN 11) (zK .none))) (zOrT (zB (z2 (pIs false) (zN 12) (zK .none))) (zB (z2 (pCmp fun i j => decide (j < i)) (zN 12) (zN 11))))) (zRet (zK (.bool false))) zNx))))))
def r_law_10 : ZSD :=
    (zRet (z2 pEq (zCall m__law_told 3 (zlC (zN 2) (zlC (zN 3) (zlC (zV (z1 pNeg (zK (.int 1)))) zlN)))) (zK (.str (Str.ofString "range")))))
def r_law_9 : ZSD :=
    (zSeq (zIfS (zB (z2 pNe (zLc (zIt (zN 8)) [15] (gN 15) (zNotT (zTru (zCall m__law_says 2 (zlC (zV (zCall m_is_stamp_store 2 (zlC (zN 2) (zlC (zN 15) zlN)))) (zlC (zV (zK (.bool false))) zlN))))) (zN 15)) (zLst zaN))) (zRet (zK (.bool false))) zNx)
    r_law_10)
def r_law_8 : ZSD :=
    (zSeq (zSet 8 (zLst (zaC (zK .none) (zaC (z1 pList (zN 3)) (zaC (z2 pAdd (zN 3) (zTup (zaC (zK (.int 0)) zaN))) (zaC (zSl (zN 3) (zP (zK (.int 1))) zNoP) (zaC (z2 pAdd (zSl (zN 3) zNoP (zP (z1 pNeg (zK (.int 1))))) (zTup (zaC (zK (.int 21)) zaN))) (zaC (z2 pAdd (zSl (zN 3) zNoP (zP (z1 pNeg (zK (.int 1))))) (zTup (zaC (z1 pNeg (zK (.int 1))) zaN))) (zaC (z2 pAdd (zSl (zN 3) zNoP (zP (z1 pNeg (zK (.int 1))))) (zTup (zaC (zK (.bool true)) zaN))) (zaC (z2 pAdd (zSl (zN 3) zNoP (zP (z1 pNeg (zK (.int 1))))) (zTup (zaC (zK .none) zaN))) zaN))))))))))
    r_law_9)
def r_law_7 : ZSD :=
    (zSeq (zFor (zRng (zlC (zK (.int 8)) zlN)) (gN 7) l_law_1)
    r_law_8)
def r_law_6 : ZSD :=
    (zSeq (zIfS (zNotT (zTru (zCall (m__law_alike 12) 2 (zlC (zV (zLst (zaC (zCall m_payable 2 (zlC (zN 2) (zlC (zN 3) zlN))) (zaC (zCall m_payable 2 (zlC (zN 2) (zlC (zN 4) zlN))) zaN)))) (zlC (zV (zLst (zaC (z1 pTuple (zN 5)) (zaC (z1 pTuple (zN 6)) zaN)))) zlN))))) (zRet (zK (.bool false))) zNx)
    r_law_7)
def r_law_5 : ZSD :=
    (zSeq (zIfS (zOrT (zNotT (zTru (zCall m__law_says 2 (zlC (zV (zCall m_are_stamps 1 (zlC (zN 2) zlN))) (zlC (zV (zK (.bool true))) zlN))))) (zNotT (zTru (zCall m__law_says 2 (zlC (zV (zCall m_is_stamp_store 2 (zlC (zN 2) (zlC (zN 3) zlN)))) (zlC (zV (zK (.bool true))) zlN)))))) (zRet (zK (.bool false))) zNx)
    r_law_6)
def r_law_4 : ZSD :=
    (zSeq (zPar2 5 6 (zlC (zV (zCall m__law_payable 2 (zlC (zN 2) (zlC (zN 3) zlN)))) (zlC (zV (zCall m__law_payable 2 (zlC (zN 2) (zlC (zN 4) zlN)))) zlN)))
    r_law_5)
def r_law_3 : ZSD :=
    (zSeq (zSet 4 (z1 pTuple (zLc (zIt (zN 3)) [14] (gN 14) zYes (z2 pMin2 (zK (.int 20)) (z2 pAdd (zN 14) (zCall m__law_take 2 (zlC (zN 1) (zlC (zV (zK (.int 3))) zlN))))))))
    r_law_4)
def r_law_2 : ZSD :=
    (zSeq (zSet 3 (z1 pTuple (zLc (zIt (zN 2)) [13] (gN 13) zYes (zCall m__law_take 2 (zlC (zN 1) (zlC (zV (z2S pIx (zLst (zaC (zK (.int 3)) (zaC (zK (.int 8)) zaN))) (zCall m__law_take 2 (zlC (zN 1) (zlC (zV (zK (.int 2))) zlN))))) zlN))))))
    r_law_3)
def r_law_1 : ZSD :=
    (zSeq (zSet 2 (zCall m__law_stamps 3 (zlC (zN 1) (zlC (zV (zK (.int 4))) (zlC (zV (zK (.int 20))) zlN)))))
    r_law_2)
def b_law : ZSD :=
    (zSeq (zSet 1 (zCall m__law_draws 1 (zlC (zN 0) zlN)))
    r_law_1)
def m_law : Mir := runB N_law.length b_law
/-! ### .. proved -/
section
variable {P : Program} {w : World} {K : PySem.W.Frag} {mg : Str → Option Value} {base : Heap} {t : Addr → Prop}
theorem ok__law_word {f : Addr} {od an : Option Addr} {sl : Array (Option Value)} {oc kV dc pm ct : Value} {cd : Value} (lk : K.lookup f = some ⟨oc, od, .func (PySem.W.fnOf "_law_word" "_law_word" (defArgs s__law_word) (defBody s__law_word) (defScope s__law_word) .none kV dc pm an cd ct), sl⟩) (hcd : PySem.W.codeIn K cd "_law_word" = true)
    (m_isinstance : mg "isinstance" = none)
    (m_len : mg "len" = none)
    {C_Malformed : Addr} (E_Malformed : ClsE K mg "Malformed" C_Malformed) (x_Malformed : PySem.W.excIn K C_Malformed [.type "ValueError", .type "Exception", .type "BaseException", .type "object"] "ValueError.__new__" = true)
    {C_NotThere : Addr} (E_NotThere : ClsE K mg "NotThere" C_NotThere) (x_NotThere : PySem.W.excIn K C_NotThere [.type "ValueError", .type "Exception", .type "BaseException", .type "object"] "ValueError.__new__" = true)
    {C_OutOfRange : Addr} (E_OutOfRange : ClsE K mg "OutOfRange" C_OutOfRange) (x_OutOfRange : PySem.W.excIn K C_OutOfRange [.type "ValueError", .type "Exception", .type "BaseException", .type "object"] "ValueError.__new__" = true)
    {C_Refused : Addr} (E_Refused : ClsE K mg "Refused" C_Refused) (x_Refused : PySem.W.excIn K C_Refused [.type "ValueError", .type "Exception", .type "BaseException", .type "object"] "ValueError.__new__" = true)
    {C_TooMuch : Addr} (E_TooMuch : ClsE K mg "TooMuch" C_TooMuch) (x_TooMuch : PySem.W.excIn K C_TooMuch [.type "ValueError", .type "Exception", .type "BaseException", .type "object"] "ValueError.__new__" = true)
    (ET : ExT K mg exN exS) :
    FnP P w K mg base 1 f (PySem.W.fnOf "_law_word" "_law_word" (defArgs s__law_word) (defBody s__law_word) (defScope s__law_word) .none kV dc pm an cd ct) ["e"] (spP K mg t exN (runB N__law_word.length b__law_word)) := by
  have sc := sc__law_word
  refine zfnP (N := N__law_word) (k := 0) (d := b__law_word) (names := exN) lk hcd sc fun A outer s H p m D hot hrH hmn hmD hz hv => ?_
  letI TB : Tabs := ⟨t, fun a n => a = p.1 ∧ n = m⟩
  show ZSs _ _ _ _
  refine zss_cons ?_ ?_
  · refine zs_set (i := 1) sc.nd rfl (.inl rfl) ?_
    refine ze_lst ?_
    refine za_cons ?_ ?_
    · exact ze_isE (i := 0) (c := "OutOfRange") ET (exHot_def hmn hmD hz hot (List.mem_singleton.mpr rfl)).exIn (by decide) E_OutOfRange.g rfl rfl rfl m_isinstance bt_isinstance rfl (.inl rfl) rfl rfl
    · refine za_cons ?_ ?_
      · exact ze_isE (i := 0) (c := "Malformed") ET (exHot_def hmn hmD hz hot (List.mem_singleton.mpr rfl)).exIn (by decide) E_Malformed.g rfl rfl rfl m_isinstance bt_isinstance rfl (.inl rfl) rfl rfl
      · refine za_cons ?_ ?_
        · exact ze_isE (i := 0) (c := "NotThere") ET (exHot_def hmn hmD hz hot (List.mem_singleton.mpr rfl)).exIn (by decide) E_NotThere.g rfl rfl rfl m_isinstance bt_isinstance rfl (.inl rfl) rfl rfl
        · refine za_cons ?_ ?_
          · exact ze_isE (i := 0) (c := "Refused") ET (exHot_def hmn hmD hz hot (List.mem_singleton.mpr rfl)).exIn (by decide) E_Refused.g rfl rfl rfl m_isinstance bt_isinstance rfl (.inl rfl) rfl rfl
          · refine za_cons ?_ ?_
            · exact ze_isE (i := 0) (c := "TooMuch") ET (exHot_def hmn hmD hz hot (List.mem_singleton.mpr rfl)).exIn (by decide) E_TooMuch.g rfl rfl rfl m_isinstance bt_isinstance rfl (.inl rfl) rfl rfl
            · exact za_nil
  · refine zss_cons ?_ ?_
    · refine zs_if ?_ ?_ ?_
      · refine zt_cmp (op_neD (room64H hrH)) op2_ne ?_ ?_ (nomark _)
        · refine ze_len rfl m_len bt_len ?_
          refine ze_lcH (own := [("one", 2)]) (ts := [2]) hot (List.mem_singleton.mpr rfl) sc.nd ?_ (blkOk (by kernel_rfl)) (by decide) ?_ ?_ ?_
          · exact zi_itH (i := 1) rfl (.inl rfl) rfl rfl
          · intro _ _ _ _ _; show ZG _ _ _ _
            exact zg_name (i := 2) sc.nd rfl (.inl rfl)
          · intro _ _ _ _ _; show ZTs _ _ _ _
            refine zts_one ?_
            refine zt_tru ?_
            exact ze_name (i := 2) rfl (.inl rfl)
          · intro _ _ _ _ _; show ZE _ _ _ _
            exact ze_name (i := 2) rfl (.inl rfl)
        · exact ze_int
      · refine zss_one ?_
        refine zs_ret ?_
        exact ze_str
      · exact zss_nil
    · refine zss_one ?_
      refine zs_ret ?_
      refine ze_ix ?_ ?_
      · refine ze_lst ?_
        refine za_cons ?_ ?_
        · exact ze_str
        · refine za_cons ?_ ?_
          · exact ze_str
          · refine za_cons ?_ ?_
            · exact ze_str
            · refine za_cons ?_ ?_
              · exact ze_str
              · refine za_cons ?_ ?_
                · exact ze_str
                · exact za_nil
      · refine ze_methV (i := 1) meth_idx rfl (.inl rfl) PySem.F.slot_list_index PySem.F.type_list_index (mt_indexD (room65H hrH)) ?_
        refine zl_cons ?_ ?_
        · refine ze_dat ?_
          exact ze_bl
        · exact zl_nil
end
section
variable [TB : Tabs] {P : Program} {w : World} {K : PySem.W.Frag} {mg : Str → Option Value} {base : Heap}
theorem ok__law_draws {f : Addr} {od an : Option Addr} {sl : Array (Option Value)} {oc kV dc pm ct : Value} {cd : Value} (lk : K.lookup f = some ⟨oc, od, .func (PySem.W.fnOf "_law_draws" "_law_draws" (defArgs s__law_draws) (defBody s__law_draws) (defScope s__law_draws) .none kV dc pm an cd ct), sl⟩) (hcd : PySem.W.codeIn K cd "_law_draws" = true)
    (m_abs : mg "abs" = none)
    (m_int : mg "int" = none)
    (m_len : mg "len" = none)
    (m_list : mg "list" = none)
    (m_range : mg "range" = none)
    (m_reversed : mg "reversed" = none) :
    FnOk P w K mg base (L2N.CX P w) 1 f (PySem.W.fnOf "_law_draws" "_law_draws" (defArgs s__law_draws) (defBody s__law_draws) (defScope s__law_draws) .none kV dc pm an cd ct) ["script"] (spZ K mg ["script"].length (runB N__law_draws.length b__law_draws)) := by
  have sc := sc__law_draws
  refine zfnC (N := N__law_draws) (ps := ["script"]) (k := 0) (d := b__law_draws) lk hcd sc fun A outer s H E hr tk hp => ?_
  refine zss_cons ?_ ?_
  · refine zs_set (i := 1) sc.nd rfl (.inl rfl) ?_
    refine ze_lst ?_
    exact za_nil
  · refine zss_cons ?_ ?_
    · refine zs_for (ts := [2]) hp rfl ?_ ?_ ?_
      · refine zi_it ?_
        exact ze_name (i := 0) rfl (.inl rfl)
      · exact zg_name (i := 2) sc.nd rfl (.inl rfl)
      · refine zss_cons ?_ ?_
        · refine zs_set (i := 5) sc.nd rfl (.inl rfl) ?_
          refine ze_callB1 call_abs op1_abs rfl m_abs bt_abs ?_
          exact ze_name (i := 2) rfl (.inl rfl)
        · refine zss_cons ?_ ?_
          · refine zs_if ?_ ?_ ?_
            · refine zt_cmp op_lt op2_cmp ?_ ?_ (nomark _)
              · exact ze_name (i := 5) rfl (.inl rfl)
              · refine ze_op op_pow op2_pow ?_ ?_
                · exact ze_int
                · exact ze_int
            · refine zss_cons ?_ ?_
              · refine zs_set (i := 6) sc.nd rfl (.inl rfl) ?_
                refine ze_op op_mod op2_mod ?_ ?_
                · refine ze_callT1 call_int1 op1_toInt rfl m_int bt_int ?_
                  refine ze_op opr_add op2_add ?_ ?_
                  · refine ze_op opr_mul op2_mul ?_ ?_
                    · exact ze_name (i := 5) rfl (.inl rfl)
                    · exact ze_int
                  · exact ze_int
                · exact ze_int
              · refine zss_cons ?_ ?_
                · refine zs_expr ?_
                  refine ze_meth (i := 1) meth_app rfl (.inl rfl) PySem.F.slot_list_append PySem.F.type_list_append mt_append ?_
                  refine zl_cons ?_ ?_
                  · refine ze_dat ?_
                    refine ze_op op_mod op2_mod ?_ ?_
                    · refine ze_callT1 call_int1 op1_toInt rfl m_int bt_int ?_
                      refine ze_op opr_add op2_add ?_ ?_
                      · refine ze_op opr_mul op2_mul ?_ ?_
                        · exact ze_name (i := 6) rfl (.inl rfl)
                        · exact ze_int
                      · exact ze_name (i := 5) rfl (.inl rfl)
                    · exact ze_int
                  · exact zl_nil
                · refine zss_cons ?_ ?_
                  · refine zs_expr ?_
                    refine ze_meth (i := 1) meth_app rfl (.inl rfl) PySem.F.slot_list_append PySem.F.type_list_append mt_append ?_
                    refine zl_cons ?_ ?_
                    · refine ze_dat ?_
                      refine ze_op op_mod op2_mod ?_ ?_
                      · refine ze_callT1 call_int1 op1_toInt rfl m_int bt_int ?_
                        refine ze_op opr_add op2_add ?_ ?_
                        · exact ze_name (i := 6) rfl (.inl rfl)
                        · refine ze_op opr_div op2_div ?_ ?_
                          · exact ze_name (i := 5) rfl (.inl rfl)
                          · exact ze_int
                      · exact ze_int
                    · exact zl_nil
                  · refine zss_one ?_
                    refine zs_set (i := 5) sc.nd rfl (.inl rfl) ?_
                    exact ze_int
            · exact zss_nil
          · refine zss_one ?_
            refine zs_for (ts := [4]) hp rfl ?_ ?_ ?_
            · refine zi_range1 rfl m_range ?_
              exact ze_int
            · exact zg_name (i := 4) sc.nd rfl (.inl rfl)
            · refine zss_one ?_
              refine zs_if ?_ ?_ ?_
              · refine zt_cmp op_gt op2_cmp ?_ ?_ (nomark _)
                · exact ze_name (i := 5) rfl (.inl rfl)
                · exact ze_int
              · refine zss_cons ?_ ?_
                · refine zs_expr ?_
                  refine ze_meth (i := 1) meth_app rfl (.inl rfl) PySem.F.slot_list_append PySem.F.type_list_append mt_append ?_
                  refine zl_cons ?_ ?_
                  · refine ze_dat ?_
                    refine ze_op op_mod op2_mod ?_ ?_
                    · refine ze_callT1 call_int1 op1_toInt rfl m_int bt_int ?_
                      exact ze_name (i := 5) rfl (.inl rfl)
                    · exact ze_int
                  · exact zl_nil
                · refine zss_one ?_
                  refine zs_set (i := 5) sc.nd rfl (.inl rfl) ?_
                  refine ze_op opr_div op2_div ?_ ?_
                  · exact ze_name (i := 5) rfl (.inl rfl)
                  · exact ze_int
              · exact zss_nil
    · refine zss_cons ?_ ?_
      · refine zs_set (i := 3) sc.nd rfl (.inl rfl) ?_
        exact ze_int
      · refine zss_cons ?_ ?_
        · refine zs_if ?_ ?_ ?_
          · refine zt_cmp op_gt op2_cmp ?_ ?_ (nomark _)
            · refine ze_len rfl m_len bt_len ?_
              exact ze_name (i := 0) rfl (.inl rfl)
            · exact ze_int
          · refine zss_one ?_
            refine zs_set (i := 3) sc.nd rfl (.inl rfl) ?_
            refine ze_op opr_add op2_add ?_ ?_
            · exact ze_int
            · refine ze_callB1 call_abs op1_abs rfl m_abs bt_abs ?_
              refine ze_ix ?_ ?_
              · exact ze_name (i := 0) rfl (.inl rfl)
              · exact ze_int
          · exact zss_nil
        · refine zss_cons ?_ ?_
          · refine zs_for (ts := [4]) hp rfl ?_ ?_ ?_
            · refine zi_range1 rfl m_range ?_
              exact ze_int
            · exact zg_name (i := 4) sc.nd rfl (.inl rfl)
            · refine zss_cons ?_ ?_
              · refine zs_set (i := 3) sc.nd rfl (.inl rfl) ?_
                refine ze_op op_mod op2_mod ?_ ?_
                · refine ze_callT1 call_int1 op1_toInt rfl m_int bt_int ?_
                  refine ze_op opr_add op2_add ?_ ?_
                  · refine ze_op opr_mul op2_mul ?_ ?_
                    · exact ze_name (i := 3) rfl (.inl rfl)
                    · exact ze_int
                  · exact ze_int
                · exact ze_int
              · refine zss_one ?_
                refine zs_expr ?_
                refine ze_meth (i := 1) meth_app rfl (.inl rfl) PySem.F.slot_list_append PySem.F.type_list_append mt_append ?_
                refine zl_cons ?_ ?_
                · refine ze_dat ?_
                  refine ze_op opr_div op2_div ?_ ?_
                  · exact ze_name (i := 3) rfl (.inl rfl)
                  · exact ze_int
                · exact zl_nil
          · refine zss_one ?_
            refine zs_ret ?_
            refine ze_lrev rfl rfl m_list rfl m_reversed ?_
            exact ze_name (i := 1) rfl (.inl rfl)
theorem ok__law_take {f : Addr} {od an : Option Addr} {sl : Array (Option Value)} {oc kV dc pm ct : Value} {cd : Value} (lk : K.lookup f = some ⟨oc, od, .func (PySem.W.fnOf "_law_take" "_law_take" (defArgs s__law_take) (defBody s__law_take) (defScope s__law_take) .none kV dc pm an cd ct), sl⟩) (hcd : PySem.W.codeIn K cd "_law_take" = true)
    (m_int : mg "int" = none)
    (m_len : mg "len" = none) :
    FnOk P w K mg base (L2N.CX P w) 1 f (PySem.W.fnOf "_law_take" "_law_take" (defArgs s__law_take) (defBody s__law_take) (defScope s__law_take) .none kV dc pm an cd ct) ["draws", "bound"] (spZ K mg ["draws", "bound"].length (runB N__law_take.length b__law_take)) := by
  have sc := sc__law_take
  refine zfnC (N := N__law_take) (ps := ["draws", "bound"]) (k := 0) (d := b__law_take) lk hcd sc fun A outer s H E hr tk hp => ?_
  refine zss_cons ?_ ?_
  · refine zs_if ?_ ?_ ?_
    · refine zt_cmp (op_eqD (room64 hr)) op2_eq ?_ ?_ (nomark _)
      · refine ze_len rfl m_len bt_len ?_
        exact ze_name (i := 0) rfl (.inl rfl)
      · exact ze_int
    · refine zss_one ?_
      refine zs_ret ?_
      exact ze_int
    · exact zss_nil
  · refine zss_one ?_
    refine zs_ret ?_
    refine ze_op op_mod op2_mod ?_ ?_
    · refine ze_callT1 call_int1 op1_toInt rfl m_int bt_int ?_
      exact ze_meth0 (i := 0) meth_pop rfl (.inl rfl) PySem.F.slot_list_pop PySem.F.type_list_pop mt_pop
    · exact ze_name (i := 1) rfl (.inl rfl)
theorem ok__law_stamps {f : Addr} {od an : Option Addr} {sl : Array (Option Value)} {oc kV dc pm ct : Value} {cd : Value} (lk : K.lookup f = some ⟨oc, od, .func (PySem.W.fnOf "_law_stamps" "_law_stamps" (defArgs s__law_stamps) (defBody s__law_stamps) (defScope s__law_stamps) .none kV dc pm an cd ct), sl⟩) (hcd : PySem.W.codeIn K cd "_law_stamps" = true)
    (m_range : mg "range" = none)
    (m_sorted : mg "sorted" = none)
    (m_tuple : mg "tuple" = none)
    {f__law_take : Addr} {fd__law_take : FuncData} (D__law_take : DefI P w K mg base 1 "_law_take" f__law_take fd__law_take ["draws", "bound"] m__law_take) :
    FnOk P w K mg base (L2N.CX P w) 2 f (PySem.W.fnOf "_law_stamps" "_law_stamps" (defArgs s__law_stamps) (defBody s__law_stamps) (defScope s__law_stamps) .none kV dc pm an cd ct) ["draws", "most", "top"] (spZ K mg ["draws", "most", "top"].length (runB N__law_stamps.length b__law_stamps)) := by
  have sc := sc__law_stamps
  refine zfnC (N := N__law_stamps) (ps := ["draws", "most", "top"]) (k := 1) (d := b__law_stamps) lk hcd sc fun A outer s H E hr tk hp => ?_
  refine zss_cons ?_ ?_
  · refine zs_set (i := 3) sc.nd rfl (.inl rfl) ?_
    exact ze_dnew false
  · refine zss_cons ?_ ?_
    · refine zs_for (ts := [4]) hp rfl ?_ ?_ ?_
      · refine zi_range1 rfl m_range ?_
        refine ze_op opr_add op2_add ?_ ?_
        · exact ze_int
        · refine ze_call (x := "_law_take") (ps := ["draws", "bound"]) (φ := m__law_take) D__law_take.F (hr.mono (by decide)) tk rfl D__law_take.hm D__law_take.hk D__law_take.hb ?_
          refine zl_cons ?_ ?_
          · exact ze_name (i := 0) rfl (.inl rfl)
          · refine zl_cons ?_ ?_
            · exact ze_name (i := 1) rfl (.inl rfl)
            · exact zl_nil
      · exact zg_name (i := 4) sc.nd rfl (.inl rfl)
      · refine zss_one ?_
        refine zs_dput (i := 3) (rm1 hr) rfl (.inl rfl) ?_ ?_
        · refine ze_op opr_add op2_add ?_ ?_
          · exact ze_int
          · refine ze_call (x := "_law_take") (ps := ["draws", "bound"]) (φ := m__law_take) D__law_take.F (hr.mono (by decide)) tk rfl D__law_take.hm D__law_take.hk D__law_take.hb ?_
            refine zl_cons ?_ ?_
            · exact ze_name (i := 0) rfl (.inl rfl)
            · refine zl_cons ?_ ?_
              · exact ze_name (i := 2) rfl (.inl rfl)
              · exact zl_nil
        · exact ze_bl
    · refine zss_one ?_
      refine zs_ret ?_
      refine ze_callT1 call_tuple_of op1_tuple rfl m_tuple bt_tuple ?_
      refine ze_callB1 (cr_sortD (room65 hr)) op1_sorted rfl m_sorted bt_sorted ?_
      refine ze_lock (i := 3) ?_
      refine ze_lc (own := [("one", 5)]) (ts := [5]) rfl sc.nd ?_ (blkOk (by kernel_rfl)) (by decide) ?_ ?_ ?_
      · exact zi_itD (i := 3) rfl (.inl rfl)
      · intro _ _ _ _ _; show ZG _ _ _ _
        exact zg_name (i := 5) sc.nd rfl (.inl rfl)
      · intro _ _ _ _ _; show ZTs _ _ _ _
        exact zts_nil
      · intro _ _ _ _ _; show ZE _ _ _ _
        exact ze_name (i := 5) rfl (.inl rfl)
theorem ok__law_payable {f : Addr} {od an : Option Addr} {sl : Array (Option Value)} {oc kV dc pm ct : Value} {cd : Value} (lk : K.lookup f = some ⟨oc, od, .func (PySem.W.fnOf "_law_payable" "_law_payable" (defArgs s__law_payable) (defBody s__law_payable) (defScope s__law_payable) .none kV dc pm an cd ct), sl⟩) (hcd : PySem.W.codeIn K cd "_law_payable" = true)
    (m_len : mg "len" = none)
    (m_range : mg "range" = none)
    (m_sorted : mg "sorted" = none) :
    FnOk P w K mg base (L2N.CX P w) 1 f (PySem.W.fnOf "_law_payable" "_law_payable" (defArgs s__law_payable) (defBody s__law_payable) (defScope s__law_payable) .none kV dc pm an cd ct) ["stamps", "store"] (spZ K mg ["stamps", "store"].length (runB N__law_payable.length b__law_payable)) := by
  have sc := sc__law_payable
  refine zfnC (N := N__law_payable) (ps := ["stamps", "store"]) (k := 0) (d := b__law_payable) lk hcd sc fun A outer s H E hr tk hp => ?_
  refine zss_cons ?_ ?_
  · refine zs_set (i := 2) sc.nd rfl (.inl rfl) ?_
    refine ze_lst ?_
    refine za_cons ?_ ?_
    · exact ze_int
    · exact za_nil
  · refine zss_cons ?_ ?_
    · refine zs_for (ts := [3]) hp rfl ?_ ?_ ?_
      · refine zi_range1 rfl m_range ?_
        refine ze_len rfl m_len bt_len ?_
        exact ze_name (i := 0) rfl (.inl rfl)
      · exact zg_name (i := 3) sc.nd rfl (.inl rfl)
      · refine zss_cons ?_ ?_
        · refine zs_set (i := 4) sc.nd rfl (.inl rfl) ?_
          exact ze_dnew false
        · refine zss_cons ?_ ?_
          · refine zs_for (ts := [5]) hp rfl ?_ ?_ ?_
            · refine zi_it ?_
              exact ze_name (i := 2) rfl (.inl rfl)
            · exact zg_name (i := 5) sc.nd rfl (.inl rfl)
            · refine zss_one ?_
              refine zs_for (ts := [6]) hp rfl ?_ ?_ ?_
              · refine zi_range1 rfl m_range ?_
                refine ze_op opr_add op2_add ?_ ?_
                · refine ze_ix ?_ ?_
                  · exact ze_name (i := 1) rfl (.inl rfl)
                  · exact ze_name (i := 3) rfl (.inl rfl)
                · exact ze_int
              · exact zg_name (i := 6) sc.nd rfl (.inl rfl)
              · refine zss_one ?_
                refine zs_dput (i := 4) (rm1 hr) rfl (.inl rfl) ?_ ?_
                · refine ze_op opr_add op2_add ?_ ?_
                  · exact ze_name (i := 5) rfl (.inl rfl)
                  · refine ze_op opr_mul op2_mul ?_ ?_
                    · exact ze_name (i := 6) rfl (.inl rfl)
                    · refine ze_ix ?_ ?_
                      · exact ze_name (i := 0) rfl (.inl rfl)
                      · exact ze_name (i := 3) rfl (.inl rfl)
                · exact ze_bl
          · refine zss_one ?_
            refine zs_set (i := 2) sc.nd rfl (.inl rfl) ?_
            refine ze_callB1 (cr_sortD (room65 hr)) op1_sorted rfl m_sorted bt_sorted ?_
            refine ze_lock (i := 4) ?_
            refine ze_lc (own := [("one", 7)]) (ts := [7]) rfl sc.nd ?_ (blkOk (by kernel_rfl)) (by decide) ?_ ?_ ?_
            · exact zi_itD (i := 4) rfl (.inl rfl)
            · intro _ _ _ _ _; show ZG _ _ _ _
              exact zg_name (i := 7) sc.nd rfl (.inl rfl)
            · intro _ _ _ _ _; show ZTs _ _ _ _
              exact zts_nil
            · intro _ _ _ _ _; show ZE _ _ _ _
              exact ze_name (i := 7) rfl (.inl rfl)
    · refine zss_one ?_
      exact zs_retM (i := 2) rfl (.inl rfl)
theorem ok__law_alike {f : Addr} {od an : Option Addr} {sl : Array (Option Value)} {oc kV dc pm ct : Value} {cd : Value} (lk : K.lookup f = some ⟨oc, od, .func (PySem.W.fnOf "_law_alike" "_law_alike" (defArgs s__law_alike) (defBody s__law_alike) (defScope s__law_alike) .none kV dc pm an cd ct), sl⟩) (hcd : PySem.W.codeIn K cd "_law_alike" = true)
    (m_bool : mg "bool" = none)
    (m_int : mg "int" = none)
    (m_isinstance : mg "isinstance" = none)
    (m_len : mg "len" = none)
    (m_list : mg "list" = none)
    (m_range : mg "range" = none)
    (m_str : mg "str" = none)
    (m_tuple : mg "tuple" = none)
    (hmF : mg "_law_alike" = some (.ref f)) (hkF : PySem.W.keepIn K (.ref f) = true) (hbF : Binds K (PySem.W.fnOf "_law_alike" "_law_alike" (defArgs s__law_alike) (defBody s__law_alike) (defScope s__law_alike) .none kV dc pm an cd ct) ["found", "due"] []) :
    ∀ n, FnOk P w K mg base (L2N.CX P w) (1 + n) f (PySem.W.fnOf "_law_alike" "_law_alike" (defArgs s__law_alike) (defBody s__law_alike) (defScope s__law_alike) .none kV dc pm an cd ct) ["found", "due"] (spZ K mg ["found", "due"].length (m__law_alike n)) := by
  intro n
  induction n with
  | zero => exact fnStuck
  | succ n ih =>
  have sc := sc__law_alike
  refine zfnC (N := N__law_alike) (ps := ["found", "due"]) (k := 1 + n) (d := b__law_alike (m__law_alike n)) lk hcd sc fun A outer s H E hr tk hp => ?_
  refine zss_cons ?_ ?_
  · refine zs_if ?_ ?_ ?_
    · refine ZW.zt ?_
      refine zw_or ?_ ?_
      · refine zt_tru ?_
        refine ze_isi (c := "list") rfl m_isinstance bt_isinstance rfl m_list bt_list (by decide) ?_
        exact ze_name (i := 1) rfl (.inr (.inl rfl))
      · refine zw_or1 ?_
        refine zt_tru ?_
        refine ze_isi (c := "tuple") rfl m_isinstance bt_isinstance rfl m_tuple bt_tuple (by decide) ?_
        exact ze_name (i := 1) rfl (.inr (.inl rfl))
    · refine zss_cons ?_ ?_
      · refine zs_if ?_ ?_ ?_
        · refine ZW.zt ?_
          refine zw_or ?_ ?_
          · refine zt_cmp (op_neD (room64 hr)) op2_ne ?_ ?_ (nomark _)
            · refine ze_isi (c := "list") rfl m_isinstance bt_isinstance rfl m_list bt_list (by decide) ?_
              exact ze_name (i := 0) rfl (.inr (.inl rfl))
            · refine ze_isi (c := "list") rfl m_isinstance bt_isinstance rfl m_list bt_list (by decide) ?_
              exact ze_name (i := 1) rfl (.inr (.inl rfl))
          · refine zw_or1 ?_
            refine zt_cmp (op_neD (room64 hr)) op2_ne ?_ ?_ (nomark _)
            · refine ze_isi (c := "tuple") rfl m_isinstance bt_isinstance rfl m_tuple bt_tuple (by decide) ?_
              exact ze_name (i := 0) rfl (.inr (.inl rfl))
            · refine ze_isi (c := "tuple") rfl m_isinstance bt_isinstance rfl m_tuple bt_tuple (by decide) ?_
              exact ze_name (i := 1) rfl (.inr (.inl rfl))
        · refine zss_one ?_
          refine zs_ret ?_
          exact ze_bl
        · exact zss_nil
      · refine zss_one ?_
        refine zs_ret ?_
        refine ze_and ?_ ?_
        · refine ze_cmp (op_eqD (room64 hr)) op2_eq ?_ ?_ (nomark _)
          · refine ze_len rfl m_len bt_len ?_
            exact ze_name (i := 0) rfl (.inr (.inl rfl))
          · refine ze_len rfl m_len bt_len ?_
            exact ze_name (i := 1) rfl (.inr (.inl rfl))
        · refine ze_and1 ?_
          refine ze_cmp (op_eqD (room64 hr)) op2_eq ?_ ?_ (nomark _)
          · refine ze_lc (own := [("k", 2)]) (ts := [2]) rfl sc.nd ?_ (blkOk (by kernel_rfl)) (by decide) ?_ ?_ ?_
            · refine zi_range1 rfl m_range ?_
              refine ze_len rfl m_len bt_len ?_
              exact ze_name (i := 1) rfl (.inr (.inl rfl))
            · intro _ _ _ _ _; show ZG _ _ _ _
              exact zg_name (i := 2) sc.nd rfl (.inl rfl)
            · intro _ _ _ _ _; show ZTs _ _ _ _
              refine zts_one ?_
              refine zt_not ?_
              refine zt_tru ?_
              refine ze_call (x := "_law_alike") (ps := ["found", "due"]) (φ := m__law_alike n) ih (hr.mono (by omega)) takesF rfl hmF hkF hbF ?_
              refine zl_cons ?_ ?_
              · refine ze_val ?_
                refine ze_ix ?_ ?_
                · exact ze_name (i := 0) rfl (.inr (.inl rfl))
                · exact ze_name (i := 2) rfl (.inl rfl)
              · refine zl_cons ?_ ?_
                · refine ze_val ?_
                  refine ze_ix ?_ ?_
                  · exact ze_name (i := 1) rfl (.inr (.inl rfl))
                  · exact ze_name (i := 2) rfl (.inl rfl)
                · exact zl_nil
            · intro _ _ _ _ _; show ZE _ _ _ _
              exact ze_name (i := 2) rfl (.inl rfl)
          · refine ze_lst ?_
            exact za_nil
    · exact zss_nil
  · refine zss_cons ?_ ?_
    · refine zs_if ?_ ?_ ?_
      · refine zt_cmp opr_is op2_is ?_ ?_ (nomark _)
        · exact ze_name (i := 1) rfl (.inr (.inl rfl))
        · exact ze_non
      · refine zss_one ?_
        refine zs_ret ?_
        refine ze_cmp opr_is op2_is ?_ ?_ (nomark _)
        · exact ze_name (i := 0) rfl (.inr (.inl rfl))
        · exact ze_non
      · exact zss_nil
    · refine zss_cons ?_ ?_
      · refine zs_if ?_ ?_ ?_
        · refine ZW.zt ?_
          refine zw_or ?_ ?_
          · refine zt_tru ?_
            refine ze_isi (c := "bool") rfl m_isinstance bt_isinstance rfl m_bool bt_bool (by decide) ?_
            exact ze_name (i := 1) rfl (.inr (.inl rfl))
          · refine zw_or1 ?_
            refine zt_tru ?_
            refine ze_isi (c := "bool") rfl m_isinstance bt_isinstance rfl m_bool bt_bool (by decide) ?_
            exact ze_name (i := 0) rfl (.inr (.inl rfl))
        · refine zss_one ?_
          refine zs_ret ?_
          refine ze_and ?_ ?_
          · refine ze_isi (c := "bool") rfl m_isinstance bt_isinstance rfl m_bool bt_bool (by decide) ?_
            exact ze_name (i := 0) rfl (.inr (.inl rfl))
          · refine ze_and ?_ ?_
            · refine ze_isi (c := "bool") rfl m_isinstance bt_isinstance rfl m_bool bt_bool (by decide) ?_
              exact ze_name (i := 1) rfl (.inr (.inl rfl))
            · refine ze_and1 ?_
              refine ze_cmp (op_eqD (room64 hr)) op2_eq ?_ ?_ (nomark _)
              · exact ze_name (i := 0) rfl (.inr (.inl rfl))
              · exact ze_name (i := 1) rfl (.inr (.inl rfl))
        · exact zss_nil
      · refine zss_cons ?_ ?_
        · refine zs_if ?_ ?_ ?_
          · refine zt_tru ?_
            refine ze_isi (c := "int") rfl m_isinstance bt_isinstance rfl m_int bt_int (by decide) ?_
            exact ze_name (i := 1) rfl (.inr (.inl rfl))
          · refine zss_one ?_
            refine zs_ret ?_
            refine ze_and ?_ ?_
            · refine ze_isi (c := "int") rfl m_isinstance bt_isinstance rfl m_int bt_int (by decide) ?_
              exact ze_name (i := 0) rfl (.inr (.inl rfl))
            · refine ze_and1 ?_
              refine ze_cmp (op_eqD (room64 hr)) op2_eq ?_ ?_ (nomark _)
              · exact ze_name (i := 0) rfl (.inr (.inl rfl))
              · exact ze_name (i := 1) rfl (.inr (.inl rfl))
          · exact zss_nil
        · refine zss_one ?_
          refine zs_ret ?_
          refine ze_and ?_ ?_
          · refine ze_isi (c := "str") rfl m_isinstance bt_isinstance rfl m_str bt_str (by decide) ?_
            exact ze_name (i := 0) rfl (.inr (.inl rfl))
          · refine ze_and1 ?_
            refine ze_cmp (op_eqD (room64 hr)) op2_eq ?_ ?_ (nomark _)
            · exact ze_name (i := 0) rfl (.inr (.inl rfl))
            · exact ze_name (i := 1) rfl (.inr (.inl rfl))
theorem ok_payable {f : Addr} {od an : Option Addr} {sl : Array (Option Value)} {oc kV dc pm ct : Value} {cd : Value} (lk : K.lookup f = some ⟨oc, od, .func (PySem.W.fnOf "payable" "payable" (defArgs s_payable) (defBody s_payable) (defScope s_payable) .none kV dc pm an cd ct), sl⟩) (hcd : PySem.W.codeIn K cd "payable" = true)
    (m_range : mg "range" = none)
    (m_sorted : mg "sorted" = none)
    (m_tuple : mg "tuple" = none)
    (m_zip : mg "zip" = none) :
    FnOk P w K mg base (L2N.CX P w) 1 f (PySem.W.fnOf "payable" "payable" (defArgs s_payable) (defBody s_payable) (defScope s_payable) .none kV dc pm an cd ct) ["stamps", "store"] (spZ K mg ["stamps", "store"].length (runB N_payable.length b_payable)) := by
  have sc := sc_payable
  refine zfnC (N := N_payable) (ps := ["stamps", "store"]) (k := 0) (d := b_payable) lk hcd sc fun A outer s H E hr tk hp => ?_
  refine zss_cons ?_ ?_
  · refine zs_set (i := 2) sc.nd rfl (.inl rfl) ?_
    refine ze_disp ?_
    refine zp_cons ?_ ?_ ?_
    · exact ze_int
    · exact ze_bl
    · exact zp_nil
  · refine zss_cons ?_ ?_
    · refine zs_for (ts := ([3] ++ ([4] ++ []))) hp rfl ?_ ?_ ?_
      · refine zi_zip rfl m_zip ?_ ?_
        · exact ze_name (i := 0) rfl (.inl rfl)
        · exact ze_name (i := 1) rfl (.inl rfl)
      · refine zg_tup (n := 2) rfl ?_ (lenOk_cons (lenOk_cons lenOk_nil))
        refine zgs_cons ?_ ?_
        · exact zg_name (i := 3) sc.nd rfl (.inl rfl)
        · refine zgs_cons ?_ ?_
          · exact zg_name (i := 4) sc.nd rfl (.inl rfl)
          · exact zgs_nil
      · refine zss_cons ?_ ?_
        · refine zs_set (i := 5) sc.nd rfl (.inl rfl) ?_
          exact ze_dnew false
        · refine zss_cons ?_ ?_
          · refine zs_lock (i := 2) ?_
            refine zs_for (ts := [6]) hp rfl ?_ ?_ ?_
            · exact zi_itD (i := 2) rfl (.inl rfl)
            · exact zg_name (i := 6) sc.nd rfl (.inl rfl)
            · refine zss_one ?_
              refine zs_for (ts := [7]) hp rfl ?_ ?_ ?_
              · refine zi_range1 rfl m_range ?_
                refine ze_op opr_add op2_add ?_ ?_
                · exact ze_name (i := 4) rfl (.inl rfl)
                · exact ze_int
              · exact zg_name (i := 7) sc.nd rfl (.inl rfl)
              · refine zss_one ?_
                refine zs_dput (i := 5) (rm1 hr) rfl (.inl rfl) ?_ ?_
                · refine ze_op opr_add op2_add ?_ ?_
                  · exact ze_name (i := 6) rfl (.inl rfl)
                  · refine ze_op opr_mul op2_mul ?_ ?_
                    · exact ze_name (i := 7) rfl (.inl rfl)
                    · exact ze_name (i := 3) rfl (.inl rfl)
                · exact ze_bl
          · refine zss_one ?_
            exact zs_move (i := 2) (j := 5) sc.nd rfl (.inl rfl) rfl (.inl rfl)
    · refine zss_one ?_
      refine zs_ret ?_
      refine ze_callT1 call_tuple_of op1_tuple rfl m_tuple bt_tuple ?_
      refine ze_sortD rfl (room65 hr) rfl m_sorted bt_sorted ?_
      exact ze_name (i := 2) rfl (.inl rfl)
theorem ok_least_over {f : Addr} {od an : Option Addr} {sl : Array (Option Value)} {oc kV dc pm ct : Value} {cd : Value} (lk : K.lookup f = some ⟨oc, od, .func (PySem.W.fnOf "least_over" "least_over" (defArgs s_least_over) (defBody s_least_over) (defScope s_least_over) .none kV dc pm an cd ct), sl⟩) (hcd : PySem.W.codeIn K cd "least_over" = true)
    {f_payable : Addr} {fd_payable : FuncData} (D_payable : DefI P w K mg base 1 "payable" f_payable fd_payable ["stamps", "store"] m_payable)
    {C_OutOfRange : Addr} (E_OutOfRange : ClsE K mg "OutOfRange" C_OutOfRange) (x_OutOfRange : PySem.W.excIn K C_OutOfRange [.type "ValueError", .type "Exception", .type "BaseException", .type "object"] "ValueError.__new__" = true)
    (ET : ExT K mg exN exS) :
    FnOk P w K mg base (L2N.CX P w) 2 f (PySem.W.fnOf "least_over" "least_over" (defArgs s_least_over) (defBody s_least_over) (defScope s_least_over) .none kV dc pm an cd ct) ["stamps", "store", "total"] (spZ K mg ["stamps", "store", "total"].length (runB N_least_over.length b_least_over)) := by
  have sc := sc_least_over
  refine zfnC (N := N_least_over) (ps := ["stamps", "store", "total"]) (k := 1) (d := b_least_over) lk hcd sc fun A outer s H E hr tk hp => ?_
  refine zss_cons ?_ ?_
  · refine zs_if ?_ ?_ ?_
    · refine zt_cmp op_lt op2_cmp ?_ ?_ (nomark _)
      · exact ze_name (i := 2) rfl (.inl rfl)
      · exact ze_int
    · refine zss_one ?_
      exact zs_raise (x := "OutOfRange") rfl tk PySem.F.excBase_ValueError x_OutOfRange E_OutOfRange.g E_OutOfRange.k E_OutOfRange.raises rfl
    · exact zss_nil
  · refine zss_cons ?_ ?_
    · refine zs_for (ts := [3]) hp rfl ?_ ?_ ?_
      · refine zi_it ?_
        refine ze_call (x := "payable") (ps := ["stamps", "store"]) (φ := m_payable) D_payable.F (hr.mono (by decide)) tk rfl D_payable.hm D_payable.hk D_payable.hb ?_
        refine zl_cons ?_ ?_
        · exact ze_name (i := 0) rfl (.inl rfl)
        · refine zl_cons ?_ ?_
          · exact ze_name (i := 1) rfl (.inl rfl)
          · exact zl_nil
      · exact zg_name (i := 3) sc.nd rfl (.inl rfl)
      · refine zss_one ?_
        refine zs_if ?_ ?_ ?_
        · refine zt_cmp op_ge op2_cmp ?_ ?_ (nomark _)
          · exact ze_name (i := 3) rfl (.inl rfl)
          · exact ze_name (i := 2) rfl (.inl rfl)
        · refine zss_one ?_
          exact zs_retM (i := 3) rfl (.inl rfl)
        · exact zss_nil
    · refine zss_one ?_
      refine zs_ret ?_
      exact ze_non
theorem ok__law_told {f : Addr} {od an : Option Addr} {sl : Array (Option Value)} {oc kV dc pm ct : Value} {cd : Value} (lk : K.lookup f = some ⟨oc, od, .func (PySem.W.fnOf "_law_told" "_law_told" (defArgs s__law_told) (defBody s__law_told) (defScope s__law_told) .none kV dc pm an cd ct), sl⟩) (hcd : PySem.W.codeIn K cd "_law_told" = true)
    {f_least_over : Addr} {fd_least_over : FuncData} (D_least_over : DefI P w K mg base 2 "least_over" f_least_over fd_least_over ["stamps", "store", "total"] m_least_over)
    {f__law_word : Addr} {fd__law_word : FuncData} (D__law_word : DefP P w K mg base Tabs.t exN 1 "_law_word" f__law_word fd__law_word "e" m__law_word)
    {C_PostError : Addr} (E_PostError : ClsE K mg "PostError" C_PostError) (x_PostError : PySem.W.excIn K C_PostError [.type "ValueError", .type "Exception", .type "BaseException", .type "object"] "ValueError.__new__" = true)
    (hno : ∀ b k, Tabs.ex b k → False)
    (ET : ExT K mg exN exS) :
    FnOk P w K mg base (L2N.CX P w) 3 f (PySem.W.fnOf "_law_told" "_law_told" (defArgs s__law_told) (defBody s__law_told) (defScope s__law_told) .none kV dc pm an cd ct) ["stamps", "store", "total"] (spZ K mg ["stamps", "store", "total"].length (runB N__law_told.length b__law_told)) := by
  have sc := sc__law_told
  refine zfnC (N := N__law_told) (ps := ["stamps", "store", "total"]) (k := 2) (d := b__law_told) lk hcd sc fun A outer s H E hr tk hp => ?_
  refine zss_one ?_
  refine zs_try (i := 3) (x := "PostError") (sub := exS) rfl rfl sc.nd rfl rfl rfl rfl E_PostError.g tk ET (by decide) ?_ ?_ hno
  · intro W1 pn1 xe1 tk hp; show ZSs _ _ _ _
    refine zss_one ?_
    refine zs_ret ?_
    refine ze_call (x := "least_over") (ps := ["stamps", "store", "total"]) (φ := m_least_over) D_least_over.F (hr.mono (by decide)) tk rfl D_least_over.hm D_least_over.hk D_least_over.hb ?_
    refine zl_cons ?_ ?_
    · exact ze_name (i := 0) rfl (.inl rfl)
    · refine zl_cons ?_ ?_
      · exact ze_name (i := 1) rfl (.inl rfl)
      · refine zl_cons ?_ ?_
        · exact ze_name (i := 2) rfl (.inl rfl)
        · exact zl_nil
  · intro a1 oe1 D1 m1 pn1 hmn hmD hz1 hv1 hno1; letI TB2 : Tabs := Tabs.more TB a1 m1; have hrH := roomS (v := some (.ref a1)) hr; show ZSs _ _ _ _
    refine zss_one ?_
    refine zs_ret ?_
    exact ze_callP (x := "_law_word") (i := 3) (φ := m__law_word) D__law_word.F (hrH.mono (by decide)) (exHot_suite hmn hmD hz1 hv1 hno) rfl D__law_word.hm D__law_word.hk D__law_word.hb rfl (.inl rfl) rfl rfl rfl
theorem ok__law_says {f : Addr} {od an : Option Addr} {sl : Array (Option Value)} {oc kV dc pm ct : Value} {cd : Value} (lk : K.lookup f = some ⟨oc, od, .func (PySem.W.fnOf "_law_says" "_law_says" (defArgs s__law_says) (defBody s__law_says) (defScope s__law_says) .none kV dc pm an cd ct), sl⟩) (hcd : PySem.W.codeIn K cd "_law_says" = true)
    (m_bool : mg "bool" = none)
    (m_isinstance : mg "isinstance" = none) :
    FnOk P w K mg base (L2N.CX P w) 1 f (PySem.W.fnOf "_law_says" "_law_says" (defArgs s__law_says) (defBody s__law_says) (defScope s__law_says) .none kV dc pm an cd ct) ["told", "due"] (spZ K mg ["told", "due"].length (runB N__law_says.length b__law_says)) := by
  have sc := sc__law_says
  refine zfnC (N := N__law_says) (ps := ["told", "due"]) (k := 0) (d := b__law_says) lk hcd sc fun A outer s H E hr tk hp => ?_
  refine zss_one ?_
  refine zs_ret ?_
  refine ze_and ?_ ?_
  · refine ze_isi (c := "bool") rfl m_isinstance bt_isinstance rfl m_bool bt_bool (by decide) ?_
    exact ze_name (i := 0) rfl (.inl rfl)
  · refine ze_and1 ?_
    refine ze_cmp (op_eqD (room64 hr)) op2_eq ?_ ?_ (nomark _)
    · exact ze_name (i := 0) rfl (.inl rfl)
    · exact ze_name (i := 1) rfl (.inl rfl)
theorem ok_is_number {f : Addr} {od an : Option Addr} {sl : Array (Option Value)} {oc kV dc pm ct : Value} {cd : Value} (lk : K.lookup f = some ⟨oc, od, .func (PySem.W.fnOf "is_number" "is_number" (defArgs s_is_number) (defBody s_is_number) (defScope s_is_number) .none kV dc pm an cd ct), sl⟩) (hcd : PySem.W.codeIn K cd "is_number" = true)
    (m_bool : mg "bool" = none)
    (m_int : mg "int" = none)
    (m_isinstance : mg "isinstance" = none) :
    FnOk P w K mg base (L2N.CX P w) 1 f (PySem.W.fnOf "is_number" "is_number" (defArgs s_is_number) (defBody s_is_number) (defScope s_is_number) .none kV dc pm an cd ct) ["value", "least", "most"] (spZ K mg ["value", "least", "most"].length (runB N_is_number.length b_is_number)) := by
  have sc := sc_is_number
  refine zfnC (N := N_is_number) (ps := ["value", "least", "most"]) (k := 0) (d := b_is_number) lk hcd sc fun A outer s H E hr tk hp => ?_
  refine zss_one ?_
  refine zs_ret ?_
  refine ze_and ?_ ?_
  · refine ze_isi (c := "int") rfl m_isinstance bt_isinstance rfl m_int bt_int (by decide) ?_
    exact ze_name (i := 0) rfl (.inl rfl)
  · refine ze_and ?_ ?_
    · refine ze_not ?_
      refine ze_isi (c := "bool") rfl m_isinstance bt_isinstance rfl m_bool bt_bool (by decide) ?_
      exact ze_name (i := 0) rfl (.inl rfl)
    · refine ze_and1 ?_
      refine ze_chain op_le op2_cmp op_le op2_cmp ?_ ?_ ?_
      · exact ze_name (i := 1) rfl (.inl rfl)
      · exact ze_name (i := 0) rfl (.inl rfl)
      · exact ze_name (i := 2) rfl (.inl rfl)
theorem ok_are_stamps {f : Addr} {od an : Option Addr} {sl : Array (Option Value)} {oc kV dc pm ct : Value} {cc : Addr} (lk : K.lookup f = some ⟨oc, od, .func (PySem.W.fnOf "are_stamps" "are_stamps" (defArgs s_are_stamps) (defBody s_are_stamps) (defScope s_are_stamps) .none kV dc pm an (.ref cc) ct), sl⟩) (hcd : PySem.W.codeIn K (.ref cc) "are_stamps" = true)
    (m_all : mg "all" = none)
    (m_isinstance : mg "isinstance" = none)
    (m_len : mg "len" = none)
    (m_range : mg "range" = none)
    (m_tuple : mg "tuple" = none)
    {t_MOST_KINDS : Tok} (g_MOST_KINDS : mg "MOST_KINDS" = some (.int 6 t_MOST_KINDS))
    {t_MOST_STAMP : Tok} (g_MOST_STAMP : mg "MOST_STAMP" = some (.int 1000 t_MOST_STAMP))
    {f_is_number : Addr} {fd_is_number : FuncData} (D_is_number : DefI P w K mg base 1 "is_number" f_is_number fd_is_number ["value", "least", "most"] m_is_number)
    {Pt : Addr} (Tb : LamX.TabB base mg cc Pt) (hTb : Tabs.t Pt) :
    FnOk P w K mg base (L2N.CX P w) 3 f (PySem.W.fnOf "are_stamps" "are_stamps" (defArgs s_are_stamps) (defBody s_are_stamps) (defScope s_are_stamps) .none kV dc pm an (.ref cc) ct) ["value"] (spZ K mg ["value"].length (runB N_are_stamps.length b_are_stamps)) := by
  have sc := sc_are_stamps
  refine zfnC (N := N_are_stamps) (ps := ["value"]) (k := 2) (d := b_are_stamps) lk hcd sc fun A outer s H E hr tk hp => ?_
  refine zss_cons ?_ ?_
  · refine zs_if ?_ ?_ ?_
    · refine ZW.zt ?_
      refine zw_or ?_ ?_
      · refine zt_not ?_
        refine zt_tru ?_
        refine ze_isi (c := "tuple") rfl m_isinstance bt_isinstance rfl m_tuple bt_tuple (by decide) ?_
        exact ze_name (i := 0) rfl (.inr (.inl rfl))
      · refine zw_or1 ?_
        refine zt_not ?_
        refine zt_chain op_le op2_cmp op_le op2_cmp ?_ ?_ ?_
        · exact ze_int
        · refine ze_len rfl m_len bt_len ?_
          exact ze_name (i := 0) rfl (.inr (.inl rfl))
        · exact ze_glob (v := .int 6) (d := .int 6) rfl g_MOST_KINDS ⟨_, rfl⟩ fun _ => .int _
    · refine zss_one ?_
      refine zs_ret ?_
      exact ze_bl
    · exact zss_nil
  · refine zss_cons ?_ ?_
    · refine zs_if ?_ ?_ ?_
      · refine zt_not ?_
        refine zt_tru ?_
        refine ze_all (own := [("one", 2)]) (ts := [2]) (k := 1) hr rfl m_all Tb hTb rfl rfl sc.nd (gxOk (by kernel_rfl)) (by decide) ?_ ?_ ?_ ?_
        · refine zi_it ?_
          exact ze_name (i := 0) rfl (.inr (.inl rfl))
        · intro _ _ _ _ _ _ _ _ hr'; show ZG _ _ _ _
          exact zg_name (i := 2) sc.nd rfl (.inl rfl)
        · intro _ _ _ _ _ _ _ _ hr'; show ZTs _ _ _ _
          exact zts_nil
        · intro _ _ _ _ _ _ _ _ hr'; show ZE _ _ _ _
          refine ze_call (x := "is_number") (ps := ["value", "least", "most"]) (φ := m_is_number) D_is_number.F (hr'.mono (by decide)) takesF rfl D_is_number.hm D_is_number.hk D_is_number.hb ?_
          refine zl_cons ?_ ?_
          · exact ze_name (i := 2) rfl (.inl rfl)
          · refine zl_cons ?_ ?_
            · refine ze_val ?_
              exact ze_int
            · refine zl_cons ?_ ?_
              · refine ze_val ?_
                exact ze_glob (v := .int 1000) (d := .int 1000) rfl g_MOST_STAMP ⟨_, rfl⟩ fun _ => .int _
              · exact zl_nil
      · refine zss_one ?_
        refine zs_ret ?_
        exact ze_bl
      · exact zss_nil
    · refine zss_one ?_
      refine zs_ret ?_
      refine ze_all (own := [("at", 1)]) (ts := [1]) (k := 1) hr rfl m_all Tb hTb rfl rfl sc.nd (gxOk (by kernel_rfl)) (by decide) ?_ ?_ ?_ ?_
      · refine zi_range2 rfl m_range ?_ ?_
        · exact ze_int
        · refine ze_len rfl m_len bt_len ?_
          exact ze_name (i := 0) rfl (.inr (.inl rfl))
      · intro _ _ _ _ _ _ _ _ hr'; show ZG _ _ _ _
        exact zg_name (i := 1) sc.nd rfl (.inl rfl)
      · intro _ _ _ _ _ _ _ _ hr'; show ZTs _ _ _ _
        exact zts_nil
      · intro _ _ _ _ _ _ _ _ hr'; show ZE _ _ _ _
        refine ze_cmp op_lt op2_cmp ?_ ?_ (nomark _)
        · refine ze_ix ?_ ?_
          · exact ze_name (i := 0) rfl (.inr (.inr rfl))
          · refine ze_op op_sub op2_sub ?_ ?_
            · exact ze_name (i := 1) rfl (.inl rfl)
            · exact ze_int
        · refine ze_ix ?_ ?_
          · exact ze_name (i := 0) rfl (.inr (.inr rfl))
          · exact ze_name (i := 1) rfl (.inl rfl)
theorem ok_is_stamp_store {f : Addr} {od an : Option Addr} {sl : Array (Option Value)} {oc kV dc pm ct : Value} {cc : Addr} (lk : K.lookup f = some ⟨oc, od, .func (PySem.W.fnOf "is_stamp_store" "is_stamp_store" (defArgs s_is_stamp_store) (defBody s_is_stamp_store) (defScope s_is_stamp_store) .none kV dc pm an (.ref cc) ct), sl⟩) (hcd : PySem.W.codeIn K (.ref cc) "is_stamp_store" = true)
    (m_all : mg "all" = none)
    (m_isinstance : mg "isinstance" = none)
    (m_len : mg "len" = none)
    (m_tuple : mg "tuple" = none)
    {t_MOST_THERE : Tok} (g_MOST_THERE : mg "MOST_THERE" = some (.int 20 t_MOST_THERE))
    {f_is_number : Addr} {fd_is_number : FuncData} (D_is_number : DefI P w K mg base 1 "is_number" f_is_number fd_is_number ["value", "least", "most"] m_is_number)
    {Pt : Addr} (Tb : LamX.TabB base mg cc Pt) (hTb : Tabs.t Pt) :
    FnOk P w K mg base (L2N.CX P w) 3 f (PySem.W.fnOf "is_stamp_store" "is_stamp_store" (defArgs s_is_stamp_store) (defBody s_is_stamp_store) (defScope s_is_stamp_store) .none kV dc pm an (.ref cc) ct) ["stamps", "value"] (spZ K mg ["stamps", "value"].length (runB N_is_stamp_store.length b_is_stamp_store)) := by
  have sc := sc_is_stamp_store
  refine zfnC (N := N_is_stamp_store) (ps := ["stamps", "value"]) (k := 2) (d := b_is_stamp_store) lk hcd sc fun A outer s H E hr tk hp => ?_
  refine zss_cons ?_ ?_
  · refine zs_if ?_ ?_ ?_
    · refine ZW.zt ?_
      refine zw_or ?_ ?_
      · refine zt_not ?_
        refine zt_tru ?_
        refine ze_isi (c := "tuple") rfl m_isinstance bt_isinstance rfl m_tuple bt_tuple (by decide) ?_
        exact ze_name (i := 1) rfl (.inl rfl)
      · refine zw_or1 ?_
        refine zt_cmp (op_neD (room64 hr)) op2_ne ?_ ?_ (nomark _)
        · refine ze_len rfl m_len bt_len ?_
          exact ze_name (i := 1) rfl (.inl rfl)
        · refine ze_len rfl m_len bt_len ?_
          exact ze_name (i := 0) rfl (.inl rfl)
    · refine zss_one ?_
      refine zs_ret ?_
      exact ze_bl
    · exact zss_nil
  · refine zss_one ?_
    refine zs_ret ?_
    refine ze_all (own := [("one", 2)]) (ts := [2]) (k := 1) hr rfl m_all Tb hTb rfl rfl sc.nd (gxOk (by kernel_rfl)) (by decide) ?_ ?_ ?_ ?_
    · refine zi_it ?_
      exact ze_name (i := 1) rfl (.inl rfl)
    · intro _ _ _ _ _ _ _ _ hr'; show ZG _ _ _ _
      exact zg_name (i := 2) sc.nd rfl (.inl rfl)
    · intro _ _ _ _ _ _ _ _ hr'; show ZTs _ _ _ _
      exact zts_nil
    · intro _ _ _ _ _ _ _ _ hr'; show ZE _ _ _ _
      refine ze_call (x := "is_number") (ps := ["value", "least", "most"]) (φ := m_is_number) D_is_number.F (hr'.mono (by decide)) takesF rfl D_is_number.hm D_is_number.hk D_is_number.hb ?_
      refine zl_cons ?_ ?_
      · exact ze_name (i := 2) rfl (.inl rfl)
      · refine zl_cons ?_ ?_
        · refine ze_val ?_
          exact ze_int
        · refine zl_cons ?_ ?_
          · refine ze_val ?_
            exact ze_glob (v := .int 20) (d := .int 20) rfl g_MOST_THERE ⟨_, rfl⟩ fun _ => .int _
          · exact zl_nil
theorem ok_law {f : Addr} {od an : Option Addr} {sl : Array (Option Value)} {oc kV dc pm ct : Value} {cd : Value} (lk : K.lookup f = some ⟨oc, od, .func (PySem.W.fnOf "law" "law" (defArgs s_law) (defBody s_law) (defScope s_law) .none kV dc pm an cd ct), sl⟩) (hcd : PySem.W.codeIn K cd "law" = true)
    (m_list : mg "list" = none)
    (m_min : mg "min" = none)
    (m_range : mg "range" = none)
    (m_tuple : mg "tuple" = none)
    {f__law_alike : Addr} {fd__law_alike : FuncData} (D__law_alike : DefI P w K mg base 13 "_law_alike" f__law_alike fd__law_alike ["found", "due"] (m__law_alike 12))
    {f__law_draws : Addr} {fd__law_draws : FuncData} (D__law_draws : DefI P w K mg base 1 "_law_draws" f__law_draws fd__law_draws ["script"] m__law_draws)
    {f__law_payable : Addr} {fd__law_payable : FuncData} (D__law_payable : DefI P w K mg base 1 "_law_payable" f__law_payable fd__law_payable ["stamps", "store"] m__law_payable)
    {f__law_says : Addr} {fd__law_says : FuncData} (D__law_says : DefI P w K mg base 1 "_law_says" f__law_says fd__law_says ["told", "due"] m__law_says)
    {f__law_stamps : Addr} {fd__law_stamps : FuncData} (D__law_stamps : DefI P w K mg base 2 "_law_stamps" f__law_stamps fd__law_stamps ["draws", "most", "top"] m__law_stamps)
    {f__law_take : Addr} {fd__law_take : FuncData} (D__law_take : DefI P w K mg base 1 "_law_take" f__law_take fd__law_take ["draws", "bound"] m__law_take)
    {f__law_told : Addr} {fd__law_told : FuncData} (D__law_told : DefI P w K mg base 3 "_law_told" f__law_told fd__law_told ["stamps", "store", "total"] m__law_told)
    {f_are_stamps : Addr} {fd_are_stamps : FuncData} (D_are_stamps : DefI P w K mg base 3 "are_stamps" f_are_stamps fd_are_stamps ["value"] m_are_stamps)
    {f_is_stamp_store : Addr} {fd_is_stamp_store : FuncData} (D_is_stamp_store : DefI P w K mg base 3 "is_stamp_store" f_is_stamp_store fd_is_stamp_store ["stamps", "value"] m_is_stamp_store)
    {f_payable : Addr} {fd_payable : FuncData} (D_payable : DefI P w K mg base 1 "payable" f_payable fd_payable ["stamps", "store"] m_payable) :
    FnOk P w K mg base (L2N.CX P w) 14 f (PySem.W.fnOf "law" "law" (defArgs s_law) (defBody s_law) (defScope s_law) .none kV dc pm an cd ct) ["script"] (spZ K mg ["script"].length (runB N_law.length b_law)) := by
  have sc := sc_law
  refine zfnC (N := N_law) (ps := ["script"]) (k := 13) (d := b_law) lk hcd sc fun A outer s H E hr tk hp => ?_
  refine zss_cons ?_ ?_
  · refine zs_set (i := 1) sc.nd rfl (.inr rfl) ?_
    refine ze_call (x := "_law_draws") (ps := ["script"]) (φ := m__law_draws) D__law_draws.F (hr.mono (by decide)) tk rfl D__law_draws.hm D__law_draws.hk D__law_draws.hb ?_
    refine zl_cons ?_ ?_
    · exact ze_name (i := 0) rfl (.inl rfl)
    · exact zl_nil
  · refine zss_cons ?_ ?_
    · refine zs_set (i := 2) sc.nd rfl (.inr rfl) ?_
      refine ze_call (x := "_law_stamps") (ps := ["draws", "most", "top"]) (φ := m__law_stamps) D__law_stamps.F (hr.mono (by decide)) tk rfl D__law_stamps.hm D__law_stamps.hk D__law_stamps.hb ?_
      refine zl_cons ?_ ?_
      · exact ze_name (i := 1) rfl (.inr (.inl rfl))
      · refine zl_cons ?_ ?_
        · refine ze_val ?_
          exact ze_int
        · refine zl_cons ?_ ?_
          · refine ze_val ?_
            exact ze_int
          · exact zl_nil
    · refine zss_cons ?_ ?_
      · refine zs_set (i := 3) sc.nd rfl (.inl rfl) ?_
        refine ze_callT1 call_tuple_of op1_tuple rfl m_tuple bt_tuple ?_
        refine ze_lc (own := [("stamp", 13)]) (ts := [13]) rfl sc.nd ?_ (blkOk (by kernel_rfl)) (by decide) ?_ ?_ ?_
        · refine zi_it ?_
          exact ze_name (i := 2) rfl (.inr (.inl rfl))
        · intro _ _ _ _ _; show ZG _ _ _ _
          exact zg_name (i := 13) sc.nd rfl (.inl rfl)
        · intro _ _ _ _ _; show ZTs _ _ _ _
          exact zts_nil
        · intro _ _ _ _ _; show ZE _ _ _ _
          refine ze_call (x := "_law_take") (ps := ["draws", "bound"]) (φ := m__law_take) D__law_take.F (hr.mono (by decide)) takesF rfl D__law_take.hm D__law_take.hk D__law_take.hb ?_
          refine zl_cons ?_ ?_
          · exact ze_name (i := 1) rfl (.inr (.inl rfl))
          · refine zl_cons ?_ ?_
            · refine ze_val ?_
              refine ze_ix ?_ ?_
              · refine ze_lst ?_
                refine za_cons ?_ ?_
                · exact ze_int
                · refine za_cons ?_ ?_
                  · exact ze_int
                  · exact za_nil
              · refine ze_call (x := "_law_take") (ps := ["draws", "bound"]) (φ := m__law_take) D__law_take.F (hr.mono (by decide)) takesF rfl D__law_take.hm D__law_take.hk D__law_take.hb ?_
                refine zl_cons ?_ ?_
                · exact ze_name (i := 1) rfl (.inr (.inl rfl))
                · refine zl_cons ?_ ?_
                  · refine ze_val ?_
                    exact ze_int
                  · exact zl_nil
            · exact zl_nil
      · refine zss_cons ?_ ?_
        · refine zs_set (i := 4) sc.nd rfl (.inl rfl) ?_
          refine ze_callT1 call_tuple_of op1_tuple rfl m_tuple bt_tuple ?_
          refine ze_lc (own := [("one", 14)]) (ts := [14]) rfl sc.nd ?_ (blkOk (by kernel_rfl)) (by decide) ?_ ?_ ?_
          · refine zi_it ?_
            exact ze_name (i := 3) rfl (.inl rfl)
          · intro _ _ _ _ _; show ZG _ _ _ _
            exact zg_name (i := 14) sc.nd rfl (.inl rfl)
          · intro _ _ _ _ _; show ZTs _ _ _ _
            exact zts_nil
          · intro _ _ _ _ _; show ZE _ _ _ _
            refine ze_callB2 (call_min2 rfl) op2_min2 rfl m_min bt_min ?_ ?_
            · exact ze_int
            · refine ze_op opr_add op2_add ?_ ?_
              · exact ze_name (i := 14) rfl (.inl rfl)
              · refine ze_call (x := "_law_take") (ps := ["draws", "bound"]) (φ := m__law_take) D__law_take.F (hr.mono (by decide)) takesF rfl D__law_take.hm D__law_take.hk D__law_take.hb ?_
                refine zl_cons ?_ ?_
                · exact ze_name (i := 1) rfl (.inr (.inl rfl))
                · refine zl_cons ?_ ?_
                  · refine ze_val ?_
                    exact ze_int
                  · exact zl_nil
        · refine zss_cons ?_ ?_
          · refine zs_par2 (i := 5) (j := 6) rfl sc.nd rfl rfl (by decide) rfl rfl ?_
            refine zl_cons ?_ ?_
            · refine ze_val ?_
              refine ze_call (x := "_law_payable") (ps := ["stamps", "store"]) (φ := m__law_payable) D__law_payable.F (hr.mono (by decide)) tk rfl D__law_payable.hm D__law_payable.hk D__law_payable.hb ?_
              refine zl_cons ?_ ?_
              · exact ze_name (i := 2) rfl (.inr (.inl rfl))
              · refine zl_cons ?_ ?_
                · exact ze_name (i := 3) rfl (.inl rfl)
                · exact zl_nil
            · refine zl_cons ?_ ?_
              · refine ze_val ?_
                refine ze_call (x := "_law_payable") (ps := ["stamps", "store"]) (φ := m__law_payable) D__law_payable.F (hr.mono (by decide)) tk rfl D__law_payable.hm D__law_payable.hk D__law_payable.hb ?_
                refine zl_cons ?_ ?_
                · exact ze_name (i := 2) rfl (.inr (.inl rfl))
                · refine zl_cons ?_ ?_
                  · exact ze_name (i := 4) rfl (.inl rfl)
                  · exact zl_nil
              · exact zl_nil
          · refine zss_cons ?_ ?_
            · refine zs_if ?_ ?_ ?_
              · refine ZW.zt ?_
                refine zw_or ?_ ?_
                · refine zt_not ?_
                  refine zt_tru ?_
                  refine ze_call (x := "_law_says") (ps := ["told", "due"]) (φ := m__law_says) D__law_says.F (hr.mono (by decide)) tk rfl D__law_says.hm D__law_says.hk D__law_says.hb ?_
                  refine zl_cons ?_ ?_
                  · refine ze_val ?_
                    refine ze_call (x := "are_stamps") (ps := ["value"]) (φ := m_are_stamps) D_are_stamps.F (hr.mono (by decide)) tk rfl D_are_stamps.hm D_are_stamps.hk D_are_stamps.hb ?_
                    refine zl_cons ?_ ?_
                    · exact ze_name (i := 2) rfl (.inr (.inl rfl))
                    · exact zl_nil
                  · refine zl_cons ?_ ?_
                    · refine ze_val ?_
                      exact ze_bl
                    · exact zl_nil
                · refine zw_or1 ?_
                  refine zt_not ?_
                  refine zt_tru ?_
                  refine ze_call (x := "_law_says") (ps := ["told", "due"]) (φ := m__law_says) D__law_says.F (hr.mono (by decide)) tk rfl D__law_says.hm D__law_says.hk D__law_says.hb ?_
                  refine zl_cons ?_ ?_
                  · refine ze_val ?_
                    refine ze_call (x := "is_stamp_store") (ps := ["stamps", "value"]) (φ := m_is_stamp_store) D_is_stamp_store.F (hr.mono (by decide)) tk rfl D_is_stamp_store.hm D_is_stamp_store.hk D_is_stamp_store.hb ?_
                    refine zl_cons ?_ ?_
                    · exact ze_name (i := 2) rfl (.inr (.inl rfl))
                    · refine zl_cons ?_ ?_
                      · exact ze_name (i := 3) rfl (.inl rfl)
                      · exact zl_nil
                  · refine zl_cons ?_ ?_
                    · refine ze_val ?_
                      exact ze_bl
                    · exact zl_nil
              · refine zss_one ?_
                refine zs_ret ?_
                exact ze_bl
              · exact zss_nil
            · refine zss_cons ?_ ?_
              · refine zs_if ?_ ?_ ?_
                · refine zt_not ?_
                  refine zt_tru ?_
                  refine ze_call (x := "_law_alike") (ps := ["found", "due"]) (φ := (m__law_alike 12)) D__law_alike.F (hr.mono (by decide)) tk rfl D__law_alike.hm D__law_alike.hk D__law_alike.hb ?_
                  refine zl_cons ?_ ?_
                  · refine ze_val ?_
                    refine ze_lst ?_
                    refine za_cons ?_ ?_
                    · refine ze_call (x := "payable") (ps := ["stamps", "store"]) (φ := m_payable) D_payable.F (hr.mono (by decide)) tk rfl D_payable.hm D_payable.hk D_payable.hb ?_
                      refine zl_cons ?_ ?_
                      · exact ze_name (i := 2) rfl (.inr (.inl rfl))
                      · refine zl_cons ?_ ?_
                        · exact ze_name (i := 3) rfl (.inl rfl)
                        · exact zl_nil
                    · refine za_cons ?_ ?_
                      · refine ze_call (x := "payable") (ps := ["stamps", "store"]) (φ := m_payable) D_payable.F (hr.mono (by decide)) tk rfl D_payable.hm D_payable.hk D_payable.hb ?_
                        refine zl_cons ?_ ?_
                        · exact ze_name (i := 2) rfl (.inr (.inl rfl))
                        · refine zl_cons ?_ ?_
                          · exact ze_name (i := 4) rfl (.inl rfl)
                          · exact zl_nil
                      · exact za_nil
                  · refine zl_cons ?_ ?_
                    · refine ze_val ?_
                      refine ze_lst ?_
                      refine za_cons ?_ ?_
                      · refine ze_callT1 call_tuple_of op1_tuple rfl m_tuple bt_tuple ?_
                        exact ze_name (i := 5) rfl (.inl rfl)
                      · refine za_cons ?_ ?_
                        · refine ze_callT1 call_tuple_of op1_tuple rfl m_tuple bt_tuple ?_
                          exact ze_name (i := 6) rfl (.inl rfl)
                        · exact za_nil
                    · exact zl_nil
                · refine zss_one ?_
                  refine zs_ret ?_
                  exact ze_bl
                · exact zss_nil
              · refine zss_cons ?_ ?_
                · refine zs_for (ts := [7]) hp rfl ?_ ?_ ?_
                  · refine zi_range1 rfl m_range ?_
                    exact ze_int
                  · exact zg_name (i := 7) sc.nd rfl (.inl rfl)
                  · refine zss_cons ?_ ?_
                    · refine zs_set (i := 9) sc.nd rfl (.inr rfl) ?_
                      refine ze_call (x := "_law_take") (ps := ["draws", "bound"]) (φ := m__law_take) D__law_take.F (hr.mono (by decide)) tk rfl D__law_take.hm D__law_take.hk D__law_take.hb ?_
                      refine zl_cons ?_ ?_
                      · exact ze_name (i := 1) rfl (.inr (.inl rfl))
                      · refine zl_cons ?_ ?_
                        · refine ze_val ?_
                          refine ze_op opr_add op2_add ?_ ?_
                          · refine ze_ix ?_ ?_
                            · exact ze_name (i := 5) rfl (.inl rfl)
                            · refine ze_un un_neg op1_neg ?_
                              exact ze_int
                          · exact ze_int
                        · exact zl_nil
                    · refine zss_cons ?_ ?_
                      · refine zs_setLc (i := 10) (own := [("one", 14)]) (ts := [14]) rfl sc.nd rfl rfl (sw_true rfl rfl rfl rfl) ?_ (blkOk (by kernel_rfl)) (by decide) ?_ ?_ ?_
                        · refine zi_it ?_
                          exact ze_name (i := 5) rfl (.inl rfl)
                        · intro _ _ _ _ _; show ZG _ _ _ _
                          exact zg_name (i := 14) sc.nd rfl (.inl rfl)
                        · intro _ _ _ _ _; show ZTs _ _ _ _
                          refine zts_one ?_
                          refine zt_cmp op_ge op2_cmp ?_ ?_ (nomark _)
                          · exact ze_name (i := 14) rfl (.inl rfl)
                          · exact ze_name (i := 9) rfl (.inr (.inl rfl))
                        · intro _ _ _ _ _; show ZE _ _ _ _
                          exact ze_name (i := 14) rfl (.inl rfl)
                      · refine zss_cons ?_ ?_
                        · refine zs_set (i := 11) sc.nd rfl (.inl rfl) ?_
                          refine ze_call (x := "_law_told") (ps := ["stamps", "store", "total"]) (φ := m__law_told) D__law_told.F (hr.mono (by decide)) tk rfl D__law_told.hm D__law_told.hk D__law_told.hb ?_
                          refine zl_cons ?_ ?_
                          · exact ze_name (i := 2) rfl (.inr (.inl rfl))
                          · refine zl_cons ?_ ?_
                            · exact ze_name (i := 3) rfl (.inl rfl)
                            · refine zl_cons ?_ ?_
                              · exact ze_name (i := 9) rfl (.inr (.inl rfl))
                              · exact zl_nil
                        · refine zss_cons ?_ ?_
                          · refine zs_if ?_ ?_ ?_
                            · refine zt_not ?_
                              refine zt_tru ?_
                              refine ze_call (x := "_law_alike") (ps := ["found", "due"]) (φ := (m__law_alike 12)) D__law_alike.F (hr.mono (by decide)) tk rfl D__law_alike.hm D__law_alike.hk D__law_alike.hb ?_
                              refine zl_cons ?_ ?_
                              · exact ze_name (i := 11) rfl (.inl rfl)
                              · refine zl_cons ?_ ?_
                                · refine ze_val ?_
                                  refine ze_if ?_ ?_ ?_
                                  · refine zt_cmp (op_neD (room64 hr)) op2_ne ?_ ?_ (nomark _)
                                    · exact ze_name (i := 10) rfl (.inl rfl)
                                    · refine ze_lst ?_
                                      exact za_nil
                                  · refine ze_ix ?_ ?_
                                    · exact ze_name (i := 10) rfl (.inl rfl)
                                    · exact ze_int
                                  · exact ze_non
                                · exact zl_nil
                            · refine zss_one ?_
                              refine zs_ret ?_
                              exact ze_bl
                            · exact zss_nil
                          · refine zss_cons ?_ ?_
                            · refine zs_set (i := 12) sc.nd rfl (.inl rfl) ?_
                              refine ze_call (x := "_law_told") (ps := ["stamps", "store", "total"]) (φ := m__law_told) D__law_told.F (hr.mono (by decide)) tk rfl D__law_told.hm D__law_told.hk D__law_told.hb ?_
                              refine zl_cons ?_ ?_
                              · exact ze_name (i := 2) rfl (.inr (.inl rfl))
                              · refine zl_cons ?_ ?_
                                · exact ze_name (i := 4) rfl (.inl rfl)
                                · refine zl_cons ?_ ?_
                                  · exact ze_name (i := 9) rfl (.inr (.inl rfl))
                                  · exact zl_nil
                            · refine zss_one ?_
                              refine zs_if ?_ ?_ ?_
                              · refine ZW.zt ?_
                                refine zw_and ?_ ?_
                                · refine zt_cmp opr_isNot op2_isNot ?_ ?_ (nomark _)
                                  · exact ze_name (i := 11) rfl (.inl rfl)
                                  · exact ze_non
                                · refine zw_and1 ?_
                                  refine ZW.zt ?_
                                  refine zw_or ?_ ?_
                                  · refine zt_cmp opr_is op2_is ?_ ?_ (nomark _)
                                    · exact ze_name (i := 12) rfl (.inl rfl)
                                    · exact ze_non
                                  · refine zw_or1 ?_
                                    refine zt_cmp op_gt op2_cmp ?_ ?_ (nomark _)
                                    · exact ze_name (i := 12) rfl (.inl rfl)
                                    · exact ze_name (i := 11) rfl (.inl rfl)
                              · refine zss_one ?_
                                refine zs_ret ?_
                                exact ze_bl
                              · exact zss_nil
                · refine zss_cons ?_ ?_
                  · refine zs_set (i := 8) sc.nd rfl (.inl rfl) ?_
                    refine ze_lst ?_
                    refine za_cons ?_ ?_
                    · exact ze_non
                    · refine za_cons ?_ ?_
                      · refine ze_callT1 call_list_of op1_list rfl m_list bt_list ?_
                        exact ze_name (i := 3) rfl (.inl rfl)
                      · refine za_cons ?_ ?_
                        · refine ze_op opr_add op2_add ?_ ?_
                          · exact ze_name (i := 3) rfl (.inl rfl)
                          · refine ze_tup ?_
                            refine za_cons ?_ ?_
                            · exact ze_int
                            · exact za_nil
                        · refine za_cons ?_ ?_
                          · refine ze_sl ?_ ?_ ?_
                            · exact ze_name (i := 3) rfl (.inl rfl)
                            · refine zo_some ?_
                              exact ze_int
                            · exact zo_none
                          · refine za_cons ?_ ?_
                            · refine ze_op opr_add op2_add ?_ ?_
                              · refine ze_sl ?_ ?_ ?_
                                · exact ze_name (i := 3) rfl (.inl rfl)
                                · exact zo_none
                                · refine zo_some ?_
                                  refine ze_un un_neg op1_neg ?_
                                  exact ze_int
                              · refine ze_tup ?_
                                refine za_cons ?_ ?_
                                · exact ze_int
                                · exact za_nil
                            · refine za_cons ?_ ?_
                              · refine ze_op opr_add op2_add ?_ ?_
                                · refine ze_sl ?_ ?_ ?_
                                  · exact ze_name (i := 3) rfl (.inl rfl)
                                  · exact zo_none
                                  · refine zo_some ?_
                                    refine ze_un un_neg op1_neg ?_
                                    exact ze_int
                                · refine ze_tup ?_
                                  refine za_cons ?_ ?_
                                  · refine ze_un un_neg op1_neg ?_
                                    exact ze_int
                                  · exact za_nil
                              · refine za_cons ?_ ?_
                                · refine ze_op opr_add op2_add ?_ ?_
                                  · refine ze_sl ?_ ?_ ?_
                                    · exact ze_name (i := 3) rfl (.inl rfl)
                                    · exact zo_none
                                    · refine zo_some ?_
                                      refine ze_un un_neg op1_neg ?_
                                      exact ze_int
                                  · refine ze_tup ?_
                                    refine za_cons ?_ ?_
                                    · exact ze_bl
                                    · exact za_nil
                                · refine za_cons ?_ ?_
                                  · refine ze_op opr_add op2_add ?_ ?_
                                    · refine ze_sl ?_ ?_ ?_
                                      · exact ze_name (i := 3) rfl (.inl rfl)
                                      · exact zo_none
                                      · refine zo_some ?_
                                        refine ze_un un_neg op1_neg ?_
                                        exact ze_int
                                    · refine ze_tup ?_
                                      refine za_cons ?_ ?_
                                      · exact ze_non
                                      · exact za_nil
                                  · exact za_nil
                  · refine zss_cons ?_ ?_
                    · refine zs_if ?_ ?_ ?_
                      · refine zt_cmp (op_neD (room64 hr)) op2_ne ?_ ?_ (nomark _)
                        · refine ze_lc (own := [("value", 15)]) (ts := [15]) rfl sc.nd ?_ (blkOk (by kernel_rfl)) (by decide) ?_ ?_ ?_
                          · refine zi_it ?_
                            exact ze_name (i := 8) rfl (.inl rfl)
                          · intro _ _ _ _ _; show ZG _ _ _ _
                            exact zg_name (i := 15) sc.nd rfl (.inl rfl)
                          · intro _ _ _ _ _; show ZTs _ _ _ _
                            refine zts_one ?_
                            refine zt_not ?_
                            refine zt_tru ?_
                            refine ze_call (x := "_law_says") (ps := ["told", "due"]) (φ := m__law_says) D__law_says.F (hr.mono (by decide)) takesF rfl D__law_says.hm D__law_says.hk D__law_says.hb ?_
                            refine zl_cons ?_ ?_
                            · refine ze_val ?_
                              refine ze_call (x := "is_stamp_store") (ps := ["stamps", "value"]) (φ := m_is_stamp_store) D_is_stamp_store.F (hr.mono (by decide)) takesF rfl D_is_stamp_store.hm D_is_stamp_store.hk D_is_stamp_store.hb ?_
                              refine zl_cons ?_ ?_
                              · exact ze_name (i := 2) rfl (.inr (.inl rfl))
                              · refine zl_cons ?_ ?_
                                · exact ze_name (i := 15) rfl (.inl rfl)
                                · exact zl_nil
                            · refine zl_cons ?_ ?_
                              · refine ze_val ?_
                                exact ze_bl
                              · exact zl_nil
                          · intro _ _ _ _ _; show ZE _ _ _ _
                            exact ze_name (i := 15) rfl (.inl rfl)
                        · refine ze_lst ?_
                          exact za_nil
                      · refine zss_one ?_
                        refine zs_ret ?_
                        exact ze_bl
                      · exact zss_nil
                    · refine zss_one ?_
                      refine zs_ret ?_
                      refine ze_cmp (op_eqD (room64 hr)) op2_eq ?_ ?_ (nomark _)
                      · refine ze_call (x := "_law_told") (ps := ["stamps", "store", "total"]) (φ := m__law_told) D__law_told.F (hr.mono (by decide)) tk rfl D__law_told.hm D__law_told.hk D__law_told.hb ?_
                        refine zl_cons ?_ ?_
                        · exact ze_name (i := 2) rfl (.inr (.inl rfl))
                        · refine zl_cons ?_ ?_
                          · exact ze_name (i := 3) rfl (.inl rfl)
                          · refine zl_cons ?_ ?_
                            · refine ze_val ?_
                              refine ze_un un_neg op1_neg ?_
                              exact ze_int
                            · exact zl_nil
                      · exact ze_str
end
end K14

namespace K14
open PySem PySem.Spec PyProof.Rows L2 Z
/-- the dict behind more keys -/
abbrev UM := List (Nat × Unit)
def prs (f : List Nat) (s m : Nat) : UM := f.flatMap fun t => (List.range (m + 1)).map fun j => (t + j * s, ())
theorem mputs_snoc {κ α : Type} [DecidableEq κ] (a b : List (κ × α)) (p : κ × α) : mputs a (b ++ [p]) = mput (mputs a b) p.1 p.2 := by
  unfold mputs; rw [List.foldl_append]; rfl
theorem mputs_app {κ α : Type} [DecidableEq κ] (a b d : List (κ × α)) : mputs a (b ++ d) = mputs (mputs a b) d := by
  unfold mputs; rw [List.foldl_append]
/-- the keys behind one kind -/
def stp (f : List Nat) (p : Nat × Nat) : List Nat := keysOf (mputs [] (prs f p.1 p.2))
theorem stp_mem {f : List Nat} {p : Nat × Nat} {x : Nat} : x ∈ stp f p ↔ ∃ t ∈ f, ∃ j, j ≤ p.2 ∧ x = t + j * p.1 := by
  unfold stp
  rw [mputs_mem]
  simp only [keysOf, List.map_nil, List.not_mem_nil, false_or, prs, List.map_flatMap, List.mem_flatMap, List.map_map, List.mem_map, List.mem_range, Function.comp_apply]
  constructor
  · rintro ⟨t, ht, j, hj, rfl⟩; exact ⟨t, ht, j, by omega, rfl⟩
  · rintro ⟨t, ht, j, hj, rfl⟩; exact ⟨t, ht, j, by omega, rfl⟩
theorem stp_nodup {f : List Nat} {p : Nat × Nat} : (stp f p).Nodup := mputs_nodup (by simp [keysOf])
theorem prs_len {f : List Nat} {s m : Nat} : (prs f s m).length = f.length * (m + 1) := by
  unfold prs
  induction f with
  | nil => simp
  | cons t f ih => rw [List.flatMap_cons, List.length_append, ih]; simp [Nat.add_mul]; omega
theorem stp_len {f : List Nat} {p : Nat × Nat} (h : p.2 ≤ 20) : (stp f p).length ≤ f.length * 21 := by
  have := mputs_len (m := ([] : UM)) (l := prs f p.1 p.2)
  rw [prs_len] at this
  have h2 : f.length * (p.2 + 1) ≤ f.length * 21 := Nat.mul_le_mul_left _ (by omega)
  unfold stp keysOf
  rw [List.length_map]
  simp at this
  omega
def payK (ps : List (Nat × Nat)) : List Nat := ps.foldl stp [0]
def payS (ps : List (Nat × Nat)) : List Nat := ps.foldl (fun f p => sortT (stp f p)) [0]
theorem stp_perm {f g : List Nat} {p : Nat × Nat} (h : f.Perm g) : (stp f p).Perm (stp g p) := same_keys stp_nodup stp_nodup fun x => by
  rw [stp_mem, stp_mem]
  constructor
  · rintro ⟨t, ht, r⟩; exact ⟨t, h.mem_iff.mp ht, r⟩
  · rintro ⟨t, ht, r⟩; exact ⟨t, h.mem_iff.mpr ht, r⟩
theorem pay_perm : ∀ (ps : List (Nat × Nat)) (f g : List Nat), f.Perm g → (ps.foldl (fun f p => sortT (stp f p)) f).Perm (ps.foldl stp g)
  | [], _, _, h => h
  | p :: ps, f, g, h => pay_perm ps _ _ ((sortT_perm _).trans (stp_perm h))
theorem pay_pw : ∀ (ps : List (Nat × Nat)) (f : List Nat), f.Pairwise (fun a b => leT a b = true) → (ps.foldl (fun f p => sortT (stp f p)) f).Pairwise (fun a b => leT a b = true)
  | [], _, h => h
  | p :: ps, f, _ => pay_pw ps _ (sortT_pw _)
theorem payS_eq (ps : List (Nat × Nat)) : sortT (payK ps) = payS ps := by
  have h1 := pay_pw ps [0] (by simp)
  have h2 := pay_perm ps [0] [0] (List.Perm.refl _)
  show sortT (ps.foldl stp [0]) = _
  rw [← sortT_eq h2]
  exact sortT_done h1
theorem payS_pw (ps : List (Nat × Nat)) : (payS ps).Pairwise (fun a b => a ≤ b) := by
  have := pay_pw ps [0] (by simp)
  refine this.imp fun h => ?_
  simp only [leT, lt_nat, Bool.not_eq_true', decide_eq_false_iff_not] at h
  omega
/-- a sum that a store pays -/
def Pays : List (Nat × Nat) → Nat → Nat → Prop
  | [], a, x => x = a
  | p :: ps, a, x => ∃ j, j ≤ p.2 ∧ Pays ps (a + j * p.1) x
theorem pay_mem : ∀ (ps : List (Nat × Nat)) (f : List Nat) (x : Nat), x ∈ ps.foldl (fun f p => sortT (stp f p)) f ↔ ∃ a ∈ f, Pays ps a x
  | [], f, x => by simp [Pays]
  | p :: ps, f, x => by
    rw [List.foldl_cons, pay_mem ps]
    constructor
    · rintro ⟨a, ha, h⟩
      rw [sortT_mem, stp_mem] at ha
      obtain ⟨t, ht, j, hj, rfl⟩ := ha
      exact ⟨t, ht, j, hj, h⟩
    · rintro ⟨t, ht, j, hj, h⟩
      exact ⟨_, by rw [sortT_mem, stp_mem]; exact ⟨t, ht, j, hj, rfl⟩, h⟩
theorem payS_mem {ps : List (Nat × Nat)} {x : Nat} : x ∈ payS ps ↔ Pays ps 0 x := by
  unfold payS; rw [pay_mem]; simp
/-- stamps with a store -/
def zp (st : List Nat) (sto : List Nat) : List (Nat × Nat) := st.zip sto
theorem pays_more : ∀ (st a b : List Nat), a.length = b.length → (∀ k, a.getD k 0 ≤ b.getD k 0) → ∀ x y, Pays (zp st a) x y → Pays (zp st b) x y
  | [], _, _, _, _, _, _, h => by simpa [zp] using h
  | s :: st, [], [], _, _, _, _, h => h
  | s :: st, [], _ :: _, hl, _, _, _, _ => by simp at hl
  | s :: st, _ :: _, [], hl, _, _, _, _ => by simp at hl
  | s :: st, u :: a, v :: b, hl, hk, x, y, h => by
    obtain ⟨j, hj, h⟩ := h
    have h0 := hk 0
    simp at h0
    exact ⟨j, by simp at hj ⊢; omega, pays_more st a b (by simpa using hl) (fun k => by simpa using hk (k + 1)) _ _ h⟩
/-- the least sum from total on -/
def lo (ps : List (Nat × Nat)) (total : Nat) : Option Nat := (payS ps).find? fun x => decide (total ≤ x)
theorem lo_head (ps : List (Nat × Nat)) (total : Nat) : ((payS ps).filter fun x => decide (total ≤ x)).head? = lo ps total := by
  unfold lo; rw [List.head?_filter]
theorem find_min {l : List Nat} {total t u : Nat} (h : l.Pairwise (· ≤ ·)) (h1 : l.find? (fun x => decide (total ≤ x)) = some t) (hu : u ∈ l) (h2 : total ≤ u) : t ≤ u := by
  induction l with
  | nil => cases hu
  | cons x l ih =>
    rw [List.find?_cons] at h1
    obtain ⟨h3, h4⟩ := List.pairwise_cons.mp h
    by_cases hx : total ≤ x
    · rw [decide_eq_true hx] at h1
      injection h1 with h1
      subst h1
      rcases List.mem_cons.mp hu with rfl | hu
      · exact Nat.le_refl _
      · exact h3 u hu
    · rw [decide_eq_false hx] at h1
      rcases List.mem_cons.mp hu with rfl | hu
      · exact absurd h2 hx
      · exact ih h4 h1 hu
theorem lo_more {st a b : List Nat} {total t : Nat} (hl : a.length = b.length) (hk : ∀ k, a.getD k 0 ≤ b.getD k 0) (h : lo (zp st a) total = some t) : ∃ u, lo (zp st b) total = some u ∧ u ≤ t := by
  have ht := List.mem_of_find?_eq_some h
  have h2 := List.find?_some h
  simp only [decide_eq_true_eq] at h2
  have hb : t ∈ payS (zp st b) := payS_mem.mpr (pays_more st a b hl hk 0 t (payS_mem.mp ht))
  cases e : lo (zp st b) total with
  | none => exact absurd h2 (by have := List.find?_eq_none.mp e t hb; simpa using this)
  | some u => exact ⟨u, rfl, find_min (payS_pw _) e hb h2⟩
theorem payK_len : ∀ (ps : List (Nat × Nat)), (∀ p ∈ ps, p.2 ≤ 20) → ∀ (f : List Nat) (g : List Nat → List Nat), (∀ l, (g l).length = l.length) → (ps.foldl (fun f p => g (stp f p)) f).length ≤ f.length * 21 ^ ps.length
  | [], _, f, g, hg => by simp
  | p :: ps, h, f, g, hg => by
    have := payK_len ps (fun q hq => h q (List.mem_cons_of_mem _ hq)) (g (stp f p)) g hg
    have h2 := stp_len (f := f) (h p List.mem_cons_self)
    rw [hg] at this
    rw [List.foldl_cons, List.length_cons, Nat.pow_succ, Nat.mul_comm (21 ^ _), ← Nat.mul_assoc]
    exact Nat.le_trans this (Nat.mul_le_mul_right _ h2)
end K14

namespace K14
open PySem PySem.Spec PyProof.Rows L2 Z
variable {τ : Fr}
abbrev uE : Unit → PyData := fun _ => .bool true
abbrev dE (m : UM) : List (PyData × PyData) := dEnc nE uE m
theorem put_u {m : UM} (k : Nat) (h : m.length < 16777216) : dPut false (dE m) (nE k) (.bool true) = some (dE (mput m k ())) := dPut_ty m k () (size_small (by omega))
theorem put_i {m : UM} (k : Nat) (z : Int) (e : z = (k : Nat)) (h : m.length < 16777216) : dPut false (dE m) (.int z) (.bool true) = some (dE (mput m k ())) := by rw [e]; exact put_u k h
structure Stm (st : List Nat) : Prop where
  l1 : 1 ≤ st.length
  l2 : st.length ≤ 4
  asc : st.Pairwise (· < ·)
  lo : ∀ x ∈ st, 1 ≤ x
  hi : ∀ x ∈ st, x ≤ 20
theorem asc_of {l : List Nat} (h : l.Nodup) : (sortT l).Pairwise (· < ·) := by
  have h1 := sortT_pw l
  have h2 : (sortT l).Nodup := (sortT_perm l).nodup_iff.mpr h
  refine (h1.and h2).imp fun ⟨a, b⟩ => ?_
  simp only [leT, lt_nat, Bool.not_eq_true', decide_eq_false_iff_not] at a
  omega
theorem stamps_ok (L : Tk) : ∃ (L' : Tk) (st : List Nat) (τ : Fr), Stm st ∧ m__law_stamps [.lst true false (Tk.ds L), .fz (.int 4), .fz (.int 20)] = .ok (.fz (.tuple (st.map nE))) τ ∧ cellAt τ 0 = some (.lst true false (Tk.ds L')) := by
  obtain ⟨k, hk, hk4⟩ := tkR_ex L 4 (by decide)
  have hr : rngI [1 + (k : Int)] = some ((List.range (1 + k)).map nE) := by
    have := rngI_nat (n := 1 + k) (by omega)
    rw [show ((1 + k : Nat) : Int) = 1 + (k : Int) by omega] at this
    exact this
  obtain ⟨τ1, e1, L', m, o4, hnd, hrg, hlen, hne, rfl⟩ := for_pre (enc := nE) (it := zRng (zlC (z2 pAdd (zK (.int 1)) (zCall m__law_take 2 (zlC (zN 0) (zlC (zN 1) zlN)))) zlN)) (g := gN 4) (p := l__law_stamps_1)
    (τ := [some (.lst true false (Tk.ds L)), some (.fz (.int 4)), some (.fz (.int 20)), some (.dct false false false []), none, none]) (τi := [some (.lst true false (Tk.ds (Tk.nx L))), some (.fz (.int 4)), some (.fz (.int 20)), some (.dct false false false []), none, none]) (List.range (1 + k))
    (fun pre τ => ∃ (L' : Tk) (m : UM) (o4 : Option Cell), (keysOf m).Nodup ∧ (∀ x ∈ keysOf m, 1 ≤ x ∧ x ≤ 20) ∧ m.length ≤ pre.length ∧ (pre ≠ [] → m ≠ []) ∧ τ = [some (.lst true false (Tk.ds L')), some (.fz (.int 4)), some (.fz (.int 20)), some (.dct false false false (dE m)), o4, none])
    (by simp [hk, hr]) ⟨Tk.nx L, [], none, by simp [keysOf], by simp [keysOf], by simp, by simp, rfl⟩ (by
      rintro pre x post τ hp ⟨L', m, o4, hnd, hrg, hlen, hne, rfl⟩
      obtain ⟨v, hv, hv2⟩ := tkR_ex L' 20 (by decide)
      have hl := congrArg List.length hp
      simp at hl
      refine ⟨_, rfl, [some (.lst true false (Tk.ds (Tk.nx L'))), some (.fz (.int 4)), some (.fz (.int 20)), some (.dct false false false (dE (mput m (1 + v) ()))), some (.fz (nE x)), none], ?_, Tk.nx L', mput m (1 + v) (), _, mput_nodup hnd, fun y hy => ?_, ?_, fun _ => ?_, rfl⟩
      · have hput := put_i (m := m) (1 + v) (1 + (v : Int)) (by omega) (by omega)
        simp [l__law_stamps_1, hv, hput]
      · rcases mput_mem.mp hy with rfl | h
        · omega
        · exact hrg y h
      · have := mput_len (m := m) (k := 1 + v) (v := ())
        simp; omega
      · have : 1 + v ∈ keysOf (mput m (1 + v) ()) := mput_mem.mpr (.inl rfl)
        intro z
        rw [z] at this
        simp [keysOf] at this)
  refine ⟨L', sortT (keysOf m), ?_⟩
  have hl := (show m.length ≤ 1 + k by simpa using hlen)
  have hm : m ≠ [] := hne (by simp [List.range_eq_nil])
  have : ∃ τ, m__law_stamps [.lst true false (Tk.ds L), .fz (.int 4), .fz (.int 20)] = .ok (.fz (.tuple ((sortT (keysOf m)).map nE))) τ ∧ cellAt τ 0 = some (.lst true false (Tk.ds L')) := by
    refine Gw.run ?_
    unfold b__law_stamps
    refine Gw.seq ?_
    simp [frame0]
    unfold r__law_stamps_1
    refine Gw.seq ⟨_, e1, ?_⟩
    unfold r__law_stamps_2
    refine Gw.ret ?_
    have h1 := keysSorted (enc := nE) (ev := uE) (i := 3) (j := 5) (m := m) (τ := [some (.lst true false (Tk.ds L')), some (.fz (.int 4)), some (.fz (.int 20)), some (.dct false false false (dE m)), o4, none]) rfl (by simp) (by omega) (srt_nat _)
    refine ⟨[some (.lst true false (Tk.ds L')), some (.fz (.int 4)), some (.fz (.int 20)), some (.dct false false false (dE m)), o4, none], ?_, rfl⟩
    rw [zRet_ev, z1_ev, h1]
    simp
  obtain ⟨τ, h1, h2⟩ := this
  refine ⟨τ, ⟨?_, ?_, asc_of hnd, ?_, ?_⟩, h1, h2⟩
  · rw [sortT_len]
    cases m with
    | nil => exact absurd rfl hm
    | cons a m => simp [keysOf]
  · rw [sortT_len]; simp [keysOf]; omega
  · intro x hx; exact (hrg x (sortT_mem.mp hx)).1
  · intro x hx; exact (hrg x (sortT_mem.mp hx)).2
end K14

namespace K14
open PySem PySem.Spec PyProof.Rows L2 Z
variable {τ : Fr}
theorem mul_s {x : Nat} {j : Int} (h : x ≤ 1000000) : pMul (.int (x : Nat)) (.int j) = some (.sc (.int (x * j))) := pMul_int (by
  unfold mulOk
  rw [decide_eq_true (show ((x : Nat) : Int).natAbs < 2 ^ 64 by omega)]
  rfl)
theorem range_at {n : Nat} {pre post : List Nat} {x : Nat} (h : List.range n = pre ++ x :: post) : x = pre.length ∧ x < n := by
  have h1 : (List.range n)[pre.length]? = some x := by rw [h]; simp
  obtain ⟨h2, h3⟩ := List.getElem?_eq_some_iff.mp h1
  simp at h2 h3
  omega
def row1 (t s : Nat) (l : List Nat) : UM := l.map fun j => (t + j * s, ())
abbrev pF (st sto : List Nat) (f : Cell) (k : Nat) (m : UM) (o5 o6 : Option Cell) : Fr := [some (.fz (.tuple (st.map nE))), some (.fz (.tuple (sto.map nE))), some f, some (.fz (nE k)), some (.dct false false false (dE m)), o5, o6, none]
theorem lin {st sto : List Nat} {f : Cell} {k t s mx : Nat} {m : UM} {o6 : Option Cell} (hs : st[k]? = some s) (hm : sto[k]? = some mx) (h20 : mx ≤ 20) (hl : m.length + 21 ≤ 16777216) :
    ∃ o6', l__law_payable_2 (pF st sto f k m (some (.fz (nE t))) o6) = .ok .nx (pF st sto f k (mputs m (row1 t s (List.range (mx + 1)))) (some (.fz (nE t))) o6') := by
  have hr : rngI [(mx : Int) + 1] = some ((List.range (mx + 1)).map nE) := rngI_nat (n := mx + 1) (by omega)
  obtain ⟨τ', e, o6', rfl⟩ := for_pre (enc := nE) (it := zRng (zlC (z2 pAdd (z2S pIx (zN 1) (zN 3)) (zK (.int 1))) zlN)) (g := gN 6) (p := l__law_payable_1) (τ := pF st sto f k m (some (.fz (nE t))) o6) (τi := pF st sto f k m (some (.fz (nE t))) o6) (List.range (mx + 1))
    (fun pre τ => ∃ o6', τ = pF st sto f k (mputs m (row1 t s pre)) (some (.fz (nE t))) o6') (by simp [hm, hr]) ⟨o6, rfl⟩ (by
      rintro pre x post τ hp ⟨o6', rfl⟩
      have hx := (range_at hp).2
      have hpl := congrArg List.length hp
      simp at hpl
      have hlen := mputs_len (m := m) (l := row1 t s pre)
      have hrl : (row1 t s pre).length = pre.length := by simp [row1]
      have e0 : mputs m (row1 t s (pre ++ [x])) = mput (mputs m (row1 t s pre)) (t + x * s) () := by
        unfold row1
        rw [List.map_append, List.map_cons, List.map_nil, mputs_snoc]
      have hput := put_i (m := mputs m (row1 t s pre)) (t + x * s) ((t : Int) + (x : Int) * (s : Int)) (by push_cast; rfl) (by omega)
      have hmul := mul_s (x := x) (j := (s : Nat)) (by omega)
      rw [e0]
      refine ⟨_, rfl, _, ?_, some (.fz (nE x)), rfl⟩
      · simp [l__law_payable_1, hs, hmul, hput])
  exact ⟨o6', e⟩
theorem prs_snoc {pre : List Nat} {x s mx : Nat} : prs (pre ++ [x]) s mx = prs pre s mx ++ row1 x s (List.range (mx + 1)) := by
  unfold prs row1
  rw [List.flatMap_append, List.flatMap_cons, List.flatMap_nil, List.append_nil]
theorem lmid {st sto f : List Nat} {k s mx : Nat} {o4 o5 o6 : Option Cell} (hs : st[k]? = some s) (hm : sto[k]? = some mx) (h20 : mx ≤ 20) (hl : f.length ≤ 10000) :
    ∃ m o5' o6', l__law_payable_3 [some (.fz (.tuple (st.map nE))), some (.fz (.tuple (sto.map nE))), some (.lst false false (f.map nE)), some (.fz (nE k)), o4, o5, o6, none] = .ok .nx (pF st sto (.lst false false ((sortT (stp f (s, mx))).map nE)) k m o5' o6') := by
  obtain ⟨τ', e, o5', o6', rfl⟩ := for_slotP (enc := nE) (g := gN 5) (p := l__law_payable_2) (i := 2) (c := .lst false false (f.map nE)) (τ := pF st sto (.lst false false (f.map nE)) k [] o5 o6) f
    (fun c' pre τ => ∃ o5' o6', τ = pF st sto c' k (mputs [] (prs pre s mx)) o5' o6') (.inl rfl) rfl (fun c' => ⟨o5, o6, rfl⟩) (by
      rintro c' pre x post τ hp ⟨o5', o6', rfl⟩
      have hpl := congrArg List.length hp
      simp at hpl
      have hlen := mputs_len (m := ([] : UM)) (l := prs pre s mx)
      rw [prs_len] at hlen
      have h2 : pre.length * (mx + 1) ≤ 10000 * 21 := Nat.mul_le_mul (by omega) (by omega)
      obtain ⟨o6'', e⟩ := lin (f := c') (t := x) (m := mputs [] (prs pre s mx)) (o6 := o6') hs hm h20 (by simp at hlen; omega)
      rw [← mputs_app, ← prs_snoc] at e
      exact ⟨_, rfl, _, e, _, _, rfl⟩) (by
      rintro c' pre τ ⟨o5', o6', rfl⟩
      exact ⟨rfl, _, _, rfl⟩)
  refine ⟨mputs [] (prs f s mx), o5', o6', ?_⟩
  have hlen := stp_len (f := f) (p := (s, mx)) h20
  have h1 := keysSorted (enc := nE) (ev := uE) (i := 4) (j := 7) (m := mputs [] (prs f s mx)) (τ := pF st sto (.lst false false (f.map nE)) k (mputs [] (prs f s mx)) o5' o6') rfl (by simp) (by
    have : (stp f (s, mx)).length = (mputs [] (prs f s mx)).length := by simp [stp, keysOf]
    omega) (srt_nat _)
  unfold l__law_payable_3
  rw [zSeq_ev]
  have e1 : zSet 4 (zDNew false) [some (.fz (.tuple (st.map nE))), some (.fz (.tuple (sto.map nE))), some (.lst false false (f.map nE)), some (.fz (nE k)), o4, o5, o6, none] = .ok .nx (pF st sto (.lst false false (f.map nE)) k [] o5 o6) := by simp; rfl
  rw [e1, kSeq_nx, zSeq_ev, e, kSeq_nx, zSet_ev, h1]
  simp [stp]
theorem zp_take {st sto : List Nat} {k s mx : Nat} (hs : st[k]? = some s) (hm : sto[k]? = some mx) : (zp st sto).take (k + 1) = (zp st sto).take k ++ [(s, mx)] := by
  have e : (zp st sto)[k]? = some (s, mx) := by
    unfold zp; rw [List.getElem?_zip_eq_some]; exact ⟨hs, hm⟩
  rw [List.take_succ, e]; rfl
theorem pow21 : ∀ n, n ≤ 3 → 21 ^ n ≤ 10000 := by decide
theorem lpay_ok {st sto : List Nat} (hl : st.length = sto.length) (h4 : st.length ≤ 4) (h20 : ∀ x ∈ sto, x ≤ 20) : ∃ τ, m__law_payable [.fz (.tuple (st.map nE)), .fz (.tuple (sto.map nE))] = .ok (.lst false false ((payS (zp st sto)).map nE)) τ := by
  refine Gv.run ?_
  unfold b__law_payable
  refine Gv.seq ?_
  simp [frame0]
  unfold r__law_payable_1
  have hr : rngI [(st.length : Int)] = some ((List.range st.length).map nE) := rngI_nat (by omega)
  obtain ⟨τ', e, o3, o4, o5, o6, rfl⟩ := for_pre (enc := nE) (it := zRng (zlC (z1S pLen (zN 0)) zlN)) (g := gN 3) (p := l__law_payable_3) (τ := [some (.fz (.tuple (st.map nE))), some (.fz (.tuple (sto.map nE))), some (.lst false false [.int 0]), none, none, none, none, none]) (τi := [some (.fz (.tuple (st.map nE))), some (.fz (.tuple (sto.map nE))), some (.lst false false [.int 0]), none, none, none, none, none]) (List.range st.length)
    (fun pre τ => ∃ o3 o4 o5 o6, τ = [some (.fz (.tuple (st.map nE))), some (.fz (.tuple (sto.map nE))), some (.lst false false ((payS ((zp st sto).take pre.length)).map nE)), o3, o4, o5, o6, none]) (by simp [hr]) ⟨none, none, none, none, rfl⟩ (by
      rintro pre x post τ hp ⟨o3, o4, o5, o6, rfl⟩
      obtain ⟨rfl, hx⟩ := range_at hp
      have hs := List.getElem?_eq_getElem hx
      have hm := List.getElem?_eq_getElem (show pre.length < sto.length by omega)
      generalize st[pre.length] = s at *
      generalize hmx : sto[pre.length] = mx at *
      have hb := h20 mx (hmx ▸ List.getElem_mem _)
      have hpl := payK_len ((zp st sto).take pre.length) (fun p hp => by
        have := List.mem_of_mem_take hp
        exact h20 _ (List.of_mem_zip this).2) [0] sortT (fun l => sortT_len)
      have hpl2 : (payS ((zp st sto).take pre.length)).length ≤ 10000 := by
        have h3 := pow21 pre.length (by omega)
        have h4 : ((zp st sto).take pre.length).length = pre.length := by simp [zp]; omega
        rw [h4] at hpl
        unfold payS
        simp at hpl
        omega
      obtain ⟨m, o5', o6', e⟩ := lmid (f := payS ((zp st sto).take pre.length)) (k := pre.length) (o4 := o4) (o5 := o5) (o6 := o6) hs hm hb hpl2
      refine ⟨_, rfl, _, e, some (.fz (nE pre.length)), some (.dct false false false (dE m)), o5', o6', ?_⟩
      have : payS ((zp st sto).take (pre ++ [pre.length]).length) = sortT (stp (payS ((zp st sto).take pre.length)) (s, mx)) := by
        rw [List.length_append, List.length_singleton, zp_take hs hm]
        unfold payS
        rw [List.foldl_append]; rfl
      rw [this])
  refine Gv.seq ⟨_, e, ?_⟩
  have : (zp st sto).take (List.range st.length).length = zp st sto := List.take_of_length_le (by simp [zp]; omega)
  rw [this]
  unfold r__law_payable_2
  refine Gv.ret ?_
  simp
end K14

namespace K14
open PySem PySem.Spec PyProof.Rows L2 Z
variable {τ : Fr}
abbrev qF (st sto : List Nat) (f o3 o4 : Option Cell) (m : UM) (o6 o7 : Option Cell) : Fr := [some (.fz (.tuple (st.map nE))), some (.fz (.tuple (sto.map nE))), f, o3, o4, some (.dct false false false (dE m)), o6, o7]
theorem pin {st sto : List Nat} {f : Option Cell} {t s mx : Nat} {m : UM} {o7 : Option Cell} (h20 : mx ≤ 20) (hl : m.length + 21 ≤ 16777216) :
    ∃ o7', l_payable_2 (qF st sto f (some (.fz (nE s))) (some (.fz (nE mx))) m (some (.fz (nE t))) o7) = .ok .nx (qF st sto f (some (.fz (nE s))) (some (.fz (nE mx))) (mputs m (row1 t s (List.range (mx + 1)))) (some (.fz (nE t))) o7') := by
  have hr : rngI [(mx : Int) + 1] = some ((List.range (mx + 1)).map nE) := rngI_nat (n := mx + 1) (by omega)
  obtain ⟨τ', e, o6', rfl⟩ := for_pre (enc := nE) (it := zRng (zlC (z2 pAdd (zN 4) (zK (.int 1))) zlN)) (g := gN 7) (p := l_payable_1) (τ := qF st sto f (some (.fz (nE s))) (some (.fz (nE mx))) m (some (.fz (nE t))) o7) (τi := qF st sto f (some (.fz (nE s))) (some (.fz (nE mx))) m (some (.fz (nE t))) o7) (List.range (mx + 1))
    (fun pre τ => ∃ o6', τ = qF st sto f (some (.fz (nE s))) (some (.fz (nE mx))) (mputs m (row1 t s pre)) (some (.fz (nE t))) o6') (by simp [hr]) ⟨o7, rfl⟩ (by
      rintro pre x post τ hp ⟨o6', rfl⟩
      have hx := (range_at hp).2
      have hpl := congrArg List.length hp
      simp at hpl
      have hlen := mputs_len (m := m) (l := row1 t s pre)
      have hrl : (row1 t s pre).length = pre.length := by simp [row1]
      have e0 : mputs m (row1 t s (pre ++ [x])) = mput (mputs m (row1 t s pre)) (t + x * s) () := by
        unfold row1
        rw [List.map_append, List.map_cons, List.map_nil, mputs_snoc]
      have hput := put_i (m := mputs m (row1 t s pre)) (t + x * s) ((t : Int) + (x : Int) * (s : Int)) (by push_cast; rfl) (by omega)
      have hmul := mul_s (x := x) (j := (s : Nat)) (by omega)
      rw [e0]
      refine ⟨_, rfl, _, ?_, some (.fz (nE x)), rfl⟩
      · simp [l_payable_1, hmul, hput])
  exact ⟨o6', e⟩
theorem pmid {st sto : List Nat} {s mx : Nat} {m : UM} {o5 o6 o7 : Option Cell} (h20 : mx ≤ 20) (hl : m.length ≤ 10000) :
    ∃ m' o6' o7', keysOf m' = stp (keysOf m) (s, mx) ∧ l_payable_3 [some (.fz (.tuple (st.map nE))), some (.fz (.tuple (sto.map nE))), some (.dct false false false (dE m)), some (.fz (nE s)), some (.fz (nE mx)), o5, o6, o7] = .ok .nx [some (.fz (.tuple (st.map nE))), some (.fz (.tuple (sto.map nE))), some (.dct false false false (dE m')), some (.fz (nE s)), some (.fz (nE mx)), none, o6', o7'] := by
  obtain ⟨τ', ⟨o6', o7', rfl⟩, e⟩ := for_dict (enc := nE) (g := gN 6) (p := l_payable_2) (i := 2) (b := false) (tk := false) (kvs := dE m) (τ := qF st sto (some (.dct false false false (dE m))) (some (.fz (nE s))) (some (.fz (nE mx))) [] o6 o7) (keysOf m)
    (fun pre τ => ∃ o6' o7', τ = qF st sto (some (.dct false true false (dE m))) (some (.fz (nE s))) (some (.fz (nE mx))) (mputs [] (prs pre s mx)) o6' o7') rfl dEnc_keys ⟨o6, o7, rfl⟩ (by
      rintro pre x post τ hp ⟨o5', o6', rfl⟩
      have hpl := congrArg List.length hp
      simp [keysOf] at hpl
      have hlen := mputs_len (m := ([] : UM)) (l := prs pre s mx)
      rw [prs_len] at hlen
      have h2 : pre.length * (mx + 1) ≤ 10000 * 21 := Nat.mul_le_mul (by omega) (by omega)
      obtain ⟨o6'', e⟩ := pin (st := st) (sto := sto) (f := some (.dct false true false (dE m))) (s := s) (t := x) (m := mputs [] (prs pre s mx)) (o7 := o6') h20 (by simp at hlen; omega)
      rw [← mputs_app, ← prs_snoc] at e
      exact ⟨_, rfl, _, e, _, _, rfl⟩) (by
      rintro τ ⟨o5', o6', rfl⟩
      rfl)
  refine ⟨mputs [] (prs (keysOf m) s mx), o6', o7', rfl, ?_⟩
  unfold l_payable_3
  rw [zSeq_ev]
  have e1 : zSet 5 (zDNew false) [some (.fz (.tuple (st.map nE))), some (.fz (.tuple (sto.map nE))), some (.dct false false false (dE m)), some (.fz (nE s)), some (.fz (nE mx)), o5, o6, o7] = .ok .nx (qF st sto (some (.dct false false false (dE m))) (some (.fz (nE s))) (some (.fz (nE mx))) [] o6 o7) := by simp; rfl
  rw [e1, kSeq_nx, zSeq_ev, e, kSeq_nx]
  exact zMove_ev (i := 2) (j := 5) rfl (by decide) (by simp)
theorem pay_ok {st sto : List Nat} (hl : st.length = sto.length) (h4 : st.length ≤ 4) (h20 : ∀ x ∈ sto, x ≤ 20) : ∃ τ, m_payable [.fz (.tuple (st.map nE)), .fz (.tuple (sto.map nE))] = .ok (.fz (.tuple ((payS (zp st sto)).map nE))) τ := by
  refine Gv.run ?_
  unfold b_payable
  refine Gv.seq ⟨[some (.fz (.tuple (st.map nE))), some (.fz (.tuple (sto.map nE))), some (.dct false false false (dE [(0, ())])), none, none, none, none, none], ?_, ?_⟩
  · have := dMerge_ty (enc := nE) (ev := uE) (tk := false) [(0, ())] [] (by decide)
    have h0 : dMerge false [] [(PyData.int 0, PyData.bool true)] = some (dE [(0, ())]) := this
    simp [frame0, h0]
  unfold r_payable_1
  obtain ⟨τ', e, o3, o4, o6, o7, m, hk, rfl⟩ := for_pre (enc := pairE nE nE) (it := zZip (zN 0) (zN 1)) (g := gT (gsC (gN 3) (gsC (gN 4) gsN))) (p := l_payable_3) (τ := [some (.fz (.tuple (st.map nE))), some (.fz (.tuple (sto.map nE))), some (.dct false false false (dE [(0, ())])), none, none, none, none, none]) (τi := [some (.fz (.tuple (st.map nE))), some (.fz (.tuple (sto.map nE))), some (.dct false false false (dE [(0, ())])), none, none, none, none, none]) (zp st sto)
    (fun pre τ => ∃ o3 o4 o6 o7 m, keysOf m = payK pre ∧ τ = [some (.fz (.tuple (st.map nE))), some (.fz (.tuple (sto.map nE))), some (.dct false false false (dE m)), o3, o4, none, o6, o7]) (by
      rw [zZip_ev]
      simp [zipL_ty, zp]) ⟨none, none, none, none, [(0, ())], rfl, rfl⟩ (by
      rintro pre ⟨s, mx⟩ post τ hp ⟨o3, o4, o6, o7, m, hk, rfl⟩
      have hpl := congrArg List.length hp
      simp [zp] at hpl
      have hb : mx ≤ 20 := h20 mx (List.of_mem_zip (show (s, mx) ∈ st.zip sto by unfold zp at hp; rw [hp]; simp)).2
      have hml : m.length ≤ 10000 := by
        have := payK_len pre (fun p hp' => h20 _ (List.of_mem_zip (show (p.1, p.2) ∈ st.zip sto by unfold zp at hp; rw [hp]; simp [hp'])).2) [0] id (fun l => rfl)
        have h3 := pow21 pre.length (by omega)
        have h5 : m.length = (payK pre).length := by rw [← hk]; simp [keysOf]
        rw [h5]
        have this : (List.foldl stp [0] pre).length ≤ 1 * 21 ^ pre.length := this
        unfold payK
        omega
      obtain ⟨m', o6', o7', hk', e⟩ := pmid (st := st) (sto := sto) (s := s) (mx := mx) (m := m) (o5 := none) (o6 := o6) (o7 := o7) hb hml
      refine ⟨_, rfl, _, e, _, _, o6', o7', m', ?_, rfl⟩
      rw [hk', hk]
      unfold payK
      rw [List.foldl_append]; rfl)
  refine Gv.seq ⟨_, e, ?_⟩
  unfold r_payable_2
  refine Gv.ret ?_
  have hs := dictSorted (enc := nE) (ev := uE) (m := m) (a := zN 2) (l := .sl 2) (τ := [some (.fz (.tuple (st.map nE))), some (.fz (.tuple (sto.map nE))), some (.dct false false false (dE m)), o3, o4, none, o6, o7]) (τ1 := [some (.fz (.tuple (st.map nE))), some (.fz (.tuple (sto.map nE))), some (.dct false false false (dE m)), o3, o4, none, o6, o7]) (by simp) (by simp) (srt_nat _)
  rw [hk, payS_eq] at hs
  simp [hs]
/-! ### the least over -/
abbrev optE' : Option Nat → PyData := optE nE
theorem over_ok {st sto : List Nat} {total : Nat} (hl : st.length = sto.length) (h4 : st.length ≤ 4) (h20 : ∀ x ∈ sto, x ≤ 20) : ∃ τ, m_least_over [.fz (.tuple (st.map nE)), .fz (.tuple (sto.map nE)), .fz (nE total)] = .ok (.fz (optE nE (lo (zp st sto) total))) τ := by
  have hk := Sp.of (np := 2) (pay_ok hl h4 h20)
  refine Gv.run ?_
  unfold b_least_over
  refine Gv.ifF ⟨[some (.fz (.tuple (st.map nE))), some (.fz (.tuple (sto.map nE))), some (.fz (nE total)), none], ?_, ?_⟩
  · simp [frame0]
  unfold r_least_over_1
  have := Gv.find (enc := nE) (it := zIt (zCall m_payable 2 (zlC (zN 0) (zlC (zN 1) zlN)))) (g := gN 3) (p := l_least_over_1) (q := r_least_over_2) (τ := [some (.fz (.tuple (st.map nE))), some (.fz (.tuple (sto.map nE))), some (.fz (nE total)), none]) (τi := [some (.fz (.tuple (st.map nE))), some (.fz (.tuple (sto.map nE))), some (.fz (nE total)), none]) (payS (zp st sto)) (fun x => decide (total ≤ x)) (fun x => .fz (nE x)) (.fz .none)
    (fun τ => ∃ o, τ = [some (.fz (.tuple (st.map nE))), some (.fz (.tuple (sto.map nE))), some (.fz (nE total)), o]) (by simp [hk]) ⟨_, rfl⟩ (by
      rintro x τ hx ⟨o, rfl⟩
      refine ⟨_, rfl, fun h => ?_, fun h => ?_⟩
      · have h' : (total : Int) ≤ x := by have := of_decide_eq_true h; omega
        simp [l_least_over_1, h']
      · have h' : ¬ (total : Int) ≤ x := by have := of_decide_eq_false h; omega
        exact ⟨_, by simp [l_least_over_1, h']; rfl, _, rfl⟩) (by
      rintro τ ⟨o, rfl⟩
      unfold r_least_over_2
      refine Gv.ret ?_
      simp)
  unfold lo
  cases e : (payS (zp st sto)).find? (fun x => decide (total ≤ x)) with
  | none => rw [e] at this; exact this
  | some x => rw [e] at this; exact this
theorem over_bad {a b : PyData} {z : Int} (h : z < 0) : ∃ τ, m_least_over [.fz a, .fz b, .fz (.int z)] = .exc "OutOfRange" τ := by
  refine Ge.run ?_
  unfold b_least_over
  refine Ge.ifT ⟨[some (.fz a), some (.fz b), some (.fz (.int z)), none], ?_, ?_⟩
  · simp [frame0, h]
  · simp
theorem word_range : ∃ τ, m__law_word [.exc "OutOfRange"] = .ok (.fz (.str (Str.ofString "range"))) τ := of_resS (by decide +kernel)
theorem told_ok {st sto : List Nat} {total : Nat} (hl : st.length = sto.length) (h4 : st.length ≤ 4) (h20 : ∀ x ∈ sto, x ≤ 20) : ∃ τ, m__law_told [.fz (.tuple (st.map nE)), .fz (.tuple (sto.map nE)), .fz (nE total)] = .ok (.fz (optE nE (lo (zp st sto) total))) τ := by
  have hk := Sp.of (np := 3) (over_ok (total := total) hl h4 h20)
  refine Gv.run ?_
  unfold b__law_told
  refine try_ok (τ1 := [some (.fz (.tuple (st.map nE))), some (.fz (.tuple (sto.map nE))), some (.fz (nE total)), none]) ?_
  simp [frame0, hk]
theorem told_bad {a b : PyData} {z : Int} (h : z < 0) : ∃ τ, m__law_told [.fz a, .fz b, .fz (.int z)] = .ok (.fz (.str (Str.ofString "range"))) τ := by
  have hk := SpX.of (np := 3) (over_bad (a := a) (b := b) h)
  refine Gv.run ?_
  unfold b__law_told
  refine try_exc (τ1 := [some (.fz a), some (.fz b), some (.fz (.int z)), none]) (m := "OutOfRange") ?_ word_range rfl (by simp) rfl (by decide)
  simp [frame0, hk]
end K14

namespace K14
open PySem PySem.Spec PyProof.Rows L2 Z
variable {τ : Fr}
def isStore (n : Nat) : PyData → Bool
  | .tuple ds => decide (ds.length = n) && ds.all (isNumD 0 20)
  | _ => false
theorem store_judge (st : List PyData) (d : PyData) : ∃ τ, m_is_stamp_store [.fz (.tuple st), .fz d] = .ok (.fz (.bool (isStore st.length d))) τ := by
  cases d with
  | tuple ds =>
    by_cases h : ds.length = st.length
    · refine Gv.run ?_
      unfold b_is_stamp_store
      refine Gv.ifF ⟨[some (.fz (.tuple st)), some (.fz (.tuple ds)), none], by simp [frame0, tyD, isiTab, h], ?_⟩
      refine Gv.ret ⟨[some (.fz (.tuple st)), some (.fz (.tuple ds)), none], ?_⟩
      have := zQ_all (τi := [some (.fz (.tuple st)), some (.fz (.tuple ds)), none]) (τ := [some (.fz (.tuple st)), some (.fz (.tuple ds)), none]) (it := zIt (zN 1)) (ss := []) (vs := [2]) (g := gN 2) (te := zCall m_is_number 3 (zlC (zN 2) (zlC (zV (zK (.int 0))) (zlC (zV (zK (.int 20))) zlN)))) ds id (isNumD 0 20) (by simp) (fun x hx => ⟨_, rfl, by simp⟩)
      rw [zRet_ev, this]
      simp [isStore, h]
    · have h' : ¬ ((ds.length : Int) = st.length) := by omega
      simp [m_is_stamp_store, runB_ev, frame0, b_is_stamp_store, tyD, isiTab, isStore, h, h']
  | _ => simp [m_is_stamp_store, runB_ev, frame0, b_is_stamp_store, tyD, isiTab, isStore]
theorem says_b (a b : Bool) : ∃ τ, m__law_says [.fz (.bool a), .fz (.bool b)] = .ok (.fz (.bool (decide (a = b)))) τ := by
  cases a <;> cases b <;> simp [m__law_says, runB_ev, frame0, b__law_says, tyD, isiTab, pEq_bool]
theorem are_ok {st : List Nat} (h : Stm st) : ∃ τ, m_are_stamps [.fz (.tuple (st.map nE))] = .ok (.fz (.bool true)) τ := by
  have h1 := h.l1
  have h2 := h.l2
  refine Gv.run ?_
  unfold b_are_stamps
  refine Gv.ifF ⟨[some (.fz (.tuple (st.map nE))), none, none], ?_, ?_⟩
  · have c1 : (1 : Int) ≤ st.length := by omega
    have c2 : (st.length : Int) ≤ 6 := by omega
    simp [frame0, tyD, isiTab, c1, c2]
  unfold r_are_stamps_1
  refine Gv.ifF ⟨[some (.fz (.tuple (st.map nE))), none, none], ?_, ?_⟩
  · refine notT (truT ?_)
    have := zQ_all (τi := [some (.fz (.tuple (st.map nE))), none, none]) (τ := [some (.fz (.tuple (st.map nE))), none, none]) (it := zIt (zN 0)) (ss := []) (vs := [2]) (g := gN 2) (te := zCall m_is_number 3 (zlC (zN 2) (zlC (zV (zK (.int 1))) (zlC (zV (zK (.int 1000))) zlN)))) st nE (fun _ => true) (by simp) (fun x hx => by
      have a1 := h.lo x hx
      have a2 := h.hi x hx
      have e : isNumD 1 1000 (.int (x : Nat)) = true := by simp [isNumD]; omega
      exact ⟨_, rfl, by simp [e]⟩)
    rw [this]; simp
  unfold r_are_stamps_2
  refine Gv.ret ⟨[some (.fz (.tuple (st.map nE))), none, none], ?_⟩
  have hr : rngI [1, (st.length : Int)] = some ((List.range' 1 (st.length - 1)).map nE) := rngI_lo (m := 1) (n := st.length) (by omega) (by omega)
  have := zQ_all (τi := [some (.fz (.tuple (st.map nE))), none, none]) (τ := [some (.fz (.tuple (st.map nE))), none, none]) (it := zRng (zlC (zK (.int 1)) (zlC (z1S pLen (zN 0)) zlN))) (ss := []) (vs := [1]) (g := gN 1) (te := z2 (pCmp fun i j => decide (i < j)) (z2S pIx (zN 0) (z2 pSub (zN 1) (zK (.int 1)))) (z2S pIx (zN 0) (zN 1))) (List.range' 1 (st.length - 1)) nE (fun _ => true) (by simp [hr]) (fun k hk => by
    rw [List.mem_range'_1] at hk
    have hk1 : k < st.length := by omega
    have a1 : atI (st.map nE) (k : Int) = some (nE st[k]) := by simp [List.getElem?_eq_getElem hk1]
    have a0 : atI (st.map nE) ((k : Int) - 1) = some (nE st[k - 1]) := by
      rw [show (k : Int) - 1 = ((k - 1 : Nat) : Int) by omega]
      simp [List.getElem?_eq_getElem (show k - 1 < st.length by omega)]
    have hlt := List.pairwise_iff_getElem.mp h.asc (k - 1) k (by omega) hk1 (by omega)
    have hlt' : ((st[k - 1] : Nat) : Int) < (st[k] : Nat) := by omega
    exact ⟨_, rfl, by simp [a0, a1, hlt']⟩)
  rw [zRet_ev, this]
  simp
end K14

namespace K14
open PySem PySem.Spec PyProof.Rows L2 Z
variable {τ : Fr}
/-- the law's frame -/
abbrev LF (ns : List Int) (L : Tk) (c2 c3 c4 c5 c6 c7 c8 c9 c10 c11 c12 : Option Cell) : Fr := [some (.scr ns), some (.lst false false (Tk.ds L)), c2, c3, c4, c5, c6, c7, c8, c9, c10, c11, c12, none, none, none]
abbrev tC (xs : List Nat) : Option Cell := some (.fz (.tuple (xs.map nE)))
abbrev lC (xs : List Nat) : Option Cell := some (.lst false false (xs.map nE))
theorem k_stamps (L : Tk) : ∃ (L' : Tk) (st : List Nat), Stm st ∧ ∀ (τ0 : Fr) (i : Nat) (ls : List LR), isL τ0 i (Tk.ds L) → noObj τ0 ls = true → kCs m__law_stamps 3 (.sl i :: ls) τ0 (some [.lst true false (Tk.ds L), .fz (.int 4), .fz (.int 20)]) = .ok (.cl (.fz (.tuple (st.map nE)))) (putDs i (Tk.ds L') τ0) := by
  obtain ⟨L', st, τ, h, e1, e2⟩ := stamps_ok L
  exact ⟨L', st, h, fun τ0 i ls hi hn => kCs_one ⟨τ, e1, e2⟩ hi hn rfl⟩
theorem draw_store {ns : List Int} {L : Tk} {st : List Nat} (h : Stm st) : ∃ (L' : Tk) (sto : List Nat), st.length = sto.length ∧ (∀ x ∈ sto, x ≤ 20) ∧
    (z1 pTuple (zLc (zIt (zN 2)) [13] (gN 13) zYes (zCall m__law_take 2 (zlC (zN 1) (zlC (zV (z2S pIx (zLst (zaC (zK (.int 3)) (zaC (zK (.int 8)) zaN))) (zCall m__law_take 2 (zlC (zN 1) (zlC (zV (zK (.int 2))) zlN))))) zlN))))) (LF ns L (tC st) none none none none none none none none none none) = .ok (.cl (.fz (.tuple (sto.map nE)))) (LF ns L' (tC st) none none none none none none none none none none) := by
  have h2 := h.l2
  obtain ⟨zs, L', e1, e2, e3⟩ := zLc_draw (τ := LF ns L (tC st) none none none none none none none none none none) (vs := [13]) (g := gN 13) (it := zIt (zN 2)) (te := zCall m__law_take 2 (zlC (zN 1) (zlC (zV (z2S pIx (zLst (zaC (zK (.int 3)) (zaC (zK (.int 8)) zaN))) (zCall m__law_take 2 (zlC (zN 1) (zlC (zV (zK (.int 2))) zlN))))) zlN))) (fun L : Tk => LF ns L (tC st) none none none none none none none none none none) L (fun s => by simp) st nE nE (fun _ y : Nat => y ≤ 20) (by simp) (fun x hx L => by
    obtain ⟨v, hv, hv2⟩ := pick2 (a := 3) (b := 8) L
    obtain ⟨u, hu, hu2⟩ := tkR_ex L.nx (v : Int) (by omega)
    refine ⟨_, rfl, u, L.nx.nx, LF ns L.nx.nx (tC st) none none none none none none none none none none |>.set 13 (some (.fz (nE x))), ?_, by omega, by simp⟩
    have hv' : atI [PyData.int 3, PyData.int 8] (tkR L 2) = some (.int (v : Int)) := hv
    have hv0 : (0 : Int) < v := by omega
    have hv1 : 0 < v := by omega
    simp [hv', hv0, hv1, hu]) (by omega)
  refine ⟨L', zs.map (·.2), ?_, ?_, ?_⟩
  · rw [← e1]; simp
  · intro x hx
    obtain ⟨z, hz, rfl⟩ := List.mem_map.mp hx
    exact e2 z hz
  · rw [z1_ev, e3]
    simp
theorem draw_greater {ns : List Int} {L : Tk} {st sto : List Nat} (h : Stm st) (hl : st.length = sto.length) (h20 : ∀ x ∈ sto, x ≤ 20) : ∃ (L' : Tk) (gr : List Nat), sto.length = gr.length ∧ (∀ x ∈ gr, x ≤ 20) ∧ (∀ k, sto.getD k 0 ≤ gr.getD k 0) ∧
    (z1 pTuple (zLc (zIt (zN 3)) [14] (gN 14) zYes (z2 pMin2 (zK (.int 20)) (z2 pAdd (zN 14) (zCall m__law_take 2 (zlC (zN 1) (zlC (zV (zK (.int 3))) zlN))))))) (LF ns L (tC st) (tC sto) none none none none none none none none none) = .ok (.cl (.fz (.tuple (gr.map nE)))) (LF ns L' (tC st) (tC sto) none none none none none none none none none) := by
  have h2 := h.l2
  obtain ⟨zs, L', e1, e2, e3⟩ := zLc_draw (τ := LF ns L (tC st) (tC sto) none none none none none none none none none) (vs := [14]) (g := gN 14) (it := zIt (zN 3)) (te := z2 pMin2 (zK (.int 20)) (z2 pAdd (zN 14) (zCall m__law_take 2 (zlC (zN 1) (zlC (zV (zK (.int 3))) zlN))))) (fun L : Tk => LF ns L (tC st) (tC sto) none none none none none none none none none) L (fun s => by simp) sto nE nE (fun x y : Nat => x ≤ y ∧ y ≤ 20) (by simp) (fun x hx L => by
    obtain ⟨u, hu, hu2⟩ := tkR_ex L 3 (by decide)
    have hx20 := h20 x hx
    refine ⟨_, rfl, min 20 (x + u), L.nx, LF ns L.nx (tC st) (tC sto) none none none none none none none none none |>.set 14 (some (.fz (nE x))), ?_, by omega, by simp⟩
    have e : (if (x : Int) + (u : Int) < 20 then (x : Int) + (u : Int) else 20) = ((min 20 (x + u) : Nat) : Int) := by split <;> omega
    simp [hu, e]) (by omega)
  refine ⟨L', zs.map (·.2), ?_, ?_, ?_, ?_⟩
  · rw [← e1]; simp
  · intro x hx
    obtain ⟨z, hz, rfl⟩ := List.mem_map.mp hx
    exact (e2 z hz).2
  · intro k
    rw [← e1, List.getD_eq_getElem?_getD, List.getD_eq_getElem?_getD, List.getElem?_map, List.getElem?_map]
    cases e : zs[k]? with
    | none => simp
    | some z => exact (e2 z (List.mem_of_getElem? e)).1
  · rw [z1_ev, e3]
    simp
/-- what the law knows behind its draws -/
structure Dat (st sto gr : List Nat) : Prop where
  s : Stm st
  l : st.length = sto.length
  l' : st.length = gr.length
  h : ∀ x ∈ sto, x ≤ 20
  h' : ∀ x ∈ gr, x ≤ 20
  le : ∀ k, sto.getD k 0 ≤ gr.getD k 0
theorem pay_bnd : ∀ (ps : List (Nat × Nat)) (a x B : Nat), (∀ p ∈ ps, p.1 ≤ 20 ∧ p.2 ≤ 20) → Pays ps a x → a + ps.length * 400 ≤ B → x ≤ B
  | [], a, x, B, _, h, hb => by simp [Pays] at h; omega
  | p :: ps, a, x, B, hp, ⟨j, hj, h⟩, hb => by
    have := hp p List.mem_cons_self
    have h2 : j * p.1 ≤ 20 * 20 := Nat.mul_le_mul (by omega) this.1
    exact pay_bnd ps _ x B (fun q hq => hp q (List.mem_cons_of_mem _ hq)) h (by rw [List.length_cons] at hb; omega)
theorem payS_ne (ps : List (Nat × Nat)) : payS ps ≠ [] := by
  have h0 : 0 ∈ payS ps := payS_mem.mpr (by
    suffices ∀ ps : List (Nat × Nat), Pays ps 0 0 from this ps
    intro ps
    induction ps with
    | nil => rfl
    | cons p ps ih => exact ⟨0, Nat.zero_le _, by simpa using ih⟩)
  intro z; rw [z] at h0; cases h0
theorem payS_len {st sto : List Nat} (h4 : st.length ≤ 4) (h20 : ∀ x ∈ sto, x ≤ 20) : (payS (zp st sto)).length ≤ 194481 := by
  have := payK_len (zp st sto) (fun p hp => h20 _ (List.of_mem_zip (show (p.1, p.2) ∈ st.zip sto from hp)).2) [0] sortT (fun l => sortT_len)
  have h2 : (zp st sto).length ≤ 4 := by simp [zp]; omega
  have h3 : ∀ n, n ≤ 4 → 21 ^ n ≤ 194481 := by decide
  have h4 := h3 _ h2
  have this : (payS (zp st sto)).length ≤ 1 * 21 ^ (zp st sto).length := this
  omega
theorem plainD_one (n : Nat) (k : Nat) : plainD (n + 1) (nE k) := trivial
theorem turn_ok {ns : List Int} {L : Tk} {st sto gr : List Nat} {o7 o9 o10 o11 o12 : Option Cell} (D : Dat st sto gr) :
    ∃ L' o9' o10' o11' o12', l_law_1 (LF ns L (tC st) (tC sto) (tC gr) (lC (payS (zp st sto))) (lC (payS (zp st gr))) o7 none o9 o10 o11 o12) = .ok .nx (LF ns L' (tC st) (tC sto) (tC gr) (lC (payS (zp st sto))) (lC (payS (zp st gr))) o7 none o9' o10' o11' o12') := by
  have h4 := D.s.l2
  have hlen := payS_len (st := st) (sto := sto) h4 D.h
  obtain ⟨pre, last, hlast⟩ : ∃ pre last, payS (zp st sto) = pre ++ [last] := by
    rcases List.eq_nil_or_concat (payS (zp st sto)) with e | ⟨pre, r, e⟩
    · exact absurd e (payS_ne _)
    · exact ⟨pre, r, by simpa using e⟩
  have ha : atI ((payS (zp st sto)).map nE) (-1) = some (nE last) := by rw [hlast, List.map_append]; exact Z.atI_last
  obtain ⟨t, ht, ht2⟩ := tkR_ex L ((last : Int) + 6) (by omega)
  have k1 := Sp.of (np := 3) (told_ok (total := t) D.l h4 D.h)
  have k2 := Sp.of (np := 3) (told_ok (total := t) D.l' h4 D.h')
  have hh := lo_head (zp st sto) t
  have hlc := zLc_ty (it := zIt (zN 5)) (vs := [14]) (g := gN 14) (tt := zB (z2 (pCmp fun i j => decide (j ≤ i)) (zN 14) (zN 9))) (te := zN 14) (ss := [5]) (τ := LF ns L.nx (tC st) (tC sto) (tC gr) (lC (payS (zp st sto))) (lC (payS (zp st gr))) o7 none (some (.fz (nE t))) o10 o11 o12) (τi := LF ns L.nx (tC st) (tC sto) (tC gr) (lC (payS (zp st sto))) (lC (payS (zp st gr))) o7 none (some (.fz (nE t))) o10 o11 o12) (payS (zp st sto)) nE (fun x => decide (t ≤ x)) nE (by simp) (fun x hx => by
    refine ⟨_, rfl, ?_⟩
    by_cases h : t ≤ x
    · have h' : (t : Int) ≤ x := by omega
      simp [h, h']
    · have h' : ¬ (t : Int) ≤ x := by omega
      simp [h, h']) (by omega)
  have hpos : (0 : Int) < (last : Int) + 6 := by omega
  have hal := fun (d : PyData) (hp : plainD 12 d) (τ : Fr) (ls : List LR) (hn : noObj τ ls = true) => k__law_alike (n := 12) (τ := τ) (ls := ls) hp (.inl rfl : isDat (.fz d) d) (.inl rfl) hn
  generalize payS (zp st sto) = P at *
  unfold l_law_1
  cases e : lo (zp st sto) t with
  | none =>
    rw [e] at hh k1
    have hf : (P.filter fun x => decide (t ≤ x)) = [] := List.head?_eq_none_iff.mp hh
    rw [hf] at hlc
    have k1 : Sp m__law_told 3 [.fz (.tuple (st.map nE)), .fz (.tuple (sto.map nE)), .fz (nE t)] (.fz .none) := k1
    have h0 := hal .none trivial
    refine ⟨L.nx, some (.fz (nE t)), some (.lst false false []), some (.fz .none), some (.fz (optE nE (lo (zp st gr) t))), ?_⟩
    simp [ha, hpos, ht, hlc, k1, k2, h0, -zLc_ev, pNe_nil (ds := []) (k := 1) (by simp)]
  | some u =>
    obtain ⟨v, hv, hvu⟩ := lo_more (st := st) (a := sto) (b := gr) (total := t) (D.l.symm.trans D.l') D.le e
    rw [e] at hh k1
    rw [hv] at k2
    have k1 : Sp m__law_told 3 [.fz (.tuple (st.map nE)), .fz (.tuple (sto.map nE)), .fz (nE t)] (.fz (nE u)) := k1
    have k2 : Sp m__law_told 3 [.fz (.tuple (st.map nE)), .fz (.tuple (gr.map nE)), .fz (nE t)] (.fz (nE v)) := k2
    obtain ⟨rest, hf⟩ : ∃ rest, (P.filter fun x => decide (t ≤ x)) = u :: rest := by
      cases hq : (P.filter fun x => decide (t ≤ x)) with
      | nil => rw [hq] at hh; cases hh
      | cons a l => rw [hq] at hh; injection hh with hh; exact ⟨l, by rw [hh]⟩
    rw [hf] at hlc
    have h0 := hal (nE u) trivial
    have hvu' : ¬ (u : Int) < v := by omega
    refine ⟨L.nx, some (.fz (nE t)), some (.lst false false ((u :: rest).map nE)), some (.fz (nE u)), some (.fz (nE v)), ?_⟩
    simp [ha, hpos, ht, hlc, k1, k2, h0, -zLc_ev, hvu', pNe_nil (ds := nE u :: rest.map nE) (k := 1) (by simp)]
end K14

namespace K14
open PySem PySem.Spec PyProof.Rows L2 Z
variable {τ : Fr}
def oddC (sto : List Nat) : List PyData := [.none, .list (sto.map nE), .tuple (sto.map nE ++ [.int 0]), .tuple ((sto.map nE).drop 1), .tuple ((sto.map nE).dropLast ++ [.int 21]), .tuple ((sto.map nE).dropLast ++ [.int (-1)]), .tuple ((sto.map nE).dropLast ++ [.bool true]), .tuple ((sto.map nE).dropLast ++ [.none])]
theorem oddC_bad {st sto : List Nat} (h1 : 1 ≤ st.length) (hl : st.length = sto.length) : ∀ d ∈ oddC sto, isStore st.length d = false := by
  intro d hd
  simp only [oddC, List.mem_cons, List.not_mem_nil, or_false] at hd
  rcases hd with rfl | rfl | rfl | rfl | rfl | rfl | rfl | rfl <;> simp [isStore, isNumD] <;> omega
theorem law_8 {ns : List Int} {L : Tk} {st sto gr : List Nat} {c4 c5 c6 c7 c9 c10 c11 c12 : Option Cell} (D : Dat st sto gr) : Gv r_law_8 (LF ns L (tC st) (tC sto) c4 c5 c6 c7 none c9 c10 c11 c12) (.fz (.bool true)) := by
  have h1 := D.s.l1
  have h2 := D.s.l2
  have hl := D.l
  have e1 : cutD (sto.map nE) (some 1) none = (sto.map nE).drop 1 := cutD_from (n := 1)
  have e2 : cutD (sto.map nE) none (some (-1)) = (sto.map nE).dropLast := cutD_last
  have e3 : ∀ (x : PyData), pAdd (.tuple ((sto.map nE).dropLast)) (.tuple [x]) = some (.sc (.tuple ((sto.map nE).dropLast ++ [x]))) := fun x => pAdd_tup (by simp; omega)
  have e4 : ∀ (x : PyData), pAdd (.tuple (sto.map nE)) (.tuple [x]) = some (.sc (.tuple (sto.map nE ++ [x]))) := fun x => pAdd_tup (by simp; omega)
  unfold r_law_8
  refine Gv.seq ⟨LF ns L (tC st) (tC sto) c4 c5 c6 c7 (some (.lst false false (oddC sto))) c9 c10 c11 c12, ?_, ?_⟩
  · simp [e1, e2, e3, e4, oddC]
  unfold r_law_9
  have ks := fun d => Sp.of (np := 2) (store_judge (st.map nE) d)
  have ky := fun a b => Sp.of (np := 2) (says_b a b)
  refine Gv.noneOf (τi := LF ns L (tC st) (tC sto) c4 c5 c6 c7 (some (.lst false false (oddC sto))) c9 c10 c11 c12) (ss := [8]) (oddC sto) id (by simp) (fun d hd => ?_) (by simp [oddC]) ?_
  · have hb := oddC_bad h1 hl d hd
    have ks := ks d
    rw [List.length_map, hb] at ks
    refine ⟨_, rfl, ?_⟩
    simp [ks, ky]
  unfold r_law_10
  have kt := Sp.of (np := 3) (told_bad (a := .tuple (st.map nE)) (b := .tuple (sto.map nE)) (z := -1) (by decide))
  have hq : pEq (.str (Str.ofString "range")) (.str (Str.ofString "range")) = some (.sc (.bool true)) := pEq_self (k := 1) (sh_str (by decide +kernel))
  refine Gv.ret ⟨LF ns L (tC st) (tC sto) c4 c5 c6 c7 (some (.lst false false (oddC sto))) c9 c10 c11 c12, ?_⟩
  simp [kt, hq]
theorem law_true (ns : List Int) (hn : ns.length ≤ 63) : ∃ τ, m_law [.scr ns] = .ok (.fz (.bool true)) τ := by
  refine Gv.run ?_
  unfold b_law
  refine Gv.seq ?_
  obtain ⟨L0, hL0⟩ := k__law_draws hn
  simp [frame0, hL0]
  unfold r_law_1
  obtain ⟨L1, st, hs, k1⟩ := k_stamps L0
  have h1 := hs.l1
  have h2 := hs.l2
  refine Gv.seq ⟨LF ns L1 (tC st) none none none none none none none none none none, by simp [k1], ?_⟩
  unfold r_law_2
  obtain ⟨L2, sto, hl, h20, e1⟩ := draw_store (ns := ns) (L := L1) hs
  refine Gv.seq ⟨LF ns L2 (tC st) (tC sto) none none none none none none none none none, by rw [zSet_ev, e1]; simp, ?_⟩
  unfold r_law_3
  obtain ⟨L3, gr, hl', h20', hle, e2⟩ := draw_greater (ns := ns) (L := L2) hs hl h20
  refine Gv.seq ⟨LF ns L3 (tC st) (tC sto) (tC gr) none none none none none none none none, by rw [zSet_ev, e2]; simp, ?_⟩
  have D : Dat st sto gr := ⟨hs, hl, hl.trans hl', h20, h20', hle⟩
  unfold r_law_4
  have kp1 := Sp.of (np := 2) (lpay_ok D.l h2 D.h)
  have kp2 := Sp.of (np := 2) (lpay_ok D.l' h2 D.h')
  refine Gv.seq ⟨LF ns L3 (tC st) (tC sto) (tC gr) (lC (payS (zp st sto))) (lC (payS (zp st gr))) none none none none none none, by simp [kp1, kp2], ?_⟩
  unfold r_law_5
  have ka := Sp.of (np := 1) (are_ok hs)
  have ks := Sp.of (np := 2) (store_judge (st.map nE) (.tuple (sto.map nE)))
  have hst : isStore (st.map nE).length (.tuple (sto.map nE)) = true := by
    simp [isStore, hl, isNumD]
    intro x hx
    have := h20 x hx
    omega
  rw [hst] at ks
  have ky := fun a b => Sp.of (np := 2) (says_b a b)
  refine Gv.ifF ⟨LF ns L3 (tC st) (tC sto) (tC gr) (lC (payS (zp st sto))) (lC (payS (zp st gr))) none none none none none none, by simp [ka, ks, ky], ?_⟩
  unfold r_law_6
  have kq1 := Sp.of (np := 2) (pay_ok D.l h2 D.h)
  have kq2 := Sp.of (np := 2) (pay_ok D.l' h2 D.h')
  have l1 := payS_len (st := st) (sto := sto) h2 D.h
  have l2 := payS_len (st := st) (sto := gr) h2 D.h'
  have hal := fun (τ : Fr) (ls : List LR) (hn : noObj τ ls = true) => k__law_alike (n := 12) (τ := τ) (ls := ls) (d := .list [.tuple ((payS (zp st sto)).map nE), .tuple ((payS (zp st gr)).map nE)]) (plainD_lst 11 _ (by simp) (by
    intro d hd
    simp only [List.mem_cons, List.not_mem_nil, or_false] at hd
    rcases hd with rfl | rfl
    · exact plainD_tupN 9 _ (by omega)
    · exact plainD_tupN 9 _ (by omega))) (.inr ⟨false, false, _, rfl, rfl⟩) (.inr ⟨false, false, _, rfl, rfl⟩) hn
  have hal' := fun (τ : Fr) (ls : List LR) (hn : noObj τ ls = true) => k__law_alike (n := 12) (τ := τ) (ls := ls) (d := .list [.tuple ((payS (zp st sto)).map nE), .tuple ((payS (zp st gr)).map nE)]) (plainD_lst 11 _ (by simp) (by
    intro d hd
    simp only [List.mem_cons, List.not_mem_nil, or_false] at hd
    rcases hd with rfl | rfl
    · exact plainD_tupN 9 _ (by omega)
    · exact plainD_tupN 9 _ (by omega))) (.inr ⟨true, false, _, rfl, rfl⟩) (.inr ⟨true, false, _, rfl, rfl⟩) hn
  refine Gv.ifF ⟨LF ns L3 (tC st) (tC sto) (tC gr) (lC (payS (zp st sto))) (lC (payS (zp st gr))) none none none none none none, by simp [kq1, kq2, hal, hal'], ?_⟩
  unfold r_law_7
  obtain ⟨τ', e, L', o7, o9, o10, o11, o12, rfl⟩ := for_pre (enc := nE) (it := zRng (zlC (zK (.int 8)) zlN)) (g := gN 7) (p := l_law_1) (τ := LF ns L3 (tC st) (tC sto) (tC gr) (lC (payS (zp st sto))) (lC (payS (zp st gr))) none none none none none none) (τi := LF ns L3 (tC st) (tC sto) (tC gr) (lC (payS (zp st sto))) (lC (payS (zp st gr))) none none none none none none) (List.range 8)
    (fun _ τ => ∃ L' o7 o9 o10 o11 o12, τ = LF ns L' (tC st) (tC sto) (tC gr) (lC (payS (zp st sto))) (lC (payS (zp st gr))) o7 none o9 o10 o11 o12) (by simp [show rngI [8] = some ((List.range 8).map nE) from rngI_nat (n := 8) (by decide)]) ⟨L3, none, none, none, none, none, rfl⟩ (by
      rintro pre x post τ _ ⟨L', o7, o9, o10, o11, o12, rfl⟩
      obtain ⟨L'', o9', o10', o11', o12', e⟩ := turn_ok (ns := ns) (L := L') (o7 := some (.fz (nE x))) (o9 := o9) (o10 := o10) (o11 := o11) (o12 := o12) D
      exact ⟨_, rfl, _, e, L'', _, _, _, _, _, rfl⟩)
  exact Gv.seq ⟨_, e, law_8 D⟩
end K14

namespace K14
open PySem PySem.Spec PyProof.Rows L2 Z
theorem law_mk {l : PySem.W.OpenLaw} {w : World} {K : PySem.W.Frag} {q : Program} {loose : List Str} {mean : ExcName → Option Value} {mg mb : Str → Option Value} {fa : Addr} {h : Heap} (T : Top q loose mean mg mb h) (X : K.In h) (hfa : mg "law" = some (.ref fa))
    (hlaw : ∀ ns : List Int, ns.length ≤ 63 → ∃ τ, m_law [.scr ns] = .ok (.fz (.bool true)) τ)
    (e_are_stamps : ((recsOf q).find? fun e => e.name == ("are_stamps" : Str)).isSome = true)
    (e_is_stamp_store : ((recsOf q).find? fun e => e.name == ("is_stamp_store" : Str)).isSome = true)
    {f__law_draws : Addr} {od__law_draws an__law_draws : Option Addr} {sl__law_draws : Array (Option Value)} {oc__law_draws kV__law_draws dc__law_draws pm__law_draws ct__law_draws : Value} {cd__law_draws : Value}
    (a__law_draws : PySem.W.nsIn K mainGlobals "_law_draws" = some (some (.ref f__law_draws)))
    (l__law_draws : K.lookup f__law_draws = some ⟨oc__law_draws, od__law_draws, .func (PySem.W.fnOf "_law_draws" "_law_draws" (defArgs s__law_draws) (defBody s__law_draws) (defScope s__law_draws) .none kV__law_draws dc__law_draws pm__law_draws an__law_draws cd__law_draws ct__law_draws), sl__law_draws⟩)
    (c__law_draws : PySem.W.codeIn K cd__law_draws "_law_draws" = true)
    (k__law_draws : PySem.W.keepIn K (.ref f__law_draws) = true)
    {f__law_take : Addr} {od__law_take an__law_take : Option Addr} {sl__law_take : Array (Option Value)} {oc__law_take kV__law_take dc__law_take pm__law_take ct__law_take : Value} {cd__law_take : Value}
    (a__law_take : PySem.W.nsIn K mainGlobals "_law_take" = some (some (.ref f__law_take)))
    (l__law_take : K.lookup f__law_take = some ⟨oc__law_take, od__law_take, .func (PySem.W.fnOf "_law_take" "_law_take" (defArgs s__law_take) (defBody s__law_take) (defScope s__law_take) .none kV__law_take dc__law_take pm__law_take an__law_take cd__law_take ct__law_take), sl__law_take⟩)
    (c__law_take : PySem.W.codeIn K cd__law_take "_law_take" = true)
    (k__law_take : PySem.W.keepIn K (.ref f__law_take) = true)
    {f__law_stamps : Addr} {od__law_stamps an__law_stamps : Option Addr} {sl__law_stamps : Array (Option Value)} {oc__law_stamps kV__law_stamps dc__law_stamps pm__law_stamps ct__law_stamps : Value} {cd__law_stamps : Value}
    (a__law_stamps : PySem.W.nsIn K mainGlobals "_law_stamps" = some (some (.ref f__law_stamps)))
    (l__law_stamps : K.lookup f__law_stamps = some ⟨oc__law_stamps, od__law_stamps, .func (PySem.W.fnOf "_law_stamps" "_law_stamps" (defArgs s__law_stamps) (defBody s__law_stamps) (defScope s__law_stamps) .none kV__law_stamps dc__law_stamps pm__law_stamps an__law_stamps cd__law_stamps ct__law_stamps), sl__law_stamps⟩)
    (c__law_stamps : PySem.W.codeIn K cd__law_stamps "_law_stamps" = true)
    (k__law_stamps : PySem.W.keepIn K (.ref f__law_stamps) = true)
    {f__law_payable : Addr} {od__law_payable an__law_payable : Option Addr} {sl__law_payable : Array (Option Value)} {oc__law_payable kV__law_payable dc__law_payable pm__law_payable ct__law_payable : Value} {cd__law_payable : Value}
    (a__law_payable : PySem.W.nsIn K mainGlobals "_law_payable" = some (some (.ref f__law_payable)))
    (l__law_payable : K.lookup f__law_payable = some ⟨oc__law_payable, od__law_payable, .func (PySem.W.fnOf "_law_payable" "_law_payable" (defArgs s__law_payable) (defBody s__law_payable) (defScope s__law_payable) .none kV__law_payable dc__law_payable pm__law_payable an__law_payable cd__law_payable ct__law_payable), sl__law_payable⟩)
    (c__law_payable : PySem.W.codeIn K cd__law_payable "_law_payable" = true)
    (k__law_payable : PySem.W.keepIn K (.ref f__law_payable) = true)
    {f__law_alike : Addr} {od__law_alike an__law_alike : Option Addr} {sl__law_alike : Array (Option Value)} {oc__law_alike kV__law_alike dc__law_alike pm__law_alike ct__law_alike : Value} {cd__law_alike : Value}
    (a__law_alike : PySem.W.nsIn K mainGlobals "_law_alike" = some (some (.ref f__law_alike)))
    (l__law_alike : K.lookup f__law_alike = some ⟨oc__law_alike, od__law_alike, .func (PySem.W.fnOf "_law_alike" "_law_alike" (defArgs s__law_alike) (defBody s__law_alike) (defScope s__law_alike) .none kV__law_alike dc__law_alike pm__law_alike an__law_alike cd__law_alike ct__law_alike), sl__law_alike⟩)
    (c__law_alike : PySem.W.codeIn K cd__law_alike "_law_alike" = true)
    (k__law_alike : PySem.W.keepIn K (.ref f__law_alike) = true)
    {f_payable : Addr} {od_payable an_payable : Option Addr} {sl_payable : Array (Option Value)} {oc_payable kV_payable dc_payable pm_payable ct_payable : Value} {cd_payable : Value}
    (a_payable : PySem.W.nsIn K mainGlobals "payable" = some (some (.ref f_payable)))
    (l_payable : K.lookup f_payable = some ⟨oc_payable, od_payable, .func (PySem.W.fnOf "payable" "payable" (defArgs s_payable) (defBody s_payable) (defScope s_payable) .none kV_payable dc_payable pm_payable an_payable cd_payable ct_payable), sl_payable⟩)
    (c_payable : PySem.W.codeIn K cd_payable "payable" = true)
    (k_payable : PySem.W.keepIn K (.ref f_payable) = true)
    {f_least_over : Addr} {od_least_over an_least_over : Option Addr} {sl_least_over : Array (Option Value)} {oc_least_over kV_least_over dc_least_over pm_least_over ct_least_over : Value} {cd_least_over : Value}
    (a_least_over : PySem.W.nsIn K mainGlobals "least_over" = some (some (.ref f_least_over)))
    (l_least_over : K.lookup f_least_over = some ⟨oc_least_over, od_least_over, .func (PySem.W.fnOf "least_over" "least_over" (defArgs s_least_over) (defBody s_least_over) (defScope s_least_over) .none kV_least_over dc_least_over pm_least_over an_least_over cd_least_over ct_least_over), sl_least_over⟩)
    (c_least_over : PySem.W.codeIn K cd_least_over "least_over" = true)
    (k_least_over : PySem.W.keepIn K (.ref f_least_over) = true)
    {f__law_word : Addr} {od__law_word an__law_word : Option Addr} {sl__law_word : Array (Option Value)} {oc__law_word kV__law_word dc__law_word pm__law_word ct__law_word : Value} {cd__law_word : Value}
    (a__law_word : PySem.W.nsIn K mainGlobals "_law_word" = some (some (.ref f__law_word)))
    (l__law_word : K.lookup f__law_word = some ⟨oc__law_word, od__law_word, .func (PySem.W.fnOf "_law_word" "_law_word" (defArgs s__law_word) (defBody s__law_word) (defScope s__law_word) .none kV__law_word dc__law_word pm__law_word an__law_word cd__law_word ct__law_word), sl__law_word⟩)
    (c__law_word : PySem.W.codeIn K cd__law_word "_law_word" = true)
    (k__law_word : PySem.W.keepIn K (.ref f__law_word) = true)
    {f__law_told : Addr} {od__law_told an__law_told : Option Addr} {sl__law_told : Array (Option Value)} {oc__law_told kV__law_told dc__law_told pm__law_told ct__law_told : Value} {cd__law_told : Value}
    (a__law_told : PySem.W.nsIn K mainGlobals "_law_told" = some (some (.ref f__law_told)))
    (l__law_told : K.lookup f__law_told = some ⟨oc__law_told, od__law_told, .func (PySem.W.fnOf "_law_told" "_law_told" (defArgs s__law_told) (defBody s__law_told) (defScope s__law_told) .none kV__law_told dc__law_told pm__law_told an__law_told cd__law_told ct__law_told), sl__law_told⟩)
    (c__law_told : PySem.W.codeIn K cd__law_told "_law_told" = true)
    (k__law_told : PySem.W.keepIn K (.ref f__law_told) = true)
    {f__law_says : Addr} {od__law_says an__law_says : Option Addr} {sl__law_says : Array (Option Value)} {oc__law_says kV__law_says dc__law_says pm__law_says ct__law_says : Value} {cd__law_says : Value}
    (a__law_says : PySem.W.nsIn K mainGlobals "_law_says" = some (some (.ref f__law_says)))
    (l__law_says : K.lookup f__law_says = some ⟨oc__law_says, od__law_says, .func (PySem.W.fnOf "_law_says" "_law_says" (defArgs s__law_says) (defBody s__law_says) (defScope s__law_says) .none kV__law_says dc__law_says pm__law_says an__law_says cd__law_says ct__law_says), sl__law_says⟩)
    (c__law_says : PySem.W.codeIn K cd__law_says "_law_says" = true)
    (k__law_says : PySem.W.keepIn K (.ref f__law_says) = true)
    {f_is_number : Addr} {od_is_number an_is_number : Option Addr} {sl_is_number : Array (Option Value)} {oc_is_number kV_is_number dc_is_number pm_is_number ct_is_number : Value} {cd_is_number : Value}
    (a_is_number : PySem.W.nsIn K mainGlobals "is_number" = some (some (.ref f_is_number)))
    (l_is_number : K.lookup f_is_number = some ⟨oc_is_number, od_is_number, .func (PySem.W.fnOf "is_number" "is_number" (defArgs s_is_number) (defBody s_is_number) (defScope s_is_number) .none kV_is_number dc_is_number pm_is_number an_is_number cd_is_number ct_is_number), sl_is_number⟩)
    (c_is_number : PySem.W.codeIn K cd_is_number "is_number" = true)
    (k_is_number : PySem.W.keepIn K (.ref f_is_number) = true)
    {f_are_stamps : Addr} {od_are_stamps an_are_stamps : Option Addr} {sl_are_stamps : Array (Option Value)} {oc_are_stamps kV_are_stamps dc_are_stamps pm_are_stamps ct_are_stamps : Value} {cc_are_stamps : Addr}
    (a_are_stamps : PySem.W.nsIn K mainGlobals "are_stamps" = some (some (.ref f_are_stamps)))
    (l_are_stamps : K.lookup f_are_stamps = some ⟨oc_are_stamps, od_are_stamps, .func (PySem.W.fnOf "are_stamps" "are_stamps" (defArgs s_are_stamps) (defBody s_are_stamps) (defScope s_are_stamps) .none kV_are_stamps dc_are_stamps pm_are_stamps an_are_stamps (.ref cc_are_stamps) ct_are_stamps), sl_are_stamps⟩)
    (c_are_stamps : PySem.W.codeIn K (.ref cc_are_stamps) "are_stamps" = true)
    (k_are_stamps : PySem.W.keepIn K (.ref f_are_stamps) = true)
    {f_is_stamp_store : Addr} {od_is_stamp_store an_is_stamp_store : Option Addr} {sl_is_stamp_store : Array (Option Value)} {oc_is_stamp_store kV_is_stamp_store dc_is_stamp_store pm_is_stamp_store ct_is_stamp_store : Value} {cc_is_stamp_store : Addr}
    (a_is_stamp_store : PySem.W.nsIn K mainGlobals "is_stamp_store" = some (some (.ref f_is_stamp_store)))
    (l_is_stamp_store : K.lookup f_is_stamp_store = some ⟨oc_is_stamp_store, od_is_stamp_store, .func (PySem.W.fnOf "is_stamp_store" "is_stamp_store" (defArgs s_is_stamp_store) (defBody s_is_stamp_store) (defScope s_is_stamp_store) .none kV_is_stamp_store dc_is_stamp_store pm_is_stamp_store an_is_stamp_store (.ref cc_is_stamp_store) ct_is_stamp_store), sl_is_stamp_store⟩)
    (c_is_stamp_store : PySem.W.codeIn K (.ref cc_is_stamp_store) "is_stamp_store" = true)
    (k_is_stamp_store : PySem.W.keepIn K (.ref f_is_stamp_store) = true)
    {f_law : Addr} {od_law an_law : Option Addr} {sl_law : Array (Option Value)} {oc_law kV_law dc_law pm_law ct_law : Value} {cd_law : Value}
    (a_law : PySem.W.nsIn K mainGlobals "law" = some (some (.ref f_law)))
    (l_law : K.lookup f_law = some ⟨oc_law, od_law, .func (PySem.W.fnOf "law" "law" (defArgs s_law) (defBody s_law) (defScope s_law) .none kV_law dc_law pm_law an_law cd_law ct_law), sl_law⟩)
    (c_law : PySem.W.codeIn K cd_law "law" = true)
    (k_law : PySem.W.keepIn K (.ref f_law) = true)
    {k1_are_stamps : Value} {k2_are_stamps : Option Addr} {vs_are_stamps : Array Value} {k3_are_stamps : Array (Option Value)} (lc_are_stamps : K.lookup cc_are_stamps = some ⟨k1_are_stamps, k2_are_stamps, .fields vs_are_stamps, k3_are_stamps⟩) {P_are_stamps : Addr} (hv_are_stamps : vs_are_stamps[11]? = some (.ref P_are_stamps)) (n_are_stamps : K.lookup P_are_stamps = none)
    {k1_is_stamp_store : Value} {k2_is_stamp_store : Option Addr} {vs_is_stamp_store : Array Value} {k3_is_stamp_store : Array (Option Value)} (lc_is_stamp_store : K.lookup cc_is_stamp_store = some ⟨k1_is_stamp_store, k2_is_stamp_store, .fields vs_is_stamp_store, k3_is_stamp_store⟩) {P_is_stamp_store : Addr} (hv_is_stamp_store : vs_is_stamp_store[11]? = some (.ref P_is_stamp_store)) (n_is_stamp_store : K.lookup P_is_stamp_store = none)
    {C_PostError : Addr} (a_PostError : PySem.W.nsIn K mainGlobals "PostError" = some (some (.ref C_PostError)))
    (ke_PostError : PySem.W.keepIn K (.ref C_PostError) = true) (xe_PostError : PySem.W.excIn K C_PostError [.type "ValueError", .type "Exception", .type "BaseException", .type "object"] "ValueError.__new__" = true)
    (q1_PostError : PySem.W.findIn K (.ref C_PostError) "__getattribute__" = some (some (.builtin "BaseException.__getattribute__")))
    (q2_PostError : PySem.W.findIn K (.ref C_PostError) "__getattr__" = some none)
    (q3_PostError : PySem.W.subIn K (.ref C_PostError) (.type "BaseException") = some true)
    (q4_PostError : PySem.W.hasDictIn K C_PostError = true)
    (q5_PostError : PySem.W.findIn K (.ref C_PostError) "__class__" = some (some (.builtin "object.__class__")))
    (q6_PostError : PySem.W.mroIn K C_PostError (.type "object") = some true)
    (q7_PostError : PySem.W.isClsIn K C_PostError = true)
    (q8_PostError : PySem.W.typeIn K (.ref C_PostError) = some (.type "type"))
    {C_OutOfRange : Addr} (a_OutOfRange : PySem.W.nsIn K mainGlobals "OutOfRange" = some (some (.ref C_OutOfRange)))
    (ke_OutOfRange : PySem.W.keepIn K (.ref C_OutOfRange) = true) (xe_OutOfRange : PySem.W.excIn K C_OutOfRange [.type "ValueError", .type "Exception", .type "BaseException", .type "object"] "ValueError.__new__" = true)
    (q1_OutOfRange : PySem.W.findIn K (.ref C_OutOfRange) "__getattribute__" = some (some (.builtin "BaseException.__getattribute__")))
    (q2_OutOfRange : PySem.W.findIn K (.ref C_OutOfRange) "__getattr__" = some none)
    (q3_OutOfRange : PySem.W.subIn K (.ref C_OutOfRange) (.type "BaseException") = some true)
    (q4_OutOfRange : PySem.W.hasDictIn K C_OutOfRange = true)
    (q5_OutOfRange : PySem.W.findIn K (.ref C_OutOfRange) "__class__" = some (some (.builtin "object.__class__")))
    (q6_OutOfRange : PySem.W.mroIn K C_OutOfRange (.type "object") = some true)
    (q7_OutOfRange : PySem.W.isClsIn K C_OutOfRange = true)
    (q8_OutOfRange : PySem.W.typeIn K (.ref C_OutOfRange) = some (.type "type"))
    {C_Malformed : Addr} (a_Malformed : PySem.W.nsIn K mainGlobals "Malformed" = some (some (.ref C_Malformed)))
    (ke_Malformed : PySem.W.keepIn K (.ref C_Malformed) = true) (xe_Malformed : PySem.W.excIn K C_Malformed [.type "ValueError", .type "Exception", .type "BaseException", .type "object"] "ValueError.__new__" = true)
    (q1_Malformed : PySem.W.findIn K (.ref C_Malformed) "__getattribute__" = some (some (.builtin "BaseException.__getattribute__")))
    (q2_Malformed : PySem.W.findIn K (.ref C_Malformed) "__getattr__" = some none)
    (q3_Malformed : PySem.W.subIn K (.ref C_Malformed) (.type "BaseException") = some true)
    (q4_Malformed : PySem.W.hasDictIn K C_Malformed = true)
    (q5_Malformed : PySem.W.findIn K (.ref C_Malformed) "__class__" = some (some (.builtin "object.__class__")))
    (q6_Malformed : PySem.W.mroIn K C_Malformed (.type "object") = some true)
    (q7_Malformed : PySem.W.isClsIn K C_Malformed = true)
    (q8_Malformed : PySem.W.typeIn K (.ref C_Malformed) = some (.type "type"))
    {C_NotThere : Addr} (a_NotThere : PySem.W.nsIn K mainGlobals "NotThere" = some (some (.ref C_NotThere)))
    (ke_NotThere : PySem.W.keepIn K (.ref C_NotThere) = true) (xe_NotThere : PySem.W.excIn K C_NotThere [.type "ValueError", .type "Exception", .type "BaseException", .type "object"] "ValueError.__new__" = true)
    (q1_NotThere : PySem.W.findIn K (.ref C_NotThere) "__getattribute__" = some (some (.builtin "BaseException.__getattribute__")))
    (q2_NotThere : PySem.W.findIn K (.ref C_NotThere) "__getattr__" = some none)
    (q3_NotThere : PySem.W.subIn K (.ref C_NotThere) (.type "BaseException") = some true)
    (q4_NotThere : PySem.W.hasDictIn K C_NotThere = true)
    (q5_NotThere : PySem.W.findIn K (.ref C_NotThere) "__class__" = some (some (.builtin "object.__class__")))
    (q6_NotThere : PySem.W.mroIn K C_NotThere (.type "object") = some true)
    (q7_NotThere : PySem.W.isClsIn K C_NotThere = true)
    (q8_NotThere : PySem.W.typeIn K (.ref C_NotThere) = some (.type "type"))
    {C_Refused : Addr} (a_Refused : PySem.W.nsIn K mainGlobals "Refused" = some (some (.ref C_Refused)))
    (ke_Refused : PySem.W.keepIn K (.ref C_Refused) = true) (xe_Refused : PySem.W.excIn K C_Refused [.type "ValueError", .type "Exception", .type "BaseException", .type "object"] "ValueError.__new__" = true)
    (q1_Refused : PySem.W.findIn K (.ref C_Refused) "__getattribute__" = some (some (.builtin "BaseException.__getattribute__")))
    (q2_Refused : PySem.W.findIn K (.ref C_Refused) "__getattr__" = some none)
    (q3_Refused : PySem.W.subIn K (.ref C_Refused) (.type "BaseException") = some true)
    (q4_Refused : PySem.W.hasDictIn K C_Refused = true)
    (q5_Refused : PySem.W.findIn K (.ref C_Refused) "__class__" = some (some (.builtin "object.__class__")))
    (q6_Refused : PySem.W.mroIn K C_Refused (.type "object") = some true)
    (q7_Refused : PySem.W.isClsIn K C_Refused = true)
    (q8_Refused : PySem.W.typeIn K (.ref C_Refused) = some (.type "type"))
    {C_TooMuch : Addr} (a_TooMuch : PySem.W.nsIn K mainGlobals "TooMuch" = some (some (.ref C_TooMuch)))
    (ke_TooMuch : PySem.W.keepIn K (.ref C_TooMuch) = true) (xe_TooMuch : PySem.W.excIn K C_TooMuch [.type "ValueError", .type "Exception", .type "BaseException", .type "object"] "ValueError.__new__" = true)
    (q1_TooMuch : PySem.W.findIn K (.ref C_TooMuch) "__getattribute__" = some (some (.builtin "BaseException.__getattribute__")))
    (q2_TooMuch : PySem.W.findIn K (.ref C_TooMuch) "__getattr__" = some none)
    (q3_TooMuch : PySem.W.subIn K (.ref C_TooMuch) (.type "BaseException") = some true)
    (q4_TooMuch : PySem.W.hasDictIn K C_TooMuch = true)
    (q5_TooMuch : PySem.W.findIn K (.ref C_TooMuch) "__class__" = some (some (.builtin "object.__class__")))
    (q6_TooMuch : PySem.W.mroIn K C_TooMuch (.type "object") = some true)
    (q7_TooMuch : PySem.W.isClsIn K C_TooMuch = true)
    (q8_TooMuch : PySem.W.typeIn K (.ref C_TooMuch) = some (.type "type"))
    (u1 : PySem.W.specialIn K (.builtin "object.__class__") "__get__" = some (some (.builtin "getset_descriptor.__get__")))
    (u2 : PySem.W.takesIn K (.builtin "object.__class__") = some true)
    (p_PostError_PostError : PySem.W.subIn K (.ref C_PostError) (.ref C_PostError) = some true)
    (p_PostError_OutOfRange : PySem.W.subIn K (.ref C_PostError) (.ref C_OutOfRange) = some false)
    (p_PostError_Malformed : PySem.W.subIn K (.ref C_PostError) (.ref C_Malformed) = some false)
    (p_PostError_NotThere : PySem.W.subIn K (.ref C_PostError) (.ref C_NotThere) = some false)
    (p_PostError_Refused : PySem.W.subIn K (.ref C_PostError) (.ref C_Refused) = some false)
    (p_PostError_TooMuch : PySem.W.subIn K (.ref C_PostError) (.ref C_TooMuch) = some false)
    (p_OutOfRange_PostError : PySem.W.subIn K (.ref C_OutOfRange) (.ref C_PostError) = some true)
    (p_OutOfRange_OutOfRange : PySem.W.subIn K (.ref C_OutOfRange) (.ref C_OutOfRange) = some true)
    (p_OutOfRange_Malformed : PySem.W.subIn K (.ref C_OutOfRange) (.ref C_Malformed) = some false)
    (p_OutOfRange_NotThere : PySem.W.subIn K (.ref C_OutOfRange) (.ref C_NotThere) = some false)
    (p_OutOfRange_Refused : PySem.W.subIn K (.ref C_OutOfRange) (.ref C_Refused) = some false)
    (p_OutOfRange_TooMuch : PySem.W.subIn K (.ref C_OutOfRange) (.ref C_TooMuch) = some false)
    (p_Malformed_PostError : PySem.W.subIn K (.ref C_Malformed) (.ref C_PostError) = some true)
    (p_Malformed_OutOfRange : PySem.W.subIn K (.ref C_Malformed) (.ref C_OutOfRange) = some false)
    (p_Malformed_Malformed : PySem.W.subIn K (.ref C_Malformed) (.ref C_Malformed) = some true)
    (p_Malformed_NotThere : PySem.W.subIn K (.ref C_Malformed) (.ref C_NotThere) = some false)
    (p_Malformed_Refused : PySem.W.subIn K (.ref C_Malformed) (.ref C_Refused) = some false)
    (p_Malformed_TooMuch : PySem.W.subIn K (.ref C_Malformed) (.ref C_TooMuch) = some false)
    (p_NotThere_PostError : PySem.W.subIn K (.ref C_NotThere) (.ref C_PostError) = some true)
    (p_NotThere_OutOfRange : PySem.W.subIn K (.ref C_NotThere) (.ref C_OutOfRange) = some false)
    (p_NotThere_Malformed : PySem.W.subIn K (.ref C_NotThere) (.ref C_Malformed) = some false)
    (p_NotThere_NotThere : PySem.W.subIn K (.ref C_NotThere) (.ref C_NotThere) = some true)
    (p_NotThere_Refused : PySem.W.subIn K (.ref C_NotThere) (.ref C_Refused) = some false)
    (p_NotThere_TooMuch : PySem.W.subIn K (.ref C_NotThere) (.ref C_TooMuch) = some false)
    (p_Refused_PostError : PySem.W.subIn K (.ref C_Refused) (.ref C_PostError) = some true)
    (p_Refused_OutOfRange : PySem.W.subIn K (.ref C_Refused) (.ref C_OutOfRange) = some false)
    (p_Refused_Malformed : PySem.W.subIn K (.ref C_Refused) (.ref C_Malformed) = some false)
    (p_Refused_NotThere : PySem.W.subIn K (.ref C_Refused) (.ref C_NotThere) = some false)
    (p_Refused_Refused : PySem.W.subIn K (.ref C_Refused) (.ref C_Refused) = some true)
    (p_Refused_TooMuch : PySem.W.subIn K (.ref C_Refused) (.ref C_TooMuch) = some false)
    (p_TooMuch_PostError : PySem.W.subIn K (.ref C_TooMuch) (.ref C_PostError) = some true)
    (p_TooMuch_OutOfRange : PySem.W.subIn K (.ref C_TooMuch) (.ref C_OutOfRange) = some false)
    (p_TooMuch_Malformed : PySem.W.subIn K (.ref C_TooMuch) (.ref C_Malformed) = some false)
    (p_TooMuch_NotThere : PySem.W.subIn K (.ref C_TooMuch) (.ref C_NotThere) = some false)
    (p_TooMuch_Refused : PySem.W.subIn K (.ref C_TooMuch) (.ref C_Refused) = some false)
    (p_TooMuch_TooMuch : PySem.W.subIn K (.ref C_TooMuch) (.ref C_TooMuch) = some true)
    (z_abs : PySem.W.nsIn K mainGlobals "abs" = some none)
    (z_int : PySem.W.nsIn K mainGlobals "int" = some none)
    (z_len : PySem.W.nsIn K mainGlobals "len" = some none)
    (z_list : PySem.W.nsIn K mainGlobals "list" = some none)
    (z_range : PySem.W.nsIn K mainGlobals "range" = some none)
    (z_reversed : PySem.W.nsIn K mainGlobals "reversed" = some none)
    (z_sorted : PySem.W.nsIn K mainGlobals "sorted" = some none)
    (z_tuple : PySem.W.nsIn K mainGlobals "tuple" = some none)
    (z_bool : PySem.W.nsIn K mainGlobals "bool" = some none)
    (z_isinstance : PySem.W.nsIn K mainGlobals "isinstance" = some none)
    (z_str : PySem.W.nsIn K mainGlobals "str" = some none)
    (z_zip : PySem.W.nsIn K mainGlobals "zip" = some none)
    (z_all : PySem.W.nsIn K mainGlobals "all" = some none)
    (z_min : PySem.W.nsIn K mainGlobals "min" = some none)
    {t_MOST_KINDS : Tok} (g_MOST_KINDS : PySem.W.nsIn K mainGlobals "MOST_KINDS" = some (some (.int 6 t_MOST_KINDS)))
    {t_MOST_STAMP : Tok} (g_MOST_STAMP : PySem.W.nsIn K mainGlobals "MOST_STAMP" = some (some (.int 1000 t_MOST_STAMP)))
    {t_MOST_THERE : Tok} (g_MOST_THERE : PySem.W.nsIn K mainGlobals "MOST_THERE" = some (some (.int 20 t_MOST_THERE)))
    : LamX.LawAtS l w K (L2N.CX l.prog w) 14 63 "script" mg fa h := by
  have e := hfa.symm.trans (PySem.W.mg_of X T.g a_law)
  cases e
  have t_are_stamps := tab_at T X e_are_stamps (tabIn_of a_are_stamps l_are_stamps rfl lc_are_stamps hv_are_stamps)
  have t_is_stamp_store := tab_at T X e_is_stamp_store (tabIn_of a_is_stamp_store l_is_stamp_store rfl lc_is_stamp_store hv_is_stamp_store)
  refine ⟨PySem.W.fnOf "law" "law" (defArgs s_law) (defBody s_law) (defScope s_law) .none kV_law dc_law pm_law an_law cd_law ct_law, [(cc_are_stamps, P_are_stamps), (cc_is_stamp_store, P_is_stamp_store)], @spZ (tabsOf [(cc_are_stamps, P_are_stamps), (cc_is_stamp_store, P_is_stamp_store)]) K mg 1 m_law, ?_, ?_, ?_, fun s v => .of_eq rfl, ?_, ?_⟩
  · exact all_cons t_are_stamps.2 (all_cons t_is_stamp_store.2 all_nil)
  · exact all_cons n_are_stamps (all_cons n_is_stamp_store all_nil)
  · exact all_cons t_are_stamps.1 (all_cons t_is_stamp_store.1 all_nil)
  · intro H a ns hl _ hT hS
    obtain ⟨τ, hτ⟩ := hlaw ns hl
    exact sp_law hT hS hτ
  · intro base _ _ TBs
    letI : Tabs := tabsOf [(cc_are_stamps, P_are_stamps), (cc_is_stamp_store, P_is_stamp_store)]
    have T_are_stamps : LamX.TabB base mg cc_are_stamps P_are_stamps := TBs (cc_are_stamps, P_are_stamps) (by simp)
    have h_are_stamps : Tabs.t P_are_stamps := List.mem_map.mpr ⟨(cc_are_stamps, P_are_stamps), (by simp), rfl⟩
    have T_is_stamp_store : LamX.TabB base mg cc_is_stamp_store P_is_stamp_store := TBs (cc_is_stamp_store, P_is_stamp_store) (by simp)
    have h_is_stamp_store : Tabs.t P_is_stamp_store := List.mem_map.mpr ⟨(cc_is_stamp_store, P_is_stamp_store), (by simp), rfl⟩
    have m_abs := PySem.W.mg_none_of X T.g z_abs
    have m_int := PySem.W.mg_none_of X T.g z_int
    have m_len := PySem.W.mg_none_of X T.g z_len
    have m_list := PySem.W.mg_none_of X T.g z_list
    have m_range := PySem.W.mg_none_of X T.g z_range
    have m_reversed := PySem.W.mg_none_of X T.g z_reversed
    have m_sorted := PySem.W.mg_none_of X T.g z_sorted
    have m_tuple := PySem.W.mg_none_of X T.g z_tuple
    have m_bool := PySem.W.mg_none_of X T.g z_bool
    have m_isinstance := PySem.W.mg_none_of X T.g z_isinstance
    have m_str := PySem.W.mg_none_of X T.g z_str
    have m_zip := PySem.W.mg_none_of X T.g z_zip
    have m_all := PySem.W.mg_none_of X T.g z_all
    have m_min := PySem.W.mg_none_of X T.g z_min
    have g_MOST_KINDS := PySem.W.mg_of X T.g g_MOST_KINDS
    have g_MOST_STAMP := PySem.W.mg_of X T.g g_MOST_STAMP
    have g_MOST_THERE := PySem.W.mg_of X T.g g_MOST_THERE
    have E_PostError : ClsE K mg "PostError" C_PostError := ⟨PySem.W.mg_of X T.g a_PostError, ke_PostError, ⟨q1_PostError, q2_PostError, q3_PostError, q4_PostError, q5_PostError, u1, u2, q6_PostError⟩, q7_PostError, q8_PostError⟩
    have E_OutOfRange : ClsE K mg "OutOfRange" C_OutOfRange := ⟨PySem.W.mg_of X T.g a_OutOfRange, ke_OutOfRange, ⟨q1_OutOfRange, q2_OutOfRange, q3_OutOfRange, q4_OutOfRange, q5_OutOfRange, u1, u2, q6_OutOfRange⟩, q7_OutOfRange, q8_OutOfRange⟩
    have E_Malformed : ClsE K mg "Malformed" C_Malformed := ⟨PySem.W.mg_of X T.g a_Malformed, ke_Malformed, ⟨q1_Malformed, q2_Malformed, q3_Malformed, q4_Malformed, q5_Malformed, u1, u2, q6_Malformed⟩, q7_Malformed, q8_Malformed⟩
    have E_NotThere : ClsE K mg "NotThere" C_NotThere := ⟨PySem.W.mg_of X T.g a_NotThere, ke_NotThere, ⟨q1_NotThere, q2_NotThere, q3_NotThere, q4_NotThere, q5_NotThere, u1, u2, q6_NotThere⟩, q7_NotThere, q8_NotThere⟩
    have E_Refused : ClsE K mg "Refused" C_Refused := ⟨PySem.W.mg_of X T.g a_Refused, ke_Refused, ⟨q1_Refused, q2_Refused, q3_Refused, q4_Refused, q5_Refused, u1, u2, q6_Refused⟩, q7_Refused, q8_Refused⟩
    have E_TooMuch : ClsE K mg "TooMuch" C_TooMuch := ⟨PySem.W.mg_of X T.g a_TooMuch, ke_TooMuch, ⟨q1_TooMuch, q2_TooMuch, q3_TooMuch, q4_TooMuch, q5_TooMuch, u1, u2, q6_TooMuch⟩, q7_TooMuch, q8_TooMuch⟩
    have ET : ExT K mg exN exS := exT_of [("PostError", C_PostError), ("OutOfRange", C_OutOfRange), ("Malformed", C_Malformed), ("NotThere", C_NotThere), ("Refused", C_Refused), ("TooMuch", C_TooMuch)] (all_cons (E_PostError) (all_cons (E_OutOfRange) (all_cons (E_Malformed) (all_cons (E_NotThere) (all_cons (E_Refused) (all_cons (E_TooMuch) all_nil)))))) (all_cons (show exS "PostError" "PostError" = true from by decide +kernel) (all_cons (show exS "OutOfRange" "OutOfRange" = true from by decide +kernel) (all_cons (show exS "Malformed" "Malformed" = true from by decide +kernel) (all_cons (show exS "NotThere" "NotThere" = true from by decide +kernel) (all_cons (show exS "Refused" "Refused" = true from by decide +kernel) (all_cons (show exS "TooMuch" "TooMuch" = true from by decide +kernel) all_nil)))))) (all_cons (all_cons (p_PostError_PostError.trans (show some true = some (exS "PostError" "PostError") from by decide +kernel)) (all_cons (p_PostError_OutOfRange.trans (show some false = some (exS "PostError" "OutOfRange") from by decide +kernel)) (all_cons (p_PostError_Malformed.trans (show some false = some (exS "PostError" "Malformed") from by decide +kernel)) (all_cons (p_PostError_NotThere.trans (show some false = some (exS "PostError" "NotThere") from by decide +kernel)) (all_cons (p_PostError_Refused.trans (show some false = some (exS "PostError" "Refused") from by decide +kernel)) (all_cons (p_PostError_TooMuch.trans (show some false = some (exS "PostError" "TooMuch") from by decide +kernel)) all_nil)))))) (all_cons (all_cons (p_OutOfRange_PostError.trans (show some true = some (exS "OutOfRange" "PostError") from by decide +kernel)) (all_cons (p_OutOfRange_OutOfRange.trans (show some true = some (exS "OutOfRange" "OutOfRange") from by decide +kernel)) (all_cons (p_OutOfRange_Malformed.trans (show some false = some (exS "OutOfRange" "Malformed") from by decide +kernel)) (all_cons (p_OutOfRange_NotThere.trans (show some false = some (exS "OutOfRange" "NotThere") from by decide +kernel)) (all_cons (p_OutOfRange_Refused.trans (show some false = some (exS "OutOfRange" "Refused") from by decide +kernel)) (all_cons (p_OutOfRange_TooMuch.trans (show some false = some (exS "OutOfRange" "TooMuch") from by decide +kernel)) all_nil)))))) (all_cons (all_cons (p_Malformed_PostError.trans (show some true = some (exS "Malformed" "PostError") from by decide +kernel)) (all_cons (p_Malformed_OutOfRange.trans (show some false = some (exS "Malformed" "OutOfRange") from by decide +kernel)) (all_cons (p_Malformed_Malformed.trans (show some true = some (exS "Malformed" "Malformed") from by decide +kernel)) (all_cons (p_Malformed_NotThere.trans (show some false = some (exS "Malformed" "NotThere") from by decide +kernel)) (all_cons (p_Malformed_Refused.trans (show some false = some (exS "Malformed" "Refused") from by decide +kernel)) (all_cons (p_Malformed_TooMuch.trans (show some false = some (exS "Malformed" "TooMuch") from by decide +kernel)) all_nil)))))) (all_cons (all_cons (p_NotThere_PostError.trans (show some true = some (exS "NotThere" "PostError") from by decide +kernel)) (all_cons (p_NotThere_OutOfRange.trans (show some false = some (exS "NotThere" "OutOfRange") from by decide +kernel)) (all_cons (p_NotThere_Malformed.trans (show some false = some (exS "NotThere" "Malformed") from by decide +kernel)) (all_cons (p_NotThere_NotThere.trans (show some true = some (exS "NotThere" "NotThere") from by decide +kernel)) (all_cons (p_NotThere_Refused.trans (show some false = some (exS "NotThere" "Refused") from by decide +kernel)) (all_cons (p_NotThere_TooMuch.trans (show some false = some (exS "NotThere" "TooMuch") from by decide +kernel)) all_nil)))))) (all_cons (all_cons (p_Refused_PostError.trans (show some true = some (exS "Refused" "PostError") from by decide +kernel)) (all_cons (p_Refused_OutOfRange.trans (show some false = some (exS "Refused" "OutOfRange") from by decide +kernel)) (all_cons (p_Refused_Malformed.trans (show some false = some (exS "Refused" "Malformed") from by decide +kernel)) (all_cons (p_Refused_NotThere.trans (show some false = some (exS "Refused" "NotThere") from by decide +kernel)) (all_cons (p_Refused_Refused.trans (show some true = some (exS "Refused" "Refused") from by decide +kernel)) (all_cons (p_Refused_TooMuch.trans (show some false = some (exS "Refused" "TooMuch") from by decide +kernel)) all_nil)))))) (all_cons (all_cons (p_TooMuch_PostError.trans (show some true = some (exS "TooMuch" "PostError") from by decide +kernel)) (all_cons (p_TooMuch_OutOfRange.trans (show some false = some (exS "TooMuch" "OutOfRange") from by decide +kernel)) (all_cons (p_TooMuch_Malformed.trans (show some false = some (exS "TooMuch" "Malformed") from by decide +kernel)) (all_cons (p_TooMuch_NotThere.trans (show some false = some (exS "TooMuch" "NotThere") from by decide +kernel)) (all_cons (p_TooMuch_Refused.trans (show some false = some (exS "TooMuch" "Refused") from by decide +kernel)) (all_cons (p_TooMuch_TooMuch.trans (show some true = some (exS "TooMuch" "TooMuch") from by decide +kernel)) all_nil)))))) all_nil))))))
    have hno : ∀ b k, Tabs.ex b k → False := fun _ _ h => h
    have D__law_draws : DefI l.prog w K mg base 1 "_law_draws" f__law_draws _ ["script"] m__law_draws := ⟨ok__law_draws l__law_draws c__law_draws m_abs m_int m_len m_list m_range m_reversed, PySem.W.mg_of X T.g a__law_draws, k__law_draws, (.all fun us hl => match us, hl with | [_], _ => rfl)⟩
    have D__law_take : DefI l.prog w K mg base 1 "_law_take" f__law_take _ ["draws", "bound"] m__law_take := ⟨ok__law_take l__law_take c__law_take m_int m_len, PySem.W.mg_of X T.g a__law_take, k__law_take, (.all fun us hl => match us, hl with | [_, _], _ => rfl)⟩
    have D__law_stamps : DefI l.prog w K mg base 2 "_law_stamps" f__law_stamps _ ["draws", "most", "top"] m__law_stamps := ⟨ok__law_stamps l__law_stamps c__law_stamps m_range m_sorted m_tuple D__law_take, PySem.W.mg_of X T.g a__law_stamps, k__law_stamps, (.all fun us hl => match us, hl with | [_, _, _], _ => rfl)⟩
    have D__law_payable : DefI l.prog w K mg base 1 "_law_payable" f__law_payable _ ["stamps", "store"] m__law_payable := ⟨ok__law_payable l__law_payable c__law_payable m_len m_range m_sorted, PySem.W.mg_of X T.g a__law_payable, k__law_payable, (.all fun us hl => match us, hl with | [_, _], _ => rfl)⟩
    have D__law_alike : DefI l.prog w K mg base 13 "_law_alike" f__law_alike _ ["found", "due"] (m__law_alike 12) := ⟨ok__law_alike l__law_alike c__law_alike m_bool m_int m_isinstance m_len m_list m_range m_str m_tuple (PySem.W.mg_of X T.g a__law_alike) k__law_alike (.all fun us hl => match us, hl with | [_, _], _ => rfl) 12, PySem.W.mg_of X T.g a__law_alike, k__law_alike, (.all fun us hl => match us, hl with | [_, _], _ => rfl)⟩
    have D_payable : DefI l.prog w K mg base 1 "payable" f_payable _ ["stamps", "store"] m_payable := ⟨ok_payable l_payable c_payable m_range m_sorted m_tuple m_zip, PySem.W.mg_of X T.g a_payable, k_payable, (.all fun us hl => match us, hl with | [_, _], _ => rfl)⟩
    have D_least_over : DefI l.prog w K mg base 2 "least_over" f_least_over _ ["stamps", "store", "total"] m_least_over := ⟨ok_least_over l_least_over c_least_over D_payable E_OutOfRange xe_OutOfRange ET, PySem.W.mg_of X T.g a_least_over, k_least_over, (.all fun us hl => match us, hl with | [_, _, _], _ => rfl)⟩
    have D__law_word : DefP l.prog w K mg base Tabs.t exN 1 "_law_word" f__law_word _ "e" m__law_word := ⟨ok__law_word l__law_word c__law_word m_isinstance m_len E_Malformed xe_Malformed E_NotThere xe_NotThere E_OutOfRange xe_OutOfRange E_Refused xe_Refused E_TooMuch xe_TooMuch ET, PySem.W.mg_of X T.g a__law_word, k__law_word, (.all fun us hl => match us, hl with | [_], _ => rfl)⟩
    have D__law_told : DefI l.prog w K mg base 3 "_law_told" f__law_told _ ["stamps", "store", "total"] m__law_told := ⟨ok__law_told l__law_told c__law_told D_least_over D__law_word E_PostError xe_PostError hno ET, PySem.W.mg_of X T.g a__law_told, k__law_told, (.all fun us hl => match us, hl with | [_, _, _], _ => rfl)⟩
    have D__law_says : DefI l.prog w K mg base 1 "_law_says" f__law_says _ ["told", "due"] m__law_says := ⟨ok__law_says l__law_says c__law_says m_bool m_isinstance, PySem.W.mg_of X T.g a__law_says, k__law_says, (.all fun us hl => match us, hl with | [_, _], _ => rfl)⟩
    have D_is_number : DefI l.prog w K mg base 1 "is_number" f_is_number _ ["value", "least", "most"] m_is_number := ⟨ok_is_number l_is_number c_is_number m_bool m_int m_isinstance, PySem.W.mg_of X T.g a_is_number, k_is_number, (.all fun us hl => match us, hl with | [_, _, _], _ => rfl)⟩
    have D_are_stamps : DefI l.prog w K mg base 3 "are_stamps" f_are_stamps _ ["value"] m_are_stamps := ⟨ok_are_stamps l_are_stamps c_are_stamps m_all m_isinstance m_len m_range m_tuple g_MOST_KINDS g_MOST_STAMP D_is_number T_are_stamps h_are_stamps, PySem.W.mg_of X T.g a_are_stamps, k_are_stamps, (.all fun us hl => match us, hl with | [_], _ => rfl)⟩
    have D_is_stamp_store : DefI l.prog w K mg base 3 "is_stamp_store" f_is_stamp_store _ ["stamps", "value"] m_is_stamp_store := ⟨ok_is_stamp_store l_is_stamp_store c_is_stamp_store m_all m_isinstance m_len m_tuple g_MOST_THERE D_is_number T_is_stamp_store h_is_stamp_store, PySem.W.mg_of X T.g a_is_stamp_store, k_is_stamp_store, (.all fun us hl => match us, hl with | [_, _], _ => rfl)⟩
    exact ok_law l_law c_law m_list m_min m_range m_tuple D__law_alike D__law_draws D__law_payable D__law_says D__law_stamps D__law_take D__law_told D_are_stamps D_is_stamp_store D_payable
end K14
open PySem PySem.W PyProof.Rows
set_option maxHeartbeats 0 in
theorem PySem.Challenge.cw_postlaid_k14_whole_stores_of_stamps_holds : PySem.Challenge.rw_postlaid_k14_whole_stores_of_stamps.Holds := by
  w_on; o_law; k_head; (case hw => w_witness2)
  k_fill
  refine Z.walkZ (l := PySem.Challenge.rw_postlaid_k14_whole_stores_of_stamps) (n := 63) (k := 14) (x := "script") rfl (by decide) rfl ⟨rfl, by decide, by decide⟩ (fun w h Y => PySem.W.kIn_of Y) ?F
  case F =>
    intro w mean mg mb fa h T KX hmg
    refine' K14.law_mk T KX hmg K14.law_true (by decide +kernel) (by decide +kernel) ?a__law_draws ?l__law_draws ?c__law_draws ?k__law_draws ?a__law_take ?l__law_take ?c__law_take ?k__law_take ?a__law_stamps ?l__law_stamps ?c__law_stamps ?k__law_stamps ?a__law_payable ?l__law_payable ?c__law_payable ?k__law_payable ?a__law_alike ?l__law_alike ?c__law_alike ?k__law_alike ?a_payable ?l_payable ?c_payable ?k_payable ?a_least_over ?l_least_over ?c_least_over ?k_least_over ?a__law_word ?l__law_word ?c__law_word ?k__law_word ?a__law_told ?l__law_told ?c__law_told ?k__law_told ?a__law_says ?l__law_says ?c__law_says ?k__law_says ?a_is_number ?l_is_number ?c_is_number ?k_is_number ?a_are_stamps ?l_are_stamps ?c_are_stamps ?k_are_stamps ?a_is_stamp_store ?l_is_stamp_store ?c_is_stamp_store ?k_is_stamp_store ?a_law ?l_law ?c_law ?k_law ?lc_are_stamps ?hv_are_stamps ?n_are_stamps ?lc_is_stamp_store ?hv_is_stamp_store ?n_is_stamp_store ?a_PostError ?ke_PostError ?xe_PostError ?q1_PostError ?q2_PostError ?q3_PostError ?q4_PostError ?q5_PostError ?q6_PostError ?q7_PostError ?q8_PostError ?a_OutOfRange ?ke_OutOfRange ?xe_OutOfRange ?q1_OutOfRange ?q2_OutOfRange ?q3_OutOfRange ?q4_OutOfRange ?q5_OutOfRange ?q6_OutOfRange ?q7_OutOfRange ?q8_OutOfRange ?a_Malformed ?ke_Malformed ?xe_Malformed ?q1_Malformed ?q2_Malformed ?q3_Malformed ?q4_Malformed ?q5_Malformed ?q6_Malformed ?q7_Malformed ?q8_Malformed ?a_NotThere ?ke_NotThere ?xe_NotThere ?q1_NotThere ?q2_NotThere ?q3_NotThere ?q4_NotThere ?q5_NotThere ?q6_NotThere ?q7_NotThere ?q8_NotThere ?a_Refused ?ke_Refused ?xe_Refused ?q1_Refused ?q2_Refused ?q3_Refused ?q4_Refused ?q5_Refused ?q6_Refused ?q7_Refused ?q8_Refused ?a_TooMuch ?ke_TooMuch ?xe_TooMuch ?q1_TooMuch ?q2_TooMuch ?q3_TooMuch ?q4_TooMuch ?q5_TooMuch ?q6_TooMuch ?q7_TooMuch ?q8_TooMuch ?u1 ?u2 ?p_PostError_PostError ?p_PostError_OutOfRange ?p_PostError_Malformed ?p_PostError_NotThere ?p_PostError_Refused ?p_PostError_TooMuch ?p_OutOfRange_PostError ?p_OutOfRange_OutOfRange ?p_OutOfRange_Malformed ?p_OutOfRange_NotThere ?p_OutOfRange_Refused ?p_OutOfRange_TooMuch ?p_Malformed_PostError ?p_Malformed_OutOfRange ?p_Malformed_Malformed ?p_Malformed_NotThere ?p_Malformed_Refused ?p_Malformed_TooMuch ?p_NotThere_PostError ?p_NotThere_OutOfRange ?p_NotThere_Malformed ?p_NotThere_NotThere ?p_NotThere_Refused ?p_NotThere_TooMuch ?p_Refused_PostError ?p_Refused_OutOfRange ?p_Refused_Malformed ?p_Refused_NotThere ?p_Refused_Refused ?p_Refused_TooMuch ?p_TooMuch_PostError ?p_TooMuch_OutOfRange ?p_TooMuch_Malformed ?p_TooMuch_NotThere ?p_TooMuch_Refused ?p_TooMuch_TooMuch ?z_abs ?z_int ?z_len ?z_list ?z_range ?z_reversed ?z_sorted ?z_tuple ?z_bool ?z_isinstance ?z_str ?z_zip ?z_all ?z_min ?g_MOST_KINDS ?g_MOST_STAMP ?g_MOST_THERE
    (case a__law_draws => k_is); (case l__law_draws => k_is); (case c__law_draws => k_is); (case k__law_draws => k_is); (case a__law_take => k_is); (case l__law_take => k_is); (case c__law_take => k_is); (case k__law_take => k_is); (case a__law_stamps => k_is); (case l__law_stamps => k_is); (case c__law_stamps => k_is); (case k__law_stamps => k_is); (case a__law_payable => k_is); (case l__law_payable => k_is); (case c__law_payable => k_is); (case k__law_payable => k_is); (case a__law_alike => k_is); (case l__law_alike => k_is); (case c__law_alike => k_is); (case k__law_alike => k_is); (case a_payable => k_is); (case l_payable => k_is); (case c_payable => k_is); (case k_payable => k_is); (case a_least_over => k_is); (case l_least_over => k_is); (case c_least_over => k_is); (case k_least_over => k_is); (case a__law_word => k_is); (case l__law_word => k_is); (case c__law_word => k_is); (case k__law_word => k_is); (case a__law_told => k_is); (case l__law_told => k_is); (case c__law_told => k_is); (case k__law_told => k_is); (case a__law_says => k_is); (case l__law_says => k_is); (case c__law_says => k_is); (case k__law_says => k_is); (case a_is_number => k_is); (case l_is_number => k_is); (case c_is_number => k_is); (case k_is_number => k_is); (case a_are_stamps => k_is); (case l_are_stamps => k_is); (case c_are_stamps => k_is); (case k_are_stamps => k_is); (case a_is_stamp_store => k_is); (case l_is_stamp_store => k_is); (case c_is_stamp_store => k_is); (case k_is_stamp_store => k_is); (case a_law => k_is); (case l_law => k_is); (case c_law => k_is); (case k_law => k_is); (case lc_are_stamps => k_is); (case hv_are_stamps => exact rfl); (case n_are_stamps => kernel_rfl); (case lc_is_stamp_store => k_is); (case hv_is_stamp_store => exact rfl); (case n_is_stamp_store => kernel_rfl); (case a_PostError => k_is); (case ke_PostError => k_is); (case xe_PostError => k_exc); (case q1_PostError => k_is); (case q2_PostError => k_is); (case q3_PostError => k_is); (case q4_PostError => k_is); (case q5_PostError => k_is); (case q6_PostError => k_is); (case q7_PostError => k_is); (case q8_PostError => k_is); (case a_OutOfRange => k_is); (case ke_OutOfRange => k_is); (case xe_OutOfRange => k_exc); (case q1_OutOfRange => k_is); (case q2_OutOfRange => k_is); (case q3_OutOfRange => k_is); (case q4_OutOfRange => k_is); (case q5_OutOfRange => k_is); (case q6_OutOfRange => k_is); (case q7_OutOfRange => k_is); (case q8_OutOfRange => k_is); (case a_Malformed => k_is); (case ke_Malformed => k_is); (case xe_Malformed => k_exc); (case q1_Malformed => k_is); (case q2_Malformed => k_is); (case q3_Malformed => k_is); (case q4_Malformed => k_is); (case q5_Malformed => k_is); (case q6_Malformed => k_is); (case q7_Malformed => k_is); (case q8_Malformed => k_is); (case a_NotThere => k_is); (case ke_NotThere => k_is); (case xe_NotThere => k_exc); (case q1_NotThere => k_is); (case q2_NotThere => k_is); (case q3_NotThere => k_is); (case q4_NotThere => k_is); (case q5_NotThere => k_is); (case q6_NotThere => k_is); (case q7_NotThere => k_is); (case q8_NotThere => k_is); (case a_Refused => k_is); (case ke_Refused => k_is); (case xe_Refused => k_exc); (case q1_Refused => k_is); (case q2_Refused => k_is); (case q3_Refused => k_is); (case q4_Refused => k_is); (case q5_Refused => k_is); (case q6_Refused => k_is); (case q7_Refused => k_is); (case q8_Refused => k_is); (case a_TooMuch => k_is); (case ke_TooMuch => k_is); (case xe_TooMuch => k_exc); (case q1_TooMuch => k_is); (case q2_TooMuch => k_is); (case q3_TooMuch => k_is); (case q4_TooMuch => k_is); (case q5_TooMuch => k_is); (case q6_TooMuch => k_is); (case q7_TooMuch => k_is); (case q8_TooMuch => k_is); (case u1 => k_is); (case u2 => k_is); (case p_PostError_PostError => k_is); (case p_PostError_OutOfRange => k_is); (case p_PostError_Malformed => k_is); (case p_PostError_NotThere => k_is); (case p_PostError_Refused => k_is); (case p_PostError_TooMuch => k_is); (case p_OutOfRange_PostError => k_is); (case p_OutOfRange_OutOfRange => k_is); (case p_OutOfRange_Malformed => k_is); (case p_OutOfRange_NotThere => k_is); (case p_OutOfRange_Refused => k_is); (case p_OutOfRange_TooMuch => k_is); (case p_Malformed_PostError => k_is); (case p_Malformed_OutOfRange => k_is); (case p_Malformed_Malformed => k_is); (case p_Malformed_NotThere => k_is); (case p_Malformed_Refused => k_is); (case p_Malformed_TooMuch => k_is); (case p_NotThere_PostError => k_is); (case p_NotThere_OutOfRange => k_is); (case p_NotThere_Malformed => k_is); (case p_NotThere_NotThere => k_is); (case p_NotThere_Refused => k_is); (case p_NotThere_TooMuch => k_is); (case p_Refused_PostError => k_is); (case p_Refused_OutOfRange => k_is); (case p_Refused_Malformed => k_is); (case p_Refused_NotThere => k_is); (case p_Refused_Refused => k_is); (case p_Refused_TooMuch => k_is); (case p_TooMuch_PostError => k_is); (case p_TooMuch_OutOfRange => k_is); (case p_TooMuch_Malformed => k_is); (case p_TooMuch_NotThere => k_is); (case p_TooMuch_Refused => k_is); (case p_TooMuch_TooMuch => k_is); (case z_abs => k_is); (case z_int => k_is); (case z_len => k_is); (case z_list => k_is); (case z_range => k_is); (case z_reversed => k_is); (case z_sorted => k_is); (case z_tuple => k_is); (case z_bool => k_is); (case z_isinstance => k_is); (case z_str => k_is); (case z_zip => k_is); (case z_all => k_is); (case z_min => k_is); (case g_MOST_KINDS => k_is); (case g_MOST_STAMP => k_is); (case g_MOST_THERE => k_is)

