import PyProof.Rows.All
import HandS.ForMost
import HandS.ForExc
import HandS.TupAny
import HandS.TupMul
import HandS.Deep
import HandS.IsInst
import HandS.Zip
import HandS.Flow
import HandS.StrMore
import HandS.Style
import KE.DataCmp
import HandS.TupLen
import HandS.More
import HandS.Walk
import KE.GoesEnum
import HandS.WideBits
import HandS.Text
import KE.SortData
import HandS.Codes
import HandS.RaiseMore
import KE.KRevSl
import HandS.TupSets
import KE.KDictPairs
import HandS.EndBits
import PySem.Challenge.RW_shapedasks_k02_worlds
set_option Elab.async false
set_option linter.all false
set_option maxRecDepth 100000
-- part C1
namespace G
open PySem L2

/-! ### values, stores, results -/
/-- the kinds of a dict's keys: ints and texts; tuples of such; any data -/
inductive Kd where
  | k | t | d
  deriving DecidableEq
inductive Val where
  | non | bl (b : Bool) | int (i : Int) | str (x : List Nat)
  | tup (xs : List Val) | lst (xs : List Val) | dct (t : Kd) (kvs : List (Val × Val)) | ref (n : Nat) | scr (ns : List Int) | wt (xs : List Val)

mutual
def decV : (a b : Val) → Decidable (a = b)
  | .tup xs, .tup ys => match decVL xs ys with
    | .isTrue h => .isTrue (by rw [h])
    | .isFalse h => .isFalse fun e => h (Val.tup.inj e)
  | .lst xs, .lst ys => match decVL xs ys with
    | .isTrue h => .isTrue (by rw [h])
    | .isFalse h => .isFalse fun e => h (Val.lst.inj e)
  | .wt xs, .wt ys => match decVL xs ys with
    | .isTrue h => .isTrue (by rw [h])
    | .isFalse h => .isFalse fun e => h (Val.wt.inj e)
  | .dct t xs, .dct u ys => if ht : t = u then match decVD xs ys with
      | .isTrue h => .isTrue (by rw [h, ht])
      | .isFalse h => .isFalse fun e => h (Val.dct.inj e).2
    else .isFalse fun e => ht (Val.dct.inj e).1
  | .non, .non => .isTrue rfl
  | .bl a, .bl b => if h : a = b then .isTrue (by rw [h]) else .isFalse fun e => h (Val.bl.inj e)
  | .int a, .int b => if h : a = b then .isTrue (by rw [h]) else .isFalse fun e => h (Val.int.inj e)
  | .str a, .str b => if h : a = b then .isTrue (by rw [h]) else .isFalse fun e => h (Val.str.inj e)
  | .ref a, .ref b => if h : a = b then .isTrue (by rw [h]) else .isFalse fun e => h (Val.ref.inj e)
  | .scr a, .scr b => if h : a = b then .isTrue (by rw [h]) else .isFalse fun e => h (Val.scr.inj e)
  | .non, .bl _ | .non, .int _ | .non, .str _ | .non, .tup _ | .non, .lst _ | .non, .dct _ _ | .non, .ref _ | .non, .scr _ | .non, .wt _ => .isFalse (by intro h; cases h)
  | .bl _, .non | .bl _, .int _ | .bl _, .str _ | .bl _, .tup _ | .bl _, .lst _ | .bl _, .dct _ _ | .bl _, .ref _ | .bl _, .scr _ | .bl _, .wt _ => .isFalse (by intro h; cases h)
  | .int _, .non | .int _, .bl _ | .int _, .str _ | .int _, .tup _ | .int _, .lst _ | .int _, .dct _ _ | .int _, .ref _ | .int _, .scr _ | .int _, .wt _ => .isFalse (by intro h; cases h)
  | .str _, .non | .str _, .bl _ | .str _, .int _ | .str _, .tup _ | .str _, .lst _ | .str _, .dct _ _ | .str _, .ref _ | .str _, .scr _ | .str _, .wt _ => .isFalse (by intro h; cases h)
  | .tup _, .non | .tup _, .bl _ | .tup _, .int _ | .tup _, .str _ | .tup _, .lst _ | .tup _, .dct _ _ | .tup _, .ref _ | .tup _, .scr _ | .tup _, .wt _ => .isFalse (by intro h; cases h)
  | .lst _, .non | .lst _, .bl _ | .lst _, .int _ | .lst _, .str _ | .lst _, .tup _ | .lst _, .dct _ _ | .lst _, .ref _ | .lst _, .scr _ | .lst _, .wt _ => .isFalse (by intro h; cases h)
  | .dct _ _, .non | .dct _ _, .bl _ | .dct _ _, .int _ | .dct _ _, .str _ | .dct _ _, .tup _ | .dct _ _, .lst _ | .dct _ _, .ref _ | .dct _ _, .scr _ | .dct _ _, .wt _ => .isFalse (by intro h; cases h)
  | .ref _, .non | .ref _, .bl _ | .ref _, .int _ | .ref _, .str _ | .ref _, .tup _ | .ref _, .lst _ | .ref _, .dct _ _ | .ref _, .scr _ | .ref _, .wt _ => .isFalse (by intro h; cases h)
  | .scr _, .non | .scr _, .bl _ | .scr _, .int _ | .scr _, .str _ | .scr _, .tup _ | .scr _, .lst _ | .scr _, .dct _ _ | .scr _, .ref _ | .scr _, .wt _ => .isFalse (by intro h; cases h)
  | .wt _, .non | .wt _, .bl _ | .wt _, .int _ | .wt _, .str _ | .wt _, .tup _ | .wt _, .lst _ | .wt _, .dct _ _ | .wt _, .ref _ | .wt _, .scr _ => .isFalse (by intro h; cases h)
def decVL : (a b : List Val) → Decidable (a = b)
  | [], [] => .isTrue rfl
  | x :: xs, y :: ys => match decV x y, decVL xs ys with
    | .isTrue h, .isTrue h2 => .isTrue (by rw [h, h2])
    | .isFalse h, _ => .isFalse fun e => h (List.cons.inj e).1
    | _, .isFalse h => .isFalse fun e => h (List.cons.inj e).2
  | [], _ :: _ => .isFalse (by intro h; cases h)
  | _ :: _, [] => .isFalse (by intro h; cases h)
def decVD : (a b : List (Val × Val)) → Decidable (a = b)
  | [], [] => .isTrue rfl
  | (k, v) :: xs, (l, w) :: ys => match decV k l, decV v w, decVD xs ys with
    | .isTrue h, .isTrue h1, .isTrue h2 => .isTrue (by rw [h, h1, h2])
    | .isFalse h, _, _ => .isFalse fun e => h (Prod.mk.inj (List.cons.inj e).1).1
    | _, .isFalse h, _ => .isFalse fun e => h (Prod.mk.inj (List.cons.inj e).1).2
    | _, _, .isFalse h => .isFalse fun e => h (List.cons.inj e).2
  | [], _ :: _ => .isFalse (by intro h; cases h)
  | _ :: _, [] => .isFalse (by intro h; cases h)
end
instance : DecidableEq Val := decV
inductive Cell where
  | lst (xs : List Val)
  | dct (t : Kd) (kvs : List (Val × Val))
  | ins (c : String) (fs : List (String × Val))
  deriving DecidableEq

abbrev Sto := List Cell
inductive Res (α : Type) where
  | ok (a : α) (m : Sto)
  | exc (c : String) (m : Sto)
  | stuck
def Res.bind {α β : Type} (r : Res α) (k : α → Sto → Res β) : Res β :=
  match r with
  | .ok a m => k a m
  | .exc c m => .exc c m
  | .stuck => .stuck
@[simp] theorem Res.bind_ok {α β : Type} (a : α) (m : Sto) (k : α → Sto → Res β) : (Res.ok a m).bind k = k a m := id rfl
@[simp] theorem Res.bind_exc {α β : Type} (c : String) (m : Sto) (k : α → Sto → Res β) : (Res.exc c m : Res α).bind k = .exc c m := id rfl
@[simp] theorem Res.bind_stuck {α β : Type} (k : α → Sto → Res β) : (Res.stuck : Res α).bind k = .stuck := id rfl

abbrev Env := List (Option Val)
abbrev EF := Env → Sto → Res Val
abbrev AF := Env → Sto → Res (List Val)
abbrev TF := Env → Sto → Res Bool

/-! ### how values lie in the abstract heap -/
abbrev sV (x : List Nat) : V := .str ⟨x.toArray⟩
/-- a dict's key, as a value -/
def kVal : Key → Val
  | .inl i => .int i
  | .inr x => .str x.cps.toList
/-- the dict's object: int and text keys; tuples of such -/
def DOb : Kd → HO → List (Val × V) → Prop
  | .k, o, ks => ∃ ks' : List (Key × V), o = .dK ks' ∧ ks = ks'.map fun p => (kVal p.1, p.2)
  | .t, o, ks => ∃ ks' : List (List Key × V), o = .dT ks' ∧ ks = ks'.map fun p => (.tup (p.1.map kVal), p.2)
  | .d, _, _ => False
/-- a tuple's form that may be a dict's key: ints and texts, not empty -/
def keyOne : Val → Bool
  | .int _ | .str _ => true
  | _ => false
def keyT (xs : List Val) : Bool := !xs.isEmpty && xs.all keyOne
/-- how a tuple lies: as a key, bare; else frozen, its object told to have no dict -/
def tupO (b : Bool) (o : Obj) (us : List V) : HO := if b = true then .tup us else .frz o (.tup us)
def TpA (F : Hp) (b : Bool) (a : Addr) (us : List V) : Prop := ∃ o : Obj, o.dict = none ∧ F a = some (tupO b o us)
theorem TpA.rd {F : Hp} {b : Bool} {a : Addr} {us : List V} (h : TpA F b a us) : Rd F a (.tup us) := by
  obtain ⟨o, _, h⟩ := h
  unfold tupO at h
  split at h
  · exact .inl h
  · exact .inr ⟨o, h⟩
theorem TpA.mono {F F' : Hp} {b : Bool} {a : Addr} {us : List V} (hs : ∀ a o, F a = some o → F' a = some o) (h : TpA F b a us) : TpA F' b a us := by
  obtain ⟨o, h1, h2⟩ := h
  exact ⟨o, h1, hs _ _ h2⟩
theorem TpA.key {F : Hp} {a : Addr} {us : List V} (h : TpA F true a us) : F a = some (.tup us) := by
  obtain ⟨o, _, h⟩ := h
  exact h
mutual
def Rep (K : PySem.W.Frag) (β : List Addr) (F : Hp) : Val → V → Prop
  | .non, u => u = .non
  | .bl b, u => u = .bl b
  | .int i, u => u = .int i
  | .str x, u => u = sV x
  | .tup xs, u => ∃ a us, u = .ref a ∧ TpA F (keyT xs) a us ∧ RepL K β F xs us
  | .wt xs, u => ∃ a us, u = .ref a ∧ SqT K F a us ∧ RepL K β F xs us
  | .lst xs, u => ∃ a us, u = .ref a ∧ F a = some (.lst us) ∧ RepL K β F xs us
  | .scr ns, u => ∃ a, u = .ref a ∧ SqL K F a (ns.map V.int)
  | .dct t kvs, u => ∃ a o ks, u = .ref a ∧ F a = some o ∧ DOb t o ks ∧ RepD K β F kvs ks
  | .ref n, u => ∃ a, u = .ref a ∧ β[n]? = some a
def RepL (K : PySem.W.Frag) (β : List Addr) (F : Hp) : List Val → List V → Prop
  | [], us => us = []
  | v :: vs, us => ∃ u r, us = u :: r ∧ Rep K β F v u ∧ RepL K β F vs r
def RepD (K : PySem.W.Frag) (β : List Addr) (F : Hp) : List (Val × Val) → List (Val × V) → Prop
  | [], us => us = []
  | p :: vs, us => ∃ u r, us = u :: r ∧ RepP K β F p u ∧ RepD K β F vs r
def RepP (K : PySem.W.Frag) (β : List Addr) (F : Hp) : Val × Val → Val × V → Prop
  | (k, v), (q, u) => q = k ∧ Rep K β F v u
end
/-- the store grows: new cells behind, immutable things stay -/
structure Ext (β β' : List Addr) (F F' H H' : Hp) : Prop where
  pre : ∃ γ, β' = β ++ γ ∧ ∀ b ∈ γ, H b = none
  sub : ∀ a o, F a = some o → F' a = some o
  keep : ∀ a o, H a = some o → a ∉ β → H' a = some o
  stay : ∀ a, H a ≠ none → H' a ≠ none
  new : ∀ a o, F' a = some o → F a = some o ∨ H a = none
theorem Ext.refl (β : List Addr) (F H : Hp) : Ext β β F F H H := ⟨⟨[], by simp, by simp⟩, fun _ _ h => h, fun _ _ h _ => h, fun _ h => h, fun _ _ h => .inl h⟩
theorem Ext.trans {β β1 β2 : List Addr} {F F1 F2 H H1 H2 : Hp} (a : Ext β β1 F F1 H H1) (b : Ext β1 β2 F1 F2 H1 H2) : Ext β β2 F F2 H H2 := by
  obtain ⟨⟨g, rfl, n⟩, h, k, s, w⟩ := a
  obtain ⟨⟨g2, rfl, n2⟩, h2, k2, s2, w2⟩ := b
  refine ⟨⟨g ++ g2, by simp, fun b hb => ?_⟩, fun x o e => h2 x o (h x o e), fun x o e nb => k2 x o (k x o e nb) fun hx => ?_, fun x e => s2 x (s x e), fun x o e => ?_⟩
  · rcases List.mem_append.mp hb with hb | hb
    · exact n b hb
    · cases q : H b with
      | none => rfl
      | some o => exact absurd (n2 b hb) (s b (by rw [q]; simp))
  · rcases List.mem_append.mp hx with hx | hx
    · exact nb hx
    · rw [n x hx] at e; cases e
  · rcases w2 x o e with q | q
    · exact w x o q
    · right
      cases r : H x with
      | none => rfl
      | some o' => exact absurd q (s x (by rw [r]; simp))
theorem Ext.get {β β' : List Addr} {F F' H H' : Hp} (e : Ext β β' F F' H H') {n : Nat} {a : Addr} (h : β[n]? = some a) : β'[n]? = some a := by
  obtain ⟨⟨g, rfl, _⟩, _⟩ := e
  have hn : n < β.length := (List.getElem?_eq_some_iff.mp h).1
  rw [List.getElem?_append_left hn]; exact h
theorem rd_mono {F F' : Hp} (h : ∀ a o, F a = some o → F' a = some o) {a : Addr} {u : HO} (r : Rd F a u) : Rd F' a u := by
  rcases r with r | ⟨o, r⟩
  · exact .inl (h _ _ r)
  · exact .inr ⟨o, h _ _ r⟩
theorem sqT_mono {K : PySem.W.Frag} {F F' : Hp} (h : ∀ a o, F a = some o → F' a = some o) {a : Addr} {xs : List V} (r : SqT K F a xs) : SqT K F' a xs := by
  rcases r with r | r
  · exact .inl (rd_mono h r)
  · exact .inr r
theorem sqL_mono {K : PySem.W.Frag} {F F' : Hp} (h : ∀ a o, F a = some o → F' a = some o) {a : Addr} {xs : List V} (r : SqL K F a xs) : SqL K F' a xs := by
  rcases r with r | r
  · exact .inl (rd_mono h r)
  · exact .inr r
theorem TpA.sq {K : PySem.W.Frag} {F F' : Hp} {b : Bool} {a : Addr} {us : List V} (h : TpA F b a us) (hs : ∀ a o, F a = some o → F' a = some o) : SqT K F' a us := .inl (rd_mono hs h.rd)
mutual
theorem Rep.ext {K : PySem.W.Frag} {β β' : List Addr} {F F' H H' : Hp} (e : Ext β β' F F' H H') : ∀ {v : Val} {u : V}, Rep K β F v u → Rep K β' F' v u
  | .non, _, h => by simpa [Rep] using h
  | .bl _, _, h => by simpa [Rep] using h
  | .int _, _, h => by simpa [Rep] using h
  | .str _, _, h => by simpa [Rep] using h
  | .tup _, _, h => by
    rw [Rep] at h ⊢
    obtain ⟨a, us, e1, e2, e3⟩ := h
    exact ⟨a, us, e1, e2.mono e.sub, RepL.ext e e3⟩
  | .wt _, _, h => by
    rw [Rep] at h ⊢
    obtain ⟨a, us, e1, e2, e3⟩ := h
    exact ⟨a, us, e1, sqT_mono e.sub e2, RepL.ext e e3⟩
  | .lst _, _, h => by
    rw [Rep] at h ⊢
    obtain ⟨a, us, e1, e2, e3⟩ := h
    exact ⟨a, us, e1, e.sub _ _ e2, RepL.ext e e3⟩
  | .scr _, _, h => by
    rw [Rep] at h ⊢
    obtain ⟨a, e1, e2⟩ := h
    exact ⟨a, e1, sqL_mono e.sub e2⟩
  | .dct _ _, _, h => by
    rw [Rep] at h ⊢
    obtain ⟨a, o, us, e1, e2, e3, e4⟩ := h
    exact ⟨a, o, us, e1, e.sub _ _ e2, e3, RepD.ext e e4⟩
  | .ref _, _, h => by
    rw [Rep] at h ⊢
    obtain ⟨a, e1, e2⟩ := h
    exact ⟨a, e1, e.get e2⟩
theorem RepL.ext {K : PySem.W.Frag} {β β' : List Addr} {F F' H H' : Hp} (e : Ext β β' F F' H H') : ∀ {v : List Val} {u : List V}, RepL K β F v u → RepL K β' F' v u
  | [], _, h => by simpa [RepL] using h
  | _ :: _, _, h => by
    rw [RepL] at h ⊢
    obtain ⟨u, r, e1, e2, e3⟩ := h
    exact ⟨u, r, e1, Rep.ext e e2, RepL.ext e e3⟩
theorem RepD.ext {K : PySem.W.Frag} {β β' : List Addr} {F F' H H' : Hp} (e : Ext β β' F F' H H') : ∀ {v : List (Val × Val)} {u : List (Val × V)}, RepD K β F v u → RepD K β' F' v u
  | [], _, h => by simpa [RepD] using h
  | _ :: _, _, h => by
    rw [RepD] at h ⊢
    obtain ⟨u, r, e1, e2, e3⟩ := h
    exact ⟨u, r, e1, RepP.ext e e2, RepD.ext e e3⟩
theorem RepP.ext {K : PySem.W.Frag} {β β' : List Addr} {F F' H H' : Hp} (e : Ext β β' F F' H H') : ∀ {v : Val × Val} {u : Val × V}, RepP K β F v u → RepP K β' F' v u
  | (_, _), (_, _), h => by
    rw [RepP] at h ⊢
    exact ⟨h.1, Rep.ext e h.2⟩
end

/-- a cell's object -/
def CellAt (K : PySem.W.Frag) (mg : Str → Option Value) (β : List Addr) (F : Hp) : Cell → HO → Prop
  | .lst xs, o => ∃ us, o = .lst us ∧ RepL K β F xs us
  | .dct t kvs, o => ∃ us, DOb t o us ∧ RepD K β F kvs us
  | .ins c fs, o => ∃ C dx ds, o = .ins C dx ds ∧ mg c = some (.ref C) ∧ ds.map (·.1) = fs.map (fun p => (Str.ofString p.1)) ∧ RepL K β F (fs.map (·.2)) (ds.map (·.2))
theorem CellAt.ext {K : PySem.W.Frag} {mg : Str → Option Value} {β β' : List Addr} {F F' H H' : Hp} (e : Ext β β' F F' H H') {c : Cell} {o : HO} (h : CellAt K mg β F c o) : CellAt K mg β' F' c o := by
  cases c with
  | lst xs => obtain ⟨us, e1, e2⟩ := h; exact ⟨us, e1, e2.ext e⟩
  | dct t xs => obtain ⟨us, e1, e2⟩ := h; exact ⟨us, e1, e2.ext e⟩
  | ins c fs => obtain ⟨C, dx, ds, e1, e2, e3, e4⟩ := h; exact ⟨C, dx, ds, e1, e2, e3, e4.ext e⟩

structure Wld (K : PySem.W.Frag) (mg : Str → Option Value) (β : List Addr) (F : Hp) (m : Sto) (H : Hp) : Prop where
  sub : ∀ a o, F a = some o → H a = some o
  len : β.length = m.length
  nd : β.Nodup
  off : ∀ a ∈ β, F a = none
  at' : ∀ (n : Nat) (a : Addr) (c : Cell), β[n]? = some a → m[n]? = some c → ∃ o, H a = some o ∧ CellAt K mg β F c o

/-- the end of an expression: what is known of its value -/
def Fin (K : PySem.W.Frag) (mg : Str → Option Value) (W : XK) (β : List Addr) (F H : Hp) (r : Res Val) (Q : VK) : Prop :=
  match r with
  | .ok v m => ∀ β' F' H' u, Ext β β' F F' H H' → Wld K mg β' F' m H' → Rep K β' F' v u → Q u H'
  | .exc c m => ∀ β' F' H', Ext β β' F F' H H' → Wld K mg β' F' m H' → ∃ C, mg c = some (.ref C) ∧ W (.ref C) none H'
  | .stuck => False
def FinL (K : PySem.W.Frag) (mg : Str → Option Value) (W : XK) (β : List Addr) (F H : Hp) (r : Res (List Val)) (Q : List V → Hp → Prop) : Prop :=
  match r with
  | .ok v m => ∀ β' F' H' u, Ext β β' F F' H H' → Wld K mg β' F' m H' → RepL K β' F' v u → Q u H'
  | .exc c m => ∀ β' F' H', Ext β β' F F' H H' → Wld K mg β' F' m H' → ∃ C, mg c = some (.ref C) ∧ W (.ref C) none H'
  | .stuck => False
def FinT (K : PySem.W.Frag) (mg : Str → Option Value) (W : XK) (β : List Addr) (F H : Hp) (r : Res Bool) (Q : Bool → Hp → Prop) : Prop :=
  match r with
  | .ok v m => ∀ β' F' H', Ext β β' F F' H H' → Wld K mg β' F' m H' → Q v H'
  | .exc c m => ∀ β' F' H', Ext β β' F F' H H' → Wld K mg β' F' m H' → ∃ C, mg c = some (.ref C) ∧ W (.ref C) none H'
  | .stuck => False
theorem Fin.ext {K : PySem.W.Frag} {mg : Str → Option Value} {W : XK} {β β1 : List Addr} {F F1 H H1 : Hp} {r : Res Val} {Q : VK} (e : Ext β β1 F F1 H H1) (h : Fin K mg W β F H r Q) : Fin K mg W β1 F1 H1 r Q := by
  cases r with
  | ok v m => exact fun β' F' H' u x w q => h β' F' H' u (e.trans x) w q
  | exc c m => exact fun β' F' H' x w => h β' F' H' (e.trans x) w
  | stuck => exact h
theorem FinL.ext {K : PySem.W.Frag} {mg : Str → Option Value} {W : XK} {β β1 : List Addr} {F F1 H H1 : Hp} {r : Res (List Val)} {Q : List V → Hp → Prop} (e : Ext β β1 F F1 H H1) (h : FinL K mg W β F H r Q) : FinL K mg W β1 F1 H1 r Q := by
  cases r with
  | ok v m => exact fun β' F' H' u x w q => h β' F' H' u (e.trans x) w q
  | exc c m => exact fun β' F' H' x w => h β' F' H' (e.trans x) w
  | stuck => exact h
theorem FinT.ext {K : PySem.W.Frag} {mg : Str → Option Value} {W : XK} {β β1 : List Addr} {F F1 H H1 : Hp} {r : Res Bool} {Q : Bool → Hp → Prop} (e : Ext β β1 F F1 H H1) (h : FinT K mg W β F H r Q) : FinT K mg W β1 F1 H1 r Q := by
  cases r with
  | ok v m => exact fun β' F' H' x w => h β' F' H' (e.trans x) w
  | exc c m => exact fun β' F' H' x w => h β' F' H' (e.trans x) w
  | stuck => exact h

/-- the slots -/
structure ER (K : PySem.W.Frag) (β : List Addr) (F : Hp) (ρ : Env) (σ : L2.St) : Prop where
  len : ρ.length = σ.length
  at' : ∀ (i : Nat) v, ρ[i]? = some (some v) → ∃ u, σ[i]? = some (some u) ∧ Rep K β F v u
theorem ER.ext {K : PySem.W.Frag} {β β' : List Addr} {F F' : Hp} {ρ : Env} {σ : L2.St} {H H' : Hp} (e : Ext β β' F F' H H') (h : ER K β F ρ σ) : ER K β' F' ρ σ :=
  ⟨h.len, fun i v x => let ⟨u, a, b⟩ := h.at' i v x; ⟨u, a, b.ext e⟩⟩
theorem ER.set {K : PySem.W.Frag} {β : List Addr} {F : Hp} {ρ : Env} {σ : L2.St} (h : ER K β F ρ σ) {v : Val} {u : V} (r : Rep K β F v u) (i : Nat) : ER K β F (ρ.set i (some v)) (σ.set i (some u)) := by
  refine ⟨by simp [h.len], fun j w e => ?_⟩
  by_cases hj : i = j
  · subst hj
    have hl : i < ρ.length := by
      have := (List.getElem?_eq_some_iff.mp e).1
      simpa using this
    rw [List.getElem?_set_self hl] at e
    cases e
    exact ⟨u, by rw [List.getElem?_set_self (by rw [← h.len]; exact hl)], r⟩
  · rw [List.getElem?_set_ne hj] at e ⊢
    exact h.at' j w e

def tEF (X : Cx) (W : WX) (f : EF) : TE := fun σ H Q => ∃ ρ m β F, ER X.K β F ρ σ ∧ Wld X.K X.mg β F m H ∧ Fin X.K X.mg (fun c d H => W c d σ H) β F H (f ρ m) Q
def tAF (X : Cx) (W : WX) (f : AF) : TA := fun σ H Q => ∃ ρ m β F, ER X.K β F ρ σ ∧ Wld X.K X.mg β F m H ∧ FinL X.K X.mg (fun c d H => W c d σ H) β F H (f ρ m) Q
def tTF (X : Cx) (W : WX) (f : TF) : TT := fun σ H Q => ∃ ρ m β F, ER X.K β F ρ σ ∧ Wld X.K X.mg β F m H ∧ FinT X.K X.mg (fun c d H => W c d σ H) β F H (f ρ m) Q
end G

-- part C2
namespace G
open PySem L2
variable {X : Cx} {W : XK}

theorem pe_imp {e : Expr} {t t' : TE} (h : PE X e t) (hi : ∀ σ H Q, t' σ H Q → t σ H Q) : PE X e t' := ⟨fun pins s σ H Q I q => h.run pins s σ H Q I (hi _ _ _ q)⟩
theorem pt_imp {e : Expr} {t t' : TT} (h : PT X e t) (hi : ∀ σ H Q, t' σ H Q → t σ H Q) : PT X e t' := ⟨fun pins s σ H Q I q => h.run pins s σ H Q I (hi _ _ _ q)⟩
theorem pw_imp {e : Expr} {t t' : TT} (h : PW X e t) (hi : ∀ σ H Q, t' σ H Q → t σ H Q) : PW X e t' := ⟨fun wh pins s σ H Q I q => h.run wh pins s σ H Q I (hi _ _ _ q)⟩
theorem pa_imp {e : List Expr} {t t' : TA} (h : PA X e t) (hi : ∀ σ H Q, t' σ H Q → t σ H Q) : PA X e t' := ⟨fun pos pins s σ H Q I q => h.run pos pins s σ H Q I (hi _ _ _ q)⟩

/-- the judgements: an expression means the function f -/
structure EE (X : Cx) (W : XK) (e : Expr) (f : EF) : Prop where
  pe : PE X e (tEF X (fun c d _ H => W c d H) f)
structure ET (X : Cx) (W : XK) (e : Expr) (f : TF) : Prop where
  pt : PT X e (tTF X (fun c d _ H => W c d H) f)
structure EW (X : Cx) (W : XK) (e : Expr) (f : TF) : Prop where
  pw : PW X e (tTF X (fun c d _ H => W c d H) f)
structure EA (X : Cx) (W : XK) (es : List Expr) (f : AF) : Prop where
  pa : PA X es (tAF X (fun c d _ H => W c d H) f)

/-! ### binds -/
theorem fin_bind {K : PySem.W.Frag} {mg : Str → Option Value} {W : XK} {β : List Addr} {F H : Hp} {α : Type} {r : Res α} {k : α → Sto → Res Val} {Q : VK} (h : Fin K mg W β F H (r.bind k) Q) :
    match r with
    | .ok a m => Fin K mg W β F H (k a m) Q
    | .exc c m => ∀ β' F' H', Ext β β' F F' H H' → Wld K mg β' F' m H' → ∃ C, mg c = some (.ref C) ∧ W (.ref C) none H'
    | .stuck => False := by
  cases r <;> exact h
theorem finL_bind {K : PySem.W.Frag} {mg : Str → Option Value} {W : XK} {β : List Addr} {F H : Hp} {α : Type} {r : Res α} {k : α → Sto → Res (List Val)} {Q : List V → Hp → Prop} (h : FinL K mg W β F H (r.bind k) Q) :
    match r with
    | .ok a m => FinL K mg W β F H (k a m) Q
    | .exc c m => ∀ β' F' H', Ext β β' F F' H H' → Wld K mg β' F' m H' → ∃ C, mg c = some (.ref C) ∧ W (.ref C) none H'
    | .stuck => False := by
  cases r <;> exact h
theorem finT_bind {K : PySem.W.Frag} {mg : Str → Option Value} {W : XK} {β : List Addr} {F H : Hp} {α : Type} {r : Res α} {k : α → Sto → Res Bool} {Q : Bool → Hp → Prop} (h : FinT K mg W β F H (r.bind k) Q) :
    match r with
    | .ok a m => FinT K mg W β F H (k a m) Q
    | .exc c m => ∀ β' F' H', Ext β β' F F' H H' → Wld K mg β' F' m H' → ∃ C, mg c = some (.ref C) ∧ W (.ref C) none H'
    | .stuck => False := by
  cases r <;> exact h

abbrev wx (W : XK) : WX := fun c d _ H => W c d H
/-- the first part of an expression: what follows is shown for each of its ends -/
theorem t_then {fa : EF} {σ : L2.St} {H : Hp} {Q : VK} {ρ : Env} {m : Sto} {β : List Addr} {F : Hp} (er : ER X.K β F ρ σ) (wl : Wld X.K X.mg β F m H)
    (h : match fa ρ m with
      | .ok a m1 => ∀ β' F' H' u, Ext β β' F F' H H' → Wld X.K X.mg β' F' m1 H' → Rep X.K β' F' a u → Q u H'
      | .exc c m1 => ∀ β' F' H', Ext β β' F F' H H' → Wld X.K X.mg β' F' m1 H' → ∃ C, X.mg c = some (.ref C) ∧ W (.ref C) none H'
      | .stuck => False) : tEF X (wx W) fa σ H Q := ⟨ρ, m, β, F, er, wl, h⟩
theorem t_thenE {fa : EF} {k : Val → Sto → Res Val} {σ : L2.St} {H : Hp} {Q : VK} {Q1 : VK} {ρ : Env} {m : Sto} {β : List Addr} {F : Hp} (er : ER X.K β F ρ σ) (wl : Wld X.K X.mg β F m H) (h : Fin X.K X.mg W β F H ((fa ρ m).bind k) Q)
    (hk : ∀ a m1 β' F' H' u, Ext β β' F F' H H' → Wld X.K X.mg β' F' m1 H' → Rep X.K β' F' a u → Fin X.K X.mg W β' F' H' (k a m1) Q → Q1 u H') : tEF X (wx W) fa σ H Q1 := by
  refine ⟨ρ, m, β, F, er, wl, ?_⟩
  generalize hr : fa ρ m = r at h
  cases r with
  | ok a m1 => exact fun β' F' H' u x w q => hk a m1 β' F' H' u x w q (Fin.ext x h)
  | exc c m1 => exact h
  | stuck => exact h
theorem t_thenT {fa : TF} {k : Bool → Sto → Res Val} {σ : L2.St} {H : Hp} {Q : VK} {Q1 : Bool → Hp → Prop} {ρ : Env} {m : Sto} {β : List Addr} {F : Hp} (er : ER X.K β F ρ σ) (wl : Wld X.K X.mg β F m H) (h : Fin X.K X.mg W β F H ((fa ρ m).bind k) Q)
    (hk : ∀ a m1 β' F' H', Ext β β' F F' H H' → Wld X.K X.mg β' F' m1 H' → Fin X.K X.mg W β' F' H' (k a m1) Q → Q1 a H') : tTF X (wx W) fa σ H Q1 := by
  refine ⟨ρ, m, β, F, er, wl, ?_⟩
  generalize hr : fa ρ m = r at h
  cases r with
  | ok a m1 => exact fun β' F' H' x w => hk a m1 β' F' H' x w (Fin.ext x h)
  | exc c m1 => exact h
  | stuck => exact h
theorem t_thenA {fa : AF} {k : List Val → Sto → Res Val} {σ : L2.St} {H : Hp} {Q : VK} {Q1 : List V → Hp → Prop} {ρ : Env} {m : Sto} {β : List Addr} {F : Hp} (er : ER X.K β F ρ σ) (wl : Wld X.K X.mg β F m H) (h : Fin X.K X.mg W β F H ((fa ρ m).bind k) Q)
    (hk : ∀ a m1 β' F' H' u, Ext β β' F F' H H' → Wld X.K X.mg β' F' m1 H' → RepL X.K β' F' a u → Fin X.K X.mg W β' F' H' (k a m1) Q → Q1 u H') : tAF X (wx W) fa σ H Q1 := by
  refine ⟨ρ, m, β, F, er, wl, ?_⟩
  generalize hr : fa ρ m = r at h
  cases r with
  | ok a m1 => exact fun β' F' H' u x w q => hk a m1 β' F' H' u x w q (Fin.ext x h)
  | exc c m1 => exact h
  | stuck => exact h
theorem t_thenET {fa : EF} {k : Val → Sto → Res Bool} {σ : L2.St} {H : Hp} {Q : Bool → Hp → Prop} {Q1 : VK} {ρ : Env} {m : Sto} {β : List Addr} {F : Hp} (er : ER X.K β F ρ σ) (wl : Wld X.K X.mg β F m H) (h : FinT X.K X.mg W β F H ((fa ρ m).bind k) Q)
    (hk : ∀ a m1 β' F' H' u, Ext β β' F F' H H' → Wld X.K X.mg β' F' m1 H' → Rep X.K β' F' a u → FinT X.K X.mg W β' F' H' (k a m1) Q → Q1 u H') : tEF X (wx W) fa σ H Q1 := by
  refine ⟨ρ, m, β, F, er, wl, ?_⟩
  generalize hr : fa ρ m = r at h
  cases r with
  | ok a m1 => exact fun β' F' H' u x w q => hk a m1 β' F' H' u x w q (FinT.ext x h)
  | exc c m1 => exact h
  | stuck => exact h
theorem t_thenTT {fa : TF} {k : Bool → Sto → Res Bool} {σ : L2.St} {H : Hp} {Q : Bool → Hp → Prop} {Q1 : Bool → Hp → Prop} {ρ : Env} {m : Sto} {β : List Addr} {F : Hp} (er : ER X.K β F ρ σ) (wl : Wld X.K X.mg β F m H) (h : FinT X.K X.mg W β F H ((fa ρ m).bind k) Q)
    (hk : ∀ a m1 β' F' H', Ext β β' F F' H H' → Wld X.K X.mg β' F' m1 H' → FinT X.K X.mg W β' F' H' (k a m1) Q → Q1 a H') : tTF X (wx W) fa σ H Q1 := by
  refine ⟨ρ, m, β, F, er, wl, ?_⟩
  generalize hr : fa ρ m = r at h
  cases r with
  | ok a m1 => exact fun β' F' H' x w => hk a m1 β' F' H' x w (FinT.ext x h)
  | exc c m1 => exact h
  | stuck => exact h
theorem t_thenEA {fa : EF} {k : Val → Sto → Res (List Val)} {σ : L2.St} {H : Hp} {Q : List V → Hp → Prop} {Q1 : VK} {ρ : Env} {m : Sto} {β : List Addr} {F : Hp} (er : ER X.K β F ρ σ) (wl : Wld X.K X.mg β F m H) (h : FinL X.K X.mg W β F H ((fa ρ m).bind k) Q)
    (hk : ∀ a m1 β' F' H' u, Ext β β' F F' H H' → Wld X.K X.mg β' F' m1 H' → Rep X.K β' F' a u → FinL X.K X.mg W β' F' H' (k a m1) Q → Q1 u H') : tEF X (wx W) fa σ H Q1 := by
  refine ⟨ρ, m, β, F, er, wl, ?_⟩
  generalize hr : fa ρ m = r at h
  cases r with
  | ok a m1 => exact fun β' F' H' u x w q => hk a m1 β' F' H' u x w q (FinL.ext x h)
  | exc c m1 => exact h
  | stuck => exact h
theorem t_thenAA {fa : AF} {k : List Val → Sto → Res (List Val)} {σ : L2.St} {H : Hp} {Q : List V → Hp → Prop} {Q1 : List V → Hp → Prop} {ρ : Env} {m : Sto} {β : List Addr} {F : Hp} (er : ER X.K β F ρ σ) (wl : Wld X.K X.mg β F m H) (h : FinL X.K X.mg W β F H ((fa ρ m).bind k) Q)
    (hk : ∀ a m1 β' F' H' u, Ext β β' F F' H H' → Wld X.K X.mg β' F' m1 H' → RepL X.K β' F' a u → FinL X.K X.mg W β' F' H' (k a m1) Q → Q1 u H') : tAF X (wx W) fa σ H Q1 := by
  refine ⟨ρ, m, β, F, er, wl, ?_⟩
  generalize hr : fa ρ m = r at h
  cases r with
  | ok a m1 => exact fun β' F' H' u x w q => hk a m1 β' F' H' u x w q (FinL.ext x h)
  | exc c m1 => exact h
  | stuck => exact h

theorem ne_mem {α : Type} {β : List α} {a p : α} (hb : p ∉ β) (ha : a ∈ β) : a ≠ p := fun z => hb (by rw [← z]; exact ha)
/-! ### names, constants -/
def varF (i : Nat) : EF := fun ρ m => match ρ[i]? with | some (some v) => .ok v m | _ => .stuck
def conF (v : Val) : EF := fun _ m => .ok v m
theorem ee_var (i : Nat) {x : Str} {pos : Pos} (hN : X.N[i]? = some x := by rfl) (hv : Vis X.env.scope x := by first | exact Or.inl rfl | exact Or.inr (Or.inl rfl) | exact Or.inr (Or.inr rfl)) (hd : (x == ("__debug__" : Str)) = false := by decide) (hcd : (x == ("__classdict__" : Str)) = false := by decide) : EE X W (.Name x pos) (varF i) := by
  refine ⟨pe_imp (pe_var (i := i) hN hv hd hcd) fun σ H Q h => ?_⟩
  obtain ⟨ρ, m, β, F, er, wl, h⟩ := h
  unfold varF at h
  split at h
  · rename_i v hv
    obtain ⟨u, hu, r⟩ := er.at' i v hv
    exact ⟨u, hu, h β F H u (Ext.refl _ _ _) wl r⟩
  · exact h.elim
theorem ee_con {e : Expr} {v : Val} {x : V} (h : PE X e (tC x)) (r : ∀ β F, Rep X.K β F v x) : EE X W e (conF v) :=
  ⟨pe_imp h fun σ H Q ⟨ρ, m, β, F, er, wl, h⟩ => h β F H x (Ext.refl _ _ _) wl (r β F)⟩
theorem ee_int {i : Int} {j pos} : EE X W (.Constant (.int i) j pos) (conF (.int i)) := ee_con pe_int fun _ _ => by rw [Rep]
theorem ee_bl {b : Bool} {j pos} : EE X W (.Constant (.bool b) j pos) (conF (.bl b)) := ee_con pe_bl fun _ _ => by rw [Rep]
theorem ee_non {j pos} : EE X W (.Constant .none j pos) (conF .non) := ee_con pe_non fun _ _ => by rw [Rep]
theorem ee_str {x : Str} {l : List Nat} {j pos} (h : x = ⟨l.toArray⟩) : EE X W (.Constant (.str x) j pos) (conF (.str l)) := ee_con pe_str fun _ _ => by rw [Rep, h]
/-- a module's constant -/
def GlobV (K : PySem.W.Frag) (mg : Str → Option Value) (x : Str) (v : Val) : Prop := ∃ u w, mg x = some u ∧ RelV w u ∧ ∀ β F, Rep K β F v w
theorem ee_glob {x : Str} {v : Val} {pos : Pos} (h : GlobV X.K X.mg x v) (hg : Gl X x := by rfl) (hd : (x == ("__debug__" : Str)) = false := by decide) : EE X W (.Name x pos) (conF v) := by
  obtain ⟨u, w, h1, h2, h3⟩ := h
  exact ee_con (pe_glob hg h1 h2 hd) h3

/-! ### argument lists -/
def nilF : AF := fun _ m => .ok [] m
def consF (fa : EF) (fr : AF) : AF := fun ρ m => (fa ρ m).bind fun v m1 => (fr ρ m1).bind fun vs m2 => .ok (v :: vs) m2
theorem ea_nil : EA X W [] nilF := ⟨pa_imp pa_nil fun σ H Q ⟨ρ, m, β, F, er, wl, h⟩ => h β F H [] (Ext.refl _ _ _) wl (by rw [RepL])⟩
theorem ea_cons {e : Expr} {es : List Expr} {fa : EF} {fr : AF} (ha : EE X W e fa) (hr : EA X W es fr) (hs : starEach (e :: es) X.env = (false, eval e X.env) :: starEach es X.env := by rfl) : EA X W (e :: es) (consF fa fr) := by
  refine ⟨pa_imp (pa_cons ha.pe hr.pa hs) fun σ H Q ⟨ρ, m, β, F, er, wl, h⟩ => ?_⟩
  refine t_thenEA er wl h fun a m1 β1 F1 H1 u x1 w1 r1 h1 => ?_
  refine t_thenAA (er.ext x1) w1 h1 fun as m2 β2 F2 H2 us x2 w2 r2 h2 => ?_
  refine h2 β2 F2 H2 _ (Ext.refl _ _ _) w2 ?_
  rw [RepL]
  exact ⟨u, us, rfl, r1.ext x2, r2⟩
theorem RepL.length {K : PySem.W.Frag} {β : List Addr} {F : Hp} : ∀ {vs : List Val} {us : List V}, RepL K β F vs us → us.length = vs.length
  | [], _, h => by rw [RepL] at h; rw [h]; rfl
  | _ :: _, _, h => by
    rw [RepL] at h
    obtain ⟨u, r, rfl, _, h⟩ := h
    simp [RepL.length h]

/-! ### new things -/
theorem Wld.none_of {K : PySem.W.Frag} {mg : Str → Option Value} {β : List Addr} {F : Hp} {m : Sto} {H : Hp} (w : Wld K mg β F m H) {p : Addr} (hp : H p = none) : F p = none := by
  cases e : F p with
  | none => rfl
  | some o => rw [w.sub p o e] at hp; cases hp
theorem Wld.ne_of {K : PySem.W.Frag} {mg : Str → Option Value} {β : List Addr} {F : Hp} {m : Sto} {H : Hp} (w : Wld K mg β F m H) {p : Addr} (hp : H p = none) : p ∉ β := fun hb => by
  obtain ⟨n, hn, e⟩ := List.mem_iff_getElem.mp hb
  have hm : n < m.length := by rw [← w.len]; exact hn
  obtain ⟨o, h1, _⟩ := w.at' n p m[n] (by rw [List.getElem?_eq_getElem hn, e]) (List.getElem?_eq_getElem hm)
  rw [h1] at hp; cases hp
theorem ext_upd {β : List Addr} {F H : Hp} {p : Addr} (hp : H p = none) (o : HO) {F' : Hp} (sub : ∀ a o, F a = some o → F' a = some o) (new : ∀ a o, F' a = some o → F a = some o ∨ a = p) {γ : List Addr} (hg : ∀ b ∈ γ, b = p) : Ext β (β ++ γ) F F' H (upd H p o) :=
  ⟨⟨γ, rfl, fun b hb => by rw [hg b hb]; exact hp⟩, sub, fun a q e _ => by rw [upd_ne (ne_of_none e hp)]; exact e, fun a e => by
    by_cases h : a = p
    · subst h; rw [upd_same]; simp
    · rw [upd_ne h]; exact e, fun a q e => (new a q e).imp id fun z => by rw [z]; exact hp⟩
/-- a thing laid that never changes -/
theorem Wld.lay {K : PySem.W.Frag} {mg : Str → Option Value} {β : List Addr} {F : Hp} {m : Sto} {H : Hp} (w : Wld K mg β F m H) {p : Addr} (hp : H p = none) (o : HO) : Ext β β F (upd F p o) H (upd H p o) ∧ Wld K mg β (upd F p o) m (upd H p o) := by
  have hF := w.none_of hp
  have hb := w.ne_of hp
  have ex : Ext β β F (upd F p o) H (upd H p o) := by
    have := ext_upd (β := β) (F := F) hp o (F' := upd F p o) (fun a q e => by rw [upd_ne (ne_of_none e hF)]; exact e) (fun a q e => by
      by_cases h : a = p
      · exact .inr h
      · rw [upd_ne h] at e; exact .inl e) (γ := []) (by simp)
    rwa [List.append_nil] at this
  refine ⟨ex, ⟨fun a q e => ?_, w.len, w.nd, fun a ha => ?_, fun n a c h1 h2 => ?_⟩⟩
  · by_cases ha : a = p
    · subst ha; rw [upd_same] at e ⊢; exact e
    · rw [upd_ne ha] at e ⊢; exact w.sub a q e
  · rw [upd_ne (ne_mem hb ha)]; exact w.off a ha
  · obtain ⟨q, e1, e2⟩ := w.at' n a c h1 h2
    have ha : a ∈ β := List.mem_of_getElem? h1
    exact ⟨q, by rw [upd_ne (ne_mem hb ha)]; exact e1, e2.ext ex⟩
/-- a thing laid that is tracked beside -/
theorem Wld.beside {K : PySem.W.Frag} {mg : Str → Option Value} {β : List Addr} {F : Hp} {m : Sto} {H : Hp} (w : Wld K mg β F m H) {p : Addr} (hp : H p = none) (o : HO) : Ext β β F F H (upd H p o) ∧ Wld K mg β F m (upd H p o) := by
  have hF := w.none_of hp
  have hb := w.ne_of hp
  refine ⟨by have := ext_upd (β := β) (F := F) hp o (F' := F) (fun _ _ e => e) (fun _ _ e => .inl e) (γ := []) (by simp); rwa [List.append_nil] at this, fun a q e => ?_, w.len, w.nd, w.off, fun n a c h1 h2 => ?_⟩
  · rw [upd_ne (ne_of_none e hF)]; exact w.sub a q e
  · obtain ⟨q, e1, e2⟩ := w.at' n a c h1 h2
    have ha : a ∈ β := List.mem_of_getElem? h1
    exact ⟨q, by rw [upd_ne (ne_mem hb ha)]; exact e1, e2⟩
/-- a new cell -/
theorem Wld.new {K : PySem.W.Frag} {mg : Str → Option Value} {β : List Addr} {F : Hp} {m : Sto} {H : Hp} (w : Wld K mg β F m H) {p : Addr} (hp : H p = none) {o : HO} {c : Cell} (hc : CellAt K mg β F c o) : Ext β (β ++ [p]) F F H (upd H p o) ∧ Wld K mg (β ++ [p]) F (m ++ [c]) (upd H p o) ∧ Rep K (β ++ [p]) F (.ref m.length) (.ref p) := by
  have hF := w.none_of hp
  have hb := w.ne_of hp
  have ex : Ext β (β ++ [p]) F F H (upd H p o) := ext_upd hp o (fun _ _ e => e) (fun _ _ e => .inl e) (by simp)
  refine ⟨ex, ⟨fun a q e => ?_, by simp [w.len], ?_, fun a ha => ?_, fun n a d h1 h2 => ?_⟩, ?_⟩
  · rw [upd_ne (ne_of_none e hF)]; exact w.sub a q e
  · rw [List.nodup_append]
    exact ⟨w.nd, by simp, fun a ha b hb' => by
      rw [List.mem_singleton] at hb'
      subst hb'
      exact fun z => hb (z ▸ ha)⟩
  · rcases List.mem_append.mp ha with ha | ha
    · exact w.off a ha
    · rw [List.mem_singleton] at ha; rw [ha]; exact hF
  · by_cases hn : n < β.length
    · rw [List.getElem?_append_left hn] at h1
      rw [List.getElem?_append_left (by rw [← w.len]; exact hn)] at h2
      obtain ⟨q, e1, e2⟩ := w.at' n a d h1 h2
      have ha : a ∈ β := List.mem_of_getElem? h1
      exact ⟨q, by rw [upd_ne (ne_mem hb ha)]; exact e1, e2.ext ex⟩
    · have hn' : n = β.length := by
        have := (List.getElem?_eq_some_iff.mp h1).1
        simp at this; omega
      subst hn'
      rw [List.getElem?_append_right (Nat.le_refl _)] at h1
      rw [w.len, List.getElem?_append_right (Nat.le_refl _)] at h2
      simp at h1 h2
      subst h1 h2
      exact ⟨o, upd_same, hc.ext ex⟩
  · rw [Rep]
    exact ⟨p, rfl, by rw [← w.len]; simp⟩
/-- a cell changed -/
theorem Wld.set {K : PySem.W.Frag} {mg : Str → Option Value} {β : List Addr} {F : Hp} {m : Sto} {H : Hp} (w : Wld K mg β F m H) {n : Nat} {a : Addr} (ha : β[n]? = some a) {o : HO} {c : Cell} (hc : CellAt K mg β F c o) : Ext β β F F H (upd H a o) ∧ Wld K mg β F (m.set n c) (upd H a o) := by
  have hm : a ∈ β := List.mem_of_getElem? ha
  have hF := w.off a hm
  refine ⟨⟨⟨[], by simp, by simp⟩, fun _ _ e => e, fun b q e nb => by rw [upd_ne (fun z => nb (by rw [z]; exact hm))]; exact e, fun b e => by
    by_cases h : b = a
    · subst h; rw [upd_same]; simp
    · rw [upd_ne h]; exact e, fun _ _ e => .inl e⟩, fun b q e => ?_, by simp [w.len], w.nd, w.off, fun k b d h1 h2 => ?_⟩
  · rw [upd_ne (ne_of_none e hF)]; exact w.sub b q e
  · by_cases hk : n = k
    · subst hk
      rw [ha] at h1; cases h1
      have hn : n < m.length := by rw [← w.len]; exact (List.getElem?_eq_some_iff.mp ha).1
      rw [List.getElem?_set_self hn] at h2; cases h2
      exact ⟨o, upd_same, hc⟩
    · rw [List.getElem?_set_ne hk] at h2
      obtain ⟨q, e1, e2⟩ := w.at' k b d h1 h2
      have hne : b ≠ a := fun z => by
        subst z
        obtain ⟨l1, e1⟩ := List.getElem?_eq_some_iff.mp ha
        obtain ⟨l2, e2⟩ := List.getElem?_eq_some_iff.mp h1
        exact hk ((List.getElem_inj w.nd).mp (e1.trans e2.symm))
      exact ⟨q, by rw [upd_ne hne]; exact e1, e2⟩

/-! ### displays -/
def tupF (f : AF) : EF := fun ρ m => (f ρ m).bind fun vs m1 => if vs.length ≤ sizeLine then .ok (.tup vs) m1 else .stuck
def lstF (f : AF) : EF := fun ρ m => (f ρ m).bind fun vs m1 => if vs.length ≤ sizeLine then .ok (.lst vs) m1 else .stuck
/-- a fresh tuple's object -/
abbrev tObj (us : List Value) : Obj := { cls := .type "tuple", data := .seq us.toArray }
theorem tup_new {X : Cx} {pins : List (Addr × Obj)} {σ : St} {H : Hp} {s : Shared} (I : Inv X pins σ H s) {xs : List V} {us : List Value} (r : Vals xs us) (z : xs.length ≤ sizeLine) (b : Bool) :
    Inv X pins σ (upd H s.heap.objs.size (tupO b (tObj us) xs)) { s with heap := s.heap.push (tObj us) } := by
  have hz : ObjOk X.prog X.w (upd H s.heap.objs.size (tupO b (tObj us) xs)) (s.heap.push (tObj us)) s.heap.objs.size (.tup xs) := ⟨z, us, r, ⟨_, Heap.get?_push_size _ rfl, rfl, _, rfl⟩⟩
  refine I.laid (t' := s.toks) (fun _ _ e => Heap.get?_push_of_some _ e) (Nat.le_refl _) ?_
  cases b with
  | true => exact hz
  | false => exact ⟨Heap.get?_push_size _ rfl, hz⟩
/-- what is asked of a fresh tuple: it lies bare or frozen, as one likes -/
def NewT (H : Hp) (xs : List V) (Q : VK) : Prop := ∃ b, ∀ p o, H p = none → Obj.dict o = none → Q (.ref p) (upd H p (tupO b o xs))
theorem NewT.end {X : Cx} {pins : List (Addr × Obj)} {σ : St} {H : Hp} {s : Shared} (I : Inv X pins σ H s) {xs : List V} {us : List Value} (r : Vals xs us) (z : xs.length ≤ sizeLine) {Q : VK} (h : NewT H xs Q) :
    EP X pins σ Q (.ref s.heap.objs.size) { s with heap := s.heap.push (tObj us) } := by
  obtain ⟨b, q⟩ := h
  exact ⟨.ref s.heap.objs.size, _, tup_new I r z b, rfl, q _ _ (I.hok.fresh (Nat.le_refl _)) rfl⟩
theorem pe_tupN {X : Cx} {es : List Expr} {t : TA} {k pos} (h : PA X es t) : PE X (.Tuple es k pos) (fun σ H Q => t σ H fun xs H1 => xs.length ≤ sizeLine ∧ NewT H1 xs Q) := by
  constructor
  intro pins s σ H Q I hq
  apply wpAny_Tuple_spliced
  refine thn (h.run pos pins s σ H _ I hq) ?_
  rintro us s1 ⟨xs, H1, I1, r, z, q⟩
  exact ⟨r.length ▸ z, q.end I1 r z⟩
theorem Wld.layT {K : PySem.W.Frag} {mg : Str → Option Value} {β : List Addr} {F : Hp} {m : Sto} {H : Hp} (w : Wld K mg β F m H) {vs : List Val} {us : List V} (r : RepL K β F vs us) {p : Addr} (hp : H p = none) {o : Obj} (ho : o.dict = none) :
    Ext β β F (upd F p (tupO (keyT vs) o us)) H (upd H p (tupO (keyT vs) o us)) ∧ Wld K mg β (upd F p (tupO (keyT vs) o us)) m (upd H p (tupO (keyT vs) o us)) ∧ Rep K β (upd F p (tupO (keyT vs) o us)) (.tup vs) (.ref p) := by
  obtain ⟨x, w'⟩ := w.lay hp (tupO (keyT vs) o us)
  refine ⟨x, w', ?_⟩
  rw [Rep]
  exact ⟨p, us, rfl, ⟨o, ho, upd_same⟩, r.ext x⟩
theorem ee_tup {es : List Expr} {k pos} {f : AF} (h : EA X W es f) : EE X W (.Tuple es k pos) (tupF f) := by
  refine ⟨pe_imp (pe_tupN h.pa) fun σ H Q ⟨ρ, m, β, F, er, wl, h⟩ => ?_⟩
  refine t_thenA er wl h fun a m1 β1 F1 H1 u x1 w1 r1 h1 => ?_
  split at h1
  · rename_i hz
    refine ⟨by rw [r1.length]; exact hz, keyT a, fun p o hp ho => ?_⟩
    obtain ⟨x2, w2, r2⟩ := w1.layT r1 hp ho
    exact h1 _ _ _ _ x2 w2 r2
  · exact h1.elim
theorem ee_lst {es : List Expr} {pos} {f : AF} (h : EA X W es f) : EE X W (.List es pos) (lstF f) := by
  refine ⟨pe_imp (pe_lst h.pa) fun σ H Q ⟨ρ, m, β, F, er, wl, h⟩ => ?_⟩
  refine t_thenA er wl h fun a m1 β1 F1 H1 u x1 w1 r1 h1 => ?_
  split at h1
  · rename_i hz
    refine ⟨by rw [r1.length]; exact hz, fun p hp => ?_⟩
    obtain ⟨x2, w2⟩ := w1.lay hp (.lst u)
    refine h1 _ _ _ _ x2 w2 ?_
    rw [Rep]
    exact ⟨p, u, rfl, upd_same, r1.ext x2⟩
  · exact h1.elim
end G

-- part C3
namespace G
open PySem L2

/-! ### plain data -/
mutual
def good : Val → Bool
  | .non | .bl _ | .int _ => true
  | .str x => x.all (· < 128) && decide (x.length ≤ 1000000)
  | .tup xs | .lst xs => goodL xs
  | _ => false
def goodL : List Val → Bool
  | [] => true
  | x :: xs => good x && goodL xs
end
mutual
def dep : Val → Nat
  | .tup xs | .lst xs => depL xs + 1
  | _ => 0
def depL : List Val → Nat
  | [] => 0
  | x :: xs => max (dep x) (depL xs)
end
mutual
def toPy : Val → PyData
  | .non => .none
  | .bl b => .bool b
  | .int i => .int i
  | .str x => .str ⟨x.toArray⟩
  | .tup xs => .tuple (toPyL xs)
  | .lst xs => .list (toPyL xs)
  | _ => .dict []
def toPyL : List Val → List PyData
  | [] => []
  | x :: xs => toPy x :: toPyL xs
end
mutual
/-- == of plain data -/
def veq : Val → Val → Bool
  | .non, .non => true
  | .bl a, .bl b => a == b
  | .bl a, .int j => (if a then 1 else 0) == j
  | .int i, .bl b => i == (if b then 1 else 0)
  | .int i, .int j => i == j
  | .str x, .str y => x == y
  | .lst xs, .lst ys => veqL xs ys
  | .tup xs, .tup ys => veqL xs ys
  | _, _ => false
def veqL : List Val → List Val → Bool
  | [], [] => true
  | x :: xs, y :: ys => veq x y && veqL xs ys
  | _, _ => false
end
mutual
theorem eqv_veq : ∀ a b : Val, PyData.eqv (toPy a) (toPy b) = veq a b := by
  intro a b
  cases a <;> cases b <;> simp only [toPy, PyData.eqv, veq]
  · rename_i x y
    rw [Bool.eq_iff_iff, beq_iff_eq, beq_iff_eq]
    constructor
    · intro h; have := congrArg (fun s => s.cps.toList) h; simpa using this
    · intro h; rw [h]
  · exact eqv_veqL _ _
  · exact eqv_veqL _ _
theorem eqv_veqL : ∀ a b : List Val, PyData.eqvAll (toPyL a) (toPyL b) = veqL a b := by
  intro a b
  cases a <;> cases b <;> simp only [toPyL, PyData.eqvAll, veqL]
  rw [eqv_veq, eqv_veqL]
end
mutual
theorem good_lay : ∀ a : Val, good a = true → PyData.canLay0 (toPy a) = true := by
  intro a h
  cases a with
  | str x =>
    simp only [good, Bool.and_eq_true, List.all_eq_true, decide_eq_true_eq] at h
    replace h := h.1
    simp only [toPy, PyData.canLay0, PyData.strOk]
    simp only [List.all_toArray, List.all_eq_true, decide_eq_true_eq]
    intro c hc
    have := h c hc
    omega
  | tup xs => simp only [good] at h; simp only [toPy, PyData.canLay0]; exact good_layL xs h
  | lst xs => simp only [good] at h; simp only [toPy, PyData.canLay0]; exact good_layL xs h
  | dct _ _ => simp [good] at h
  | wt _ => simp [good] at h
  | ref _ => simp [good] at h
  | scr _ => simp [good] at h
  | _ => simp only [toPy, PyData.canLay0]
theorem good_layL : ∀ a : List Val, goodL a = true → PyData.canLayAll0 (toPyL a) = true := by
  intro a h
  cases a with
  | nil => simp only [toPyL, PyData.canLayAll0]
  | cons x xs =>
    simp only [goodL, Bool.and_eq_true] at h
    simp only [toPyL, PyData.canLayAll0, Bool.and_eq_true]
    exact ⟨good_lay x h.1, good_layL xs h.2⟩
end
mutual
theorem dep_py : ∀ a : Val, good a = true → PyData.depth (toPy a) = dep a := by
  intro a h
  cases a with
  | tup xs => simp only [good] at h; simp only [toPy, PyData.depth, dep, dep_pyL xs h]
  | lst xs => simp only [good] at h; simp only [toPy, PyData.depth, dep, dep_pyL xs h]
  | dct _ _ => simp [good] at h
  | wt _ => simp [good] at h
  | ref _ => simp [good] at h
  | scr _ => simp [good] at h
  | _ => simp only [toPy, PyData.depth, dep]
theorem dep_pyL : ∀ a : List Val, goodL a = true → PyData.depthAll (toPyL a) = depL a := by
  intro a h
  cases a with
  | nil => simp only [toPyL, PyData.depthAll, depL]
  | cons x xs =>
    simp only [goodL, Bool.and_eq_true] at h
    simp only [toPyL, PyData.depthAll, depL, dep_py x h.1, dep_pyL xs h.2]
end
/-- data that may be compared -/
def gd (v : Val) : Bool := good v && decide (dep v ≤ 60)
theorem gd_shaped {v : Val} (h : gd v = true) : SeqAt.shaped (toPy v) = true := by
  simp only [gd, Bool.and_eq_true, decide_eq_true_eq] at h
  simp only [SeqAt.shaped, Bool.and_eq_true, decide_eq_true_eq]
  rw [dep_py v h.1]
  exact ⟨good_lay v h.1, by omega⟩
/-- a list's items, by value or in the store -/
def res1 (m : Sto) : Val → Val
  | .ref n => match m[n]? with | some (.lst xs) => .lst xs | _ => .ref n
  | v => v
mutual
theorem rep_dp {K : PySem.W.Frag} {β : List Addr} {F H : Hp} (hs : ∀ a o, F a = some o → H a = some o) : ∀ {v : Val} {x : V}, good v = true → Rep K β F v x → Dp K H x (toPy v) := by
  intro v x h r
  cases v with
  | non => rw [Rep] at r; subst r; exact .non
  | bl b => rw [Rep] at r; subst r; exact .bl b
  | int b => rw [Rep] at r; subst r; exact .int b
  | str b => rw [Rep] at r; subst r; exact .str _
  | tup xs =>
    rw [Rep] at r
    obtain ⟨a, us, rfl, h1, h2⟩ := r
    simp only [good] at h
    exact .tup (h1.sq hs) (rep_dpL hs h h2)
  | lst xs =>
    rw [Rep] at r
    obtain ⟨a, us, rfl, h1, h2⟩ := r
    simp only [good] at h
    exact .lst (.of (hs _ _ h1)) (rep_dpL hs h h2)
  | dct _ _ => simp [good] at h
  | wt _ => simp [good] at h
  | ref _ => simp [good] at h
  | scr _ => simp [good] at h
theorem rep_dpL {K : PySem.W.Frag} {β : List Addr} {F H : Hp} (hs : ∀ a o, F a = some o → H a = some o) : ∀ {v : List Val} {x : List V}, goodL v = true → RepL K β F v x → DpAll K H x (toPyL v) := by
  intro v x h r
  cases v with
  | nil => rw [RepL] at r; subst r; exact .nil
  | cons y ys =>
    rw [RepL] at r
    obtain ⟨u, s, rfl, h1, h2⟩ := r
    simp only [goodL, Bool.and_eq_true] at h
    exact .cons (rep_dp hs h.1 h1) (rep_dpL hs h.2 h2)
end
/-- a list at hand: a value, or a cell -/
def asL (m : Sto) : Val → Option (List Val)
  | .lst xs => some xs
  | .ref n => match m[n]? with | some (.lst xs) => some xs | _ => none
  | _ => none
theorem asL_at {K : PySem.W.Frag} {mg : Str → Option Value} {β : List Addr} {F : Hp} {m : Sto} {H : Hp} (w : Wld K mg β F m H) {v : Val} {x : V} (r : Rep K β F v x) {xs : List Val} (h : asL m v = some xs) :
    ∃ a us, x = .ref a ∧ H a = some (.lst us) ∧ RepL K β F xs us := by
  cases v with
  | lst ys =>
    simp only [asL, Option.some.injEq] at h
    subst h
    rw [Rep] at r
    obtain ⟨a, us, e1, e2, e3⟩ := r
    exact ⟨a, us, e1, w.sub _ _ e2, e3⟩
  | ref n =>
    rw [Rep] at r
    obtain ⟨a, e1, e2⟩ := r
    simp only [asL] at h
    split at h
    · rename_i ys hm
      cases h
      obtain ⟨o, h1, us, h2, h3⟩ := w.at' n a _ e2 hm
      exact ⟨a, us, e1, by rw [h1, h2], h3⟩
    · cases h
  | _ => simp [asL] at h
theorem dp_at {K : PySem.W.Frag} {mg : Str → Option Value} {β : List Addr} {F : Hp} {m : Sto} {H : Hp} (w : Wld K mg β F m H) {v : Val} {x : V} (r : Rep K β F v x) (h : gd (res1 m v) = true) : Dp K H x (toPy (res1 m v)) := by
  have hg : good (res1 m v) = true := by simp only [gd, Bool.and_eq_true] at h; exact h.1
  cases v with
  | ref n =>
    by_cases hm : ∃ xs, m[n]? = some (.lst xs)
    · obtain ⟨xs, hm⟩ := hm
      obtain ⟨a, us, rfl, e2, e3⟩ := asL_at w r (xs := xs) (by simp [asL, hm])
      simp only [res1, hm] at hg ⊢
      simp only [good] at hg
      exact .lst (.of e2) (rep_dpL w.sub hg e3)
    · exfalso
      have e : res1 m (.ref n) = .ref n := by
        simp only [res1]
        cases q : m[n]? with
        | none => rfl
        | some c =>
          cases c with
          | lst xs => exact absurd ⟨xs, q⟩ hm
          | _ => rfl
      rw [e] at hg
      simp [good] at hg
  | _ => exact rep_dp w.sub hg r

/-! ### contexts -/
structure Blt (mg : Str → Option Value) : Prop where
  len : mg "len" = none
  isinstance : mg "isinstance" = none
  all : mg "all" = none
  any : mg "any" = none
  tuple : mg "tuple" = none
  list : mg "list" = none
  dict : mg "dict" = none
  set : mg "set" = none
  sorted : mg "sorted" = none
  int : mg "int" = none
  str : mg "str" = none
  bool : mg "bool" = none
  range : mg "range" = none
  enumerate : mg "enumerate" = none
  zip : mg "zip" = none
  max : mg "max" = none
  sum : mg "sum" = none
  repr : mg "repr" = none
structure Good (X : Cx) (n : Nat) : Prop where
  calm : X.calm = true
  nd : X.N.Nodup
  room : Room n X.A
  blt : Blt X.mg
theorem Good.u64 {X : Cx} {n : Nat} (g : Good X n) : X.A.units + 64 < cLine := g.room.units
theorem Good.u65 {X : Cx} {n : Nat} (g : Good X n) : X.A.units + 65 < cLine := by have := g.room.un; omega

/-! ### operators by values -/
abbrev VF2 := Val → Val → Sto → Res Val
def bin2 (g : VF2) (fa fb : EF) : EF := fun ρ m => (fa ρ m).bind fun v m1 => (fb ρ m1).bind fun w m2 => g v w m2
/-- the operator's reading follows from the function's -/
def V2 (X : Cx) (W : XK) (r : R2) (g : VF2) : Prop := ∀ β F m H v w x y Q, Wld X.K X.mg β F m H → Rep X.K β F v x → Rep X.K β F w y → Fin X.K X.mg W β F H (g v w m) Q → r x y H Q
theorem v2_read {r : R2} {g : VF2} (hv : V2 X W r g) {fa fb : EF} {σ : L2.St} {H : Hp} {Q : VK} (h : tEF X (wx W) (bin2 g fa fb) σ H Q) : tOp r (tEF X (wx W) fa) (tEF X (wx W) fb) σ H Q := by
  obtain ⟨ρ, m, β, F, er, wl, h⟩ := h
  refine t_thenE er wl h fun a m1 β1 F1 H1 u x1 w1 r1 h1 => ?_
  refine t_thenE (er.ext x1) w1 h1 fun b m2 β2 F2 H2 u2 x2 w2 r2 h2 => ?_
  exact hv β2 F2 m2 H2 a b u u2 Q w2 (r1.ext x2) r2 h2
theorem ee_op {op : Operator} {r : R2} {g : VF2} (ho : OpR X (binaryOp op) r) (hv : V2 X W r g) {a b : Expr} {fa fb : EF} {pos : Pos} (ha : EE X W a fa) (hb : EE X W b fb) : EE X W (.BinOp a op b pos) (bin2 g fa fb) :=
  ⟨pe_imp (pe_op ho ha.pe hb.pe) fun _ _ _ h => v2_read hv h⟩
theorem ee_cmp {op : CmpOp} {r : R2} {g : VF2} (ho : OpR X (compareOp op) r) (hv : V2 X W r g) {a b : Expr} {fa fb : EF} {pos : Pos} (ha : EE X W a fa) (hb : EE X W b fb) (hm : behindInMarks op b = false) : EE X W (.Compare a [op] [b] pos) (bin2 g fa fb) :=
  ⟨pe_imp (pe_cmpR ho ha.pe hb.pe hm) fun _ _ _ h => v2_read hv h⟩
/-- a function's answer as a truth -/
def asT (r : Res Val) : Res Bool := match r with
  | .ok (.bl b) m => .ok b m
  | .ok _ _ => .stuck
  | .exc c m => .exc c m
  | .stuck => .stuck
def tstF (f : EF) : TF := fun ρ m => asT (f ρ m)
theorem tst_read {f : EF} {σ : L2.St} {H : Hp} {Q : Bool → Hp → Prop} (h : tTF X (wx W) (tstF f) σ H Q) : tEF X (wx W) f σ H (fun x H1 => ∃ k, x = .bl k ∧ Q k H1) := by
  obtain ⟨ρ, m, β, F, er, wl, h⟩ := h
  refine ⟨ρ, m, β, F, er, wl, ?_⟩
  unfold tstF at h
  generalize f ρ m = r at h
  cases r with
  | ok v m1 =>
    cases v with
    | bl b =>
      intro β' F' H' u x w r
      rw [Rep] at r
      exact ⟨b, r, h β' F' H' x w⟩
    | _ => exact h.elim
  | exc c m => exact h
  | stuck => exact h
theorem et_cmp {op : CmpOp} {r : R2} {g : VF2} (ho : OpR X (compareOp op) r) (hv : V2 X W r g) {a b : Expr} {fa fb : EF} {pos : Pos} (ha : EE X W a fa) (hb : EE X W b fb) (hm : behindInMarks op b = false) : ET X W (.Compare a [op] [b] pos) (tstF (bin2 g fa fb)) :=
  ⟨pt_imp (pt_cmpR ho ha.pe hb.pe hm) fun _ _ _ h => v2_read hv (tst_read h)⟩
theorem et_val {e : Expr} {f : EF} (h : EE X W e f) (he : ∀ whole, isTrue e X.env whole = (do let v ← whole; standAt e.pos; holding [v] (truthy v)) := by intro _; rfl) : ET X W e (tstF f) :=
  ⟨pt_imp (pt_val h.pe he) fun _ _ _ h => tst_read h⟩
/-- a op b op' c -/
def chainF (g g' : VF2) (fa fb fc : EF) : EF := fun ρ m => (fa ρ m).bind fun v m1 => (fb ρ m1).bind fun w m2 => (asT (g v w m2)).bind fun k m3 => if k = true then (fc ρ m3).bind fun z m4 => g' w z m4 else .ok (.bl false) m3
theorem chain_read {r r' : R2} {g g' : VF2} (hv : V2 X W r g) (hv' : V2 X W r' g') {fa fb fc : EF} {σ : L2.St} {H : Hp} {Q : VK} (h : tEF X (wx W) (chainF g g' fa fb fc) σ H Q) :
    tChain r r' (tEF X (wx W) fa) (tEF X (wx W) fb) (tEF X (wx W) fc) σ H Q := by
  obtain ⟨ρ, m, β, F, er, wl, h⟩ := h
  refine t_thenE er wl h fun a m1 β1 F1 H1 u x1 w1 r1 h1 => ?_
  refine t_thenE (er.ext x1) w1 h1 fun b m2 β2 F2 H2 u2 x2 w2 r2 h2 => ?_
  refine hv β2 F2 m2 H2 a b u u2 _ w2 (r1.ext x2) r2 ?_
  generalize g a b m2 = q at h2
  cases q with
  | ok v m3 =>
    cases v with
    | bl k =>
      intro β3 F3 H3 u3 x3 w3 r3
      rw [Rep] at r3
      refine ⟨k, r3, ?_⟩
      have h3 : Fin X.K X.mg W β3 F3 H3 (if k = true then (fc ρ m3).bind fun z m4 => g' b z m4 else .ok (.bl false) m3) Q := Fin.ext x3 h2
      cases k with
      | true =>
        rw [if_pos rfl] at h3 ⊢
        refine t_thenE (er.ext (x1.trans (x2.trans x3))) w3 h3 fun z m4 β4 F4 H4 u4 x4 w4 r4 h4 => ?_
        exact hv' β4 F4 m4 H4 b z u2 u4 Q w4 (r2.ext (x3.trans x4)) r4 h4
      | false =>
        rw [if_neg Bool.false_ne_true] at h3 ⊢
        exact h3 β3 F3 H3 _ (Ext.refl _ _ _) w3 (by rw [Rep])
    | _ => exact h2.elim
  | exc c m3 => exact h2
  | stuck => exact h2
theorem ee_chain {op op' : CmpOp} {r r' : R2} {g g' : VF2} (ho : OpR X (compareOp op) r) (hv : V2 X W r g) (ho' : OpR X (compareOp op') r') (hv' : V2 X W r' g') {a b c : Expr} {fa fb fc : EF} {pos : Pos}
    (ha : EE X W a fa) (hb : EE X W b fb) (hc : EE X W c fc) (hm : lastMarks [op, op'] [b, c] = false := by with_unfolding_all rfl) : EE X W (.Compare a [op, op'] [b, c] pos) (chainF g g' fa fb fc) :=
  ⟨pe_imp (pe_chain ho ho' ha.pe hb.pe hc.pe hm) fun _ _ _ h => chain_read hv hv' h⟩
theorem et_chain {op op' : CmpOp} {r r' : R2} {g g' : VF2} (ho : OpR X (compareOp op) r) (hv : V2 X W r g) (ho' : OpR X (compareOp op') r') (hv' : V2 X W r' g') {a b c : Expr} {fa fb fc : EF} {pos : Pos}
    (ha : EE X W a fa) (hb : EE X W b fb) (hc : EE X W c fc) (hm : lastMarks [op, op'] [b, c] = false := by with_unfolding_all rfl) : ET X W (.Compare a [op, op'] [b, c] pos) (tstF (chainF g g' fa fb fc)) :=
  ⟨pt_imp (pt_chain ho ho' ha.pe hb.pe hc.pe hm) fun _ _ _ h => chain_read hv hv' (tst_read h)⟩
end G

-- part C4
namespace G
open PySem L2
variable {X : Cx} {W : XK}

theorem Fin.here {K : PySem.W.Frag} {mg : Str → Option Value} {W : XK} {β : List Addr} {F : Hp} {m : Sto} {H : Hp} {v : Val} {u : V} {Q : VK} (w : Wld K mg β F m H) (r : Rep K β F v u) (h : Fin K mg W β F H (.ok v m) Q) : Q u H := h β F H u (Ext.refl _ _ _) w r
theorem Fin.bl {K : PySem.W.Frag} {mg : Str → Option Value} {W : XK} {β : List Addr} {F : Hp} {m : Sto} {H : Hp} {b : Bool} {Q : VK} (w : Wld K mg β F m H) (h : Fin K mg W β F H (.ok (.bl b) m) Q) : Q (.bl b) H := h.here w (by rw [Rep])
theorem Fin.int {K : PySem.W.Frag} {mg : Str → Option Value} {W : XK} {β : List Addr} {F : Hp} {m : Sto} {H : Hp} {b : Int} {Q : VK} (w : Wld K mg β F m H) (h : Fin K mg W β F H (.ok (.int b) m) Q) : Q (.int b) H := h.here w (by rw [Rep])
theorem Fin.str {K : PySem.W.Frag} {mg : Str → Option Value} {W : XK} {β : List Addr} {F : Hp} {m : Sto} {H : Hp} {b : List Nat} {Q : VK} (w : Wld K mg β F m H) (h : Fin K mg W β F H (.ok (.str b) m) Q) : Q (.str ⟨b.toArray⟩) H := h.here w (by rw [Rep])
theorem Fin.tup {K : PySem.W.Frag} {mg : Str → Option Value} {W : XK} {β : List Addr} {F : Hp} {m : Sto} {H : Hp} {vs : List Val} {us : List V} {Q : VK} (w : Wld K mg β F m H) (r : RepL K β F vs us) (h : Fin K mg W β F H (.ok (.tup vs) m) Q) : NewT H us Q := by
  refine ⟨keyT vs, fun p o hp ho => ?_⟩
  obtain ⟨x, w', r'⟩ := w.layT r hp ho
  exact h _ _ _ _ x w' r'
theorem Fin.lst {K : PySem.W.Frag} {mg : Str → Option Value} {W : XK} {β : List Addr} {F : Hp} {m : Sto} {H : Hp} {vs : List Val} {us : List V} {Q : VK} (w : Wld K mg β F m H) (r : RepL K β F vs us) (h : Fin K mg W β F H (.ok (.lst vs) m) Q) {p : Addr} (hp : H p = none) : Q (.ref p) (upd H p (.lst us)) := by
  obtain ⟨x, w'⟩ := w.lay hp (.lst us)
  exact h _ _ _ _ x w' (by rw [Rep]; exact ⟨p, us, rfl, upd_same, r.ext x⟩)
theorem RepL.append {K : PySem.W.Frag} {β : List Addr} {F : Hp} : ∀ {vs ws : List Val} {us xs : List V}, RepL K β F vs us → RepL K β F ws xs → RepL K β F (vs ++ ws) (us ++ xs)
  | [], _, _, _, h, g => by rw [RepL] at h; subst h; exact g
  | v :: vs, ws, us, xs, h, g => by
    rw [RepL] at h
    obtain ⟨u, r, rfl, h1, h2⟩ := h
    rw [List.cons_append, RepL]
    exact ⟨u, r ++ xs, rfl, h1, h2.append g⟩
theorem RepL.get {K : PySem.W.Frag} {β : List Addr} {F : Hp} : ∀ {vs : List Val} {us : List V} {i : Nat} {v : Val}, RepL K β F vs us → vs[i]? = some v → ∃ u, us[i]? = some u ∧ Rep K β F v u
  | [], _, _, _, _, e => by simp at e
  | x :: vs, us, i, v, h, e => by
    rw [RepL] at h
    obtain ⟨u, r, rfl, h1, h2⟩ := h
    cases i with
    | zero => simp at e; subst e; exact ⟨u, by simp, h1⟩
    | succ i => simpa using RepL.get h2 (by simpa using e)
theorem RepL.drop {K : PySem.W.Frag} {β : List Addr} {F : Hp} : ∀ (n : Nat) {vs : List Val} {us : List V}, RepL K β F vs us → RepL K β F (vs.drop n) (us.drop n)
  | 0, _, _, h => h
  | n + 1, [], _, h => by rw [RepL] at h; subst h; simp [RepL]
  | n + 1, x :: vs, us, h => by
    rw [RepL] at h
    obtain ⟨u, r, rfl, h1, h2⟩ := h
    simpa using h2.drop n
theorem RepL.take {K : PySem.W.Frag} {β : List Addr} {F : Hp} : ∀ (n : Nat) {vs : List Val} {us : List V}, RepL K β F vs us → RepL K β F (vs.take n) (us.take n)
  | 0, _, _, h => by simp [RepL]
  | n + 1, [], _, h => by rw [RepL] at h; subst h; simp [RepL]
  | n + 1, x :: vs, us, h => by
    rw [RepL] at h
    obtain ⟨u, r, rfl, h1, h2⟩ := h
    rw [List.take_succ_cons, List.take_succ_cons, RepL]
    exact ⟨u, _, rfl, h1, h2.take n⟩
theorem RepL.rev {K : PySem.W.Frag} {β : List Addr} {F : Hp} : ∀ {vs : List Val} {us : List V}, RepL K β F vs us → RepL K β F vs.reverse us.reverse
  | [], _, h => by rw [RepL] at h; subst h; simp [RepL]
  | x :: vs, us, h => by
    rw [RepL] at h
    obtain ⟨u, r, rfl, h1, h2⟩ := h
    rw [List.reverse_cons, List.reverse_cons]
    exact h2.rev.append (by rw [RepL]; exact ⟨u, [], rfl, h1, by rw [RepL]⟩)
theorem RepL.rep {K : PySem.W.Frag} {β : List Addr} {F : Hp} {vs : List Val} {us : List V} (h : RepL K β F vs us) : ∀ (n : Nat), RepL K β F (List.replicate n vs).flatten (List.replicate n us).flatten
  | 0 => by simp [RepL]
  | n + 1 => by
    rw [List.replicate_succ, List.replicate_succ, List.flatten_cons, List.flatten_cons]
    exact h.append (h.rep n)
theorem RepL.set {K : PySem.W.Frag} {β : List Addr} {F : Hp} {w : Val} {x : V} (hw : Rep K β F w x) : ∀ (n : Nat) {vs : List Val} {us : List V}, RepL K β F vs us → RepL K β F (vs.set n w) (us.set n x)
  | n, [], _, h => by rw [RepL] at h; subst h; simp [RepL]
  | 0, y :: vs, us, h => by
    rw [RepL] at h
    obtain ⟨u, r, rfl, h1, h2⟩ := h
    rw [List.set_cons_zero, List.set_cons_zero, RepL]
    exact ⟨x, r, rfl, hw, h2⟩
  | n + 1, y :: vs, us, h => by
    rw [RepL] at h
    obtain ⟨u, r, rfl, h1, h2⟩ := h
    rw [List.set_cons_succ, List.set_cons_succ, RepL]
    exact ⟨u, _, rfl, h1, h2.set hw n⟩

/-! ### arithmetic and joining -/
def addV : VF2 := fun v w m => match v, w with
  | .int i, .int j => .ok (.int (i + j)) m
  | .bl a, .int j => .ok (.int ((if a = true then 1 else 0) + j)) m
  | .str a, .str b => if a.length + b.length ≤ sizeLine then .ok (.str (a ++ b)) m else .stuck
  | .tup a, .tup b => if a.length + b.length ≤ sizeLine then .ok (.tup (a ++ b)) m else .stuck
  | v, w => match asL m v, asL m w with
    | some a, some b => if a.length + b.length ≤ sizeLine then .ok (.lst (a ++ b)) m else .stuck
    | _, _ => .stuck
/-- t + u, of tuples -/
def rCatN (K : PySem.W.Frag) : R2 := fun x y H Q => ∃ a b xs ys, x = .ref a ∧ y = .ref b ∧ SqT K H a xs ∧ SqT K H b ys ∧ xs.length + ys.length ≤ sizeLine ∧ (xs = [] → Q (.ref b) H) ∧ (xs ≠ [] → ys = [] → Q (.ref a) H) ∧ (xs ≠ [] → ys ≠ [] → NewT H (xs ++ ys) Q)
theorem op_catN : OpR X (binaryOp .Add) (rCatN X.K) := by
  rintro pins s σ H x y v u Q I rx ry ⟨a, b, xs, ys, rfl, rfl, ha, hb, hz, q0, q1, q2⟩
  cases rx
  cases ry
  obtain ⟨is, r, p, -⟩ := I.tuple ha
  obtain ⟨js, r', p', -⟩ := I.tuple hb
  have l1 := r.length
  have l2 := r'.length
  by_cases hx : xs = []
  · have : is = [] := List.eq_nil_of_length_eq_zero (by rw [← l1, hx]; rfl)
    subst this
    exact cat_tup0 p p' ⟨.ref b, H, I, rfl, q0 hx⟩
  · have : is ≠ [] := fun e => hx (List.eq_nil_of_length_eq_zero (by rw [l1, e]; rfl))
    refine HT.cat_tup p p' this (fun e => ⟨.ref a, H, I, rfl, q1 hx (List.eq_nil_of_length_eq_zero (by rw [l2, e]; rfl))⟩) (fun e => ?_) (by omega)
    exact (q2 hx fun z => e (List.eq_nil_of_length_eq_zero (by rw [← l2, z]; rfl))).end I (r.append r') (by rw [List.length_append]; exact hz)
def rAddB : R2 := fun x y H Q => ∃ k j, x = .bl k ∧ y = .int j ∧ Q (.int ((if k = true then 1 else 0) + j)) H
theorem op_addB : OpR X (binaryOp .Add) rAddB := by
  rintro pins s σ H x y v u Q I rx ry ⟨k, j, rfl, rfl, q⟩
  cases rx
  obtain ⟨t, rfl⟩ := ry
  exact PySem.IntBool.add_bool_int ⟨.int _, H, I.tok _, ⟨_, rfl⟩, q⟩
def rSubB : R2 := fun x y H Q => ∃ k j, x = .bl k ∧ y = .int j ∧ Q (.int ((if k = true then 1 else 0) - j)) H
theorem op_subB : OpR X (binaryOp .Sub) rSubB := by
  rintro pins s σ H x y v u Q I rx ry ⟨k, j, rfl, rfl, q⟩
  cases rx
  obtain ⟨t, rfl⟩ := ry
  exact PySem.IntBool.sub_bool_int ⟨.int _, H, I.tok _, ⟨_, rfl⟩, q⟩
def rSubI : R2 := fun x y H Q => ∃ i k, x = .int i ∧ y = .bl k ∧ Q (.int (i - (if k = true then 1 else 0))) H
theorem op_subI : OpR X (binaryOp .Sub) rSubI := by
  rintro pins s σ H x y v u Q I rx ry ⟨i, k, rfl, rfl, q⟩
  obtain ⟨t, rfl⟩ := rx
  cases ry
  exact PySem.IntBool.sub_int_bool ⟨.int _, H, I.tok _, ⟨_, rfl⟩, q⟩
def rAddA (K : PySem.W.Frag) : R2 := fun x y H Q => rAddB x y H Q ∨ rI0 (fun i j => .int (i + j)) x y H Q ∨ (∃ i j, x = .str i ∧ y = .str j ∧ i.length + j.length ≤ sizeLine ∧ Q (.str (i ++ j)) H) ∨ rCatN K x y H Q ∨ rCat x y H Q
theorem op_addA : OpR X (binaryOp .Add) (rAddA X.K) := op_addB.or <| op_add.or (op_add_str.or (op_catN.or op_cat))
theorem str_app (a b : List Nat) : (⟨a.toArray⟩ : Str) ++ (⟨b.toArray⟩ : Str) = ⟨(a ++ b).toArray⟩ := by
  show (⟨a.toArray ++ b.toArray⟩ : Str) = _
  simp
theorem v2_add : V2 X W (rAddA X.K) addV := by
  intro β F m H v w x y Q wl rx ry h
  have lists : ∀ a b, asL m v = some a → asL m w = some b → Fin X.K X.mg W β F H (if a.length + b.length ≤ sizeLine then .ok (.lst (a ++ b)) m else .stuck) Q → rAddA X.K x y H Q := fun a b ha hb h => by
    obtain ⟨p, us, rfl, hp, ru⟩ := asL_at wl rx ha
    obtain ⟨q, ws, rfl, hq, rw'⟩ := asL_at wl ry hb
    split at h
    · rename_i hz
      refine .inr (.inr (.inr (.inr ⟨p, q, us, ws, rfl, rfl, hp, hq, by rw [ru.length, rw'.length]; exact hz, fun t ht => ?_⟩)))
      exact h.lst wl (ru.append rw') ht
    · exact h.elim
  unfold addV at h
  split at h
  · rw [Rep] at rx ry; subst rx ry
    exact .inr (.inl ⟨_, _, rfl, rfl, h.int wl⟩)
  · rw [Rep] at rx; rw [Rep] at ry; subst rx ry
    exact .inl ⟨_, _, rfl, rfl, h.int wl⟩
  · rw [Rep] at rx ry; subst rx ry
    split at h
    · rename_i hz
      refine .inr (.inr (.inl ⟨_, _, rfl, rfl, by simpa [Str.length] using hz, ?_⟩))
      rw [str_app]
      exact h.str wl
    · exact h.elim
  · rw [Rep] at rx ry
    obtain ⟨p, us, rfl, hp, ru⟩ := rx
    obtain ⟨q, ws, rfl, hq, rw'⟩ := ry
    split at h
    · rename_i a b hz
      refine .inr (.inr (.inr (.inl ⟨p, q, us, ws, rfl, rfl, hp.sq wl.sub, hq.sq wl.sub, by rw [ru.length, rw'.length]; exact hz, fun hn => ?_, fun _ hn => ?_, fun _ _ => ?_⟩)))
      · subst hn
        have : a = [] := by have := ru.length; cases a <;> simp_all
        subst this
        exact h.here wl (by rw [List.nil_append, Rep]; exact ⟨q, ws, rfl, hq, rw'⟩)
      · subst hn
        have : b = [] := by have := rw'.length; cases b <;> simp_all
        subst this
        exact h.here wl (by rw [List.append_nil, Rep]; exact ⟨p, us, rfl, hp, ru⟩)
      · exact h.tup wl (ru.append rw')
    · exact h.elim
  · split at h
    · rename_i a b ha hb
      exact lists a b ha hb h
    · exact h.elim

def subV : VF2 := fun v w m => match v, w with
  | .int i, .int j => .ok (.int (i - j)) m
  | .bl a, .int j => .ok (.int ((if a = true then 1 else 0) - j)) m
  | .int i, .bl b => .ok (.int (i - (if b = true then 1 else 0))) m
  | _, _ => .stuck
def rSubA : R2 := fun x y H Q => rI0 (fun i j => .int (i - j)) x y H Q ∨ rSubB x y H Q ∨ rSubI x y H Q
theorem op_subA : OpR X (binaryOp .Sub) rSubA := op_sub.or (op_subB.or op_subI)
theorem v2_sub : V2 X W rSubA subV := by
  intro β F m H v w x y Q wl rx ry h
  unfold subV at h
  split at h
  · rw [Rep] at rx; rw [Rep] at ry; subst rx ry
    exact .inl ⟨_, _, rfl, rfl, h.int wl⟩
  · rw [Rep] at rx; rw [Rep] at ry; subst rx ry
    exact .inr (.inl ⟨_, _, rfl, rfl, h.int wl⟩)
  · rw [Rep] at rx; rw [Rep] at ry; subst rx ry
    exact .inr (.inr ⟨_, _, rfl, rfl, h.int wl⟩)
  · exact h.elim
/-- // and %, by a divisor above 0 -/
def divV : VF2 := fun v w m => match v, w with
  | .int i, .int j => if 0 < j ∧ j < 1073741824 then .ok (.int (i / j)) m else .stuck
  | _, _ => .stuck
theorem v2_div : V2 X W (rI CDiv fun i j => .int (i / j)) divV := by
  intro β F m H v w x y Q wl rx ry h
  unfold divV at h
  split at h
  · rw [Rep] at rx ry; subst rx ry
    split at h
    · rename_i hz
      exact ⟨_, _, rfl, rfl, hz, h.int wl⟩
    · exact h.elim
  · exact h.elim
def modV : VF2 := fun v w m => match v, w with
  | .int i, .int j => if 0 < j then .ok (.int (i % j)) m else .stuck
  | _, _ => .stuck
theorem v2_mod : V2 X W (rI (fun _ j => 0 < j) fun i j => .int (i % j)) modV := by
  intro β F m H v w x y Q wl rx ry h
  unfold modV at h
  split at h
  · rw [Rep] at rx ry; subst rx ry
    split at h
    · rename_i hz
      exact ⟨_, _, rfl, rfl, hz, h.int wl⟩
    · exact h.elim
  · exact h.elim

/-! ### comparisons -/
def eqV : VF2 := fun v w m => if gd (res1 m v) = true ∧ gd (res1 m w) = true then .ok (.bl (veq (res1 m v) (res1 m w))) m else .stuck
def neV : VF2 := fun v w m => if gd (res1 m v) = true ∧ gd (res1 m w) = true then .ok (.bl (!veq (res1 m v) (res1 m w))) m else .stuck
theorem v2_eq : V2 X W (rEqD X.K) eqV := by
  intro β F m H v w x y Q wl rx ry h
  unfold eqV at h
  split at h
  · rename_i hg
    refine ⟨_, _, dp_at wl rx hg.1, dp_at wl ry hg.2, gd_shaped hg.1, gd_shaped hg.2, ?_⟩
    rw [eqv_veq]
    exact h.bl wl
  · exact h.elim
theorem v2_ne : V2 X W (rNeD X.K) neV := by
  intro β F m H v w x y Q wl rx ry h
  unfold neV at h
  split at h
  · rename_i hg
    refine ⟨_, _, dp_at wl rx hg.1, dp_at wl ry hg.2, gd_shaped hg.1, gd_shaped hg.2, ?_⟩
    rw [eqv_veq]
    exact h.bl wl
  · exact h.elim
theorem toL (x : List Nat) : (⟨x.toArray⟩ : Str).cps.toList = x := by simp
def ltV : VF2 := fun v w m => match v, w with
  | .int i, .int j => .ok (.bl (decide (i < j))) m
  | .str i, .str j => .ok (.bl (decide (i < j))) m
  | .tup a, .tup b => if gd (.tup a) = true ∧ gd (.tup b) = true ∧ PySem.W.alike (toPy (.tup a)) (toPy (.tup b)) = true then .ok (.bl (PySem.W.dataLt (toPy (.tup a)) (toPy (.tup b)))) m else .stuck
  | _, _ => .stuck
def leV : VF2 := fun v w m => match v, w with
  | .int i, .int j => .ok (.bl (decide (i ≤ j))) m
  | .str i, .str j => .ok (.bl (!decide (j < i))) m
  | _, _ => .stuck
def gtV : VF2 := fun v w m => match v, w with
  | .int i, .int j => .ok (.bl (decide (j < i))) m
  | _, _ => .stuck
def geV : VF2 := fun v w m => match v, w with
  | .int i, .int j => .ok (.bl (decide (j ≤ i))) m
  | _, _ => .stuck
def rLtP (K : PySem.W.Frag) : R2 := fun x y H Q => ∃ a b : PyData, Dp K H x a ∧ Dp K H y b ∧ PySem.W.alike a b = true ∧ a ≠ .none ∧ a.depth ≤ 60 ∧ Q (.bl (PySem.W.dataLt a b)) H
theorem op_ltP (hu : X.A.units + 64 < cLine) : OpR X (compareOp .Lt) (rLtP X.K) := by
  intro pins s σ H x y v u Q I rx ry ⟨a, b, ha, hb, hal, hn, hd, q⟩
  obtain ⟨as, r1⟩ := Dp.reads I a x v ha rx
  obtain ⟨bs, r2⟩ := Dp.reads I b y u hb ry
  exact PySem.W.lt_data r1 r2 hal hn (by omega) ⟨.bl _, H, I, rfl, q⟩
def rLtS : R2 := fun x y H Q => ∃ i j, x = .str i ∧ y = .str j ∧ Q (.bl (decide (i.cps.toList < j.cps.toList))) H
def rLtA (K : PySem.W.Frag) : R2 := fun x y H Q => rI0 (fun i j => .bl (decide (i < j))) x y H Q ∨ (rLtS x y H Q ∨ rLtP K x y H Q)
def rLeA : R2 := fun x y H Q => rI0 (fun i j => .bl (decide (i ≤ j))) x y H Q ∨ ∃ i j, x = .str i ∧ y = .str j ∧ Q (.bl (!decide (j.cps.toList < i.cps.toList))) H
theorem op_ltA (hu : X.A.units + 64 < cLine) : OpR X (compareOp .Lt) (rLtA X.K) := op_lt.or (OpR.or (r' := rLtP X.K) op_lt_str (op_ltP hu))
theorem op_leA : OpR X (compareOp .LtE) rLeA := op_le.or op_le_str
theorem v2_lt : V2 X W (rLtA X.K) ltV := by
  intro β F m H v w x y Q wl rx ry h
  unfold ltV at h
  split at h
  · rw [Rep] at rx ry; subst rx ry
    exact .inl ⟨_, _, rfl, rfl, h.bl wl⟩
  · rw [Rep] at rx ry; subst rx ry
    refine .inr (.inl ⟨_, _, rfl, rfl, ?_⟩)
    rw [toL, toL]
    exact h.bl wl
  · rename_i a b
    split at h
    · rename_i hg
      obtain ⟨h1, h2, h3⟩ := hg
      have g1 := h1
      simp only [gd, Bool.and_eq_true, decide_eq_true_eq] at g1
      refine .inr (.inr ⟨toPy (.tup a), toPy (.tup b), dp_at wl rx h1, dp_at wl ry h2, h3, by simp [toPy], ?_, h.bl wl⟩)
      rw [dep_py _ g1.1]
      exact g1.2
    · exact h.elim
  · exact h.elim
theorem v2_le : V2 X W rLeA leV := by
  intro β F m H v w x y Q wl rx ry h
  unfold leV at h
  split at h
  · rw [Rep] at rx ry; subst rx ry
    exact .inl ⟨_, _, rfl, rfl, h.bl wl⟩
  · rw [Rep] at rx ry; subst rx ry
    refine .inr ⟨_, _, rfl, rfl, ?_⟩
    rw [toL, toL]
    exact h.bl wl
  · exact h.elim
theorem v2_gt : V2 X W (rI0 fun i j => .bl (decide (j < i))) gtV := by
  intro β F m H v w x y Q wl rx ry h
  unfold gtV at h
  split at h
  · rw [Rep] at rx ry; subst rx ry
    exact ⟨_, _, rfl, rfl, h.bl wl⟩
  · exact h.elim
theorem v2_ge : V2 X W (rI0 fun i j => .bl (decide (j ≤ i))) geV := by
  intro β F m H v w x y Q wl rx ry h
  unfold geV at h
  split at h
  · rw [Rep] at rx ry; subst rx ry
    exact ⟨_, _, rfl, rfl, h.bl wl⟩
  · exact h.elim

/-! ### in -/
/-- a dict's key that fits its kind -/
def kfit1 : Val → Bool
  | .int _ => true
  | .str _ => true
  | _ => false
def kfit : Kd → Val → Bool
  | .k, v => kfit1 v
  | .t, .tup xs => keyT xs
  | _, _ => false
def dget (kvs : List (Val × Val)) (k : Val) : Option Val := (kvs.find? fun p => veq p.1 k).map (·.2)
def asD (m : Sto) : Val → Option (Kd × List (Val × Val))
  | .dct t kvs => some (t, kvs)
  | .ref n => match m[n]? with | some (.dct t kvs) => some (t, kvs) | _ => none
  | _ => none
theorem asD_at {K : PySem.W.Frag} {mg : Str → Option Value} {β : List Addr} {F : Hp} {m : Sto} {H : Hp} (w : Wld K mg β F m H) {v : Val} {x : V} (r : Rep K β F v x) {t : Kd} {kvs : List (Val × Val)} (h : asD m v = some (t, kvs)) :
    ∃ a o ks, x = .ref a ∧ H a = some o ∧ DOb t o ks ∧ RepD K β F kvs ks := by
  cases v with
  | dct t' ys =>
    simp only [asD, Option.some.injEq, Prod.mk.injEq] at h
    obtain ⟨rfl, rfl⟩ := h
    rw [Rep] at r
    obtain ⟨a, o, us, e1, e2, e3⟩ := r
    exact ⟨a, o, us, e1, w.sub _ _ e2, e3⟩
  | ref n =>
    rw [Rep] at r
    obtain ⟨a, e1, e2⟩ := r
    simp only [asD] at h
    split at h
    · rename_i t' ys hm
      simp only [Option.some.injEq, Prod.mk.injEq] at h
      obtain ⟨rfl, rfl⟩ := h
      obtain ⟨o, h1, us, h2, h3⟩ := w.at' n a _ e2 hm
      exact ⟨a, o, us, e1, h1, h2, h3⟩
    · cases h
  | _ => simp [asD] at h
theorem repD_get {K : PySem.W.Frag} {β : List Addr} {F : Hp} : ∀ {kvs : List (Val × Val)} {ks : List (Val × V)} (k : Val), RepD K β F kvs ks → match dget kvs k with
    | none => (ks.find? fun p => veq p.1 k) = none
    | some v => ∃ p, (ks.find? fun p => veq p.1 k) = some p ∧ Rep K β F v p.2
  | [], ks, k, h => by rw [RepD] at h; subst h; simp [dget]
  | (q, v) :: kvs, ks, k, h => by
    rw [RepD] at h
    obtain ⟨u, r, rfl, h1, h2⟩ := h
    obtain ⟨q', u'⟩ := u
    rw [RepP] at h1
    obtain ⟨rfl, h1⟩ := h1
    have ih := repD_get k h2
    unfold dget at ih ⊢
    by_cases hq : veq q' k = true
    · simp only [List.find?_cons, hq, Option.map_some]
      exact ⟨_, rfl, h1⟩
    · have hq' : veq q' k = false := by simpa using hq
      simp only [List.find?_cons, hq']
      exact ih
theorem kVal_veq (a b : Key) : veq (kVal a) (kVal b) = decide (a = b) := by
  cases a with
  | inl i =>
    cases b with
    | inl j => simp [kVal, veq, Bool.beq_eq_decide_eq]
    | inr y => simp [kVal, veq]
  | inr x =>
    cases b with
    | inl j => simp [kVal, veq]
    | inr y =>
      simp only [kVal, veq, Bool.beq_eq_decide_eq]
      congr 1
      obtain ⟨x⟩ := x
      obtain ⟨y⟩ := y
      simp [Sum.inr.injEq]
theorem kVals_veq : ∀ (a b : List Key), veqL (a.map kVal) (b.map kVal) = decide (a = b)
  | [], [] => by simp [veqL]
  | [], _ :: _ => by simp [veqL]
  | _ :: _, [] => by simp [veqL]
  | a :: as, b :: bs => by
    simp only [List.map_cons, veqL, kVal_veq, kVals_veq as bs]
    by_cases h : a = b <;> by_cases h2 : as = bs <;> simp [h, h2]
theorem valV_find1 (ks : List (Key × V)) (k : Key) : valV ks k = ((ks.map fun p => (kVal p.1, p.2)).find? fun p => veq p.1 (kVal k)).map (·.2) := by
  induction ks with
  | nil => rfl
  | cons p r ih =>
    by_cases e : p.1 = k
    · rw [valV_pos e]; simp [List.find?_cons, kVal_veq, e]
    · rw [valV_neg e, ih]; simp [List.find?_cons, kVal_veq, e]
theorem valV_find2 (ks : List (List Key × V)) (k : List Key) : valV ks k = ((ks.map fun p => (Val.tup (p.1.map kVal), p.2)).find? fun p => veq p.1 (.tup (k.map kVal))).map (·.2) := by
  induction ks with
  | nil => rfl
  | cons p r ih =>
    by_cases e : p.1 = k
    · rw [valV_pos e]; simp [List.find?_cons, veq, kVals_veq, e]
    · rw [valV_neg e, ih]; simp [List.find?_cons, veq, kVals_veq, e]
theorem kfit1_key {K : PySem.W.Frag} {β : List Addr} {F : Hp} {v : Val} {x : V} (r : Rep K β F v x) (h : kfit1 v = true) : ∃ k : Key, v = kVal k ∧ x = kV k := by
  cases v with
  | int i => rw [Rep] at r; exact ⟨.inl i, rfl, r⟩
  | str i => rw [Rep] at r; exact ⟨.inr ⟨i.toArray⟩, by simp [kVal], r⟩
  | _ => simp [kfit1] at h
theorem kfitL_key {K : PySem.W.Frag} {β : List Addr} {F : Hp} : ∀ {vs : List Val} {xs : List V}, RepL K β F vs xs → vs.all kfit1 = true → ∃ k : List Key, vs = k.map kVal ∧ xs = k.map kV
  | [], _, r, _ => by rw [RepL] at r; exact ⟨[], rfl, r⟩
  | v :: vs, xs, r, h => by
    rw [RepL] at r
    obtain ⟨u, s, rfl, h1, h2⟩ := r
    simp only [List.all_cons, Bool.and_eq_true] at h
    obtain ⟨k, rfl, rfl⟩ := kfit1_key h1 h.1
    obtain ⟨ks, rfl, rfl⟩ := kfitL_key h2 h.2
    exact ⟨k :: ks, rfl, rfl⟩
theorem keyT_all {xs : List Val} (h : keyT xs = true) : xs.all kfit1 = true := by
  simp only [keyT, Bool.and_eq_true] at h
  have e : kfit1 = keyOne := by funext v; cases v <;> rfl
  rw [e]
  exact h.2
/-- what a dict holds at a key -/
theorem dget_at {K : PySem.W.Frag} {mg : Str → Option Value} {β : List Addr} {F : Hp} {m : Sto} {H : Hp} (w : Wld K mg β F m H) {a : Addr} {o : HO} {t : Kd} {ks : List (Val × V)} {kvs : List (Val × Val)} (ha : H a = some o) (hd : DOb t o ks) (hr : RepD K β F kvs ks)
    {k : Val} {y : V} (ry : Rep K β F k y) (hk : kfit t k = true) : ∃ r, DGet H a y r ∧ match dget kvs k with | none => r = none | some v => ∃ u, r = some u ∧ Rep K β F v u := by
  have g := repD_get k hr
  cases t with
  | k =>
    obtain ⟨ks', rfl, rfl⟩ := hd
    obtain ⟨q, rfl, rfl⟩ := kfit1_key ry hk
    refine ⟨_, .k ha, ?_⟩
    rw [valV_find1]
    cases e : dget kvs (kVal q) with
    | none => rw [e] at g; simp only at g ⊢; rw [g]; rfl
    | some v => rw [e] at g; obtain ⟨p, g1, g2⟩ := g; exact ⟨p.2, by rw [g1]; rfl, g2⟩
  | t =>
    obtain ⟨ks', rfl, rfl⟩ := hd
    cases k with
    | tup xs =>
      rw [Rep] at ry
      obtain ⟨b, us, rfl, hb, hl⟩ := ry
      simp only [kfit] at hk
      rw [hk] at hb
      obtain ⟨q, rfl, rfl⟩ := kfitL_key hl (keyT_all hk)
      refine ⟨_, .t ha (w.sub _ _ hb.key), ?_⟩
      rw [valV_find2]
      cases e : dget kvs (.tup (q.map kVal)) with
      | none => rw [e] at g; simp only at g ⊢; rw [g]; rfl
      | some v => rw [e] at g; obtain ⟨p, g1, g2⟩ := g; exact ⟨p.2, by rw [g1]; rfl, g2⟩
    | _ => simp [kfit] at hk
  | d => exact hd.elim
def rDIn : R2 := fun y x H Q => ∃ a r, x = .ref a ∧ DGet H a y r ∧ Q (.bl r.isSome) H
def rDNotIn : R2 := fun y x H Q => ∃ a r, x = .ref a ∧ DGet H a y r ∧ Q (.bl (!r.isSome)) H
theorem op_dIn (hu : X.A.units + 64 < cLine) : OpR X (compareOp .In) rDIn := by
  intro pins s σ H x y v u Q I rx ry h
  obtain ⟨a, r, rfl, g, q⟩ := h
  cases ry
  exact d_in (by omega) I g rx fun s' I' => ⟨.bl _, H, I', rfl, q⟩
theorem op_dNotIn (hu : X.A.units + 64 < cLine) : OpR X (compareOp .NotIn) rDNotIn := by
  intro pins s σ H x y v u Q I rx ry h
  obtain ⟨a, r, rfl, g, q⟩ := h
  cases ry
  exact d_notIn (by omega) I g rx fun s' I' => ⟨.bl _, H, I', rfl, q⟩
def rInT (K : PySem.W.Frag) : R2 := fun x y H Q => ∃ d ds, Dp K H x d ∧ Dp K H y (.tuple ds) ∧ SeqAt.shaped d = true ∧ SeqAt.shaped (.tuple ds) = true ∧ Q (.bl (ds.any fun z => PyData.eqv z d)) H
def rNotInT (K : PySem.W.Frag) : R2 := fun x y H Q => ∃ d ds, Dp K H x d ∧ Dp K H y (.tuple ds) ∧ SeqAt.shaped d = true ∧ SeqAt.shaped (.tuple ds) = true ∧ Q (.bl (!ds.any fun z => PyData.eqv z d)) H
theorem room_in {A : Around} {d : PyData} {ds : List PyData} (sd : SeqAt.shaped d = true) (hu : A.units + 65 < cLine) : A.units + 1 + min (PyData.depthAll ds) d.depth < cLine := by
  have h1 := SeqAt.depth_of_shaped sd
  have h2 : min (PyData.depthAll ds) d.depth ≤ d.depth := Nat.min_le_right _ _
  omega
theorem op_inT (hu : X.A.units + 65 < cLine) : OpR X (compareOp .In) (rInT X.K) := by
  intro pins s σ H x y v u Q I rx ry h
  obtain ⟨d, ds, hd, he, sd, se, q⟩ := h
  obtain ⟨as, r1⟩ := Dp.reads I d x v hd rx
  obtain ⟨bs, r2⟩ := Dp.reads I (.tuple ds) y u he ry
  exact SeqAt.in_tuple_reads r2 r1 (SeqAt.canLay_of_shaped se) (SeqAt.canLay_of_shaped sd) (room_in sd hu) ⟨.bl _, H, I, rfl, q⟩
theorem op_notInT (hu : X.A.units + 65 < cLine) : OpR X (compareOp .NotIn) (rNotInT X.K) := by
  intro pins s σ H x y v u Q I rx ry h
  obtain ⟨d, ds, hd, he, sd, se, q⟩ := h
  obtain ⟨as, r1⟩ := Dp.reads I d x v hd rx
  obtain ⟨bs, r2⟩ := Dp.reads I (.tuple ds) y u he ry
  exact SeqAt.notIn_tuple_reads r2 r1 (SeqAt.canLay_of_shaped se) (SeqAt.canLay_of_shaped sd) (room_in sd hu) ⟨.bl _, H, I, rfl, q⟩
/-- a tuple of the module as a plain one -/
def unw : Val → Val
  | .wt xs => .tup xs
  | v => v
/-- x in c; none where it is not told -/
def inB (v w : Val) (m : Sto) : Option Bool := match w with
  | .str z => match v with
    | .str [c] => some (decide (c ∈ z))
    | _ => none
  | .tup xs => if gd v = true ∧ gd (.tup xs) = true then some (xs.any fun z => veq z v) else none
  | .wt xs => if gd v = true ∧ gd (.tup xs) = true then some (xs.any fun z => veq z v) else none
  | w => match asD m w with
    | some (t, kvs) => if kfit t v = true then some (dget kvs v).isSome else none
    | none => match asL m w with
      | some xs => if gd v = true ∧ gd (.lst xs) = true then some (xs.any fun z => veq z v) else none
      | none => none
def inV : VF2 := fun v w m => match inB v w m with | some b => .ok (.bl b) m | none => .stuck
def notInV : VF2 := fun v w m => match inB v w m with | some b => .ok (.bl (!b)) m | none => .stuck
def rInA (K : PySem.W.Frag) : R2 := fun x y H Q => (∃ (c : Nat) (z : Str), x = .str ⟨#[c]⟩ ∧ y = .str z ∧ Q (.bl (decide (c ∈ z.cps.toList))) H) ∨ rInT K x y H Q ∨ rInD K x y H Q ∨ rDIn x y H Q
def rNotInA (K : PySem.W.Frag) : R2 := fun x y H Q => (∃ (c : Nat) (z : Str), x = .str ⟨#[c]⟩ ∧ y = .str z ∧ Q (.bl (!decide (c ∈ z.cps.toList))) H) ∨ rNotInT K x y H Q ∨ rNotInD K x y H Q ∨ rDNotIn x y H Q
theorem op_inA {n : Nat} (g : Good X n) : OpR X (compareOp .In) (rInA X.K) := op_in_sign.or ((op_inT g.u65).or ((op_inD g.u65).or (op_dIn g.u64)))
theorem op_notInA {n : Nat} (g : Good X n) : OpR X (compareOp .NotIn) (rNotInA X.K) := op_notIn_sign.or ((op_notInT g.u65).or ((op_notInD g.u65).or (op_dNotIn g.u64)))
theorem toPyL_any (xs : List Val) (v : Val) : ((toPyL xs).any fun z => PyData.eqv z (toPy v)) = xs.any fun z => veq z v := by
  induction xs with
  | nil => rfl
  | cons x xs ih => simp only [toPyL, List.any_cons, eqv_veq, ih]
theorem in_read {β F m H v w x y} (wl : Wld X.K X.mg β F m H) (rx : Rep X.K β F v x) (ry : Rep X.K β F w y) {b : Bool} (h : inB v w m = some b) :
    (∃ (c : Nat) (z : Str), x = .str ⟨#[c]⟩ ∧ y = .str z ∧ b = decide (c ∈ z.cps.toList)) ∨
    (∃ d ds, Dp X.K H x d ∧ Dp X.K H y (.tuple ds) ∧ SeqAt.shaped d = true ∧ SeqAt.shaped (.tuple ds) = true ∧ b = ds.any fun z => PyData.eqv z d) ∨
    (∃ d ds, Dp X.K H x d ∧ Dp X.K H y (.list ds) ∧ SeqAt.shaped d = true ∧ SeqAt.shaped (.list ds) = true ∧ b = ds.any fun z => PyData.eqv z d) ∨
    (∃ a r, y = .ref a ∧ DGet H a x r ∧ b = r.isSome) := by
  have gg : ∀ {v : Val}, gd v = true → good v = true := fun h => by simp only [gd, Bool.and_eq_true] at h; exact h.1
  have key : asD m w = none → (match asL m w with
      | some xs => if gd v = true ∧ gd (.lst xs) = true then some (xs.any fun z => veq z v) else none
      | none => none) = some b → (∃ d ds, Dp X.K H x d ∧ Dp X.K H y (.list ds) ∧ SeqAt.shaped d = true ∧ SeqAt.shaped (.list ds) = true ∧ b = ds.any fun z => PyData.eqv z d) := fun _ h => by
    split at h
    · rename_i xs hx
      split at h
      · rename_i hg
        simp only [Option.some.injEq] at h
        obtain ⟨p, us, rfl, hp, ru⟩ := asL_at wl ry hx
        refine ⟨toPy v, toPyL xs, rep_dp wl.sub (gg hg.1) rx, .lst (.of hp) (rep_dpL wl.sub ?_ ru), gd_shaped hg.1, gd_shaped hg.2, by rw [toPyL_any]; exact h.symm⟩
        have := gg hg.2
        simpa only [good] using this
      · cases h
    · cases h
  have tups : ∀ {xs : List Val} {us : List V} {a : Addr}, SqT X.K H a us → RepL X.K β F xs us → (if gd v = true ∧ gd (.tup xs) = true then some (xs.any fun z => veq z v) else none) = some b →
      (∃ d ds, Dp X.K H x d ∧ Dp X.K H (.ref a) (.tuple ds) ∧ SeqAt.shaped d = true ∧ SeqAt.shaped (.tuple ds) = true ∧ b = ds.any fun z => PyData.eqv z d) := fun {xs us a} hs ru h => by
    split at h
    · rename_i hg
      simp only [Option.some.injEq] at h
      refine ⟨toPy v, toPyL xs, rep_dp wl.sub (gg hg.1) rx, .tup hs (rep_dpL wl.sub ?_ ru), gd_shaped hg.1, gd_shaped hg.2, by rw [toPyL_any]; exact h.symm⟩
      have := gg hg.2
      simpa only [good] using this
    · cases h
  have dicts : ∀ {t : Kd} {kvs : List (Val × Val)}, asD m w = some (t, kvs) → (if kfit t v = true then some (dget kvs v).isSome else none) = some b → ∃ a r, y = .ref a ∧ DGet H a x r ∧ b = r.isSome := fun {t kvs} hd h => by
    split at h
    · rename_i hk
      simp only [Option.some.injEq] at h
      obtain ⟨a, o, ks, rfl, ha, ho, hr⟩ := asD_at wl ry hd
      obtain ⟨r, g1, g2⟩ := dget_at wl ha ho hr rx hk
      refine ⟨a, r, rfl, g1, ?_⟩
      rw [← h]
      cases e : dget kvs v with
      | none => rw [e] at g2; rw [g2]; rfl
      | some z => rw [e] at g2; obtain ⟨u, rfl, _⟩ := g2; rfl
    · cases h
  unfold inB at h
  split at h
  · rename_i z
    split at h
    · rename_i c
      simp only [Option.some.injEq] at h
      rw [Rep] at rx ry
      subst rx ry
      exact .inl ⟨c, ⟨z.toArray⟩, rfl, rfl, by rw [toL]; exact h.symm⟩
    · cases h
  · rw [Rep] at ry
    obtain ⟨a, us, rfl, h1, h2⟩ := ry
    exact .inr (.inl (tups (h1.sq wl.sub) h2 h))
  · rw [Rep] at ry
    obtain ⟨a, us, rfl, h1, h2⟩ := ry
    exact .inr (.inl (tups (sqT_mono wl.sub h1) h2 h))
  · split at h
    · rename_i t kvs hd
      exact .inr (.inr (.inr (dicts hd h)))
    · rename_i hd
      exact .inr (.inr (.inl (key hd h)))
theorem v2_in : V2 X W (rInA X.K) inV := by
  intro β F m H v w x y Q wl rx ry h
  unfold inV at h
  split at h
  · rename_i b hb
    have q := h.bl wl
    rcases in_read wl rx ry hb with ⟨c, z, e1, e2, rfl⟩ | ⟨d, ds, e1, e2, e3, e4, rfl⟩ | ⟨d, ds, e1, e2, e3, e4, rfl⟩ | ⟨a, r, e1, e2, rfl⟩
    · exact .inl ⟨c, z, e1, e2, q⟩
    · exact .inr (.inl ⟨d, ds, e1, e2, e3, e4, q⟩)
    · exact .inr (.inr (.inl ⟨d, ds, e1, e2, e3, e4, q⟩))
    · exact .inr (.inr (.inr ⟨a, r, e1, e2, q⟩))
  · exact h.elim
theorem v2_notIn : V2 X W (rNotInA X.K) notInV := by
  intro β F m H v w x y Q wl rx ry h
  unfold notInV at h
  split at h
  · rename_i b hb
    have q := h.bl wl
    rcases in_read wl rx ry hb with ⟨c, z, e1, e2, rfl⟩ | ⟨d, ds, e1, e2, e3, e4, rfl⟩ | ⟨d, ds, e1, e2, e3, e4, rfl⟩ | ⟨a, r, e1, e2, rfl⟩
    · exact .inl ⟨c, z, e1, e2, q⟩
    · exact .inr (.inl ⟨d, ds, e1, e2, e3, e4, q⟩)
    · exact .inr (.inr (.inl ⟨d, ds, e1, e2, e3, e4, q⟩))
    · exact .inr (.inr (.inr ⟨a, r, e1, e2, q⟩))
  · exact h.elim

/-! ### is None, is True -/
def isNone : Val → Bool
  | .non => true
  | _ => false
def isBl (b : Bool) : Val → Bool
  | .bl c => c == b
  | _ => false
def isV : VF2 := fun v w m => match w with
  | .non => .ok (.bl (isNone v)) m
  | .bl b => .ok (.bl (isBl b v)) m
  | _ => .stuck
def isNotV : VF2 := fun v w m => match w with
  | .non => .ok (.bl (!isNone v)) m
  | .bl b => .ok (.bl (!isBl b v)) m
  | _ => .stuck
def rIsA : R2 := fun x y H Q => (y = .non ∧ Q (.bl (decide (x = .non))) H) ∨ ∃ b, y = .bl b ∧ Q (.bl (decide (x = .bl b))) H
def rIsNotA : R2 := fun x y H Q => (y = .non ∧ Q (.bl (!decide (x = .non))) H) ∨ ∃ b, y = .bl b ∧ Q (.bl (!decide (x = .bl b))) H
theorem ne_bool {x : V} {v : Value} (r : RelV x v) {b : Bool} (h : x ≠ .bl b) : v ≠ Value.bool b := by
  intro e
  cases x with
  | bl c => cases r; cases e; exact h rfl
  | int i => obtain ⟨t, rfl⟩ := r; cases e
  | str i => obtain ⟨t, rfl⟩ := r; cases e
  | byt i => obtain ⟨t, rfl⟩ := r; cases e
  | flt i => obtain ⟨t, rfl⟩ := r; cases e
  | _ => cases r; cases e
theorem plain_bool {x : V} {v : Value} (r : RelV x v) {b : Bool} : PySem.plainIs v (Value.bool b) = true := by
  cases x with
  | int i => obtain ⟨t, rfl⟩ := r; rfl
  | str i => obtain ⟨t, rfl⟩ := r; rfl
  | byt i => obtain ⟨t, rfl⟩ := r; rfl
  | flt i => obtain ⟨t, rfl⟩ := r; rfl
  | _ => cases r; rfl
theorem op_isA : OpR X (compareOp .Is) rIsA := op_isN.or (by
  intro pins s σ H x y v u Q I rx ry h
  obtain ⟨b, rfl, q⟩ := h
  cases (show u = Value.bool b from ry)
  by_cases e : x = .bl b
  · subst e
    cases (show v = Value.bool b from rx)
    exact wpAny_is_self rfl ⟨.bl true, H, I, rfl, by simpa using q⟩
  · exact wpAny_is_other (plain_bool rx) (ne_bool rx e) ⟨.bl false, H, I, rfl, by simpa [e] using q⟩)
theorem op_isNotA : OpR X (compareOp .IsNot) rIsNotA := op_notN.or (by
  intro pins s σ H x y v u Q I rx ry h
  obtain ⟨b, rfl, q⟩ := h
  cases (show u = Value.bool b from ry)
  by_cases e : x = .bl b
  · subst e
    cases (show v = Value.bool b from rx)
    exact wpAny_isNot_self rfl ⟨.bl false, H, I, rfl, by simpa using q⟩
  · exact wpAny_isNot_other (plain_bool rx) (ne_bool rx e) ⟨.bl true, H, I, rfl, by simpa [e] using q⟩)
theorem rep_none {K : PySem.W.Frag} {β : List Addr} {F : Hp} {v : Val} {x : V} (r : Rep K β F v x) : decide (x = .non) = isNone v := by
  cases v with
  | non => rw [Rep] at r; subst r; rfl
  | bl _ => rw [Rep] at r; subst r; rfl
  | int _ => rw [Rep] at r; subst r; rfl
  | str _ => rw [Rep] at r; subst r; rfl
  | tup _ => rw [Rep] at r; obtain ⟨a, us, rfl, _⟩ := r; rfl
  | lst _ => rw [Rep] at r; obtain ⟨a, us, rfl, _⟩ := r; rfl
  | dct _ _ => rw [Rep] at r; obtain ⟨a, us, _, rfl, _⟩ := r; rfl
  | ref _ => rw [Rep] at r; obtain ⟨a, rfl, _⟩ := r; rfl
  | scr _ => rw [Rep] at r; obtain ⟨a, rfl, _⟩ := r; rfl
  | wt _ => rw [Rep] at r; obtain ⟨a, us, rfl, _⟩ := r; rfl
theorem rep_isBl {K : PySem.W.Frag} {β : List Addr} {F : Hp} {v : Val} {x : V} (r : Rep K β F v x) (b : Bool) : decide (x = .bl b) = isBl b v := by
  cases v with
  | non => rw [Rep] at r; subst r; rfl
  | bl c => rw [Rep] at r; subst r; show decide (V.bl c = V.bl b) = (c == b); rw [dec_bl]
  | int _ => rw [Rep] at r; subst r; rfl
  | str _ => rw [Rep] at r; subst r; rfl
  | tup _ => rw [Rep] at r; obtain ⟨a, us, rfl, _⟩ := r; rfl
  | lst _ => rw [Rep] at r; obtain ⟨a, us, rfl, _⟩ := r; rfl
  | dct _ _ => rw [Rep] at r; obtain ⟨a, us, _, rfl, _⟩ := r; rfl
  | ref _ => rw [Rep] at r; obtain ⟨a, rfl, _⟩ := r; rfl
  | scr _ => rw [Rep] at r; obtain ⟨a, rfl, _⟩ := r; rfl
  | wt _ => rw [Rep] at r; obtain ⟨a, us, rfl, _⟩ := r; rfl
theorem v2_is : V2 X W rIsA isV := by
  intro β F m H v w x y Q wl rx ry h
  unfold isV at h
  split at h
  · rw [Rep] at ry; exact .inl ⟨ry, by rw [rep_none rx]; exact h.bl wl⟩
  · rw [Rep] at ry; exact .inr ⟨_, ry, by rw [rep_isBl rx]; exact h.bl wl⟩
  · exact h.elim
theorem v2_isNot : V2 X W rIsNotA isNotV := by
  intro β F m H v w x y Q wl rx ry h
  unfold isNotV at h
  split at h
  · rw [Rep] at ry; exact .inl ⟨ry, by rw [rep_none rx]; exact h.bl wl⟩
  · rw [Rep] at ry; exact .inr ⟨_, ry, by rw [rep_isBl rx]; exact h.bl wl⟩
  · exact h.elim

/-! ### the rules one uses -/
section
variable {a b : Expr} {fa fb : EF} {pos : Pos} {n : Nat}
theorem ee_add (ha : EE X W a fa) (hb : EE X W b fb) : EE X W (.BinOp a .Add b pos) (bin2 addV fa fb) := ee_op op_addA v2_add ha hb
theorem ee_sub (ha : EE X W a fa) (hb : EE X W b fb) : EE X W (.BinOp a .Sub b pos) (bin2 subV fa fb) := ee_op op_subA v2_sub ha hb
theorem ee_div (ha : EE X W a fa) (hb : EE X W b fb) : EE X W (.BinOp a .FloorDiv b pos) (bin2 divV fa fb) := ee_op op_fdiv v2_div ha hb
theorem ee_mod (ha : EE X W a fa) (hb : EE X W b fb) : EE X W (.BinOp a .Mod b pos) (bin2 modV fa fb) := ee_op op_mod v2_mod ha hb
/-- the comparisons: which function, by which rule -/
structure CmpOk (X : Cx) (W : XK) (op : CmpOp) (g : VF2) : Prop where
  ex : ∃ r, OpR X (compareOp op) r ∧ V2 X W r g
theorem cEq (g : Good X n) : CmpOk X W .Eq eqV := ⟨_, op_eqD g.u64, v2_eq⟩
theorem cNe (g : Good X n) : CmpOk X W .NotEq neV := ⟨_, op_neD g.u64, v2_ne⟩
theorem cLt (g : Good X n) : CmpOk X W .Lt ltV := ⟨_, op_ltA g.u64, v2_lt⟩
theorem cLe : CmpOk X W .LtE leV := ⟨_, op_leA, v2_le⟩
theorem cGt : CmpOk X W .Gt gtV := ⟨_, op_gt, v2_gt⟩
theorem cGe : CmpOk X W .GtE geV := ⟨_, op_ge, v2_ge⟩
theorem cIn (g : Good X n) : CmpOk X W .In inV := ⟨_, op_inA g, v2_in⟩
theorem cNotIn (g : Good X n) : CmpOk X W .NotIn notInV := ⟨_, op_notInA g, v2_notIn⟩
theorem cIs : CmpOk X W .Is isV := ⟨_, op_isA, v2_is⟩
theorem cIsNot : CmpOk X W .IsNot isNotV := ⟨_, op_isNotA, v2_isNot⟩
variable {op op' : CmpOp} {g g' : VF2} {c : Expr} {fc : EF}
theorem ec (h : CmpOk X W op g) (ha : EE X W a fa) (hb : EE X W b fb) (hm : behindInMarks op b = false := by with_unfolding_all rfl) : EE X W (.Compare a [op] [b] pos) (bin2 g fa fb) := let ⟨_, h1, h2⟩ := h.ex; ee_cmp h1 h2 ha hb hm
theorem tc (h : CmpOk X W op g) (ha : EE X W a fa) (hb : EE X W b fb) (hm : behindInMarks op b = false := by with_unfolding_all rfl) : ET X W (.Compare a [op] [b] pos) (tstF (bin2 g fa fb)) := let ⟨_, h1, h2⟩ := h.ex; et_cmp h1 h2 ha hb hm
theorem ec2 (h : CmpOk X W op g) (h' : CmpOk X W op' g') (ha : EE X W a fa) (hb : EE X W b fb) (hc : EE X W c fc) (hm : lastMarks [op, op'] [b, c] = false := by with_unfolding_all rfl) : EE X W (.Compare a [op, op'] [b, c] pos) (chainF g g' fa fb fc) :=
  let ⟨_, h1, h2⟩ := h.ex; let ⟨_, h3, h4⟩ := h'.ex; ee_chain h1 h2 h3 h4 ha hb hc hm
theorem tc2 (h : CmpOk X W op g) (h' : CmpOk X W op' g') (ha : EE X W a fa) (hb : EE X W b fb) (hc : EE X W c fc) (hm : lastMarks [op, op'] [b, c] = false := by with_unfolding_all rfl) : ET X W (.Compare a [op, op'] [b, c] pos) (tstF (chainF g g' fa fb fc)) :=
  let ⟨_, h1, h2⟩ := h.ex; let ⟨_, h3, h4⟩ := h'.ex; et_chain h1 h2 h3 h4 ha hb hc hm
end
end G

-- part C5
namespace G
open PySem L2
variable {X : Cx} {W : XK}

/-! ### and, or, not -/
def andTF (fa fr : TF) : TF := fun ρ m => (fa ρ m).bind fun b m1 => if b = true then fr ρ m1 else .ok false m1
def orTF (fa fr : TF) : TF := fun ρ m => (fa ρ m).bind fun b m1 => if b = true then .ok true m1 else fr ρ m1
def notTF (fa : TF) : TF := fun ρ m => (fa ρ m).bind fun b m1 => .ok (!b) m1
section
variable {a b : Expr} {rest : List Expr} {fa fb : TF} {pos : Pos}
theorem ew_and1 (ha : ET X W a fa) : EW X W (.BoolOp .And [a] pos) fa := ⟨pw_and1 ha.pt⟩
theorem ew_or1 (ha : ET X W a fa) : EW X W (.BoolOp .Or [a] pos) fa := ⟨pw_or1 ha.pt⟩
theorem ew_and (ha : ET X W a fa) (hb : EW X W (.BoolOp .And (b :: rest) pos) fb) : EW X W (.BoolOp .And (a :: b :: rest) pos) (andTF fa fb) := by
  refine ⟨pw_imp (pw_and ha.pt hb.pw) fun σ H Q ⟨ρ, m, β, F, er, wl, h⟩ => ?_⟩
  refine t_thenTT er wl h fun k m1 β1 F1 H1 x1 w1 h1 => ?_
  cases k with
  | true => rw [if_pos rfl] at h1 ⊢; exact ⟨ρ, m1, β1, F1, er.ext x1, w1, h1⟩
  | false => rw [if_neg Bool.false_ne_true] at h1 ⊢; exact h1 β1 F1 H1 (Ext.refl _ _ _) w1
theorem ew_or (ha : ET X W a fa) (hb : EW X W (.BoolOp .Or (b :: rest) pos) fb) : EW X W (.BoolOp .Or (a :: b :: rest) pos) (orTF fa fb) := by
  refine ⟨pw_imp (pw_or ha.pt hb.pw) fun σ H Q ⟨ρ, m, β, F, er, wl, h⟩ => ?_⟩
  refine t_thenTT er wl h fun k m1 β1 F1 H1 x1 w1 h1 => ?_
  cases k with
  | true => rw [if_pos rfl] at h1 ⊢; exact h1 β1 F1 H1 (Ext.refl _ _ _) w1
  | false => rw [if_neg Bool.false_ne_true] at h1 ⊢; exact ⟨ρ, m1, β1, F1, er.ext x1, w1, h1⟩
theorem et_w {e : Expr} (h : EW X W e fa) : ET X W e fa := ⟨h.pw.pt⟩
theorem et_not (ha : ET X W a fa) : ET X W (.UnaryOp .Not a pos) (notTF fa) := by
  refine ⟨pt_imp (pt_not ha.pt) fun σ H Q ⟨ρ, m, β, F, er, wl, h⟩ => ?_⟩
  refine t_thenTT er wl h fun k m1 β1 F1 H1 x1 w1 h1 => ?_
  exact h1 β1 F1 H1 (Ext.refl _ _ _) w1
end
def andF (fa fr : EF) : EF := fun ρ m => (asT (fa ρ m)).bind fun b m1 => if b = true then fr ρ m1 else .ok (.bl false) m1
def orF (fa fr : EF) : EF := fun ρ m => (asT (fa ρ m)).bind fun b m1 => if b = true then .ok (.bl true) m1 else fr ρ m1
def notF (fa : EF) : EF := fun ρ m => (asT (fa ρ m)).bind fun b m1 => .ok (.bl (!b)) m1
/-- as t_thenE, of an expression that must give a truth -/
theorem t_thenB {fa : EF} {k : Bool → Sto → Res Val} {σ : L2.St} {H : Hp} {Q : VK} {Q1 : VK} {ρ : Env} {m : Sto} {β : List Addr} {F : Hp} (er : ER X.K β F ρ σ) (wl : Wld X.K X.mg β F m H) (h : Fin X.K X.mg W β F H ((asT (fa ρ m)).bind k) Q)
    (hk : ∀ b m1 β' F' H', Ext β β' F F' H H' → Wld X.K X.mg β' F' m1 H' → Fin X.K X.mg W β' F' H' (k b m1) Q → Q1 (.bl b) H') : tEF X (wx W) fa σ H Q1 := by
  refine ⟨ρ, m, β, F, er, wl, ?_⟩
  generalize hr : fa ρ m = r at h
  cases r with
  | ok a m1 =>
    cases a with
    | bl b =>
      intro β' F' H' u x w q
      rw [Rep] at q
      subst q
      exact hk b m1 β' F' H' x w (Fin.ext x h)
    | _ => exact h.elim
  | exc c m1 => exact h
  | stuck => exact h
section
variable {a b : Expr} {rest : List Expr} {fa fb : EF} {pos : Pos}
theorem ee_one {op : BoolOp} (h : EE X W a fa) : EE X W (.BoolOp op [a] pos) fa := ⟨pe_one h.pe⟩
theorem ee_and (ha : EE X W a fa) (hb : EE X W (.BoolOp .And (b :: rest) pos) fb) : EE X W (.BoolOp .And (a :: b :: rest) pos) (andF fa fb) := by
  refine ⟨pe_imp (pe_and ha.pe hb.pe) fun σ H Q ⟨ρ, m, β, F, er, wl, h⟩ => ?_⟩
  refine t_thenB er wl h fun k m1 β1 F1 H1 x1 w1 h1 => ⟨k, rfl, ?_⟩
  cases k with
  | true => rw [if_pos rfl] at h1 ⊢; exact ⟨ρ, m1, β1, F1, er.ext x1, w1, h1⟩
  | false => rw [if_neg Bool.false_ne_true] at h1 ⊢; exact h1.bl w1
theorem ee_or (ha : EE X W a fa) (hb : EE X W (.BoolOp .Or (b :: rest) pos) fb) : EE X W (.BoolOp .Or (a :: b :: rest) pos) (orF fa fb) := by
  refine ⟨pe_imp (pe_or ha.pe hb.pe) fun σ H Q ⟨ρ, m, β, F, er, wl, h⟩ => ?_⟩
  refine t_thenB er wl h fun k m1 β1 F1 H1 x1 w1 h1 => ⟨k, rfl, ?_⟩
  cases k with
  | true => rw [if_pos rfl] at h1 ⊢; exact h1.bl w1
  | false => rw [if_neg Bool.false_ne_true] at h1 ⊢; exact ⟨ρ, m1, β1, F1, er.ext x1, w1, h1⟩
theorem ee_not (ha : EE X W a fa) : EE X W (.UnaryOp .Not a pos) (notF fa) := by
  refine ⟨pe_imp (pe_not ha.pe) fun σ H Q ⟨ρ, m, β, F, er, wl, h⟩ => ?_⟩
  exact t_thenB er wl h fun k m1 β1 F1 H1 x1 w1 h1 => ⟨k, rfl, h1.bl w1⟩
end
/-- a written negative number -/
theorem ee_neg {i : Int} {j p pos} : EE X W (.UnaryOp .USub (.Constant (.int i) j p) pos) (conF (.int (-i))) := by
  refine ⟨pe_imp (pe_un un_neg pe_int) fun σ H Q ⟨ρ, m, β, F, er, wl, h⟩ => ⟨i, rfl, h.int wl⟩⟩

/-! ### subscripts -/
/-- the place of an index -/
def atV {α : Type} (xs : List α) (i : Int) : Option α := atI xs i
def seqOf (m : Sto) : Val → Option (List Val)
  | .tup xs => some xs
  | .wt xs => some xs
  | .scr ns => some (ns.map Val.int)
  | v => asL m v
theorem RepL.ints {K : PySem.W.Frag} {β : List Addr} {F : Hp} : ∀ (ns : List Int), RepL K β F (ns.map Val.int) (ns.map V.int)
  | [] => by simp [RepL]
  | n :: ns => by rw [List.map_cons, List.map_cons, RepL]; exact ⟨_, _, rfl, by rw [Rep], RepL.ints ns⟩
theorem seq_at {K : PySem.W.Frag} {mg : Str → Option Value} {β : List Addr} {F : Hp} {m : Sto} {H : Hp} (w : Wld K mg β F m H) {v : Val} {x : V} (r : Rep K β F v x) {xs : List Val} (h : seqOf m v = some xs) :
    ∃ a us, x = .ref a ∧ (SqL K H a us ∨ SqT K H a us) ∧ RepL K β F xs us := by
  cases v with
  | tup ys =>
    simp only [seqOf, Option.some.injEq] at h; subst h
    rw [Rep] at r
    obtain ⟨a, us, e1, e2, e3⟩ := r
    exact ⟨a, us, e1, .inr (e2.sq w.sub), e3⟩
  | wt ys =>
    simp only [seqOf, Option.some.injEq] at h; subst h
    rw [Rep] at r
    obtain ⟨a, us, e1, e2, e3⟩ := r
    exact ⟨a, us, e1, .inr (sqT_mono w.sub e2), e3⟩
  | scr ns =>
    simp only [seqOf, Option.some.injEq] at h; subst h
    rw [Rep] at r
    obtain ⟨a, e1, e2⟩ := r
    exact ⟨a, _, e1, .inl (sqL_mono w.sub e2), RepL.ints ns⟩
  | _ =>
    obtain ⟨a, us, e1, e2, e3⟩ := asL_at w r (xs := xs) h
    exact ⟨a, us, e1, .inl (.of e2), e3⟩
def idxV : VF2 := fun v w m => match asD m v with
  | some (t, kvs) => if kfit t w = true then (match dget kvs w with | some x => .ok x m | none => .stuck) else .stuck
  | none => match w with
    | .int i => match v with
      | .str z => if z.length ≤ sizeLine then (match atI z i with | some c => .ok (.str [c]) m | none => .stuck) else .stuck
      | v => match seqOf m v with
        | some xs => (match atI xs i with | some x => .ok x m | none => .stuck)
        | none => .stuck
    | _ => .stuck
theorem atI_len {α β : Type} {xs : List α} {ys : List β} (h : xs.length = ys.length) {i : Int} {x : α} (e : atI xs i = some x) : ∃ j : Nat, xs[j]? = some x ∧ atI ys i = ys[j]? := by
  unfold atI at e ⊢
  rw [← h]
  cases q : ixN xs.length i with
  | none => rw [q] at e; cases e
  | some j => rw [q] at e; exact ⟨j, e, rfl⟩
def rDGet : R2 := fun x y H Q => ∃ a v, x = .ref a ∧ DGet H a y (some v) ∧ Q v H
theorem ix_dict (hu : X.A.units + 64 < cLine) : IxR X rDGet := by
  intro value slice pins s σ H x y v u Q I rx ry h hs
  obtain ⟨a, z, rfl, g, q⟩ := h
  cases rx
  exact PyProof.Rows.tail_any (dict_typeIs I g) PySem.F.slot_dict_getitem.lookup (d_getItem (by omega) I g ry fun w' s3 I3 rw' => ⟨z, H, I3, rw', q⟩) hs
def rIdx (K : PySem.W.Frag) : R2 := fun x y H Q => rIx K x y H Q ∨ rDGet x y H Q
theorem ix_all {n : Nat} (g : Good X n) : IxR X (rIdx X.K) := ix_seq.or (ix_dict g.u64)
theorem v2_idx : V2 X W (rIdx X.K) idxV := by
  intro β F m H v w x y Q wl rx ry h
  unfold idxV at h
  split at h
  · rename_i t kvs hd
    split at h
    · rename_i hk
      obtain ⟨a, o, ks, rfl, ha, ho, hr⟩ := asD_at wl rx hd
      obtain ⟨r, g1, g2⟩ := dget_at wl ha ho hr ry hk
      split at h
      · rename_i z hz
        rw [hz] at g2
        obtain ⟨u, rfl, ru⟩ := g2
        exact .inr ⟨a, u, rfl, g1, h.here wl ru⟩
      · exact h.elim
    · exact h.elim
  · split at h
    · rename_i i
      rw [Rep] at ry
      subst ry
      split at h
      · rename_i z
        split at h
        · rename_i hz
          split at h
          · rename_i c hc
            rw [Rep] at rx
            subst rx
            refine .inl (.inr (.inr ⟨_, i, c, rfl, rfl, by simpa [Str.length] using hz, by rw [toL]; exact hc, ?_⟩))
            exact h.str wl
          · exact h.elim
        · exact h.elim
      · split at h
        · rename_i xs hx
          obtain ⟨a, us, rfl, hs, hr⟩ := seq_at wl rx hx
          split at h
          · rename_i z hz
            obtain ⟨j, e1, e2⟩ := atI_len (ys := us) hr.length.symm hz
            obtain ⟨u, e3, ru⟩ := hr.get e1
            rw [e3] at e2
            rcases hs with hs | hs
            · exact .inl (.inl ⟨a, us, i, u, rfl, rfl, hs, e2, h.here wl ru⟩)
            · exact .inl (.inr (.inl ⟨a, us, i, u, rfl, rfl, hs, e2, h.here wl ru⟩))
          · exact h.elim
        · exact h.elim
    · exact h.elim
theorem ee_ix {n : Nat} (g : Good X n) {a b : Expr} {fa fb : EF} {pos : Pos} (ha : EE X W a fa) (hb : EE X W b fb) (hs : PlainIx b := by exact fun _ _ => rfl) : EE X W (.Subscript a b pos) (bin2 idxV fa fb) :=
  ⟨pe_imp (pe_ix (ix_all g) ha.pe hb.pe hs) fun _ _ _ h => v2_read v2_idx h⟩

/-! ### slices -/
/-- the parts of a slice -/
abbrev OF := Env → Sto → Res (Option Int)
def noPF : OF := fun _ m => .ok none m
def parF (f : EF) : OF := fun ρ m => (f ρ m).bind fun v m1 => match v with | .int i => .ok (some i) m1 | _ => .stuck
structure EO (X : Cx) (W : XK) (e : Option Expr) (f : OF) : Prop where
  ex : ∃ t, PO X e t ∧ ∀ (σ : L2.St) (H : Hp) (Q : VK) (Q1 : Option Int → Hp → Prop) (ρ : Env) (m : Sto) (β : List Addr) (F : Hp) (k : Option Int → Sto → Res Val), ER X.K β F ρ σ → Wld X.K X.mg β F m H → Fin X.K X.mg W β F H ((f ρ m).bind k) Q →
    (∀ o m1 β' F' H', Ext β β' F F' H H' → Wld X.K X.mg β' F' m1 H' → Fin X.K X.mg W β' F' H' (k o m1) Q → Q1 o H') → t σ H Q1
theorem eo_none : EO X W none noPF := ⟨_, po_none, fun σ H Q Q1 ρ m β F k er wl h hk => hk none m β F H (Ext.refl _ _ _) wl h⟩
theorem eo_some {e : Expr} {f : EF} (h : EE X W e f) : EO X W (some e) (parF f) := by
  refine ⟨_, po_some h.pe, fun σ H Q Q1 ρ m β F k er wl h hk => ?_⟩
  have h' : Fin X.K X.mg W β F H ((f ρ m).bind fun v m1 => match v with | .int i => k (some i) m1 | _ => .stuck) Q := by
    unfold parF at h
    generalize f ρ m = r at h ⊢
    cases r with
    | ok v m1 => cases v <;> exact h
    | exc c m1 => exact h
    | stuck => exact h
  refine t_thenE er wl h' fun a m1 β1 F1 H1 u x1 w1 r1 h1 => ?_
  split at h1
  · rename_i i
    rw [Rep] at r1
    exact ⟨i, r1, hk (some i) m1 β1 F1 H1 x1 w1 h1⟩
  · exact h1.elim
def cut {α : Type} (xs : List α) (lo hi : Option Int) : List α := (xs.drop (HT.sIx xs.length 0 lo)).take (HT.sIx xs.length xs.length hi - HT.sIx xs.length 0 lo)
def slcV (v : Val) (lo hi : Option Int) (m : Sto) : Res Val := match v with
  | .str z => if z.length ≤ sizeLine then .ok (.str (cut z lo hi)) m else .stuck
  | .tup xs => .ok (.tup (cut xs lo hi)) m
  | v => match asL m v with
    | some xs => .ok (.lst (cut xs lo hi)) m
    | none => .stuck
def slcF (f : EF) (fl fh : OF) : EF := fun ρ m => (f ρ m).bind fun v m1 => (fl ρ m1).bind fun lo m2 => (fh ρ m2).bind fun hi m3 => slcV v lo hi m3
/-- t[lo:hi]: the whole of it is t itself; else a fresh tuple -/
def rSlN (K : PySem.W.Frag) : V → Option Int → Option Int → Hp → VK → Prop := fun x lo hi H Q => ∃ a xs, x = .ref a ∧ SqT K H a xs ∧
  (HT.sIx xs.length 0 lo = 0 ∧ HT.sIx xs.length xs.length hi = xs.length → Q (.ref a) H) ∧ (¬ (HT.sIx xs.length 0 lo = 0 ∧ HT.sIx xs.length xs.length hi = xs.length) → NewT H (cutV xs lo hi) Q)
theorem sl_tupN : SlR X (rSlN X.K) := by
  intro pins s σ H x v vl vu lo hi sl Q I rx hs pl pu h
  obtain ⟨a, xs, rfl, hx, q1, q2⟩ := h
  cases rx
  obtain ⟨its, r, ht, hz⟩ := I.tuple hx
  have hlen : its.toArray.size = xs.length := by rw [List.size_toArray]; exact r.length.symm
  refine ⟨"tuple", _, PyProof.Rows.slot_tuple_getitem.lookup, ht.typeIs, ?_⟩
  by_cases hw : HT.sIx xs.length 0 lo = 0 ∧ HT.sIx xs.length xs.length hi = xs.length
  · exact getItem_tuple_whole ht hs pl pu (by rw [hlen]; exact hw) ⟨.ref a, H, I, rfl, q1 hw⟩
  · refine HT.getItem_tuple_cut ht hs pl pu (by rw [hlen]; exact hw) ?_ (by rw [hlen]; exact hz)
    rw [hlen]
    exact (q2 hw).end I ((r.drop (HT.sIx xs.length 0 lo)).take (HT.sIx xs.length xs.length hi - HT.sIx xs.length 0 lo)) (Nat.le_trans (cutV_length xs lo hi) hz)
def rSlAll (K : PySem.W.Frag) : V → Option Int → Option Int → Hp → VK → Prop := fun x lo hi H Q => rSlN K x lo hi H Q ∨ rSlL K x lo hi H Q ∨ rSlS x lo hi H Q
theorem sl_all : SlR X (rSlAll X.K) := sl_tupN.or (sl_list.or sl_str)
theorem RepL.cut {K : PySem.W.Frag} {β : List Addr} {F : Hp} {vs : List Val} {us : List V} (h : RepL K β F vs us) (lo hi : Option Int) : RepL K β F (cut vs lo hi) (cutV us lo hi) := by
  unfold G.cut cutV
  rw [h.length]
  exact (h.drop _).take _
theorem cut_all {α : Type} {xs : List α} {lo hi : Option Int} (h : HT.sIx xs.length 0 lo = 0 ∧ HT.sIx xs.length xs.length hi = xs.length) : cut xs lo hi = xs := by
  unfold cut
  rw [h.1, h.2]
  simp
theorem ee_slice {e : Expr} {lo hi : Option Expr} {f : EF} {fl fh : OF} {p2 pos : Pos} (he : EE X W e f) (hl : EO X W lo fl) (hh : EO X W hi fh) : EE X W (.Subscript e (.Slice lo hi none p2) pos) (slcF f fl fh) := by
  obtain ⟨tl, p1, q1⟩ := hl.ex
  obtain ⟨th, p3, q3⟩ := hh.ex
  refine ⟨pe_imp (pe_slice sl_all he.pe p1 p3) fun σ H Q ⟨ρ, m, β, F, er, wl, h⟩ => ?_⟩
  refine t_thenE er wl h fun v m1 β1 F1 H1 x x1 w1 r1 h1 => ?_
  refine q1 σ H1 Q _ ρ m1 β1 F1 _ (er.ext x1) w1 h1 fun o m2 β2 F2 H2 x2 w2 h2 => ?_
  refine q3 σ H2 Q _ ρ m2 β2 F2 _ (er.ext (x1.trans x2)) w2 h2 fun o' m3 β3 F3 H3 x3 w3 h3 => ?_
  have r3 := r1.ext (x2.trans x3)
  unfold slcV at h3
  split at h3
  · rename_i z
    rw [Rep] at r3
    subst r3
    split at h3
    · rename_i hz
      have hz' : (⟨z.toArray⟩ : Str).length ≤ sizeLine := by simpa [Str.length] using hz
      refine .inr (.inr ⟨_, rfl, hz', ?_⟩)
      have e : cutS ⟨z.toArray⟩ o o' = ⟨(cut z o o').toArray⟩ := by
        unfold cutS G.cut
        simp [Str.length]
      rw [e]
      exact h3.str w3
    · exact h3.elim
  · rename_i xs
    rw [Rep] at r3
    obtain ⟨a, us, rfl, ha, hu⟩ := r3
    refine .inl ⟨a, us, rfl, ha.sq w3.sub, fun hw => ?_, fun hw => ?_⟩
    · rw [hu.length] at hw
      rw [cut_all hw] at h3
      exact h3.here w3 (by rw [Rep]; exact ⟨a, us, rfl, ha, hu⟩)
    · exact h3.tup w3 (hu.cut o o')
  · split at h3
    · rename_i xs hx
      obtain ⟨a, us, rfl, ha, hu⟩ := asL_at w3 r3 hx
      exact .inr (.inl ⟨a, us, rfl, .of ha, fun p hp => h3.lst w3 (hu.cut o o') hp⟩)
    · exact h3.elim

/-! ### calls of built-in functions and types -/
abbrev VFn := List Val → Sto → Res Val
def callF (g : VFn) (fa : AF) : EF := fun ρ m => (fa ρ m).bind g
def VN (X : Cx) (W : XK) (r : List V → Hp → VK → Prop) (g : VFn) : Prop := ∀ β F m H vs xs Q, Wld X.K X.mg β F m H → RepL X.K β F vs xs → Fin X.K X.mg W β F H (g vs m) Q → r xs H Q
theorem vn_read {r : List V → Hp → VK → Prop} {g : VFn} (hv : VN X W r g) {fa : AF} {σ : L2.St} {H : Hp} {Q : VK} (h : tEF X (wx W) (callF g fa) σ H Q) : tCB r (tAF X (wx W) fa) σ H Q := by
  obtain ⟨ρ, m, β, F, er, wl, h⟩ := h
  refine t_thenA er wl h fun a m1 β1 F1 H1 u x1 w1 r1 h1 => ?_
  exact hv β1 F1 m1 H1 a u Q w1 r1 h1
/-- a built-in function of the name x means g -/
structure BltOk (X : Cx) (W : XK) (x : Str) (g : VFn) : Prop where
  ex : ∃ id r, CallR X (.builtin id) r ∧ VN X W r g ∧ bootBuiltins x = some (.builtin id) ∧ X.mg x = none ∧ x ≠ "__name__" ∧ (x == ("__debug__" : Str)) = false
structure TypOk (X : Cx) (W : XK) (x : Str) (g : VFn) : Prop where
  ex : ∃ id r, CallR X (.type id) r ∧ VN X W r g ∧ bootBuiltins x = some (.type id) ∧ X.mg x = none ∧ x ≠ "__name__" ∧ (x == ("__debug__" : Str)) = false
theorem ee_blt {x : Str} {g : VFn} {p pos : Pos} {e : Expr} {es : List Expr} {fa : AF} (h : BltOk X W x g) (ha : EA X W (e :: es) fa) (hg : Gl X x := by rfl)
    (he : starEach (e :: es) X.env = (false, eval e X.env) :: starEach es X.env := by rfl) (hpl : (backTo pos (starEach es X.env)).any (·.1) = false := by rfl) : EE X W (.Call (.Name x p) (e :: es) [] pos) (callF g fa) := by
  obtain ⟨id, r, h1, h2, h3, h4, h5, h6⟩ := h.ex
  exact ⟨pe_imp (pe_callB h1 hg h4 h3 ha.pa h5 h6 he hpl) fun _ _ _ h => vn_read h2 h⟩
theorem ee_typ {x : Str} {g : VFn} {p pos : Pos} {e : Expr} {es : List Expr} {fa : AF} (h : TypOk X W x g) (ha : EA X W (e :: es) fa) (hg : Gl X x := by rfl)
    (he : starEach (e :: es) X.env = (false, eval e X.env) :: starEach es X.env := by rfl) (hpl : (backTo pos (starEach es X.env)).any (·.1) = false := by rfl) : EE X W (.Call (.Name x p) (e :: es) [] pos) (callF g fa) := by
  obtain ⟨id, r, h1, h2, h3, h4, h5, h6⟩ := h.ex
  exact ⟨pe_imp (pe_callTy h1 hg h4 h3 ha.pa h5 h6 he hpl) fun _ _ _ h => vn_read h2 h⟩
theorem repL1 {K : PySem.W.Frag} {β : List Addr} {F : Hp} {v : Val} {xs : List V} (h : RepL K β F [v] xs) : ∃ x, xs = [x] ∧ Rep K β F v x := by
  rw [RepL] at h
  obtain ⟨u, r, rfl, h1, h2⟩ := h
  rw [RepL] at h2
  subst h2
  exact ⟨u, rfl, h1⟩
theorem repL2 {K : PySem.W.Frag} {β : List Addr} {F : Hp} {v w : Val} {xs : List V} (h : RepL K β F [v, w] xs) : ∃ x y, xs = [x, y] ∧ Rep K β F v x ∧ Rep K β F w y := by
  rw [RepL] at h
  obtain ⟨u, r, rfl, h1, h2⟩ := h
  obtain ⟨y, rfl, h3⟩ := repL1 h2
  exact ⟨u, y, rfl, h1, h3⟩
end G

-- part C6
namespace G
open PySem L2
variable {X : Cx} {W : XK}

/-! ### len -/
def lenV : VFn := fun vs m => match vs with
  | [.str z] => if z.length ≤ sizeLine then .ok (.int z.length) m else .stuck
  | [v] => match seqOf m v with
    | some xs => .ok (.int xs.length) m
    | none => match asD m v with
      | some (_, kvs) => .ok (.int kvs.length) m
      | none => .stuck
  | _ => .stuck
def rLen (K : PySem.W.Frag) : List V → Hp → VK → Prop := fun xs H Q => (∃ x n, xs = [x] ∧ LenV K x H n ∧ Q (.int n) H) ∨ (∃ a kvs, xs = [V.ref a] ∧ H a = some (.dK kvs) ∧ Q (.int kvs.length) H) ∨ rLenT xs H Q
theorem RepD.length {K : PySem.W.Frag} {β : List Addr} {F : Hp} : ∀ {vs : List (Val × Val)} {us : List (Val × V)}, RepD K β F vs us → us.length = vs.length
  | [], _, h => by rw [RepD] at h; rw [h]; rfl
  | _ :: _, _, h => by
    rw [RepD] at h
    obtain ⟨u, r, rfl, _, h⟩ := h
    simp [RepD.length h]
theorem bLen {n : Nat} (g : Good X n) : BltOk X W "len" lenV := by
  refine ⟨"len", rLen X.K, call_len.or (call_lenD.or call_len_dT), fun β F m H vs xs Q wl r h => ?_, PySem.boot_len, g.blt.len, by decide, by decide⟩
  unfold lenV at h
  split at h
  · rename_i z
    obtain ⟨x, rfl, rx⟩ := repL1 r
    rw [Rep] at rx
    subst rx
    split at h
    · rename_i hz
      refine .inl ⟨_, z.length, rfl, ⟨by simpa [Str.length] using hz, by simp [Str.length]⟩, h.int wl⟩
    · exact h.elim
  · rename_i v _
    obtain ⟨x, rfl, rx⟩ := repL1 r
    split at h
    · rename_i xs hx
      obtain ⟨a, us, rfl, hs, hu⟩ := seq_at wl rx hx
      refine .inl ⟨_, xs.length, rfl, ?_, h.int wl⟩
      rcases hs with hs | hs
      · exact .inl ⟨us, hs, hu.length.symm⟩
      · exact .inr ⟨us, hs, hu.length.symm⟩
    · split at h
      · rename_i t kvs hd
        obtain ⟨a, o, ks, rfl, ha, ho, hr⟩ := asD_at wl rx hd
        cases t with
        | k =>
          obtain ⟨ks', rfl, rfl⟩ := ho
          refine .inr (.inl ⟨a, ks', rfl, ha, ?_⟩)
          have := hr.length
          rw [List.length_map] at this
          rw [this]
          exact h.int wl
        | t =>
          obtain ⟨ks', rfl, rfl⟩ := ho
          refine .inr (.inr ⟨a, ks', rfl, ha, ?_⟩)
          have := hr.length
          rw [List.length_map] at this
          rw [this]
          exact h.int wl
        | d => exact ho.elim
      · exact h.elim
  · exact h.elim

/-! ### all, any -/
def allB : List Val → Option (List Bool)
  | [] => some []
  | .bl b :: r => (allB r).map (b :: ·)
  | _ => none
def allV : VFn := fun vs m => match vs with
  | [v] => match (asL m v).bind allB with
    | some bs => .ok (.bl (bs.all id)) m
    | none => .stuck
  | _ => .stuck
def anyV : VFn := fun vs m => match vs with
  | [v] => match (asL m v).bind allB with
    | some bs => .ok (.bl (bs.any id)) m
    | none => .stuck
  | _ => .stuck
theorem allB_rep {K : PySem.W.Frag} {β : List Addr} {F : Hp} : ∀ {vs : List Val} {us : List V} {bs : List Bool}, RepL K β F vs us → allB vs = some bs → us = bs.map V.bl
  | [], us, bs, h, e => by rw [RepL] at h; simp only [allB, Option.some.injEq] at e; subst e h; rfl
  | v :: vs, us, bs, h, e => by
    rw [RepL] at h
    obtain ⟨u, r, rfl, h1, h2⟩ := h
    cases v with
    | bl b =>
      simp only [allB, Option.map_eq_some_iff] at e
      obtain ⟨bs', e1, rfl⟩ := e
      rw [Rep] at h1
      rw [h1, allB_rep h2 e1]
      rfl
    | _ => simp [allB] at e
theorem bools_at {β F m H v xs} (wl : Wld X.K X.mg β F m H) {bs : List Bool} (r : RepL X.K β F [v] xs) (h : (asL m v).bind allB = some bs) : ∃ a, xs = [V.ref a] ∧ SqL X.K H a (bs.map V.bl) := by
  obtain ⟨x, rfl, rx⟩ := repL1 r
  obtain ⟨ys, h1, h2⟩ := Option.bind_eq_some_iff.mp h
  obtain ⟨a, us, rfl, ha, hu⟩ := asL_at wl rx h1
  exact ⟨a, rfl, .of (by rw [ha, allB_rep hu h2])⟩
theorem bAll {n : Nat} (g : Good X n) : BltOk X W "all" allV := by
  refine ⟨"all", rAll X.K, cr_all g.calm, fun β F m H vs xs Q wl r h => ?_, PyProof.Rows.boot_all, g.blt.all, by decide, by decide⟩
  unfold allV at h
  split at h
  · split at h
    · rename_i bs hb
      obtain ⟨a, rfl, hs⟩ := bools_at wl r hb
      exact ⟨a, bs, rfl, hs, h.bl wl⟩
    · exact h.elim
  · exact h.elim
theorem bAny {n : Nat} (g : Good X n) : BltOk X W "any" anyV := by
  refine ⟨"any", rAny X.K, cr_any g.calm, fun β F m H vs xs Q wl r h => ?_, PyProof.Rows.boot_any, g.blt.any, by decide, by decide⟩
  unfold anyV at h
  split at h
  · split at h
    · rename_i bs hb
      obtain ⟨a, rfl, hs⟩ := bools_at wl r hb
      exact ⟨a, bs, rfl, hs, h.bl wl⟩
    · exact h.elim
  · exact h.elim

/-! ### list, tuple, int -/
/-- a list or tuple, as a list of what it holds -/
def tlOf (m : Sto) : Val → Option (List Val)
  | .tup xs => some xs
  | v => asL m v
def listV : VFn := fun vs m => match vs with
  | [v] => match tlOf m v with
    | some xs => .ok (.lst xs) m
    | none => .stuck
  | _ => .stuck
def tupleV : VFn := fun vs m => match vs with
  | [v] => match tlOf m v with
    | some xs => .ok (.tup xs) m
    | none => .stuck
  | _ => .stuck
theorem tl_at {K : PySem.W.Frag} {mg : Str → Option Value} {β : List Addr} {F : Hp} {m : Sto} {H : Hp} (w : Wld K mg β F m H) {v : Val} {x : V} (r : Rep K β F v x) {xs : List Val} (h : tlOf m v = some xs) :
    ∃ a us, x = .ref a ∧ RepL K β F xs us ∧ ((v = .tup xs ∧ TpA F (keyT xs) a us) ∨ H a = some (.lst us)) := by
  cases v with
  | tup ys =>
    simp only [tlOf, Option.some.injEq] at h; subst h
    rw [Rep] at r
    obtain ⟨a, us, e1, e2, e3⟩ := r
    exact ⟨a, us, e1, e3, .inl ⟨rfl, e2⟩⟩
  | _ =>
    obtain ⟨a, us, e1, e2, e3⟩ := asL_at w r (xs := xs) h
    exact ⟨a, us, e1, e3, .inr e2⟩
theorem tList {n : Nat} (g : Good X n) : TypOk X W "list" listV := by
  refine ⟨"list", _, call_list_of, fun β F m H vs xs Q wl r h => ?_, PyProof.Rows.boot_list, g.blt.list, by decide, by decide⟩
  unfold listV at h
  split at h
  · split at h
    · rename_i xs hx
      obtain ⟨x, rfl, rx⟩ := repL1 r
      obtain ⟨a, us, rfl, hu, hh⟩ := tl_at wl rx hx
      refine ⟨a, us, rfl, ?_, fun l hl => h.lst wl hu hl⟩
      rcases hh with ⟨_, hh⟩ | hh
      · exact .inr (hh.sq wl.sub)
      · exact .inl (.of hh)
    · exact h.elim
  · exact h.elim
theorem call_tupleN : CallR X (.type "tuple") (fun xs H Q => ∃ p ys, xs = [.ref p] ∧ ((SqL X.K H p ys ∧ NewT H ys Q) ∨ (SqT X.K H p ys ∧ Q (.ref p) H))) := by
  intro pins s σ H xs us Q I r h
  obtain ⟨p, ys, rfl, h⟩ := h
  obtain ⟨u, rfl, rx⟩ := vals1 r
  cases rx
  rcases h with ⟨hq, q⟩ | ⟨hq, q⟩
  · obtain ⟨its, r', pl, hz⟩ := I.list hq
    have hlen := r'.length
    refine call_tuple_list pl.isList (fun h' kp => ?_) (by simp only [List.size_toArray] <;> omega)
    have I1 : Inv X pins σ H { s with heap := h' } := I.kept (t' := s.toks) kp
    exact q.end I1 r' hz
  · obtain ⟨its, r', pl, hz⟩ := I.tuple hq
    exact call_tuple_same pl ⟨.ref p, H, I, rfl, q⟩
theorem tTuple {n : Nat} (g : Good X n) : TypOk X W "tuple" tupleV := by
  refine ⟨"tuple", _, call_tupleN, fun β F m H vs xs Q wl r h => ?_, PyProof.Rows.boot_tuple, g.blt.tuple, by decide, by decide⟩
  unfold tupleV at h
  split at h
  · split at h
    · rename_i xs hx
      obtain ⟨x, rfl, rx⟩ := repL1 r
      obtain ⟨a, us, rfl, hu, hh⟩ := tl_at wl rx hx
      refine ⟨a, us, rfl, ?_⟩
      rcases hh with ⟨_, hh⟩ | hh
      · exact .inr ⟨hh.sq wl.sub, h.here wl (by rw [Rep]; exact ⟨a, us, rfl, hh, hu⟩)⟩
      · exact .inl ⟨.of hh, h.tup wl hu⟩
    · exact h.elim
  · exact h.elim
def intV : VFn := fun vs m => match vs with
  | [.int i] => .ok (.int i) m
  | [.bl b] => .ok (.int (if b then 1 else 0)) m
  | _ => .stuck
theorem tInt {n : Nat} (g : Good X n) : TypOk X W "int" intV := by
  refine ⟨"int", _, call_int1, fun β F m H vs xs Q wl r h => ?_, PyProof.Rows.boot_int, g.blt.int, by decide, by decide⟩
  unfold intV at h
  split at h
  · obtain ⟨x, rfl, rx⟩ := repL1 r
    rw [Rep] at rx; subst rx
    exact .inl ⟨_, rfl, h.int wl⟩
  · obtain ⟨x, rfl, rx⟩ := repL1 r
    rw [Rep] at rx; subst rx
    exact .inr ⟨_, rfl, h.int wl⟩
  · exact h.elim

/-! ### isinstance -/
theorem TpA.ty {K : PySem.W.Frag} {F : Hp} {b : Bool} {a : Addr} {us : List V} (h : TpA F b a us) : TyX K F (.ref a) (.type "tuple") := by
  obtain ⟨o, _, h⟩ := h
  unfold tupO at h
  split at h
  · exact .base (.tup h)
  · exact .fTuple h
/-- the name of a value's type -/
def tyOf (m : Sto) : Val → Option String
  | .non => some "NoneType"
  | .bl _ => some "bool"
  | .int _ => some "int"
  | .str _ => some "str"
  | .tup _ => some "tuple"
  | .lst _ => some "list"
  | .ref n => match m[n]? with | some (.lst _) => some "list" | _ => none
  | _ => none
/-- isinstance(x, T) for the built-in T told -/
def isiTab (t T : String) : Option Bool := match t, T with
  | "NoneType", "tuple" => some false | "NoneType", "str" => some false | "NoneType", "int" => some false | "NoneType", "bool" => some false
  | "bool", "tuple" => some false | "bool", "str" => some false | "bool", "int" => some true | "bool", "bool" => some true
  | "int", "tuple" => some false | "int", "str" => some false | "int", "int" => some true | "int", "bool" => some false
  | "str", "tuple" => some false | "str", "str" => some true | "str", "int" => some false | "str", "bool" => some false
  | "tuple", "tuple" => some true | "tuple", "str" => some false | "tuple", "int" => some false | "tuple", "bool" => some false
  | "list", "tuple" => some false | "list", "str" => some false | "list", "int" => some false | "list", "bool" => some false
  | _, _ => none
theorem isiTab_kit {t T : String} {b : Bool} (h : isiTab t T = some b) : kitB t T = some b := by
  unfold isiTab at h
  split at h <;> first | (cases h; decide +kernel) | cases h
def isiV (T : String) : Val → Sto → Res Val := fun v m => match (tyOf m v).bind fun t => isiTab t T with
  | some b => .ok (.bl b) m
  | none => .stuck
def isiF (T : String) (f : EF) : EF := fun ρ m => (f ρ m).bind (isiV T)
theorem tyOf_at {β F m H v x} (wl : Wld X.K X.mg β F m H) (r : Rep X.K β F v x) {t : String} (h : tyOf m v = some t) : TyX X.K H x (.type t) := by
  cases v with
  | non => rw [Rep] at r; subst r; simp only [tyOf, Option.some.injEq] at h; subst h; exact .base .non
  | bl b => rw [Rep] at r; subst r; simp only [tyOf, Option.some.injEq] at h; subst h; exact .base (.bl b)
  | int b => rw [Rep] at r; subst r; simp only [tyOf, Option.some.injEq] at h; subst h; exact .base (.int b)
  | str b => rw [Rep] at r; subst r; simp only [tyOf, Option.some.injEq] at h; subst h; exact .base (.str _)
  | tup b => rw [Rep] at r; obtain ⟨a, us, rfl, h1, _⟩ := r; simp only [tyOf, Option.some.injEq] at h; subst h; exact (h1.mono wl.sub).ty
  | lst b => rw [Rep] at r; obtain ⟨a, us, rfl, h1, _⟩ := r; simp only [tyOf, Option.some.injEq] at h; subst h; exact .base (.lst (wl.sub _ _ h1))
  | ref n =>
    simp only [tyOf] at h
    split at h
    · rename_i xs hm
      obtain ⟨a, us, rfl, h1, _⟩ := asL_at wl r (xs := xs) (by simp [asL, hm])
      cases h
      exact .base (.lst h1)
    · cases h
  | _ => simp [tyOf] at h
theorem ee_isi {n : Nat} (g : Good X n) {T : String} {Ts : Str} {e : Expr} {f : EF} {p p2 pos : Pos} (he : EE X W e f) (hT : bootBuiltins Ts = some (.type T)) (hm : X.mg Ts = none) (hg : Gl X "isinstance" := by rfl) (hg2 : Gl X Ts := by rfl)
    (hn : Ts ≠ "__name__" := by decide) (hd : (Ts == ("__debug__" : Str)) = false := by decide)
    (hs1 : starEach [e, .Name Ts p2] X.env = (false, eval e X.env) :: starEach [.Name Ts p2] X.env := by rfl) (hs2 : starEach [.Name Ts p2] X.env = (false, eval (.Name Ts p2) X.env) :: starEach [] X.env := by rfl)
    (hpl : (backTo pos (starEach [.Name Ts p2] X.env)).any (·.1) = false := by rfl) : EE X W (.Call (.Name "isinstance" p) [e, .Name Ts p2] [] pos) (isiF T f) := by
  refine ⟨pe_imp (pe_callB call_isi hg g.blt.isinstance PyProof.Rows.boot_isinstance (pa_cons he.pe (pa_cons (pe_bltn (v := .ty T) hg2 hm hT rfl hn hd) pa_nil hs2) hs1) (by decide) (by decide) hs1 hpl) fun σ H Q ⟨ρ, m, β, F, er, wl, h⟩ => ?_⟩
  refine t_thenE er wl h fun v m1 β1 F1 H1 x x1 w1 r1 h1 => ?_
  show rIsi X.K [x, .ty T] H1 Q
  unfold isiV at h1
  split at h1
  · rename_i b hb
    obtain ⟨t, e1, e2⟩ := Option.bind_eq_some_iff.mp hb
    exact ⟨x, .ty T, .type t, .type T, b, rfl, .ty T, tyOf_at w1 r1 e1, kit_ty (isiTab_kit e2), h1.bl w1⟩
  · exact h1.elim
end G

-- part C7
namespace G
open PySem L2
variable {X : Cx} {W : XK}

/-! ### what is walked -/
/-- a cell that must stand still while it is walked -/
abbrev Gd := Option (Nat × Cell)
def gOk : Gd → Sto → Prop
  | none, _ => True
  | some (n, c), m => m[n]? = some c
structure WalkR (K : PySem.W.Frag) (mg : Str → Option Value) (β : List Addr) (F H : Hp) (items : List Val) (J : It) (g : Gd) : Prop where
  go : ∀ (i : Nat) β' F' m' H', i < items.length → Ext β β' F F' H H' → Wld K mg β' F' m' H' → gOk g m' → J.go i H'
  stop : ∀ β' F' m' H', Ext β β' F F' H H' → Wld K mg β' F' m' H' → gOk g m' → J.stop items.length H'
  yld : ∀ (i : Nat) β' F' m' H' x H'', i < items.length → Ext β β' F F' H H' → Wld K mg β' F' m' H' → gOk g m' → J.yld i H' x H'' → ∃ v F2, items[i]? = some v ∧ Ext β' β' F' F2 H' H'' ∧ Wld K mg β' F2 m' H'' ∧ Rep K β' F2 v x
abbrev IF := Env → Sto → Res (List Val × Gd)
def FinI (X : Cx) (W : XK) (β : List Addr) (F H : Hp) (r : Res (List Val × Gd)) (R : It → Hp → Prop) : Prop :=
  match r with
  | .ok p m => ∀ β' F' H' J, Ext β β' F F' H H' → Wld X.K X.mg β' F' m H' → WalkR X.K X.mg β' F' H' p.1 J p.2 → gOk p.2 m → R J H'
  | .exc c m => ∀ β' F' H', Ext β β' F F' H H' → Wld X.K X.mg β' F' m H' → ∃ C, X.mg c = some (.ref C) ∧ W (.ref C) none H'
  | .stuck => False
structure EI (X : Cx) (W : XK) (tg iter : Expr) (f : IF) : Prop where
  ex : ∃ wi, PI X tg iter wi ∧ ∀ (σ : L2.St) (H : Hp) (R : It → Hp → Prop) (ρ : Env) (m : Sto) (β : List Addr) (F : Hp), ER X.K β F ρ σ → Wld X.K X.mg β F m H → FinI X W β F H (f ρ m) R → wi σ H R
theorem t_thenI {fa : EF} {k : Val → Sto → Res (List Val × Gd)} {σ : L2.St} {H : Hp} {R : It → Hp → Prop} {Q1 : VK} {ρ : Env} {m : Sto} {β : List Addr} {F : Hp} (er : ER X.K β F ρ σ) (wl : Wld X.K X.mg β F m H) (h : FinI X W β F H ((fa ρ m).bind k) R)
    (hk : ∀ a m1 β' F' H' u, Ext β β' F F' H H' → Wld X.K X.mg β' F' m1 H' → Rep X.K β' F' a u → FinI X W β' F' H' (k a m1) R → Q1 u H') : tEF X (wx W) fa σ H Q1 := by
  refine ⟨ρ, m, β, F, er, wl, ?_⟩
  generalize hr : fa ρ m = r at h
  cases r with
  | ok a m1 =>
    intro β' F' H' u x w q
    refine hk a m1 β' F' H' u x w q ?_
    generalize hk' : k a m1 = r2 at h
    have h' : FinI X W β F H r2 R := by
      have : (Res.ok a m1).bind k = r2 := hk'
      rw [← hk']; rw [Res.bind_ok, hk'] at h; rw [hk']; exact h
    cases r2 with
    | ok p m2 => exact fun β2 F2 H2 J x2 w2 wr go => h' β2 F2 H2 J (x.trans x2) w2 wr go
    | exc c m2 => exact fun β2 F2 H2 x2 w2 => h' β2 F2 H2 (x.trans x2) w2
    | stuck => exact h'
  | exc c m1 => exact h
  | stuck => exact h
theorem t_thenAI {fa : AF} {k : List Val → Sto → Res (List Val × Gd)} {σ : L2.St} {H : Hp} {R : It → Hp → Prop} {Q1 : List V → Hp → Prop} {ρ : Env} {m : Sto} {β : List Addr} {F : Hp} (er : ER X.K β F ρ σ) (wl : Wld X.K X.mg β F m H) (h : FinI X W β F H ((fa ρ m).bind k) R)
    (hk : ∀ a m1 β' F' H' u, Ext β β' F F' H H' → Wld X.K X.mg β' F' m1 H' → RepL X.K β' F' a u → FinI X W β' F' H' (k a m1) R → Q1 u H') : tAF X (wx W) fa σ H Q1 := by
  refine ⟨ρ, m, β, F, er, wl, ?_⟩
  generalize hr : fa ρ m = r at h
  cases r with
  | ok a m1 =>
    intro β' F' H' u x w q
    refine hk a m1 β' F' H' u x w q ?_
    rw [Res.bind_ok] at h
    generalize hk' : k a m1 = r2 at h ⊢
    cases r2 with
    | ok p m2 => exact fun β2 F2 H2 J x2 w2 wr go => h β2 F2 H2 J (x.trans x2) w2 wr go
    | exc c m2 => exact fun β2 F2 H2 x2 w2 => h β2 F2 H2 (x.trans x2) w2
    | stuck => exact h
  | exc c m1 => exact h
  | stuck => exact h

theorem seq_inj {K : PySem.W.Frag} {H : Hp} {a : Addr} {us ws : List V} (h : H a = some (.lst us)) (h' : H a = some (.lst ws)) : us = ws := by
  rw [h] at h'; cases h'; rfl
/-- the items of a list by value or by cell, of a tuple, of the script -/
def itemsV (v : Val) (m : Sto) : Res (List Val × Gd) := match v with
  | .ref n => match m[n]? with
    | some (.lst xs) => .ok (xs, some (n, .lst xs)) m
    | _ => .stuck
  | .lst xs => .ok (xs, none) m
  | .scr ns => .ok (ns.map Val.int, none) m
  | _ => .stuck
def itemsT (v : Val) (m : Sto) : Res (List Val × Gd) := match v with
  | .tup xs => .ok (xs, none) m
  | .wt xs => .ok (xs, none) m
  | _ => .stuck
def itemsS (v : Val) (m : Sto) : Res (List Val × Gd) := match v with
  | .str z => .ok (z.map fun c => .str [c], none) m
  | _ => .stuck
def itF (g : Val → Sto → Res (List Val × Gd)) (f : EF) : IF := fun ρ m => (f ρ m).bind g
theorem walkR_list {K : PySem.W.Frag} {mg : Str → Option Value} {β : List Addr} {F H : Hp} {xs : List Val} {a : Addr} {g : Gd} (hs : ∀ β' F' m' H', Ext β β' F F' H H' → Wld K mg β' F' m' H' → gOk g m' → ∃ us, SqL K H' a us ∧ RepL K β' F' xs us) : WalkR K mg β F H xs (Itl K a) g where
  go i β' F' m' H' hi x w o := by
    obtain ⟨us, h1, h2⟩ := hs β' F' m' H' x w o
    exact ⟨us, us[i]'(by rw [h2.length]; exact hi), h1, List.getElem?_eq_getElem _⟩
  stop β' F' m' H' x w o := by
    obtain ⟨us, h1, h2⟩ := hs β' F' m' H' x w o
    exact ⟨us, h1, by rw [h2.length]; exact Nat.le_refl _⟩
  yld i β' F' m' H' x H'' hi e w o y := by
    obtain ⟨us, h1, h2⟩ := hs β' F' m' H' e w o
    obtain ⟨rfl, y⟩ := y
    obtain ⟨u, e1, e2⟩ := h2.get (List.getElem?_eq_getElem hi)
    have y' := y us h1
    rw [e1] at y'; cases y'
    exact ⟨_, F', List.getElem?_eq_getElem hi, Ext.refl _ _ _, w, e2⟩
theorem walkR_tup {K : PySem.W.Frag} {mg : Str → Option Value} {β : List Addr} {F H : Hp} {xs : List Val} {a : Addr} {g : Gd} (hs : ∀ β' F' m' H', Ext β β' F F' H H' → Wld K mg β' F' m' H' → gOk g m' → ∃ us, SqT K H' a us ∧ RepL K β' F' xs us) : WalkR K mg β F H xs (Itt K a) g where
  go i β' F' m' H' hi x w o := by
    obtain ⟨us, h1, h2⟩ := hs β' F' m' H' x w o
    exact ⟨us, us[i]'(by rw [h2.length]; exact hi), h1, List.getElem?_eq_getElem _⟩
  stop β' F' m' H' x w o := by
    obtain ⟨us, h1, h2⟩ := hs β' F' m' H' x w o
    exact ⟨us, h1, by rw [h2.length]; exact Nat.le_refl _⟩
  yld i β' F' m' H' x H'' hi e w o y := by
    obtain ⟨us, h1, h2⟩ := hs β' F' m' H' e w o
    obtain ⟨rfl, y⟩ := y
    obtain ⟨u, e1, e2⟩ := h2.get (List.getElem?_eq_getElem hi)
    have y' := y us h1
    rw [e1] at y'; cases y'
    exact ⟨_, F', List.getElem?_eq_getElem hi, Ext.refl _ _ _, w, e2⟩
/-- a list at hand stands through a walk -/
theorem list_stays {β F m H v x xs} {g : Gd} (wl : Wld X.K X.mg β F m H) (r : Rep X.K β F v x) (h : itemsV v m = .ok (xs, g) m) : ∃ a, x = .ref a ∧ (∃ us, SqL X.K H a us) ∧ gOk g m ∧ ∀ β' F' m' H', Ext β β' F F' H H' → Wld X.K X.mg β' F' m' H' → gOk g m' → ∃ us, SqL X.K H' a us ∧ RepL X.K β' F' xs us := by
  unfold itemsV at h
  split at h
  · rename_i n
    split at h
    · rename_i ys hm
      cases h
      obtain ⟨a, us, rfl, ha, hu⟩ := asL_at wl r (xs := xs) (by simp [asL, hm])
      rw [Rep] at r
      obtain ⟨a', e1, e2⟩ := r
      cases e1
      refine ⟨a, rfl, ⟨us, .of ha⟩, hm, fun β' F' m' H' x w o => ?_⟩
      obtain ⟨q, h2, vs, rfl, h4⟩ := w.at' n a _ (x.get e2) o
      exact ⟨vs, .of h2, h4⟩
    · cases h
  · cases h
    rw [Rep] at r
    obtain ⟨a, us, rfl, ha, hu⟩ := r
    exact ⟨a, rfl, ⟨us, .of (wl.sub _ _ ha)⟩, trivial, fun β' F' m' H' x w _ => ⟨us, .of (w.sub _ _ (x.sub _ _ ha)), hu.ext x⟩⟩
  · cases h
    rw [Rep] at r
    obtain ⟨a, rfl, ha⟩ := r
    exact ⟨a, rfl, ⟨_, sqL_mono wl.sub ha⟩, trivial, fun β' F' m' H' x w _ => ⟨_, sqL_mono w.sub (sqL_mono x.sub ha), RepL.ints _⟩⟩
  · cases h
theorem itemsV_m {v : Val} {m m' : Sto} {p : List Val × Gd} (h : itemsV v m = .ok p m') : m' = m := by
  unfold itemsV at h
  split at h
  · split at h <;> cases h; rfl
  · cases h; rfl
  · cases h; rfl
  · cases h
theorem itemsV_x {v : Val} {m m' : Sto} {c : String} : itemsV v m ≠ .exc c m' := by
  unfold itemsV
  split
  · split <;> (intro h; cases h)
  · intro h; cases h
  · intro h; cases h
  · intro h; cases h
theorem ei_list {tg e : Expr} {f : EF} (h : EE X W e f) : EI X W tg e (itF itemsV f) := by
  refine ⟨_, pi_list h.pe, fun σ H R ρ m β F er wl h => ?_⟩
  refine t_thenI er wl h fun v m1 β1 F1 H1 u x1 w1 r1 h1 => ?_
  cases hv : itemsV v m1 with
  | ok p m2 =>
    obtain ⟨xs, g⟩ := p
    obtain rfl := itemsV_m hv
    obtain ⟨a, rfl, hl, go, hs⟩ := list_stays w1 r1 hv
    rw [hv] at h1
    exact ⟨a, rfl, hl, h1 β1 F1 H1 _ (Ext.refl _ _ _) w1 (walkR_list hs) go⟩
  | exc c m2 => exact (itemsV_x hv).elim
  | stuck => rw [hv] at h1; exact h1.elim
theorem tup_stays {β F m H v x xs} {g : Gd} (wl : Wld X.K X.mg β F m H) (r : Rep X.K β F v x) {m2 : Sto} (h : itemsT v m = .ok (xs, g) m2) : m2 = m ∧ g = none ∧ ∃ a us, x = .ref a ∧ SqT X.K H a us ∧ RepL X.K β F xs us ∧ ∀ β' F' m' H', Ext β β' F F' H H' → Wld X.K X.mg β' F' m' H' → SqT X.K H' a us := by
  unfold itemsT at h
  split at h
  · cases h
    rw [Rep] at r
    obtain ⟨a, us, rfl, ha, hu⟩ := r
    exact ⟨rfl, rfl, a, us, rfl, ha.sq wl.sub, hu, fun β' F' m' H' x w => (ha.mono x.sub).sq w.sub⟩
  · cases h
    rw [Rep] at r
    obtain ⟨a, us, rfl, ha, hu⟩ := r
    exact ⟨rfl, rfl, a, us, rfl, sqT_mono wl.sub ha, hu, fun β' F' m' H' x w => sqT_mono w.sub (sqT_mono x.sub ha)⟩
  · cases h
theorem itemsT_x {v : Val} {m m' : Sto} {c : String} : itemsT v m ≠ .exc c m' := by
  unfold itemsT
  split <;> (intro h; cases h)
theorem ei_tup {tg e : Expr} {f : EF} (h : EE X W e f) : EI X W tg e (itF itemsT f) := by
  refine ⟨_, pi_tup h.pe, fun σ H R ρ m β F er wl h => ?_⟩
  refine t_thenI er wl h fun v m1 β1 F1 H1 u x1 w1 r1 h1 => ?_
  cases hv : itemsT v m1 with
  | ok p m2 =>
    obtain ⟨xs, g⟩ := p
    obtain ⟨rfl, rfl, a, us, rfl, hl, hu, hs⟩ := tup_stays w1 r1 hv
    rw [hv] at h1
    exact ⟨a, rfl, ⟨us, hl⟩, h1 β1 F1 H1 _ (Ext.refl _ _ _) w1 (walkR_tup fun β' F' m' H' x w _ => ⟨us, hs β' F' m' H' x w, hu.ext x⟩) trivial⟩
  | exc c m2 => exact (itemsT_x hv).elim
  | stuck => rw [hv] at h1; exact h1.elim
theorem ei_str {tg e : Expr} {f : EF} (h : EE X W e f) : EI X W tg e (itF itemsS f) := by
  refine ⟨_, pi_str h.pe, fun σ H R ρ m β F er wl h => ?_⟩
  refine t_thenI er wl h fun v m1 β1 F1 H1 u x1 w1 r1 h1 => ?_
  unfold itemsS at h1
  split at h1
  · rename_i z
    rw [Rep] at r1
    subst r1
    refine ⟨_, rfl, h1 β1 F1 H1 _ (Ext.refl _ _ _) w1 ⟨fun i β' F' m' H' hi x w o => ?_, fun β' F' m' H' x w o => ?_, fun i β' F' m' H' x H'' hi e w o y => ?_⟩ trivial⟩
    · simpa [Its] using hi
    · simp [Its]
    · obtain ⟨rfl, c, hc, rfl⟩ := y
      have hi' : i < z.length := by simpa using hi
      refine ⟨.str [c], F', ?_, Ext.refl _ _ _, w, by rw [Rep]⟩
      simp only [List.getElem?_toArray] at hc
      simp [hc]
  · exact h1.elim

/-! ### ranges -/
def rangeV (lo : Int) (n : Nat) : List Val := (List.range n).map fun i => .int (lo + (i : Nat))
def range1 : List Val → Sto → Res (List Val × Gd) := fun vs m => match vs with
  | [.int j] => if -(2 ^ 62) ≤ j ∧ j < 2 ^ 62 then .ok (rangeV 0 j.toNat, none) m else .stuck
  | _ => .stuck
def range2 : List Val → Sto → Res (List Val × Gd) := fun vs m => match vs with
  | [.int i, .int j] => if -(2 ^ 62) ≤ i ∧ i < 2 ^ 62 ∧ -(2 ^ 62) ≤ j ∧ j < 2 ^ 62 then .ok (rangeV i (j - i).toNat, none) m else .stuck
  | _ => .stuck
def itA (g : List Val → Sto → Res (List Val × Gd)) (f : AF) : IF := fun ρ m => (f ρ m).bind g
theorem walkR_range {K : PySem.W.Frag} {mg : Str → Option Value} {β : List Addr} {F H : Hp} {lo : Int} {n : Nat} {g : Gd} : WalkR K mg β F H (rangeV lo n) (Itr lo n) g where
  go i β' F' m' H' hi x w o := by simpa [rangeV, Itr] using hi
  stop β' F' m' H' x w o := by simp [rangeV, Itr]
  yld i β' F' m' H' x H'' hi e w o y := by
    obtain ⟨rfl, rfl⟩ := y
    have hi' : i < n := by simpa [rangeV] using hi
    exact ⟨.int (lo + (i : Nat)), F', by simp [rangeV, hi'], Ext.refl _ _ _, w, by rw [Rep]⟩
theorem ei_range1 {n : Nat} (g : Good X n) {tg a : Expr} {fa : AF} {p pos : Pos} (ha : EA X W [a] fa) (hg : Gl X "range" := by rfl) (hs : starEach [a] X.env = [(false, eval a X.env)] := by rfl) : EI X W tg (.Call (.Name "range" p) [a] [] pos) (itA range1 fa) := by
  refine ⟨_, pi_range1 hg g.blt.range ha.pa hs, fun σ H R ρ m β F er wl h => ?_⟩
  refine t_thenAI er wl h fun vs m1 β1 F1 H1 u x1 w1 r1 h1 => ?_
  unfold range1 at h1
  split at h1
  · obtain ⟨x, rfl, rx⟩ := repL1 r1
    rw [Rep] at rx; subst rx
    split at h1
    · rename_i hz
      exact ⟨_, rfl, hz.1, hz.2, h1 β1 F1 H1 _ (Ext.refl _ _ _) w1 walkR_range trivial⟩
    · exact h1.elim
  · exact h1.elim
theorem ei_range2 {n : Nat} (g : Good X n) {tg a b : Expr} {fa : AF} {p pos : Pos} (ha : EA X W [a, b] fa) (hg : Gl X "range" := by rfl) (hs : starEach [a, b] X.env = [(false, eval a X.env), (false, eval b X.env)] := by rfl) (hs2 : starEach [b] X.env = [(false, eval b X.env)] := by rfl) : EI X W tg (.Call (.Name "range" p) [a, b] [] pos) (itA range2 fa) := by
  refine ⟨_, pi_range2 hg g.blt.range ha.pa hs hs2, fun σ H R ρ m β F er wl h => ?_⟩
  refine t_thenAI er wl h fun vs m1 β1 F1 H1 u x1 w1 r1 h1 => ?_
  unfold range2 at h1
  split at h1
  · obtain ⟨x, y, rfl, rx, ry⟩ := repL2 r1
    rw [Rep] at rx ry; subst rx ry
    split at h1
    · rename_i hz
      exact ⟨_, _, rfl, hz, h1 β1 F1 H1 _ (Ext.refl _ _ _) w1 walkR_range trivial⟩
    · exact h1.elim
  · exact h1.elim

/-! ### targets -/
/-- a target stores a value into the slots; the store is only read -/
abbrev GF := Val → Env → Sto → Option Env
/-- the target's reading t follows from the function; the slots beside S stand -/
def GRd (K : PySem.W.Frag) (mg : Str → Option Value) (t : TG) (f : GF) (S : List Nat) : Prop :=
  ∀ (v : Val) (x : V) (ρ ρ' : Env) (m : Sto) (σ : L2.St) (β : List Addr) (F : Hp) (H : Hp) (Q : L2.St → Hp → Prop), ER K β F ρ σ → Wld K mg β F m H → Rep K β F v x → f v ρ m = some ρ' →
    (∀ σ', ER K β F ρ' σ' → (∀ vs : List Nat, (∀ i ∈ S, i ∈ vs) → wipe σ' vs = wipe σ vs) → Q σ' H) → t x σ H Q
def GRds (K : PySem.W.Frag) (mg : Str → Option Value) (t : TGs) (f : List Val → Env → Sto → Option Env) (S : List Nat) : Prop :=
  ∀ (v : List Val) (x : List V) (ρ ρ' : Env) (m : Sto) (σ : L2.St) (β : List Addr) (F : Hp) (H : Hp) (Q : L2.St → Hp → Prop), ER K β F ρ σ → Wld K mg β F m H → RepL K β F v x → f v ρ m = some ρ' →
    (∀ σ', ER K β F ρ' σ' → (∀ vs : List Nat, (∀ i ∈ S, i ∈ vs) → wipe σ' vs = wipe σ vs) → Q σ' H) → t x σ H Q
def nameG (i : Nat) : GF := fun v ρ _ => some (ρ.set i (some v))
def nilG : List Val → Env → Sto → Option Env := fun vs ρ _ => match vs with | [] => some ρ | _ => none
def consG (g : GF) (r : List Val → Env → Sto → Option Env) : List Val → Env → Sto → Option Env := fun vs ρ m => match vs with | v :: vs => (g v ρ m).bind fun ρ1 => r vs ρ1 m | [] => none
def tupG (n : Nat) (r : List Val → Env → Sto → Option Env) : GF := fun v ρ m => match v with | .tup xs | .wt xs => if xs.length = n then r xs ρ m else none | _ => none
theorem wipe_set : ∀ (vs : List Nat) (σ : L2.St) (i : Nat) (v : Option V), i ∈ vs → wipe (σ.set i v) vs = wipe σ vs
  | j :: vs, σ, i, v, h => by
    unfold wipe
    by_cases hi : i ∈ vs
    · rw [wipe_set vs σ i v hi]
    · have e : j = i := by
        rcases List.mem_cons.mp h with h | h
        · exact h.symm
        · exact absurd h hi
      subst e
      have c : ∀ (vs : List Nat) (σ : L2.St), j ∉ vs → wipe (σ.set j v) vs = (wipe σ vs).set j v := by
        intro vs
        induction vs with
        | nil => intro σ _; rfl
        | cons k vs ih =>
          intro σ hk
          simp only [List.mem_cons, not_or] at hk
          show (wipe (σ.set j v) vs).set k none = ((wipe σ vs).set k none).set j v
          rw [ih σ hk.2, List.set_comm _ _ hk.1]
      rw [c vs σ hi, List.set_set]
section
variable {K : PySem.W.Frag} {mg : Str → Option Value}
theorem grd_name (i : Nat) : GRd K mg (gName i) (nameG i) [i] := fun v x ρ ρ' m σ β F H Q er wl r h k => by
  simp only [nameG, Option.some.injEq] at h
  subst h
  exact k _ (er.set r i) fun vs hv => wipe_set vs σ i _ (hv i (by simp))
theorem grds_nil : GRds K mg gNil nilG [] := fun v x ρ ρ' m σ β F H Q er wl r h k => by
  cases v with
  | nil =>
    simp only [nilG, Option.some.injEq] at h
    subst h
    rw [RepL] at r
    exact ⟨r, k _ er fun _ _ => rfl⟩
  | cons _ _ => simp [nilG] at h
theorem grds_cons {t1 : TG} {t2 : TGs} {g : GF} {r : List Val → Env → Sto → Option Env} {S S2 : List Nat} (h1 : GRd K mg t1 g S) (h2 : GRds K mg t2 r S2) : GRds K mg (gCons t1 t2) (consG g r) (S ++ S2) := fun v x ρ ρ' m σ β F H Q er wl rx h k => by
  cases v with
  | nil => simp [consG] at h
  | cons v vs =>
    simp only [consG] at h
    obtain ⟨ρ1, e1, e2⟩ := Option.bind_eq_some_iff.mp h
    rw [RepL] at rx
    obtain ⟨u, us, rfl, r1, r2⟩ := rx
    refine ⟨u, us, rfl, h1 v u ρ ρ1 m σ β F H _ er wl r1 e1 fun σ1 er1 k1 => h2 vs us ρ1 ρ' m σ1 β F H Q er1 wl r2 e2 fun σ2 er2 k2 => k σ2 er2 fun ws hw => ?_⟩
    rw [k2 ws fun i hi => hw i (List.mem_append_right _ hi), k1 ws fun i hi => hw i (List.mem_append_left _ hi)]
theorem grd_tup {t : TGs} {r : List Val → Env → Sto → Option Env} {l : Nat} {S : List Nat} (h : GRds K mg t r S) : GRd K mg (gTup K l t) (tupG l r) S := fun v x ρ ρ' m σ β F H Q er wl rx e k => by
  cases v with
  | tup xs =>
    simp only [tupG] at e
    split at e
    · rename_i hl
      rw [Rep] at rx
      obtain ⟨a, us, rfl, ha, hu⟩ := rx
      exact ⟨a, us, rfl, ha.sq wl.sub, by rw [hu.length]; exact hl, h xs us ρ ρ' m σ β F H Q er wl hu e k⟩
    · cases e
  | wt xs =>
    simp only [tupG] at e
    split at e
    · rename_i hl
      rw [Rep] at rx
      obtain ⟨a, us, rfl, ha, hu⟩ := rx
      exact ⟨a, us, rfl, sqT_mono wl.sub ha, by rw [hu.length]; exact hl, h xs us ρ ρ' m σ β F H Q er wl hu e k⟩
    · cases e
  | _ => simp [tupG] at e
end
theorem pg_n {n : Nat} (g : Good X n) {i : Nat} {x : Str} {pos : Pos} (hi : X.N[i]? = some x := by rfl) (hx : Loc X.env.scope x := by first | exact Or.inl rfl | exact Or.inr rfl) (hf : X.fn x = true ∨ X.env.scope.names.lookup x = some .local := by first | exact .inl rfl | exact .inr rfl) : PG X (.Name x pos) (gName i) := pg_name g.nd hi hx hf
theorem pg_t {n : Nat} (g : Good X n) {es : List Expr} {k : Nat} {pos : Pos} {t : TGs} {l : Nat} (h : PGs X es t) (hn : (assignEach es X.env).length = l := by rfl) (hst : (assignEach es X.env).findIdx? (·.1) = none := by rfl) : PG X (.Tuple es k pos) (gTup X.K l t) := pg_tup g.calm h hn hst
end G

-- part C8
namespace G
open PySem L2
variable {X : Cx} {W : XK}

instance (g : Gd) (m : Sto) : Decidable (gOk g m) := match g with
  | none => .isTrue trivial
  | some (n, c) => inferInstanceAs (Decidable (m[n]? = some c))
@[simp] theorem gOk_none (m : Sto) : gOk none m = True := rfl

/-! ### comprehensions -/
def wipeE (ρ : Env) : List Nat → Env
  | [] => ρ
  | v :: vs => (wipeE ρ vs).set v none
theorem ER.wipe {K : PySem.W.Frag} {β : List Addr} {F : Hp} {ρ : Env} {σ : L2.St} (h : ER K β F ρ σ) : ∀ vs : List Nat, ER K β F (wipeE ρ vs) (L2.wipe σ vs)
  | [] => h
  | v :: vs => by
    have ih := h.wipe vs
    refine ⟨by simp [wipeE, L2.wipe, ih.len], fun i w e => ?_⟩
    unfold wipeE at e
    unfold L2.wipe
    by_cases hi : v = i
    · subst hi
      by_cases hv : v < (wipeE ρ vs).length
      · rw [List.getElem?_set_self hv] at e; cases e
      · rw [List.getElem?_eq_none (by simpa using hv)] at e; cases e
    · rw [List.getElem?_set_ne hi] at e ⊢
      exact ih.at' i w e
def yesT : TF := fun _ m => .ok true m
structure EPs (X : Cx) (W : XK) (ifs : List Expr) (f : TF) : Prop where
  pts : PTs X ifs (tTF X (wx W) f)
theorem eps_nil : EPs X W [] yesT := by
  refine ⟨⟨fun pins s σ H Q I h => ?_⟩⟩
  obtain ⟨ρ, m, β, F, er, wl, h⟩ := h
  exact pts_nil.run pins s σ H Q I (h β F H (Ext.refl _ _ _) wl)
theorem eps_one {e : Expr} {f : TF} (h : ET X W e f) : EPs X W [e] f := ⟨pts_one h.pt⟩
def compGo (gd : Gd) (g : GF) (tt : TF) (fe : EF) (ρ : Env) : List Val → Sto → Res (List Val)
  | [], m => if gOk gd m then .ok [] m else .stuck
  | v :: vs, m => if gOk gd m then match g v ρ m with
    | none => .stuck
    | some ρ1 => (tt ρ1 m).bind fun b m2 => if b = true then (fe ρ1 m2).bind fun y m3 => (compGo gd g tt fe ρ vs m3).bind fun ys m4 => .ok (y :: ys) m4 else compGo gd g tt fe ρ vs m2
    else .stuck
/-- what is raised within a comprehension is not told -/
def noExc {α : Type} (r : Res α) : Res α := match r with
  | .exc _ _ => .stuck
  | r => r
def compF (it : IF) (g : GF) (tt : TF) (fe : EF) (vs : List Nat) : EF := fun ρ m => (it ρ m).bind fun p m1 => if p.1.length ≤ sizeLine then (noExc (compGo p.2 g tt fe (wipeE ρ vs) p.1 m1)).bind fun ys m2 => .ok (.lst ys) m2 else .stuck
theorem noExc_ok {α : Type} {r : Res α} {k : α → Sto → Res Val} {K : PySem.W.Frag} {mg : Str → Option Value} {β : List Addr} {F H : Hp} {Q : VK} (h : Fin K mg W β F H ((noExc r).bind k) Q) : ∃ a m, r = .ok a m ∧ Fin K mg W β F H (k a m) Q := by
  cases r with
  | ok a m => exact ⟨a, m, rfl, h⟩
  | exc c m => exact h.elim
  | stuck => exact h.elim
theorem Ext.besideStays {β β' : List Addr} {F F' H H' : Hp} (x : Ext β β' F F' H H') {D : Addr} {o : HO} (h : H D = some o) (hF : F D = none) (hb : D ∉ β) : H' D = some o ∧ F' D = none ∧ D ∉ β' := by
  refine ⟨x.keep D o h hb, ?_, fun hm => ?_⟩
  · cases q : F' D with
    | none => rfl
    | some o' =>
      rcases x.new D o' q with z | z
      · rw [hF] at z; cases z
      · rw [h] at z; cases z
  · obtain ⟨γ, rfl, hn⟩ := x.pre
    rcases List.mem_append.mp hm with hm | hm
    · exact hb hm
    · rw [hn D hm] at h; cases h
/-- a thing beside is written -/
theorem Wld.putBeside {K : PySem.W.Frag} {mg : Str → Option Value} {β : List Addr} {F : Hp} {m : Sto} {H : Hp} (w : Wld K mg β F m H) {D : Addr} (hF : F D = none) (hb : D ∉ β) (o : HO) : Wld K mg β F m (upd H D o) := by
  refine ⟨fun a q e => ?_, w.len, w.nd, w.off, fun n a c h1 h2 => ?_⟩
  · rw [upd_ne (ne_of_none e hF)]; exact w.sub a q e
  · obtain ⟨q, e1, e2⟩ := w.at' n a c h1 h2
    exact ⟨q, by rw [upd_ne (ne_mem hb (List.mem_of_getElem? h1))]; exact e1, e2⟩
/-- the extension from a state in which D was not there -/
theorem Ext.putNew {β β' : List Addr} {F F' H H' : Hp} (x : Ext β β' F F' H H') {D : Addr} (hD : H D = none) (o : HO) : Ext β β' F F' H (upd H' D o) :=
  ⟨x.pre, x.sub, fun a q e nb => by rw [upd_ne (ne_of_none e hD)]; exact x.keep a q e nb, fun a e => by
    by_cases h : a = D
    · subst h; exact absurd hD e
    · rw [upd_ne h]; exact x.stay a e, x.new⟩
theorem wipe_set_out : ∀ (vs : List Nat) (σ : L2.St) (j : Nat) (v : Option V), j ∉ vs → L2.wipe (σ.set j v) vs = (L2.wipe σ vs).set j v
  | [], _, _, _, _ => rfl
  | k :: vs, σ, j, v, h => by
    simp only [List.mem_cons, not_or] at h
    show (L2.wipe (σ.set j v) vs).set k none = ((L2.wipe σ vs).set k none).set j v
    rw [wipe_set_out vs σ j v h.2, List.set_comm _ _ h.1]
theorem wipe_idem : ∀ (vs ws : List Nat) (σ : L2.St), (∀ i ∈ ws, i ∈ vs) → L2.wipe (L2.wipe σ ws) vs = L2.wipe σ vs
  | vs, [], σ, _ => rfl
  | vs, j :: ws, σ, h => by
    show L2.wipe ((L2.wipe σ ws).set j none) vs = _
    rw [wipe_set vs _ j none (h j (by simp)), wipe_idem vs ws σ fun i hi => h i (by simp [hi])]
/-- what Rep leans on grows -/
theorem ext0 {β β' : List Addr} {F F' : Hp} (γ : List Addr) (hb : β' = β ++ γ) (sub : ∀ a o, F a = some o → F' a = some o) : Ext β β' F F' (fun _ => none) (fun _ => none) :=
  ⟨⟨γ, hb, fun _ _ => rfl⟩, sub, fun _ _ e => (by cases e), fun _ e => absurd rfl e, fun _ _ _ => .inr rfl⟩
def LcI (K : PySem.W.Frag) (mg : Str → Option Value) (β1 : List Addr) (F1 H1 : Hp) (D : Addr) (items : List Val) (gd : Gd) (g : GF) (tt : TF) (fe : EF) (ρ : Env) (m2 : Sto) (ys : List Val) (i : Nat) (Hc : Hp) : Prop :=
  ∃ (β' : List Addr) (F' : Hp) (mc : Sto) (acc : List Val) (us : List V) (rest : List Val), i ≤ items.length ∧ Ext β1 β' F1 F' H1 Hc ∧ Wld K mg β' F' mc Hc ∧ Hc D = some (.lst us) ∧ F' D = none ∧ D ∉ β' ∧ RepL K β' F' acc us ∧ acc.length ≤ i ∧
    compGo gd g tt fe ρ (items.drop i) mc = .ok rest m2 ∧ ys = acc ++ rest
theorem lc_read {it : IF} {wi : TI} {tg : TG} {g : GF} {tt : TF} {fe : EF} {S vs : List Nat}
    (hi : ∀ (σ : L2.St) (H : Hp) (R : It → Hp → Prop) (ρ : Env) (m : Sto) (β : List Addr) (F : Hp), ER X.K β F ρ σ → Wld X.K X.mg β F m H → FinI X W β F H (it ρ m) R → wi σ H R)
    (hg : GRd X.K X.mg tg g S) (hS : ∀ i ∈ S, i ∈ vs) {σ : L2.St} {H : Hp} {Q : VK} (h : tEF X (wx W) (compF it g tt fe vs) σ H Q) : tLc wi tg (tTF X (wx E0) tt) (tEF X (wx E0) fe) vs σ H Q := by
  obtain ⟨ρ, m, β, F, er, wl, h⟩ := h
  refine hi σ H _ ρ m β F er wl ?_
  unfold compF at h
  generalize it ρ m = r at h ⊢
  cases r with
  | stuck => exact h
  | exc c m1 => exact h
  | ok p m1 =>
    intro β1 F1 H1 J x1 w1 wr go D hD
    have h1 := Fin.ext x1 h
    clear h
    replace h1 : Fin X.K X.mg W β1 F1 H1 (if p.1.length ≤ sizeLine then (noExc (compGo p.2 g tt fe (wipeE ρ vs) p.1 m1)).bind fun ys m2 => .ok (.lst ys) m2 else .stuck) Q := h1
    split at h1
    · rename_i hz
      obtain ⟨ys, m2, hr, h2⟩ := noExc_ok h1
      refine ⟨fun i k Hc => k = p.1.length - i ∧ LcI X.K X.mg β1 F1 H1 D p.1 p.2 g tt fe (wipeE ρ vs) m2 ys i Hc, ⟨p.1.length, by simp, ?_⟩, ?_⟩
      · obtain ⟨x2, w2⟩ := w1.beside hD (.lst [])
        exact ⟨β1, F1, m1, [], [], ys, Nat.zero_le _, x2, w2, upd_same, w1.none_of hD, w1.ne_of hD, by rw [RepL], Nat.le_refl _, by simpa using hr, by simp⟩
      · rintro i k Hc ⟨rfl, β', F', mc, acc, us, rest, hi', xc, wc, hDc, hFD, hDb, ra, hal, hrun, rfl⟩
        by_cases hlt : i < p.1.length
        · right
          have hdrop : p.1.drop i = p.1[i] :: p.1.drop (i + 1) := List.drop_eq_getElem_cons hlt
          rw [hdrop, compGo] at hrun
          split at hrun
          · rename_i hgo
            refine ⟨wr.go i β' F' mc Hc hlt xc wc hgo, LcI X.K X.mg β1 F1 H1 D p.1 p.2 g tt fe (wipeE ρ vs) m2 (acc ++ rest) (i + 1), fun H' n => ⟨p.1.length - (i + 1), by omega, rfl, n⟩, fun x H' y => ?_⟩
            obtain ⟨v, F2, hv, x2, w2, rv⟩ := wr.yld i β' F' mc Hc x H' hlt xc wc hgo y
            rw [List.getElem?_eq_getElem hlt] at hv
            cases hv
            obtain ⟨d2, f2, b2⟩ := x2.besideStays hDc hFD hDb
            split at hrun
            · cases hrun
            · rename_i ρ1 hg1
              have er2 : ER X.K β' F2 (wipeE ρ vs) (L2.wipe σ vs) := ((er.ext x1).ext (xc.trans x2)).wipe vs
              refine hg _ x _ ρ1 mc _ β' F2 H' _ er2 w2 rv hg1 fun σ' er3 kw => ⟨?_, ?_⟩
              · have e1 := kw vs hS
                rw [wipe_idem vs vs σ fun _ h => h] at e1
                exact e1
              · -- the tests, then the element
                generalize htt : tt ρ1 mc = rt at hrun
                cases rt with
                | exc c m3 => cases hrun
                | stuck => cases hrun
                | ok b m3 =>
                  rw [Res.bind_ok] at hrun
                  refine ⟨ρ1, mc, β', F2, er3, w2, ?_⟩
                  rw [htt]
                  intro β3 F3 H3 x3 w3
                  obtain ⟨d3, f3, b3⟩ := x3.besideStays d2 f2 b2
                  cases b with
                  | false =>
                    rw [if_neg Bool.false_ne_true] at hrun ⊢
                    exact ⟨β3, F3, m3, acc, us, rest, hlt, xc.trans (x2.trans x3), w3, d3, f3, b3, ra.ext (x2.trans x3), by omega, hrun, rfl⟩
                  | true =>
                    rw [if_pos rfl] at hrun ⊢
                    generalize hfe : fe ρ1 m3 = re at hrun
                    cases re with
                    | exc c m4 => cases hrun
                    | stuck => cases hrun
                    | ok y1 m4 =>
                      rw [Res.bind_ok] at hrun
                      refine ⟨ρ1, m3, β3, F3, er3.ext x3, w3, ?_⟩
                      rw [hfe]
                      intro β4 F4 H4 u4 x4 w4 r4
                      obtain ⟨d4, f4, b4⟩ := x4.besideStays d3 f3 b3
                      generalize hgo2 : compGo p.2 g tt fe (wipeE ρ vs) (p.1.drop (i + 1)) m4 = rg at hrun
                      cases rg with
                      | exc c m5 => cases hrun
                      | stuck => cases hrun
                      | ok ys2 m5 =>
                        rw [Res.bind_ok] at hrun
                        cases hrun
                        have ra4 := ra.ext (x2.trans (x3.trans x4))
                        refine ⟨us, d4, by rw [ra4.length]; omega, β4, F4, m4, acc ++ [y1], us ++ [u4], ys2, hlt, ?_, w4.putBeside f4 b4 _, upd_same, f4, b4, ra4.append (by rw [RepL]; exact ⟨u4, [], rfl, r4, by rw [RepL]⟩), by simp; omega, hgo2, by simp⟩
                        exact (xc.trans (x2.trans (x3.trans x4))).putNew hD _
          · cases hrun
        · left
          have e : i = p.1.length := by omega
          subst e
          rw [List.drop_length, compGo] at hrun
          split at hrun
          · rename_i hgo
            cases hrun
            refine ⟨wr.stop β' F' _ Hc xc wc hgo, ?_⟩
            rw [List.append_nil] at h2
            -- the list is now frozen
            have sub5 : ∀ a o, F' a = some o → upd F' D (.lst us) a = some o := fun a q e => by rw [upd_ne (ne_of_none e hFD)]; exact e
            have z5 := ext0 (β := β') (β' := β') (F := F') [] (by simp) sub5
            refine h2 β' (upd F' D (.lst us)) Hc (.ref D) ⟨xc.pre, fun a q e => sub5 a q (xc.sub a q e), xc.keep, xc.stay, fun a q e => ?_⟩ ⟨fun a q e => ?_, wc.len, wc.nd, fun a ha => ?_, fun n a c e1 e2 => ?_⟩ ?_
            · by_cases ha : a = D
              · exact .inr (by rw [ha]; exact hD)
              · rw [upd_ne ha] at e; exact xc.new a q e
            · by_cases ha : a = D
              · subst ha; rw [upd_same] at e; rw [← e]; exact hDc
              · rw [upd_ne ha] at e; exact wc.sub a q e
            · rw [upd_ne (ne_mem hDb ha)]; exact wc.off a ha
            · obtain ⟨q, e3, e4⟩ := wc.at' n a c e1 e2
              exact ⟨q, e3, e4.ext z5⟩
            · rw [Rep]
              exact ⟨D, us, rfl, upd_same, ra.ext z5⟩
          · cases hrun
    · exact h1.elim
theorem ee_lc {n : Nat} (g : Good X n) {elt tg iter : Expr} {ifs : List Expr} {scope : Scope} {own : List (Str × Nat)} {pos : Pos} {it : IF} {t : TG} {gf : GF} {tt : TF} {fe : EF} {S : List Nat}
    (hi : EI X W tg iter it) (ok : blkC X.N X.env.scope scope own = true) (gr : GRd X.K X.mg t gf S)
    (hg : ∀ (s : Shared) (H : Hp) (C : Addr) (cl : List (Str × Addr)) (fp : List Addr), PG (X.blk s H scope (compEnvC scope cl C X.env) fp) tg t)
    (ht : ∀ (s : Shared) (H : Hp) (C : Addr) (cl : List (Str × Addr)) (fp : List Addr), EPs (X.blk s H scope (compEnvC scope cl C X.env) fp) E0 ifs tt)
    (he : ∀ (s : Shared) (H : Hp) (C : Addr) (cl : List (Str × Addr)) (fp : List Addr), EE (X.blk s H scope (compEnvC scope cl C X.env) fp) E0 elt fe)
    (hS : (S.all fun i => (own.map (·.2)).contains i) = true := by rfl) (hs : ∀ x, foldedSetIterable iter X.env x = pure x := by intro _; rfl) :
    EE X W (.ListComp elt [⟨tg, iter, ifs, 0⟩] scope pos) (compF it gf tt fe (own.map (·.2))) := by
  obtain ⟨wi, p, q⟩ := hi.ex
  have hS' : ∀ i ∈ S, i ∈ own.map (·.2) := fun i h => by
    have := List.all_eq_true.mp hS i h
    simpa using this
  exact ⟨pe_imp (pe_lc g.calm g.nd p (blkOk_by ok) hg (fun s H C cl fp => (ht s H C cl fp).pts) (fun s H C cl fp => (he s H C cl fp).pe) hs) fun σ H Q h => lc_read q gr hS' h⟩
end G

-- part C9
namespace G
open PySem L2
variable {X : Cx} {W : XK}

/-! ### statements -/
inductive SRes where
  | nx (ρ : Env) (m : Sto)
  | rt (v : Val) (m : Sto)
  | bk (ρ : Env) (m : Sto)
  | ct (ρ : Env) (m : Sto)
  | exc (c : String) (m : Sto)
  | stuck
abbrev SF := Env → Sto → SRes
def FinS (K : PySem.W.Frag) (mg : Str → Option Value) (W : XK) (β : List Addr) (F H : Hp) (r : SRes) (D : Ends) : Prop :=
  match r with
  | .nx ρ m => ∀ β' F' H' σ', Ext β β' F F' H H' → Wld K mg β' F' m H' → ER K β' F' ρ σ' → D.nx σ' H'
  | .rt v m => ∀ β' F' H' u, Ext β β' F F' H H' → Wld K mg β' F' m H' → Rep K β' F' v u → D.rt u H'
  | .bk ρ m => ∀ β' F' H' σ', Ext β β' F F' H H' → Wld K mg β' F' m H' → ER K β' F' ρ σ' → D.bk σ' H'
  | .ct ρ m => ∀ β' F' H' σ', Ext β β' F F' H H' → Wld K mg β' F' m H' → ER K β' F' ρ σ' → D.ct σ' H'
  | .exc c m => ∀ β' F' H', Ext β β' F F' H H' → Wld K mg β' F' m H' → ∃ C, mg c = some (.ref C) ∧ W (.ref C) none H'
  | .stuck => False
theorem FinS.ext {K : PySem.W.Frag} {mg : Str → Option Value} {W : XK} {β β1 : List Addr} {F F1 H H1 : Hp} {r : SRes} {D : Ends} (e : Ext β β1 F F1 H H1) (h : FinS K mg W β F H r D) : FinS K mg W β1 F1 H1 r D := by
  cases r with
  | nx v m => exact fun β' F' H' u x w q => h β' F' H' u (e.trans x) w q
  | rt v m => exact fun β' F' H' u x w q => h β' F' H' u (e.trans x) w q
  | bk v m => exact fun β' F' H' u x w q => h β' F' H' u (e.trans x) w q
  | ct v m => exact fun β' F' H' u x w q => h β' F' H' u (e.trans x) w q
  | exc c m => exact fun β' F' H' x w => h β' F' H' (e.trans x) w
  | stuck => exact h
def tSF (X : Cx) (W : XK) (f : SF) : TS := fun D σ H => ∃ ρ m β F, ER X.K β F ρ σ ∧ Wld X.K X.mg β F m H ∧ FinS X.K X.mg W β F H (f ρ m) D
structure ES (X : Cx) (W : XK) (st : Stmt) (f : SF) : Prop where
  ps : PS X st (tSF X W f)
structure EB (X : Cx) (W : XK) (st : List Stmt) (f : SF) : Prop where
  pss : PSs X st (tSF X W f)
theorem ps_imp {st : Stmt} {t t' : TS} (h : PS X st t) (hi : ∀ D σ H, t' D σ H → t D σ H) : PS X st t' := ⟨fun pins s σ H D I q => h.run pins s σ H D I (hi _ _ _ q)⟩
theorem pss_imp {st : List Stmt} {t t' : TS} (h : PSs X st t) (hi : ∀ D σ H, t' D σ H → t D σ H) : PSs X st t' := ⟨fun pins s σ H D I q => h.run pins s σ H D I (hi _ _ _ q)⟩
/-- an expression's answer, used by a statement -/
def sbind {α : Type} (r : Res α) (k : α → Sto → SRes) : SRes := match r with
  | .ok a m => k a m
  | .exc c m => .exc c m
  | .stuck => .stuck
@[simp] theorem sbind_ok {α : Type} (a : α) (m : Sto) (k : α → Sto → SRes) : sbind (.ok a m) k = k a m := id rfl
@[simp] theorem sbind_exc {α : Type} (c : String) (m : Sto) (k : α → Sto → SRes) : sbind (.exc c m) k = .exc c m := id rfl
@[simp] theorem sbind_stuck {α : Type} (k : α → Sto → SRes) : sbind .stuck k = .stuck := id rfl
theorem s_thenE {fa : EF} {k : Val → Sto → SRes} {σ : L2.St} {H : Hp} {D : Ends} {Q1 : VK} {ρ : Env} {m : Sto} {β : List Addr} {F : Hp} (er : ER X.K β F ρ σ) (wl : Wld X.K X.mg β F m H) (h : FinS X.K X.mg W β F H (sbind (fa ρ m) k) D)
    (hk : ∀ a m1 β' F' H' u, Ext β β' F F' H H' → Wld X.K X.mg β' F' m1 H' → Rep X.K β' F' a u → FinS X.K X.mg W β' F' H' (k a m1) D → Q1 u H') : tEF X (wx W) fa σ H Q1 := by
  refine ⟨ρ, m, β, F, er, wl, ?_⟩
  generalize hr : fa ρ m = r at h
  cases r with
  | ok a m1 => exact fun β' F' H' u x w q => hk a m1 β' F' H' u x w q (FinS.ext x h)
  | exc c m1 => exact h
  | stuck => exact h
theorem s_thenT {fa : TF} {k : Bool → Sto → SRes} {σ : L2.St} {H : Hp} {D : Ends} {Q1 : Bool → Hp → Prop} {ρ : Env} {m : Sto} {β : List Addr} {F : Hp} (er : ER X.K β F ρ σ) (wl : Wld X.K X.mg β F m H) (h : FinS X.K X.mg W β F H (sbind (fa ρ m) k) D)
    (hk : ∀ a m1 β' F' H', Ext β β' F F' H H' → Wld X.K X.mg β' F' m1 H' → FinS X.K X.mg W β' F' H' (k a m1) D → Q1 a H') : tTF X (wx W) fa σ H Q1 := by
  refine ⟨ρ, m, β, F, er, wl, ?_⟩
  generalize hr : fa ρ m = r at h
  cases r with
  | ok a m1 => exact fun β' F' H' x w => hk a m1 β' F' H' x w (FinS.ext x h)
  | exc c m1 => exact h
  | stuck => exact h
def nextF : SF := fun ρ m => .nx ρ m
def seqF (f g : SF) : SF := fun ρ m => match f ρ m with
  | .nx ρ' m' => g ρ' m'
  | r => r
section
variable {st : Stmt} {rest : List Stmt} {f g : SF} {pos : Pos} {e : Expr} {fe : EF}
theorem eb_nil : EB X W [] nextF := ⟨pss_imp pss_nil fun D σ H ⟨ρ, m, β, F, er, wl, h⟩ => h β F H σ (Ext.refl _ _ _) wl er⟩
theorem eb_one (h : ES X W st f) : EB X W [st] f := ⟨pss_one h.ps⟩
theorem eb_cons (h1 : ES X W st f) (h2 : EB X W rest g) : EB X W (st :: rest) (seqF f g) := by
  refine ⟨pss_imp (pss_cons h1.ps h2.pss) fun D σ H ⟨ρ, m, β, F, er, wl, h⟩ => ?_⟩
  refine ⟨ρ, m, β, F, er, wl, ?_⟩
  unfold seqF at h
  generalize f ρ m = r at h ⊢
  cases r with
  | nx ρ' m' => exact fun β' F' H' σ' x w er' => ⟨ρ', m', β', F', er', w, FinS.ext x h⟩
  | rt v m' => exact h
  | bk ρ' m' => exact h
  | ct ρ' m' => exact h
  | exc c m' => exact h
  | stuck => exact h
def stuckF : SF := fun _ _ => .stuck
theorem es_never : ES X W st stuckF := ⟨ps_imp ps_never fun D σ H ⟨_, _, _, _, _, _, h⟩ => h.elim⟩
theorem eb_never {sts : List Stmt} : EB X W sts stuckF := ⟨pss_imp pss_never fun D σ H ⟨_, _, _, _, _, _, h⟩ => h.elim⟩
theorem es_pass : ES X W (.Pass pos) nextF := ⟨ps_imp ps_pass fun D σ H ⟨ρ, m, β, F, er, wl, h⟩ => h β F H σ (Ext.refl _ _ _) wl er⟩
def retF (fe : EF) : SF := fun ρ m => sbind (fe ρ m) fun v m1 => .rt v m1
theorem es_ret (h : EE X W e fe) : ES X W (.Return (some e) pos) (retF fe) :=
  ⟨ps_imp (ps_ret h.pe) fun D σ H ⟨ρ, m, β, F, er, wl, h⟩ => s_thenE er wl h fun a m1 β1 F1 H1 u x1 w1 r1 h1 => h1 β1 F1 H1 u (Ext.refl _ _ _) w1 r1⟩
def retNF : SF := fun _ m => .rt .non m
theorem es_retN : ES X W (.Return none pos) retNF := ⟨ps_imp ps_retN fun D σ H ⟨ρ, m, β, F, er, wl, h⟩ => h β F H _ (Ext.refl _ _ _) wl (by rw [Rep])⟩
def dropF (fe : EF) : SF := fun ρ m => sbind (fe ρ m) fun _ m1 => .nx ρ m1
theorem es_expr (h : EE X W e fe) (hs : swapsWith e none pos.line X.env = pure false := by rfl) : ES X W (.Expr e pos) (dropF fe) :=
  ⟨ps_imp (ps_expr h.pe hs) fun D σ H ⟨ρ, m, β, F, er, wl, h⟩ => s_thenE er wl h fun a m1 β1 F1 H1 u x1 w1 r1 h1 => h1 β1 F1 H1 σ (Ext.refl _ _ _) w1 (er.ext x1)⟩
def ifF (c : TF) (f g : SF) : SF := fun ρ m => sbind (c ρ m) fun b m1 => if b = true then f ρ m1 else g ρ m1
theorem es_if {c : Expr} {a b : List Stmt} {fc : TF} (hc : ET X W c fc) (ha : EB X W a f) (hb : EB X W b g) : ES X W (.If c a b pos) (ifF fc f g) := by
  refine ⟨ps_imp (ps_if hc.pt ha.pss hb.pss) fun D σ H ⟨ρ, m, β, F, er, wl, h⟩ => ?_⟩
  refine s_thenT er wl h fun k m1 β1 F1 H1 x1 w1 h1 => ?_
  cases k with
  | true => rw [if_pos rfl] at h1 ⊢; exact ⟨ρ, m1, β1, F1, er.ext x1, w1, h1⟩
  | false => rw [if_neg Bool.false_ne_true] at h1 ⊢; exact ⟨ρ, m1, β1, F1, er.ext x1, w1, h1⟩
def asgF (fe : EF) (g : GF) : SF := fun ρ m => sbind (fe ρ m) fun v m1 => match g v ρ m1 with
  | some ρ' => .nx ρ' m1
  | none => .stuck
theorem asg_read {t : TG} {gf : GF} {S : List Nat} (gr : GRd X.K X.mg t gf S) {D : Ends} {σ : L2.St} {H : Hp} (h : tSF X W (asgF fe gf) D σ H) : tAsg (tEF X (wx W) fe) t D σ H := by
  obtain ⟨ρ, m, β, F, er, wl, h⟩ := h
  refine s_thenE er wl h fun a m1 β1 F1 H1 u x1 w1 r1 h1 => ?_
  split at h1
  · rename_i ρ' hg
    exact gr a u ρ ρ' m1 σ β1 F1 H1 _ (er.ext x1) w1 r1 hg fun σ' er' _ => h1 β1 F1 H1 σ' (Ext.refl _ _ _) w1 er'
  · exact h1.elim
theorem es_asg {tg : Expr} {t : TG} {gf : GF} {S : List Nat} (he : EE X W e fe) (hg : PG X tg t) (gr : GRd X.K X.mg t gf S) (hs : swapsWithSole [tg] e pos.line X.env = pure false := by rfl) (hw : swappedStores [tg] e X.env = pure none := by rfl)
    (h1 : (assignEach [tg] X.env).map (·.2) = [assign tg X.env] := by rfl) : ES X W (.Assign [tg] e pos) (asgF fe gf) := ⟨ps_imp (ps_asg he.pe hg hs hw h1) fun _ _ _ h => asg_read gr h⟩
theorem es_set {n : Nat} (g : Good X n) {i : Nat} {x : Str} {pos' : Pos} (he : EE X W e fe) (hi : X.N[i]? = some x := by rfl) (hx : Loc X.env.scope x := by first | exact Or.inl rfl | exact Or.inr rfl)
    (hs : swapsWith e (some (.Name x pos')) pos.line X.env = pure false := by rfl) (hf : X.fn x = true ∨ X.env.scope.names.lookup x = some .local := by first | exact .inl rfl | exact .inr rfl) : ES X W (.Assign [.Name x pos'] e pos) (asgF fe (nameG i)) :=
  ⟨ps_imp (ps_set g.nd hi hx he.pe hs hf) fun _ _ _ h => asg_read (grd_name i) h⟩
/-- x = [..] on one line -/
theorem es_setLc {n : Nat} (g : Good X n) {i : Nat} {y : Str} {py : Pos} {elt tg iter : Expr} {ifs : List Expr} {scope : Scope} {own : List (Str × Nat)} {spos : Pos} {it : IF} {t : TG} {gf : GF} {tt : TF} {S : List Nat}
    (hi : EI X W tg iter it) (ok : blkC X.N X.env.scope scope own = true) (gr : GRd X.K X.mg t gf S)
    (hg : ∀ (s : Shared) (H : Hp) (C : Addr) (cl : List (Str × Addr)) (fp : List Addr), PG (X.blk s H scope (compEnvC scope cl C X.env) fp) tg t)
    (ht : ∀ (s : Shared) (H : Hp) (C : Addr) (cl : List (Str × Addr)) (fp : List Addr), EPs (X.blk s H scope (compEnvC scope cl C X.env) fp) E0 ifs tt)
    (he : ∀ (s : Shared) (H : Hp) (C : Addr) (cl : List (Str × Addr)) (fp : List Addr), EE (X.blk s H scope (compEnvC scope cl C X.env) fp) E0 elt fe)
    (hsw : swapsWith (.ListComp elt [⟨tg, iter, ifs, 0⟩] scope pos) (some (.Name y py)) spos.line X.env = pure true)
    (hS : (S.all fun i => (own.map (·.2)).contains i) = true := by rfl) (hs : ∀ x, foldedSetIterable iter X.env x = pure x := by intro _; rfl)
    (hy : X.N[i]? = some y := by rfl) (hyl : X.env.scope.names.lookup y = some .local := by rfl) :
    ES X W (.Assign [.Name y py] (.ListComp elt [⟨tg, iter, ifs, 0⟩] scope pos) spos) (asgF (compF it gf tt fe (own.map (·.2))) (nameG i)) := by
  obtain ⟨wi, p, q⟩ := hi.ex
  have hS' : ∀ i ∈ S, i ∈ own.map (·.2) := fun i h => by
    have := List.all_eq_true.mp hS i h
    simpa using this
  refine ⟨ps_imp (ps_setLc (te := tEF X (wx E0) fe) (tt := tTF X (wx E0) tt) g.calm g.nd hy hyl hsw p (blkOk_by ok) hg (fun s H C cl fp => (ht s H C cl fp).pts) (fun s H C cl fp => (he s H C cl fp).pe) hs) fun D σ H h => ?_⟩
  have h' := asg_read (fe := compF it gf tt fe (own.map (·.2))) (grd_name i) h
  exact lc_read q gr hS' h'
end

/-! ### loops -/
def forGo (gd : Gd) (g : GF) (b : SF) : List Val → Env → Sto → SRes
  | [], ρ, m => if gOk gd m then .nx ρ m else .stuck
  | v :: vs, ρ, m => if gOk gd m then match g v ρ m with
    | none => .stuck
    | some ρ1 => match b ρ1 m with
      | .nx ρ2 m2 => forGo gd g b vs ρ2 m2
      | .ct ρ2 m2 => forGo gd g b vs ρ2 m2
      | .bk ρ2 m2 => .nx ρ2 m2
      | r => r
    else .stuck
def forF (it : IF) (g : GF) (b : SF) : SF := fun ρ m => sbind (it ρ m) fun p m1 => forGo p.2 g b p.1 ρ m1
theorem for_read {it : IF} {wi : TI} {tg : TG} {g : GF} {b : SF} {S : List Nat}
    (hi : ∀ (σ : L2.St) (H : Hp) (R : It → Hp → Prop) (ρ : Env) (m : Sto) (β : List Addr) (F : Hp), ER X.K β F ρ σ → Wld X.K X.mg β F m H → FinI X W β F H (it ρ m) R → wi σ H R)
    (hg : GRd X.K X.mg tg g S) {D : Ends} {σ : L2.St} {H : Hp} (h : tSF X W (forF it g b) D σ H) : tFor wi tg (tSF X W b) D σ H := by
  obtain ⟨ρ, m, β, F, er, wl, h⟩ := h
  refine hi σ H _ ρ m β F er wl ?_
  unfold forF at h
  generalize it ρ m = r at h ⊢
  cases r with
  | stuck => exact h
  | exc c m1 => exact h
  | ok p m1 =>
    intro β1 F1 H1 J x1 w1 wr go
    refine ⟨fun i k σc Hc => k = p.1.length - i ∧ ∃ β' F' mc ρc, i ≤ p.1.length ∧ Ext β1 β' F1 F' H1 Hc ∧ Wld X.K X.mg β' F' mc Hc ∧ ER X.K β' F' ρc σc ∧ FinS X.K X.mg W β' F' Hc (forGo p.2 g b (p.1.drop i) ρc mc) D, ⟨p.1.length, by simp, β1, F1, m1, ρ, Nat.zero_le _, Ext.refl _ _ _, w1, er.ext x1, FinS.ext x1 (by simpa using h)⟩, ?_⟩
    rintro i k σc Hc ⟨rfl, β', F', mc, ρc, hi', xc, wc, erc, hf⟩
    by_cases hlt : i < p.1.length
    · right
      have hdrop : p.1.drop i = p.1[i] :: p.1.drop (i + 1) := List.drop_eq_getElem_cons hlt
      rw [hdrop, forGo] at hf
      split at hf
      · rename_i hgo
        refine ⟨wr.go i β' F' mc Hc hlt xc wc hgo, fun σn Hn => ∃ β' F' mc ρc, i + 1 ≤ p.1.length ∧ Ext β1 β' F1 F' H1 Hn ∧ Wld X.K X.mg β' F' mc Hn ∧ ER X.K β' F' ρc σn ∧ FinS X.K X.mg W β' F' Hn (forGo p.2 g b (p.1.drop (i + 1)) ρc mc) D, fun σ' H' n => ⟨p.1.length - (i + 1), by omega, rfl, n⟩, fun x H' y => ?_⟩
        obtain ⟨v, F2, hv, x2, w2, rv⟩ := wr.yld i β' F' mc Hc x H' hlt xc wc hgo y
        rw [List.getElem?_eq_getElem hlt] at hv
        cases hv
        split at hf
        · exact hf.elim
        · rename_i ρ1 hg1
          refine hg _ x _ ρ1 mc _ β' F2 H' _ (erc.ext x2) w2 rv hg1 fun σ' er3 _ => ?_
          refine ⟨ρ1, mc, β', F2, er3, w2, ?_⟩
          have hf2 := FinS.ext x2 hf
          clear hf
          generalize b ρ1 mc = rb at hf2
          cases rb with
          | nx ρ2 m2 => exact fun β3 F3 H3 σ3 x3 w3 er4 => ⟨β3, F3, m2, ρ2, hlt, xc.trans (x2.trans x3), w3, er4, FinS.ext x3 hf2⟩
          | ct ρ2 m2 => exact fun β3 F3 H3 σ3 x3 w3 er4 => ⟨β3, F3, m2, ρ2, hlt, xc.trans (x2.trans x3), w3, er4, FinS.ext x3 hf2⟩
          | bk ρ2 m2 => exact hf2
          | rt v m2 => exact hf2
          | exc c m2 => exact hf2
          | stuck => exact hf2
      · exact hf.elim
    · left
      have e : i = p.1.length := by omega
      subst e
      rw [List.drop_length, forGo] at hf
      split at hf
      · rename_i hgo
        exact ⟨wr.stop β' F' _ Hc xc wc hgo, hf β' F' Hc σc (Ext.refl _ _ _) wc erc⟩
      · exact hf.elim
theorem es_for {n : Nat} (g : Good X n) (hp : PassesOwn (model X.prog X.w) X.A X.env X.xe) {tg iter : Expr} {body : List Stmt} {it : IF} {t : TG} {gf : GF} {b : SF} {S : List Nat} {pos : Pos} (hi : EI X W tg iter it) (hg : PG X tg t) (gr : GRd X.K X.mg t gf S) (hb : EB X W body b)
    (hs : ∀ x, foldedSetIterable iter X.env x = pure x := by intro _; rfl) : ES X W (.For tg iter body [] pos) (forF it gf b) := by
  obtain ⟨wi, p, q⟩ := hi.ex
  exact ⟨ps_imp (ps_for hp g.calm p hg hb.pss hs) fun D σ H h => for_read q gr h⟩

/-- while, with so many turns at most -/
def whileN (c : TF) (b : SF) : Nat → Env → Sto → SRes
  | 0, _, _ => .stuck
  | k + 1, ρ, m => sbind (c ρ m) fun t m1 => if t = true then match b ρ m1 with
      | .nx ρ2 m2 => whileN c b k ρ2 m2
      | .ct ρ2 m2 => whileN c b k ρ2 m2
      | .bk ρ2 m2 => .nx ρ2 m2
      | r => r
    else .nx ρ m1
def turnsMost : Nat := 16777216
def whileF (c : TF) (b : SF) : SF := whileN c b turnsMost
theorem es_while (hp : PassesOwn (model X.prog X.w) X.A X.env X.xe) {c : Expr} {body : List Stmt} {fc : TF} {b : SF} {pos : Pos} (hc : ET X W c fc) (hb : EB X W body b) : ES X W (.While c body [] pos) (whileF fc b) := by
  refine ⟨ps_imp (ps_while hp hc.pt hb.pss) fun D σ H ⟨ρ, m, β, F, er, wl, h⟩ => ?_⟩
  refine ⟨fun k σc Hc => ∃ β' F' mc ρc, Wld X.K X.mg β' F' mc Hc ∧ ER X.K β' F' ρc σc ∧ FinS X.K X.mg W β' F' Hc (whileN fc b k ρc mc) D, ⟨turnsMost, β, F, m, ρ, wl, er, h⟩, ?_⟩
  rintro k σc Hc ⟨β', F', mc, ρc, wc, erc, hf⟩
  cases k with
  | zero => exact hf.elim
  | succ k =>
    rw [whileN] at hf
    refine s_thenT erc wc hf fun t m1 β1 F1 H1 x1 w1 h1 => ?_
    cases t with
    | true =>
      rw [if_pos rfl] at h1 ⊢
      refine ⟨fun σn Hn => ∃ β' F' mc ρc, Wld X.K X.mg β' F' mc Hn ∧ ER X.K β' F' ρc σn ∧ FinS X.K X.mg W β' F' Hn (whileN fc b k ρc mc) D, fun σ' H' n => ⟨k, Nat.lt_succ_self _, n⟩, ρc, m1, β1, F1, erc.ext x1, w1, ?_⟩
      generalize b ρc m1 = rb at h1
      cases rb with
      | nx ρ2 m2 => exact fun β3 F3 H3 σ3 x3 w3 er4 => ⟨β3, F3, m2, ρ2, w3, er4, FinS.ext x3 h1⟩
      | ct ρ2 m2 => exact fun β3 F3 H3 σ3 x3 w3 er4 => ⟨β3, F3, m2, ρ2, w3, er4, FinS.ext x3 h1⟩
      | bk ρ2 m2 => exact h1
      | rt v m2 => exact h1
      | exc c m2 => exact h1
      | stuck => exact h1
    | false =>
      rw [if_neg Bool.false_ne_true] at h1 ⊢
      exact h1 β1 F1 H1 σc (Ext.refl _ _ _) w1 (erc.ext x1)
end G

-- part C10
namespace G
open PySem L2
variable {X : Cx} {W : XK}

/-! ### a call's end: what the callee made and left is forgotten -/
mutual
def refsLt (n : Nat) : Val → Bool
  | .ref k => decide (k < n)
  | .tup xs | .lst xs | .wt xs => refsLtL n xs
  | .dct _ kvs => refsLtD n kvs
  | _ => true
def refsLtL (n : Nat) : List Val → Bool
  | [] => true
  | x :: xs => refsLt n x && refsLtL n xs
def refsLtD (n : Nat) : List (Val × Val) → Bool
  | [] => true
  | p :: xs => refsLtP n p && refsLtD n xs
def refsLtP (n : Nat) : Val × Val → Bool
  | (_, v) => refsLt n v
end
mutual
theorem rep_refs {K : PySem.W.Frag} {β : List Addr} {F : Hp} : ∀ {v : Val} {u : V}, Rep K β F v u → refsLt β.length v = true := by
  intro v u h
  cases v with
  | ref k =>
    rw [Rep] at h
    obtain ⟨a, _, e⟩ := h
    simp only [refsLt, decide_eq_true_eq]
    exact (List.getElem?_eq_some_iff.mp e).1
  | tup xs => rw [Rep] at h; obtain ⟨_, _, _, _, h⟩ := h; simp only [refsLt]; exact rep_refsL h
  | lst xs => rw [Rep] at h; obtain ⟨_, _, _, _, h⟩ := h; simp only [refsLt]; exact rep_refsL h
  | wt xs => rw [Rep] at h; obtain ⟨_, _, _, _, h⟩ := h; simp only [refsLt]; exact rep_refsL h
  | dct t xs => rw [Rep] at h; obtain ⟨_, _, _, _, _, _, h⟩ := h; simp only [refsLt]; exact rep_refsD h
  | _ => simp only [refsLt]
theorem rep_refsL {K : PySem.W.Frag} {β : List Addr} {F : Hp} : ∀ {v : List Val} {u : List V}, RepL K β F v u → refsLtL β.length v = true := by
  intro v u h
  cases v with
  | nil => simp only [refsLtL]
  | cons x xs =>
    rw [RepL] at h
    obtain ⟨_, _, _, h1, h2⟩ := h
    simp only [refsLtL, Bool.and_eq_true]
    exact ⟨rep_refs h1, rep_refsL h2⟩
theorem rep_refsD {K : PySem.W.Frag} {β : List Addr} {F : Hp} : ∀ {v : List (Val × Val)} {u : List (Val × V)}, RepD K β F v u → refsLtD β.length v = true := by
  intro v u h
  cases v with
  | nil => simp only [refsLtD]
  | cons x xs =>
    rw [RepD] at h
    obtain ⟨_, _, _, h1, h2⟩ := h
    simp only [refsLtD, Bool.and_eq_true]
    exact ⟨rep_refsP h1, rep_refsD h2⟩
theorem rep_refsP {K : PySem.W.Frag} {β : List Addr} {F : Hp} : ∀ {v : Val × Val} {u : Val × V}, RepP K β F v u → refsLtP β.length v = true := by
  intro v u h
  obtain ⟨k, v⟩ := v
  obtain ⟨q, u⟩ := u
  rw [RepP] at h
  simp only [refsLtP]
  exact rep_refs h.2
end
mutual
theorem rep_cut {K : PySem.W.Frag} {β γ : List Addr} {F : Hp} : ∀ {v : Val} {u : V}, refsLt β.length v = true → Rep K (β ++ γ) F v u → Rep K β F v u := by
  intro v u hr h
  cases v with
  | ref k =>
    simp only [refsLt, decide_eq_true_eq] at hr
    rw [Rep] at h ⊢
    rwa [List.getElem?_append_left hr] at h
  | tup xs => simp only [refsLt] at hr; rw [Rep] at h ⊢; obtain ⟨a, us, e1, e2, h⟩ := h; exact ⟨a, us, e1, e2, rep_cutL hr h⟩
  | lst xs => simp only [refsLt] at hr; rw [Rep] at h ⊢; obtain ⟨a, us, e1, e2, h⟩ := h; exact ⟨a, us, e1, e2, rep_cutL hr h⟩
  | wt xs => simp only [refsLt] at hr; rw [Rep] at h ⊢; obtain ⟨a, us, e1, e2, h⟩ := h; exact ⟨a, us, e1, e2, rep_cutL hr h⟩
  | dct t xs => simp only [refsLt] at hr; rw [Rep] at h ⊢; obtain ⟨a, o, us, e1, e2, e3, h⟩ := h; exact ⟨a, o, us, e1, e2, e3, rep_cutD hr h⟩
  | non => rw [Rep] at h ⊢; exact h
  | bl _ => rw [Rep] at h ⊢; exact h
  | int _ => rw [Rep] at h ⊢; exact h
  | str _ => rw [Rep] at h ⊢; exact h
  | scr _ => rw [Rep] at h ⊢; exact h
theorem rep_cutL {K : PySem.W.Frag} {β γ : List Addr} {F : Hp} : ∀ {v : List Val} {u : List V}, refsLtL β.length v = true → RepL K (β ++ γ) F v u → RepL K β F v u := by
  intro v u hr h
  cases v with
  | nil => rw [RepL] at h ⊢; exact h
  | cons x xs =>
    simp only [refsLtL, Bool.and_eq_true] at hr
    rw [RepL] at h ⊢
    obtain ⟨u, r, e, h1, h2⟩ := h
    exact ⟨u, r, e, rep_cut hr.1 h1, rep_cutL hr.2 h2⟩
theorem rep_cutD {K : PySem.W.Frag} {β γ : List Addr} {F : Hp} : ∀ {v : List (Val × Val)} {u : List (Val × V)}, refsLtD β.length v = true → RepD K (β ++ γ) F v u → RepD K β F v u := by
  intro v u hr h
  cases v with
  | nil => rw [RepD] at h ⊢; exact h
  | cons x xs =>
    simp only [refsLtD, Bool.and_eq_true] at hr
    rw [RepD] at h ⊢
    obtain ⟨u, r, e, h1, h2⟩ := h
    exact ⟨u, r, e, rep_cutP hr.1 h1, rep_cutD hr.2 h2⟩
theorem rep_cutP {K : PySem.W.Frag} {β γ : List Addr} {F : Hp} : ∀ {v : Val × Val} {u : Val × V}, refsLtP β.length v = true → RepP K (β ++ γ) F v u → RepP K β F v u := by
  intro v u hr h
  obtain ⟨k, v⟩ := v
  obtain ⟨q, u⟩ := u
  simp only [refsLtP] at hr
  rw [RepP] at h ⊢
  exact ⟨h.1, rep_cut hr h.2⟩
end
theorem cell_cut {K : PySem.W.Frag} {mg : Str → Option Value} {β γ : List Addr} {F F' : Hp} {c : Cell} {o o' : HO} (h : CellAt K mg β F c o) (h' : CellAt K mg (β ++ γ) F' c o') : CellAt K mg β F' c o' := by
  cases c with
  | lst xs => obtain ⟨_, _, r⟩ := h; obtain ⟨us, e, r'⟩ := h'; exact ⟨us, e, rep_cutL (rep_refsL r) r'⟩
  | dct t xs => obtain ⟨_, _, r⟩ := h; obtain ⟨us, e, r'⟩ := h'; exact ⟨us, e, rep_cutD (rep_refsD r) r'⟩
  | ins c fs => obtain ⟨_, _, _, _, _, _, r⟩ := h; obtain ⟨C, dx, ds, e1, e2, e3, r'⟩ := h'; exact ⟨C, dx, ds, e1, e2, e3, rep_cutL (rep_refsL r) r'⟩
/-- the store behind a call, where the callee left what stood as it was -/
def trimR (m0 : Sto) (r : Res Val) : Res Val := match r with
  | .ok v m' => if m'.take m0.length = m0 then
      if refsLt m0.length v = true then .ok v m0 else match v with
        | .ref k => match m'[k]? with
          | some (.lst xs) => if m0.length ≤ k ∧ refsLtL m0.length xs = true then .ok (.lst xs) m0 else .ok v m'
          | some (.dct t kvs) => if m0.length ≤ k ∧ refsLtD m0.length kvs = true then .ok (.dct t kvs) m0 else .ok v m'
          | _ => .ok v m'
        | _ => .ok v m'
    else .ok v m'
  | r => r
theorem wld_cut {K : PySem.W.Frag} {mg : Str → Option Value} {β γ : List Addr} {F F' H H' : Hp} {m0 m' : Sto} (w0 : Wld K mg β F m0 H) (w : Wld K mg (β ++ γ) F' m' H') (h : m'.take m0.length = m0) : Wld K mg β F' m0 H' := by
  have nd := w.nd
  rw [List.nodup_append] at nd
  refine ⟨w.sub, w0.len, nd.1, fun a ha => w.off a (List.mem_append_left _ ha), fun n a c e1 e2 => ?_⟩
  have hn : n < m0.length := (List.getElem?_eq_some_iff.mp e2).1
  have e3 : (β ++ γ)[n]? = some a := by rw [List.getElem?_append_left (by rw [w0.len]; exact hn)]; exact e1
  have e4 : m'[n]? = some c := by rw [← h, List.getElem?_take_of_lt hn] at e2; exact e2
  obtain ⟨o, h1, h2⟩ := w.at' n a c e3 e4
  obtain ⟨o0, _, h4⟩ := w0.at' n a c e1 e2
  exact ⟨o, h1, cell_cut h4 h2⟩
theorem fin_trim {K : PySem.W.Frag} {mg : Str → Option Value} {β : List Addr} {F H : Hp} {m0 : Sto} {r : Res Val} {Q : VK} (w0 : Wld K mg β F m0 H) (h : Fin K mg W β F H (trimR m0 r) Q) : Fin K mg W β F H r Q := by
  unfold trimR at h
  cases r with
  | exc c m => exact h
  | stuck => exact h
  | ok v m' =>
    simp only at h
    split at h
    · rename_i ht
      intro β' F' H' u x w r
      obtain ⟨γ, rfl, hn⟩ := x.pre
      have wc := wld_cut w0 w ht
      have xc : Ext β β F F' H H' := ⟨⟨[], by simp, by simp⟩, x.sub, x.keep, x.stay, x.new⟩
      -- a fresh thing is frozen
      have frz : ∀ {k : Nat} {a : Addr} {o : HO}, m0.length ≤ k → (β ++ γ)[k]? = some a → H' a = some o → Ext β β F (upd F' a o) H H' ∧ Wld K mg β (upd F' a o) m0 H' ∧ Ext β β F' (upd F' a o) (fun _ => none) (fun _ => none) := fun {k a o} hk ha ho => by
        have hg : a ∈ γ := by
          rw [List.getElem?_append_right (by rw [w0.len]; exact hk)] at ha
          exact List.mem_of_getElem? ha
        have hF : F' a = none := w.off a (List.mem_append_right _ hg)
        have hb : a ∉ β := fun z => by
          have nd := w.nd
          rw [List.nodup_append] at nd
          exact nd.2.2 a z a hg rfl
        have sub5 : ∀ b q, F' b = some q → upd F' a o b = some q := fun b q e => by rw [upd_ne (ne_of_none e hF)]; exact e
        have z5 := ext0 (β := β) (β' := β) (F := F') [] (by simp) sub5
        refine ⟨⟨xc.pre, fun b q e => sub5 b q (xc.sub b q e), xc.keep, xc.stay, fun b q e => ?_⟩, ⟨fun b q e => ?_, wc.len, wc.nd, fun b hb' => ?_, fun n b c e1 e2 => ?_⟩, z5⟩
        · by_cases e' : b = a
          · exact .inr (by rw [e']; exact hn a hg)
          · rw [upd_ne e'] at e; exact xc.new b q e
        · by_cases e' : b = a
          · subst e'; rw [upd_same] at e; rw [← e]; exact ho
          · rw [upd_ne e'] at e; exact wc.sub b q e
        · rw [upd_ne (ne_mem hb hb')]; exact wc.off b hb'
        · obtain ⟨q, e3, e4⟩ := wc.at' n b c e1 e2
          exact ⟨q, e3, e4.ext z5⟩
      split at h
      · rename_i hv
        exact h β F' H' u xc wc (rep_cut (by rw [w0.len]; exact hv) r)
      · split at h
        · rename_i k _
          rw [Rep] at r
          obtain ⟨a, rfl, ha⟩ := r
          split at h
          · rename_i xs hm
            split at h
            · rename_i hk
              obtain ⟨o, h1, us, rfl, h3⟩ := w.at' k a _ ha hm
              obtain ⟨y1, y2, y3⟩ := frz hk.1 ha h1
              exact h β _ H' _ y1 y2 (by rw [Rep]; exact ⟨a, us, rfl, upd_same, (rep_cutL (by rw [w0.len]; exact hk.2) h3).ext y3⟩)
            · exact h _ F' H' _ x w (by rw [Rep]; exact ⟨a, rfl, ha⟩)
          · rename_i t kvs hm
            split at h
            · rename_i hk
              obtain ⟨o, h1, us, h2, h3⟩ := w.at' k a _ ha hm
              obtain ⟨y1, y2, y3⟩ := frz hk.1 ha h1
              exact h β _ H' _ y1 y2 (by rw [Rep]; exact ⟨a, o, us, rfl, upd_same, h2, (rep_cutD (by rw [w0.len]; exact hk.2) h3).ext y3⟩)
            · exact h _ F' H' _ x w (by rw [Rep]; exact ⟨a, rfl, ha⟩)
          · exact h _ F' H' _ x w (by rw [Rep]; exact ⟨a, rfl, ha⟩)
        · exact h _ F' H' _ x w r
    · exact h

/-! ### defs -/
/-- what a def promises: its function -/
def SpG (K : PySem.W.Frag) (mg : Str → Option Value) (ar : Nat) (g : VFn) : Sp := fun vs H Q E => ∃ args m β F, args.length = ar ∧ RepL K β F args vs ∧ Wld K mg β F m H ∧ Fin K mg E β F H (g args m) Q
/-- the def of the name x means g, with k calls in one another -/
structure DefOk (P : Program) (w : World) (K : PySem.W.Frag) (mg : Str → Option Value) (base : Heap) (k : Nat) (x : Str) (ar : Nat) (g : VFn) : Prop where
  ex : ∃ f fd ps, FnOk P w K mg base (L2.CX P w) k f fd ps (SpG K mg ar g) ∧ mg x = some (.ref f) ∧ PySem.W.keepIn K (.ref f) = true ∧ Binds K fd ps []
theorem spG_none {K : PySem.W.Frag} {mg : Str → Option Value} {ar : Nat} {vs H Q E} : ¬ SpG K mg ar (fun _ _ => .stuck) vs H Q E := fun ⟨_, _, _, _, _, _, _, h⟩ => h
/-- with no calls nothing is promised -/
theorem fnOk_zero {P : Program} {w : World} {K : PySem.W.Frag} {mg : Str → Option Value} {base : Heap} {CX : CXT} {k : Nat} {f : Addr} {fd : FuncData} {ps : List Str} {ar : Nat} : FnOk P w K mg base CX k f fd ps (SpG K mg ar fun _ _ => .stuck) :=
  ⟨fun vs H Q E h => absurd h spG_none, fun A outer s H args us vs Q E _ _ _ _ h => absurd h spG_none⟩
structure Ctx (X : Cx) (W : XK) (n : Nat) : Prop extends Good X n where
  tk : Takes X (fun c d _ H => W c d H)
def defF (ar : Nat) (g : VFn) (fa : AF) : EF := fun ρ m => (fa ρ m).bind fun vs m1 => if vs.length = ar then trimR m1 (g vs m1) else .stuck
theorem ee_def {n : Nat} (c : Ctx X W n) {x : Str} {ar : Nat} {g : VFn} {p pos : Pos} {e : Expr} {es : List Expr} {fa : AF} (h : DefOk X.prog X.w X.K X.mg X.base n x ar g) (ha : EA X W (e :: es) fa) (hg : Gl X x := by rfl)
    (hdb : (x == ("__debug__" : Str)) = false := by decide) (he : starEach (e :: es) X.env = (false, eval e X.env) :: starEach es X.env := by rfl) (hpl : (backTo pos (starEach es X.env)).any (·.1) = false := by rfl) :
    EE X W (.Call (.Name x p) (e :: es) [] pos) (defF ar g fa) := by
  obtain ⟨f, fd, ps, F, hm, hk, hb⟩ := h.ex
  refine ⟨pe_imp (pe_callS (E := fun _ => W) F c.room hg hm hk hb (fun σ => passAt c.tk σ) ha.pa hdb he hpl) fun σ H Q ⟨ρ, m, β, F, er, wl, h⟩ => ?_⟩
  refine t_thenA er wl h fun vs m1 β1 F1 H1 us x1 w1 r1 h1 => ?_
  split at h1
  · rename_i hl
    exact ⟨vs, m1, β1, F1, hl, r1, w1, fin_trim w1 h1⟩
  · exact h1.elim
theorem ee_def0 {n : Nat} (c : Ctx X W n) {x : Str} {g : VFn} {p pos : Pos} (h : DefOk X.prog X.w X.K X.mg X.base n x 0 g) (hg : Gl X x := by rfl)
    (hdb : (x == ("__debug__" : Str)) = false := by decide) : EE X W (.Call (.Name x p) [] [] pos) (defF 0 g nilF) := by
  obtain ⟨f, fd, ps, F, hm, hk, hb⟩ := h.ex
  refine ⟨pe_imp (pe_call0 (E := W) F c.room hg hm hk hb .nil (passes_call c.tk fun _ _ _ _ h => h) hdb) fun σ H Q ⟨ρ, m, β, F, er, wl, h⟩ => ?_⟩
  exact ⟨[], m, β, F, rfl, by rw [RepL]; rfl, wl, fin_trim wl h⟩

/-- a def's body as a function of its arguments: N names, the parameters first -/
def bodyF (N : Nat) (b : SF) : VFn := fun args m => match b (args.map some ++ List.replicate (N - args.length) none) m with
  | .nx _ m' => .ok .non m'
  | .rt v m' => .ok v m'
  | .exc c m' => .exc c m'
  | _ => .stuck
theorem er_start {K : PySem.W.Frag} {β : List Addr} {F : Hp} {N : List Str} : ∀ {args : List Val} {vs : List V}, RepL K β F args vs → ER K β F (args.map some ++ List.replicate (N.length - args.length) none) (L2.start N vs) := fun {args vs} r => by
  refine ⟨by simp [L2.start, r.length], fun i v e => ?_⟩
  by_cases hi : i < args.length
  · rw [List.getElem?_append_left (by simpa using hi), List.getElem?_map, List.getElem?_eq_getElem hi] at e
    simp only [Option.map_some, Option.some.injEq] at e
    obtain ⟨u, h1, h2⟩ := r.get (List.getElem?_eq_getElem hi)
    refine ⟨u, ?_, by rw [← e]; exact h2⟩
    unfold L2.start
    rw [List.getElem?_append_left (by simpa [r.length] using hi), List.getElem?_map, h1]
    rfl
  · rw [List.getElem?_append_right (by simpa using hi), List.getElem?_replicate] at e
    split at e <;> cases e
/-- the context of a def's body -/
abbrev XOf (P : Program) (w : World) (K : PySem.W.Frag) (mg : Str → Option Value) (base : Heap) (N : List Str) (qual : Str) (st : Stmt) (f : Addr) (cdv : Value) (A : Around) (outer : List PySem.Env) (s : Shared) (H : Hp) (E : XK) : Cx := cxOf (L2.CX P w) P w K mg base N qual (defScope st) f cdv A outer s H E
/-- THE RULE of a def: its body, in the context of any call -/
theorem def_ok {P : Program} {w : World} {K : PySem.W.Frag} {mg : Str → Option Value} {base : Heap} {x qual : Str} {st : Stmt} {f : Addr} {fd : FuncData} {N ps : List Str} {k : Nat} {b : SF} (Fn : Fun K x qual st f fd) (S : FnScope N ps (defScope st)) (bl : Blt mg)
    (hbody : ∀ (cdv : Value) (A : Around) (outer : List PySem.Env) (s : Shared) (H : Hp) (E : XK), Ctx (XOf P w K mg base N qual st f cdv A outer s H E) E k → PassesOwn (model P w) (XOf P w K mg base N qual st f cdv A outer s H E).A (XOf P w K mg base N qual st f cdv A outer s H E).env (XOf P w K mg base N qual st f cdv A outer s H E).xe → EB (XOf P w K mg base N qual st f cdv A outer s H E) E (defBody st) b) :
    FnOk P w K mg base (L2.CX P w) (k + 1) f fd ps (SpG K mg ps.length (bodyF N.length b)) := by
  refine Fn.okX S (fun vs H Q E ⟨args, m, β, F, hl, r, _⟩ => by rw [r.length]; exact hl) fun cdv A outer s H vs Q E hr ⟨args, m, β, F, hl, r, wl, h⟩ => ?_
  have hc : Ctx (XOf P w K mg base N qual st f cdv A outer s H E) E k := ⟨⟨rfl, S.nd, hr, bl⟩, takes_of rfl rfl rfl rfl⟩
  refine ⟨_, (hbody cdv A outer s H E hc (passes_of rfl)).pss, args.map some ++ List.replicate (N.length - args.length) none, m, β, F, er_start r, wl, ?_⟩
  unfold bodyF at h
  generalize b (args.map some ++ List.replicate (N.length - args.length) none) m = rr at h ⊢
  cases rr with
  | nx ρ m' => exact fun β' F' H' σ' x w' _ => h β' F' H' .non x w' (by rw [Rep])
  | rt v m' => exact h
  | bk ρ m' => exact h.elim
  | ct ρ m' => exact h.elim
  | exc c m' => exact h
  | stuck => exact h
end G

-- part C11
namespace G
open PySem L2 RZ
variable {X : Cx} {W : XK}

/-! ### enumerate of a tuple -/
section
open PyProof.Rows
set_option maxHeartbeats 1000000 in
theorem meets_enum_new1 {v : Value} {o : Obj} {H : Heap → Prop} (B : Begins v o H) :
    Meets (Builtin.«enumerate.__new__» ⟨[.type "enumerate", v], []⟩) (fun _ R s => H s.heap ∧
      R (.ok (.ret (.ref (s.heap.push o).objs.size))) { s with heap := (s.heap.push o).push { cls := .type "enumerate", data := .fields #[.none, .bool false, .ref s.heap.objs.size, rawInt 0, .none, .none] } }) :=
  .of_wp fun prog w A R s h => by
    obtain ⟨hp, g, d, tk, os⟩ := s; obtain ⟨h1, h⟩ := h
    have hsub := sub_enumerate
    have q1 : ∀ {A' : Around} {E : Value → Shared → Prop} {Q : Value → Shared → Prop}, Q (.ref hp.objs.size) ⟨hp.push o, g, d, tk, os⟩ → wpAny (model prog w) A' (pyIter v) Q E ⟨hp, g, d, tk, os⟩ :=
      fun q => B.iter prog w _ _ ⟨hp, g, d, tk, os⟩ _ h1 q
    wp_walk using q1
    refine wpAny_stack_any fun st => wpAny_pure ?_
    split
    · rename_i c _ _ _ _ _
      cases (c == Value.type "enumerate")
      · wp_walk using q1
        exact ⟨_, rfl, h⟩
      · wp_walk using q1
        exact ⟨_, rfl, h⟩
    · wp_walk using q1
      exact ⟨_, rfl, h⟩
theorem enum_begins1 {prog : Program} {w : World} {A : Around} {E : Value → Shared → Prop} {s : Shared} {v : Value} {o : Obj} {H : Heap → Prop} {Q : Value → Shared → Prop} (B : Begins v o H) (h1 : H s.heap)
    (h : ∀ h', IsEnum h' (s.heap.objs.size + 1) s.heap.objs.size 0 .none → h'.get? s.heap.objs.size = some o → h'.objs.size = s.heap.objs.size + 2 →
      (∀ b o, s.heap.get? b = some o → h'.get? b = some o) → Q (.ref (s.heap.objs.size + 1)) { s with heap := h' }) :
    wpAny (model prog w) A (call (.type "enumerate") [v]) Q E s := by
  refine callType_new F.called_enumerate (by decide) (F.typeCall_enumerate_1 _) (F.newCall_enumerate_1 _) (fun obj => F.args_object_init_2 obj _) F.entry_enumerate_new
    (meets_enum_new1 B) ⟨h1, ?_⟩
  have hz : (s.heap.push o).objs.size = s.heap.objs.size + 1 := Heap.size_push ..
  show _ ∧ _
  rw [hz]
  have he : IsEnum ((s.heap.push o).push { cls := .type "enumerate", data := .fields #[.none, .bool false, .ref s.heap.objs.size, rawInt 0, .none, .none] }) (s.heap.objs.size + 1) s.heap.objs.size 0 .none := by
    have := Heap.get?_push_size (s.heap.push o) (o := { cls := .type "enumerate", data := .fields #[.none, .bool false, .ref s.heap.objs.size, rawInt 0, .none, .none] }) rfl
    rw [hz] at this; exact this
  refine ⟨⟨_, he, rfl⟩, h _ he (Heap.get?_push_of_some _ (Heap.get?_push_size _ B.free)) (by rw [Heap.size_push, hz]) fun b o x => Heap.get?_push_of_some _ (Heap.get?_push_of_some _ x)⟩
end
/-- the tuple at a, each item in a new pair -/
def IteT (K : PySem.W.Frag) (a : Addr) : It :=
  ⟨fun i H => ∃ (xs : List V) (x : V), SqT K H a xs ∧ xs[i]? = some x, fun i H v H' => ∃ T x, v = .ref T ∧ H T = none ∧ H' = upd H T (.tup [.int (i : Nat), x]) ∧ ∀ xs, SqT K H a xs → xs[i]? = some x, fun i H => ∃ xs : List V, SqT K H a xs ∧ xs.length = i⟩
theorem turn_enumT {P : Program} {w : World} {K : PySem.W.Frag} {elts : List Expr} {kk : Nat} {tpos : Pos} (a e it : Addr) (hai : a ≠ it) :
    Turn P w K (.Tuple elts kk tpos) (IteT K a) [e, it] e (fun i h => (∃ old, IsEnum h e it ((i : Nat) : Int) old) ∧ h.IsTupleIter it a i ∧ e ≠ it) where
  mem := by simp
  obj := fun i h st b hb => by
    obtain ⟨⟨old, he⟩, ⟨o, ho, hc, hd⟩, _⟩ := st
    have e' : b = e ∨ b = it := by simpa using hb
    rcases e' with z | z
    · rw [z]; exact ⟨_, he, fun v q => nomatch q⟩
    · rw [z]; exact ⟨o, ho, fun v q => by rw [hd] at q; cases q⟩
  keep := fun i h h' st k => let ⟨⟨old, he⟩, hi, hne⟩ := st; ⟨⟨old, k e (by simp) _ he⟩, hi.at fun o q => k it (by simp) o q, hne⟩
  item := by
    intro X hP hw hK hc i pins s σ H E I hf st hg
    subst hP hw hK
    obtain ⟨⟨old, he⟩, hit, hne⟩ := st
    obtain ⟨xs, x, hq, hx⟩ := hg
    obtain ⟨its, rv, p, hz⟩ := I.tuple hq
    obtain ⟨u, hu, ru⟩ := rv.get hx
    have hel : e < s.heap.objs.size := Heap.lt_size he
    have hil : it < s.heap.objs.size := by obtain ⟨_, q, _⟩ := hit; exact Heap.lt_size q
    have hea : e ∉ [it, a] := by
      simp only [List.mem_cons, List.not_mem_nil, or_false, not_or]
      refine ⟨hne, fun z => ?_⟩
      subst z
      obtain ⟨o, ho, hc', _⟩ := p
      have := he.symm.trans ho
      rw [Option.some.injEq] at this
      subst this
      exact absurd hc' (by simp [Heap.IsTuple])
    refine wpAny_pyNext_enum_itemC (Draws.tuple (A := X.A.in1) (I.ok.hd hc) it a hai its.toArray) he ⟨hit, p⟩ (i := i) (by obtain ⟨h1, _⟩ := List.getElem?_eq_some_iff.mp hu; simpa using h1) hne hea fun x' h' tk hP ho hit' hT hsz hk => ?_
    have hx' : x' = u := by
      have : its.toArray[i]? = some x' := hP
      simp only [List.getElem?_toArray] at this
      rw [hu] at this; cases this; rfl
    subst hx'
    refine ⟨_, rfl, wpAny_letOwnedTupleGo_enum (s := { s with heap := h', toks := tk + 1 }) ho fun h'' he' sb => ?_⟩
    have hT2 : h''.get? s.heap.objs.size = some { cls := .type "tuple", data := .seq #[.int i tk, x'] } := (sb.2 _ (Nat.ne_of_gt hel)).trans hT
    have new : ObjOk X.prog X.w (upd H s.heap.objs.size (.tup [.int (i : Nat), x])) h'' s.heap.objs.size (.tup [.int (i : Nat), x]) :=
      ⟨by show 2 ≤ sizeLine; decide, [.int i tk, x'], .cons ⟨_, rfl⟩ (.cons ru .nil), ⟨_, hT2, rfl, _, rfl⟩⟩
    have I1 : Inv X pins σ (upd H s.heap.objs.size (.tup [.int (i : Nat), x])) { s with heap := h'', toks := tk + 1 } :=
      I.turnedNew (ch := [e, it]) (fun b ob hb q => (sb.2 b (fun z => hb (by simp [z]))).trans (hk b ob (fun z => hb (by simp [z])) (fun z => hb (by simp [z])) q)) hf (Nat.le_refl _) new
    refine ⟨.ref s.heap.objs.size, _, I1, rfl, ⟨_, x, rfl, I.hok.fresh (Nat.le_refl _), rfl, fun ys hy => by rw [I.tuple_inj hy hq]; exact hx⟩, ⟨⟨x', ?_⟩, hit'.1.at fun o q => (sb.2 it (Ne.symm hne)).trans q, hne⟩, fun b hb => ?_⟩
    · have e1 : ((i + 1 : Nat) : Int) = (i : Int) + 1 := by omega
      rw [e1]; exact he'
    · have hb' : b < s.heap.objs.size := by
        have e' : b = e ∨ b = it := by simpa using hb
        rcases e' with z | z
        · rw [z]; exact hel
        · rw [z]; exact hil
      rw [upd_ne (Nat.ne_of_lt hb')]
      exact (hf b hb).1
  done := by
    intro X hP hw hK hc i pins s σ H E I hf st hg
    subst hP hw hK
    obtain ⟨⟨old, he⟩, hit, hne⟩ := st
    obtain ⟨xs, hq, hx⟩ := hg
    obtain ⟨its, rv, p, hz⟩ := I.tuple hq
    obtain ⟨f0, f1, f2, f3, f4, f5⟩ := hf it (by simp)
    have hl := rv.length
    have hi : i = its.toArray.size := by simp; omega
    subst hi
    exact wpAny_pyNext_enum_endD (Draws.tuple (A := X.A.in1) (I.ok.hd hc) it a hai its.toArray) he ⟨hit, p⟩ fun h' eb => ⟨rfl, I.turned (t' := s.toks) (fun b o hb q => eb b o hb q) f0 f1 f3 f4 f5⟩
  self := fun A i s Q E st h => let ⟨⟨_, he⟩, _⟩ := st; wpAny_pyIter_enum he h
/-- enumerate of a list or a tuple -/
def iEnumA (K : PySem.W.Frag) (ta : TA) : TI := fun σ H R => ta σ H fun vs H1 => ∃ a xs, vs = [.ref a] ∧ ((SqL K H1 a xs ∧ R (Ite K a) H1) ∨ (SqT K H1 a xs ∧ R (IteT K a) H1))
theorem pi_enumA {X : Cx} {e : Expr} {ta : TA} {p pos tpos : Pos} {elts : List Expr} {kk : Nat} (hg : Gl X "enumerate") (hm : X.mg "enumerate" = none) (ha : PA X [e] ta) (hs : starEach [e] X.env = [(false, eval e X.env)] := by rfl) :
    PI X (.Tuple elts kk tpos) (.Call (.Name "enumerate" p) [e] [] pos) (iEnumA X.K ta) := by
  refine ⟨fun pins s σ H R I h => ?_⟩
  refine PyProof.Rows.Call_ (ld_blt I hg hm PyProof.Rows.boot_enumerate (PyProof.Rows.callWith_type1 (thn (ha.run pos pins s σ H _ I h) fun us s1 ⟨vs, H1, I1, r1, q1⟩ => ?_) hs rfl))
  obtain ⟨a, xs, ex, q1⟩ := q1
  subst ex
  cases r1 with
  | cons r rr =>
    cases rr
    cases r
    have two : ∀ b, b ∈ [s1.heap.objs.size + 1, s1.heap.objs.size] → FpOk X pins H1 b := fun b hb => by
      have e' : b = s1.heap.objs.size + 1 ∨ b = s1.heap.objs.size := by simpa using hb
      have hle : s1.heap.objs.size ≤ b := by
        rcases e' with z | z
        · rw [z]; exact Nat.le_add_right _ _
        · rw [z]; exact Nat.le_refl _
      exact I1.fpOk hle (I1.hok.fresh hle)
    rcases q1 with ⟨hq, q⟩ | ⟨hq, q⟩
    · obtain ⟨its, rv, p', hz⟩ := I1.list hq
      refine call_enumerate_list p'.isList fun h' he hit hsz hk => wpAny_pyIter_enum he ?_
      have I2 : Inv X pins σ H1 { s1 with heap := h' } := I1.kept (t' := s1.toks) hk
      exact ⟨s1.heap.objs.size + 1, [s1.heap.objs.size + 1, s1.heap.objs.size], _, _, H1, rfl, I2, turn_enum a (s1.heap.objs.size + 1) s1.heap.objs.size, ⟨⟨.none, he⟩, hit, Nat.succ_ne_self _⟩, two, q⟩
    · obtain ⟨its, rv, p', hz⟩ := I1.tuple hq
      have hal : a < s1.heap.objs.size := by obtain ⟨_, e, _⟩ := id p'; exact Heap.lt_size e
      refine enum_begins1 (begins_tuple a its.toArray) (show s1.heap.IsTuple a its.toArray from p') fun h' he ho hsz hk => wpAny_pyIter_enum he ?_
      have I2 : Inv X pins σ H1 { s1 with heap := h' } := I1.kept (t' := s1.toks) hk
      exact ⟨s1.heap.objs.size + 1, [s1.heap.objs.size + 1, s1.heap.objs.size], _, _, H1, rfl, I2, turn_enumT a (s1.heap.objs.size + 1) s1.heap.objs.size (Nat.ne_of_lt hal), ⟨⟨.none, he⟩, ⟨_, ho, rfl, rfl⟩, Nat.succ_ne_self _⟩, two, q⟩
/-- numbered -/
def numb (xs : List Val) : List Val := (xs.zipIdx).map fun p => .wt [.int (p.2 : Nat), p.1]
theorem numb_get {xs : List Val} {i : Nat} (h : i < xs.length) : (numb xs)[i]? = some (.wt [.int (i : Nat), xs[i]]) := by
  simp [numb, h]
theorem numb_len (xs : List Val) : (numb xs).length = xs.length := by simp [numb]
/-- the items of a sequence: a list (by value or cell), a tuple, the script -/
def itemsQ (v : Val) (m : Sto) : Res (List Val × Gd) := match v with
  | .tup xs => .ok (xs, none) m
  | .wt xs => .ok (xs, none) m
  | v => itemsV v m
def enumQ (v : Val) (m : Sto) : Res (List Val × Gd) := (itemsQ v m).bind fun p m1 => .ok (numb p.1, p.2) m1
theorem pair_lay {K : PySem.W.Frag} {mg : Str → Option Value} {β : List Addr} {F H : Hp} {m : Sto} (w : Wld K mg β F m H) {T : Addr} (hT : H T = none) {v v' : Val} {x x' : V} (r : Rep K β F v x) (r' : Rep K β F v' x') : ∃ F2, Ext β β F F2 H (upd H T (.tup [x, x'])) ∧ Wld K mg β F2 m (upd H T (.tup [x, x'])) ∧ Rep K β F2 (.wt [v, v']) (.ref T) := by
  obtain ⟨e, w2⟩ := w.lay hT (.tup [x, x'])
  refine ⟨_, e, w2, ?_⟩
  rw [Rep]
  exact ⟨T, [x, x'], rfl, .of upd_same, by rw [RepL]; exact ⟨_, _, rfl, r.ext e, by rw [RepL]; exact ⟨_, _, rfl, r'.ext e, by rw [RepL]⟩⟩⟩
theorem walkR_enumL {K : PySem.W.Frag} {mg : Str → Option Value} {β : List Addr} {F H : Hp} {xs : List Val} {a : Addr} {g : Gd} (hs : ∀ β' F' m' H', Ext β β' F F' H H' → Wld K mg β' F' m' H' → gOk g m' → ∃ us, SqL K H' a us ∧ RepL K β' F' xs us) : WalkR K mg β F H (numb xs) (Ite K a) g where
  go i β' F' m' H' hi x w o := by
    rw [numb_len] at hi
    obtain ⟨us, h1, h2⟩ := hs β' F' m' H' x w o
    exact ⟨us, us[i]'(by rw [h2.length]; exact hi), h1, List.getElem?_eq_getElem _⟩
  stop β' F' m' H' x w o := by
    obtain ⟨us, h1, h2⟩ := hs β' F' m' H' x w o
    exact ⟨us, h1, by rw [h2.length, numb_len]; exact Nat.le_refl _⟩
  yld i β' F' m' H' x H'' hi e w o y := by
    rw [numb_len] at hi
    obtain ⟨us, h1, h2⟩ := hs β' F' m' H' e w o
    obtain ⟨T, u', rfl, hT, rfl, y⟩ := y
    obtain ⟨u, e1, e2⟩ := h2.get (List.getElem?_eq_getElem hi)
    have y' := y us h1
    rw [e1] at y'; cases y'
    obtain ⟨F2, e3, w3, r3⟩ := pair_lay w hT (v := .int (i : Nat)) (x := .int (i : Nat)) (by rw [Rep]) e2
    exact ⟨_, F2, numb_get hi, e3, w3, r3⟩
theorem walkR_enumT {K : PySem.W.Frag} {mg : Str → Option Value} {β : List Addr} {F H : Hp} {xs : List Val} {a : Addr} {g : Gd} (hs : ∀ β' F' m' H', Ext β β' F F' H H' → Wld K mg β' F' m' H' → gOk g m' → ∃ us, SqT K H' a us ∧ RepL K β' F' xs us) : WalkR K mg β F H (numb xs) (IteT K a) g where
  go i β' F' m' H' hi x w o := by
    rw [numb_len] at hi
    obtain ⟨us, h1, h2⟩ := hs β' F' m' H' x w o
    exact ⟨us, us[i]'(by rw [h2.length]; exact hi), h1, List.getElem?_eq_getElem _⟩
  stop β' F' m' H' x w o := by
    obtain ⟨us, h1, h2⟩ := hs β' F' m' H' x w o
    exact ⟨us, h1, by rw [h2.length, numb_len]⟩
  yld i β' F' m' H' x H'' hi e w o y := by
    rw [numb_len] at hi
    obtain ⟨us, h1, h2⟩ := hs β' F' m' H' e w o
    obtain ⟨T, u', rfl, hT, rfl, y⟩ := y
    obtain ⟨u, e1, e2⟩ := h2.get (List.getElem?_eq_getElem hi)
    have y' := y us h1
    rw [e1] at y'; cases y'
    obtain ⟨F2, e3, w3, r3⟩ := pair_lay w hT (v := .int (i : Nat)) (x := .int (i : Nat)) (by rw [Rep]) e2
    exact ⟨_, F2, numb_get hi, e3, w3, r3⟩
/-- what is walked of a sequence: its place, and its items as they stay -/
theorem seq_stays {β F m H v x xs} {g : Gd} {m2 : Sto} (wl : Wld X.K X.mg β F m H) (r : Rep X.K β F v x) (h : itemsQ v m = .ok (xs, g) m2) : m2 = m ∧ gOk g m ∧ ∃ a, x = .ref a ∧
    ((∃ us, SqL X.K H a us) ∧ (∀ β' F' m' H', Ext β β' F F' H H' → Wld X.K X.mg β' F' m' H' → gOk g m' → ∃ us, SqL X.K H' a us ∧ RepL X.K β' F' xs us) ∨
     (∃ us, SqT X.K H a us) ∧ (∀ β' F' m' H', Ext β β' F F' H H' → Wld X.K X.mg β' F' m' H' → gOk g m' → ∃ us, SqT X.K H' a us ∧ RepL X.K β' F' xs us)) := by
  unfold itemsQ at h
  split at h
  · obtain ⟨rfl, rfl, a, us, rfl, h1, h2, h3⟩ := tup_stays wl r (m2 := m2) (by unfold itemsT; exact h)
    exact ⟨rfl, trivial, a, rfl, .inr ⟨⟨us, h1⟩, fun β' F' m' H' x w _ => ⟨us, h3 β' F' m' H' x w, h2.ext x⟩⟩⟩
  · obtain ⟨rfl, rfl, a, us, rfl, h1, h2, h3⟩ := tup_stays wl r (m2 := m2) (by unfold itemsT; exact h)
    exact ⟨rfl, trivial, a, rfl, .inr ⟨⟨us, h1⟩, fun β' F' m' H' x w _ => ⟨us, h3 β' F' m' H' x w, h2.ext x⟩⟩⟩
  · obtain rfl := itemsV_m h
    obtain ⟨a, rfl, h1, h2, h3⟩ := list_stays wl r h
    exact ⟨rfl, h2, a, rfl, .inl ⟨h1, h3⟩⟩
theorem itemsQ_x {v : Val} {m m' : Sto} {c : String} : itemsQ v m ≠ .exc c m' := by
  unfold itemsQ
  split
  · intro h; cases h
  · intro h; cases h
  · exact itemsV_x
def itA1 (g : Val → Sto → Res (List Val × Gd)) (f : AF) : IF := fun ρ m => (f ρ m).bind fun vs m1 => match vs with | [v] => g v m1 | _ => .stuck
theorem ei_enum {n : Nat} (g : Good X n) {e : Expr} {fa : AF} {p pos tpos : Pos} {elts : List Expr} {kk : Nat} (ha : EA X W [e] fa) (hg : Gl X "enumerate" := by rfl) (hs : starEach [e] X.env = [(false, eval e X.env)] := by rfl) :
    EI X W (.Tuple elts kk tpos) (.Call (.Name "enumerate" p) [e] [] pos) (itA1 enumQ fa) := by
  refine ⟨_, pi_enumA hg g.blt.enumerate ha.pa hs, fun σ H R ρ m β F er wl h => ?_⟩
  refine t_thenAI er wl h fun vs m1 β1 F1 H1 u x1 w1 r1 h1 => ?_
  split at h1
  · rename_i v
    obtain ⟨x, rfl, rx⟩ := repL1 r1
    unfold enumQ at h1
    cases hv : itemsQ v m1 with
    | ok p m2 =>
      obtain ⟨xs, gd⟩ := p
      rw [hv, Res.bind_ok] at h1
      obtain ⟨rfl, go, a, rfl, hh⟩ := seq_stays w1 rx hv
      rcases hh with ⟨⟨us, hl⟩, hs⟩ | ⟨⟨us, hl⟩, hs⟩
      · exact ⟨a, us, rfl, .inl ⟨hl, h1 β1 F1 H1 _ (Ext.refl _ _ _) w1 (walkR_enumL hs) go⟩⟩
      · exact ⟨a, us, rfl, .inr ⟨hl, h1 β1 F1 H1 _ (Ext.refl _ _ _) w1 (walkR_enumT hs) go⟩⟩
    | exc c m2 => exact (itemsQ_x hv).elim
    | stuck => rw [hv] at h1; exact h1.elim
  · exact h1.elim
end G

-- part C12
namespace G
open PySem L2 RZ
variable {X : Cx} {W : XK}

/-! ### zip -/
def zipItems (xs ys : List Val) : List Val := List.zipWith (fun a b => .wt [a, b]) xs ys
theorem zip_get {xs ys : List Val} {i : Nat} (h : i < xs.length) (h' : i < ys.length) : (zipItems xs ys)[i]? = some (.wt [xs[i], ys[i]]) := by
  simp [zipItems, List.getElem?_zipWith, h, h']
theorem zip_len (xs ys : List Val) : (zipItems xs ys).length = min xs.length ys.length := by simp [zipItems]
def zipLL (v w : Val) (m : Sto) : Res (List Val × Gd) := match v, w with
  | .tup xs, .tup ys => .ok (zipItems xs ys, none) m
  | .lst xs, .lst ys => .ok (zipItems xs ys, none) m
  | .lst xs, .ref n => match m[n]? with
    | some (.lst ys) => .ok (zipItems xs ys, some (n, .lst ys)) m
    | _ => .stuck
  | .ref n, .lst xs => match m[n]? with
    | some (.lst ys) => .ok (zipItems ys xs, some (n, .lst ys)) m
    | _ => .stuck
  | _, _ => .stuck
def itA2 (g : Val → Val → Sto → Res (List Val × Gd)) (f : AF) : IF := fun ρ m => (f ρ m).bind fun vs m1 => match vs with | [v, w] => g v w m1 | _ => .stuck
theorem walkR_zipL {K : PySem.W.Frag} {mg : Str → Option Value} {β : List Addr} {F H : Hp} {xs ys : List Val} {a b : Addr} {g : Gd}
    (hs : ∀ β' F' m' H', Ext β β' F F' H H' → Wld K mg β' F' m' H' → gOk g m' → ∃ us, SqL K H' a us ∧ RepL K β' F' xs us)
    (hs2 : ∀ β' F' m' H', Ext β β' F F' H H' → Wld K mg β' F' m' H' → gOk g m' → ∃ us, SqL K H' b us ∧ RepL K β' F' ys us) : WalkR K mg β F H (zipItems xs ys) (Itz K a b) g where
  go i β' F' m' H' hi x w o := by
    rw [zip_len] at hi
    obtain ⟨us, h1, h2⟩ := hs β' F' m' H' x w o
    obtain ⟨vs, h3, h4⟩ := hs2 β' F' m' H' x w o
    exact ⟨us, vs, us[i]'(by rw [h2.length]; omega), vs[i]'(by rw [h4.length]; omega), h1, h3, List.getElem?_eq_getElem _, List.getElem?_eq_getElem _⟩
  stop β' F' m' H' x w o := by
    obtain ⟨us, h1, h2⟩ := hs β' F' m' H' x w o
    obtain ⟨vs, h3, h4⟩ := hs2 β' F' m' H' x w o
    refine ⟨us, vs, h1, h3, ?_⟩
    rw [h2.length, h4.length, zip_len]
    omega
  yld i β' F' m' H' x H'' hi e w o y := by
    rw [zip_len] at hi
    obtain ⟨us, h1, h2⟩ := hs β' F' m' H' e w o
    obtain ⟨vs, h3, h4⟩ := hs2 β' F' m' H' e w o
    have hi1 : i < xs.length := by omega
    have hi2 : i < ys.length := by omega
    obtain ⟨T, u1, u2, rfl, hT, rfl, y1, y2⟩ := y
    obtain ⟨u, e1, e2⟩ := h2.get (List.getElem?_eq_getElem hi1)
    obtain ⟨u', e1', e2'⟩ := h4.get (List.getElem?_eq_getElem hi2)
    have y' := y1 us h1
    rw [e1] at y'; cases y'
    have y' := y2 vs h3
    rw [e1'] at y'; cases y'
    obtain ⟨F2, e3, w3, r3⟩ := pair_lay w hT e2 e2'
    exact ⟨_, F2, zip_get hi1 hi2, e3, w3, r3⟩
theorem walkR_zipT {K : PySem.W.Frag} {mg : Str → Option Value} {β : List Addr} {F H : Hp} {xs ys : List Val} {a b : Addr} {g : Gd}
    (hs : ∀ β' F' m' H', Ext β β' F F' H H' → Wld K mg β' F' m' H' → gOk g m' → ∃ us, SqT K H' a us ∧ RepL K β' F' xs us)
    (hs2 : ∀ β' F' m' H', Ext β β' F F' H H' → Wld K mg β' F' m' H' → gOk g m' → ∃ us, SqT K H' b us ∧ RepL K β' F' ys us) : WalkR K mg β F H (zipItems xs ys) (ItzT K a b) g where
  go i β' F' m' H' hi x w o := by
    rw [zip_len] at hi
    obtain ⟨us, h1, h2⟩ := hs β' F' m' H' x w o
    obtain ⟨vs, h3, h4⟩ := hs2 β' F' m' H' x w o
    exact ⟨us, vs, us[i]'(by rw [h2.length]; omega), vs[i]'(by rw [h4.length]; omega), h1, h3, List.getElem?_eq_getElem _, List.getElem?_eq_getElem _⟩
  stop β' F' m' H' x w o := by
    obtain ⟨us, h1, h2⟩ := hs β' F' m' H' x w o
    obtain ⟨vs, h3, h4⟩ := hs2 β' F' m' H' x w o
    refine ⟨us, vs, h1, h3, ?_⟩
    rw [h2.length, h4.length, zip_len]
    omega
  yld i β' F' m' H' x H'' hi e w o y := by
    rw [zip_len] at hi
    obtain ⟨us, h1, h2⟩ := hs β' F' m' H' e w o
    obtain ⟨vs, h3, h4⟩ := hs2 β' F' m' H' e w o
    have hi1 : i < xs.length := by omega
    have hi2 : i < ys.length := by omega
    obtain ⟨T, u1, u2, rfl, hT, rfl, y1, y2⟩ := y
    obtain ⟨u, e1, e2⟩ := h2.get (List.getElem?_eq_getElem hi1)
    obtain ⟨u', e1', e2'⟩ := h4.get (List.getElem?_eq_getElem hi2)
    have y' := y1 us h1
    rw [e1] at y'; cases y'
    have y' := y2 vs h3
    rw [e1'] at y'; cases y'
    obtain ⟨F2, e3, w3, r3⟩ := pair_lay w hT e2 e2'
    exact ⟨_, F2, zip_get hi1 hi2, e3, w3, r3⟩
theorem lst_still {K : PySem.W.Frag} {mg : Str → Option Value} {β : List Addr} {F : Hp} {m : Sto} {H : Hp} (wl : Wld K mg β F m H) {xs : List Val} {x : V} (r : Rep K β F (.lst xs) x) (g : Gd) : ∃ a, x = .ref a ∧ (∃ us, SqL K H a us) ∧ ∀ β' F' m' H', Ext β β' F F' H H' → Wld K mg β' F' m' H' → gOk g m' → ∃ us, SqL K H' a us ∧ RepL K β' F' xs us := by
  rw [Rep] at r
  obtain ⟨a, us, rfl, ha, hu⟩ := r
  exact ⟨a, rfl, ⟨us, .of (wl.sub _ _ ha)⟩, fun β' F' m' H' x w _ => ⟨us, .of (w.sub _ _ (x.sub _ _ ha)), hu.ext x⟩⟩
theorem cell_still {K : PySem.W.Frag} {mg : Str → Option Value} {β : List Addr} {F : Hp} {m : Sto} {H : Hp} (wl : Wld K mg β F m H) {n : Nat} {xs : List Val} {x : V} (hm : m[n]? = some (.lst xs)) (r : Rep K β F (.ref n) x) : ∃ a, x = .ref a ∧ (∃ us, SqL K H a us) ∧ ∀ β' F' m' H', Ext β β' F F' H H' → Wld K mg β' F' m' H' → gOk (some (n, .lst xs)) m' → ∃ us, SqL K H' a us ∧ RepL K β' F' xs us := by
  rw [Rep] at r
  obtain ⟨a, rfl, e2⟩ := r
  obtain ⟨q, h2, vs, rfl, h4⟩ := wl.at' n a _ e2 hm
  refine ⟨a, rfl, ⟨vs, .of h2⟩, fun β' F' m' H' x w o => ?_⟩
  obtain ⟨q, h2, vs, rfl, h4⟩ := w.at' n a _ (x.get e2) o
  exact ⟨vs, .of h2, h4⟩
theorem ei_zip {n : Nat} (g : Good X n) {e e2 : Expr} {fa : AF} {p pos tpos : Pos} {elts : List Expr} {kk : Nat} (ha : EA X W [e, e2] fa) (hg : Gl X "zip" := by rfl)
    (hs : starEach [e, e2] X.env = (false, eval e X.env) :: starEach [e2] X.env := by rfl) (hpl : (backTo pos (starEach [e2] X.env)).any (·.1) = false := by rfl) :
    EI X W (.Tuple elts kk tpos) (.Call (.Name "zip" p) [e, e2] [] pos) (itA2 zipLL fa) := by
  refine ⟨_, pi_zipA hg g.blt.zip ha.pa hs hpl, fun σ H R ρ m β F er wl h => ?_⟩
  refine t_thenAI er wl h fun vs m1 β1 F1 H1 u x1 w1 r1 h1 => ?_
  split at h1
  · rename_i v w
    obtain ⟨x, y, rfl, rx, ry⟩ := repL2 r1
    unfold zipLL at h1
    split at h1
    · rename_i xs ys
      obtain ⟨_, _, a, us, rfl, hl, hu, hs⟩ := tup_stays w1 rx (xs := xs) (m2 := m1) rfl
      obtain ⟨_, _, b, us2, rfl, hl2, hu2, hs2⟩ := tup_stays w1 ry (xs := ys) (m2 := m1) rfl
      exact ⟨a, b, us, us2, rfl, .inr ⟨hl, hl2, h1 β1 F1 H1 _ (Ext.refl _ _ _) w1 (walkR_zipT (fun β' F' m' H' x w _ => ⟨us, hs β' F' m' H' x w, hu.ext x⟩) (fun β' F' m' H' x w _ => ⟨us2, hs2 β' F' m' H' x w, hu2.ext x⟩)) trivial⟩⟩
    · rename_i xs ys
      obtain ⟨a, rfl, ⟨us, hl⟩, hs⟩ := lst_still w1 rx none
      obtain ⟨b, rfl, ⟨us2, hl2⟩, hs2⟩ := lst_still w1 ry none
      exact ⟨a, b, us, us2, rfl, .inl ⟨hl, hl2, h1 β1 F1 H1 _ (Ext.refl _ _ _) w1 (walkR_zipL hs hs2) trivial⟩⟩
    · rename_i xs k
      split at h1
      · rename_i ys hm
        obtain ⟨a, rfl, ⟨us, hl⟩, hs⟩ := lst_still w1 rx (some (k, .lst ys))
        obtain ⟨b, rfl, ⟨us2, hl2⟩, hs2⟩ := cell_still w1 hm ry
        exact ⟨a, b, us, us2, rfl, .inl ⟨hl, hl2, h1 β1 F1 H1 _ (Ext.refl _ _ _) w1 (walkR_zipL hs hs2) hm⟩⟩
      · exact h1.elim
    · rename_i k xs
      split at h1
      · rename_i ys hm
        obtain ⟨a, rfl, ⟨us, hl⟩, hs⟩ := cell_still w1 hm rx
        obtain ⟨b, rfl, ⟨us2, hl2⟩, hs2⟩ := lst_still w1 ry (some (k, .lst ys))
        exact ⟨a, b, us, us2, rfl, .inl ⟨hl, hl2, h1 β1 F1 H1 _ (Ext.refl _ _ _) w1 (walkR_zipL hs hs2) hm⟩⟩
      · exact h1.elim
    · exact h1.elim
  · exact h1.elim
end G

-- part C13
namespace G
open PySem L2 RZ
variable {X : Cx} {W : XK}

/-! ### dicts: putting, dropping, merging -/
def dputV (kvs : List (Val × Val)) (k v : Val) : List (Val × Val) :=
  if (kvs.any fun p => veq p.1 k) = true then kvs.map (fun p => if veq p.1 k = true then (p.1, v) else p) else kvs ++ [(k, v)]
def dropV (kvs : List (Val × Val)) (k : Val) : List (Val × Val) := kvs.filter fun p => !veq p.1 k
def mergeV (kvs more : List (Val × Val)) : List (Val × Val) := more.foldl (fun acc p => dputV acc p.1 p.2) kvs
section
variable {K : PySem.W.Frag} {β : List Addr} {F : Hp}
theorem repD_append : ∀ {vs ws : List (Val × Val)} {us xs : List (Val × V)}, RepD K β F vs us → RepD K β F ws xs → RepD K β F (vs ++ ws) (us ++ xs)
  | [], _, _, _, h, g => by rw [RepD] at h; subst h; exact g
  | v :: vs, ws, us, xs, h, g => by
    rw [RepD] at h
    obtain ⟨u, r, rfl, h1, h2⟩ := h
    rw [List.cons_append, RepD]
    exact ⟨u, r ++ xs, rfl, h1, repD_append h2 g⟩
theorem repD_one {k v : Val} {u : V} (r : Rep K β F v u) : RepD K β F [(k, v)] [(k, u)] := by
  rw [RepD]
  exact ⟨(k, u), [], rfl, by rw [RepP]; exact ⟨rfl, r⟩, by rw [RepD]⟩
/-- a map over the pairs that keeps the keys -/
theorem repD_map {k v : Val} {u : V} (rv : Rep K β F v u) : ∀ {kvs : List (Val × Val)} {ks : List (Val × V)}, RepD K β F kvs ks →
    RepD K β F (kvs.map fun p => if veq p.1 k = true then (p.1, v) else p) (ks.map fun p => if veq p.1 k = true then (p.1, u) else p)
  | [], _, h => by rw [RepD] at h; subst h; simp [RepD]
  | (q, w) :: kvs, ks, h => by
    rw [RepD] at h
    obtain ⟨p, r, rfl, h1, h2⟩ := h
    obtain ⟨q', u'⟩ := p
    rw [RepP] at h1
    obtain ⟨rfl, h1⟩ := h1
    rw [List.map_cons, List.map_cons, RepD]
    refine ⟨_, _, rfl, ?_, repD_map rv h2⟩
    simp only
    split <;> (rw [RepP]; first | exact ⟨rfl, rv⟩ | exact ⟨rfl, h1⟩)
theorem repD_any {f : Val → Bool} : ∀ {kvs : List (Val × Val)} {ks : List (Val × V)}, RepD K β F kvs ks → (kvs.any fun p => f p.1) = (ks.any fun p => f p.1)
  | [], _, h => by rw [RepD] at h; subst h; rfl
  | (q, w) :: kvs, ks, h => by
    rw [RepD] at h
    obtain ⟨p, r, rfl, h1, h2⟩ := h
    obtain ⟨q', u'⟩ := p
    rw [RepP] at h1
    obtain ⟨rfl, h1⟩ := h1
    simp only [List.any_cons, repD_any h2]
theorem repD_filter {f : Val → Bool} : ∀ {kvs : List (Val × Val)} {ks : List (Val × V)}, RepD K β F kvs ks → RepD K β F (kvs.filter fun p => f p.1) (ks.filter fun p => f p.1)
  | [], _, h => by rw [RepD] at h; subst h; simp [RepD]
  | (q, w) :: kvs, ks, h => by
    rw [RepD] at h
    obtain ⟨p, r, rfl, h1, h2⟩ := h
    obtain ⟨q', u'⟩ := p
    rw [RepP] at h1
    obtain ⟨rfl, h1⟩ := h1
    simp only [List.filter_cons]
    split
    · rw [RepD]; exact ⟨_, _, rfl, by rw [RepP]; exact ⟨rfl, h1⟩, repD_filter h2⟩
    · exact repD_filter h2
theorem repD_put {k v : Val} {u : V} (rv : Rep K β F v u) {kvs : List (Val × Val)} {ks : List (Val × V)} (h : RepD K β F kvs ks) :
    RepD K β F (dputV kvs k v) (if (ks.any fun p => veq p.1 k) = true then ks.map (fun p => if veq p.1 k = true then (p.1, u) else p) else ks ++ [(k, u)]) := by
  unfold dputV
  rw [repD_any (f := fun q => veq q k) h]
  split
  · exact repD_map rv h
  · exact repD_append h (repD_one rv)
end
theorem putK_map1 (ks : List (Key × V)) (k : Key) (u : V) : (putK ks k u).map (fun p => (kVal p.1, p.2)) =
    (if ((ks.map fun p => (kVal p.1, p.2)).any fun p => veq p.1 (kVal k)) = true then (ks.map fun p => (kVal p.1, p.2)).map (fun p => if veq p.1 (kVal k) = true then (p.1, u) else p) else (ks.map fun p => (kVal p.1, p.2)) ++ [(kVal k, u)]) := by
  unfold putK
  have e : ((ks.map fun p => (kVal p.1, p.2)).any fun p => veq p.1 (kVal k)) = (ks.any fun kv => decide (kv.1 = k)) := by
    rw [List.any_map]
    congr 1
    funext p
    exact kVal_veq _ _
  rw [e]
  split
  · rw [List.map_map, List.map_map]
    apply List.map_congr_left
    intro p _
    simp only [Function.comp, kVal_veq, decide_eq_true_eq]
    split <;> rfl
  · simp
theorem putK_map2 (ks : List (List Key × V)) (k : List Key) (u : V) : (putK ks k u).map (fun p => (Val.tup (p.1.map kVal), p.2)) =
    (if ((ks.map fun p => (Val.tup (p.1.map kVal), p.2)).any fun p => veq p.1 (.tup (k.map kVal))) = true then (ks.map fun p => (Val.tup (p.1.map kVal), p.2)).map (fun p => if veq p.1 (.tup (k.map kVal)) = true then (p.1, u) else p) else (ks.map fun p => (Val.tup (p.1.map kVal), p.2)) ++ [(.tup (k.map kVal), u)]) := by
  unfold putK
  have e : ((ks.map fun p => (Val.tup (p.1.map kVal), p.2)).any fun p => veq p.1 (.tup (k.map kVal))) = (ks.any fun kv => decide (kv.1 = k)) := by
    rw [List.any_map]
    congr 1
    funext p
    simp only [Function.comp, veq]
    exact kVals_veq _ _
  rw [e]
  split
  · rw [List.map_map, List.map_map]
    apply List.map_congr_left
    intro p _
    simp only [Function.comp, veq, kVals_veq, decide_eq_true_eq]
    split <;> rfl
  · simp
theorem dropK_map1 (ks : List (Key × V)) (k : Key) : (dropK ks k).map (fun p => (kVal p.1, p.2)) = (ks.map fun p => (kVal p.1, p.2)).filter (fun p => !veq p.1 (kVal k)) := by
  unfold dropK
  rw [List.filter_map]
  congr 1
  apply List.filter_congr
  intro p _
  simp only [Function.comp, kVal_veq]
  by_cases h : p.1 = k <;> simp [h]

/-! ### new cells -/
theorem Wld.adopt {K : PySem.W.Frag} {mg : Str → Option Value} {β β1 : List Addr} {F F1 H H2 : Hp} {m : Sto} (x : Ext β β1 F F1 H H2) (w : Wld K mg β1 F1 m H2) {p : Addr} (hp : H p = none) (hF : F1 p = none) (hb : p ∉ β1) {o : HO} {c : Cell} (hc : CellAt K mg β1 F1 c o) :
    Ext β (β1 ++ [p]) F F1 H (upd H2 p o) ∧ Wld K mg (β1 ++ [p]) F1 (m ++ [c]) (upd H2 p o) ∧ Rep K (β1 ++ [p]) F1 (.ref m.length) (.ref p) := by
  have z := ext0 (β := β1) (β' := β1 ++ [p]) (F := F1) (F' := F1) [p] rfl fun _ _ e => e
  have w' := w.putBeside hF hb o
  obtain ⟨⟨γ, rfl, hn⟩, h1, h2, h3, h4⟩ := x
  refine ⟨⟨⟨γ ++ [p], by simp, fun b hb' => ?_⟩, h1, fun a q e nb => ?_, fun a e => ?_, h4⟩, ⟨w'.sub, by have := w.len; simp at this ⊢; omega, ?_, fun a ha => ?_, fun n a d e1 e2 => ?_⟩, ?_⟩
  · rcases List.mem_append.mp hb' with hb' | hb'
    · exact hn b hb'
    · rw [List.mem_singleton] at hb'; rw [hb']; exact hp
  · rw [upd_ne (ne_of_none e hp)]; exact h2 a q e nb
  · by_cases ha : a = p
    · subst ha; exact absurd hp e
    · rw [upd_ne ha]; exact h3 a e
  · rw [List.nodup_append]
    exact ⟨w.nd, by simp, fun a ha b hb' => by
      rw [List.mem_singleton] at hb'
      subst hb'
      exact fun z => hb (z ▸ ha)⟩
  · rcases List.mem_append.mp ha with ha | ha
    · exact w.off a ha
    · rw [List.mem_singleton] at ha; rw [ha]; exact hF
  · by_cases hk : n < (β ++ γ).length
    · rw [List.getElem?_append_left hk] at e1
      rw [List.getElem?_append_left (by rw [← w.len]; exact hk)] at e2
      obtain ⟨q, e3, e4⟩ := w'.at' n a d e1 e2
      exact ⟨q, e3, e4.ext z⟩
    · have hk' : n = (β ++ γ).length := by
        have := (List.getElem?_eq_some_iff.mp e1).1
        simp at this ⊢; simp at hk; omega
      subst hk'
      rw [List.getElem?_append_right (Nat.le_refl _)] at e1
      rw [w.len, List.getElem?_append_right (Nat.le_refl _)] at e2
      simp at e1 e2
      subst e1 e2
      exact ⟨o, upd_same, hc.ext z⟩
  · rw [Rep]
    exact ⟨p, rfl, by rw [← w.len]; simp⟩
/-- a written list, as a cell -/
def lstNF (f : AF) : EF := fun ρ m => (f ρ m).bind fun vs m1 => if vs.length ≤ sizeLine then .ok (.ref m1.length) (m1 ++ [.lst vs]) else .stuck
theorem ee_lstN {es : List Expr} {pos} {f : AF} (h : EA X W es f) : EE X W (.List es pos) (lstNF f) := by
  refine ⟨pe_imp (pe_lst h.pa) fun σ H Q ⟨ρ, m, β, F, er, wl, h⟩ => ?_⟩
  refine t_thenA er wl h fun a m1 β1 F1 H1 u x1 w1 r1 h1 => ?_
  split at h1
  · rename_i hz
    refine ⟨by rw [r1.length]; exact hz, fun p hp => ?_⟩
    obtain ⟨x2, w2, r2⟩ := w1.new hp (o := .lst u) (c := .lst a) ⟨u, rfl, r1⟩
    exact h1 _ _ _ _ x2 w2 r2
  · exact h1.elim
/-- {}: a cell of the kind told -/
def dctNF (t : Kd) : EF := fun _ m => .ok (.ref m.length) (m ++ [.dct t []])
theorem ee_dctNK {pos} : EE X W (.Dict [] [] pos) (dctNF .k) := by
  refine ⟨pe_imp pe_dnewK fun σ H Q ⟨ρ, m, β, F, er, wl, h⟩ => ?_⟩
  intro p hp
  obtain ⟨x2, w2, r2⟩ := wl.new hp (o := .dK []) (c := .dct .k []) ⟨[], ⟨[], rfl, rfl⟩, by rw [RepD]⟩
  exact h _ _ _ _ x2 w2 r2
theorem ee_dctNT {pos} : EE X W (.Dict [] [] pos) (dctNF .t) := by
  refine ⟨pe_imp pe_dnewT fun σ H Q ⟨ρ, m, β, F, er, wl, h⟩ => ?_⟩
  intro p hp
  obtain ⟨x2, w2, r2⟩ := wl.new hp (o := .dT []) (c := .dct .t []) ⟨[], ⟨[], rfl, rfl⟩, by rw [RepD]⟩
  exact h _ _ _ _ x2 w2 r2

/-! ### written dicts -/
abbrev PF := Env → Sto → Res (List (Val × Val))
def nilPr : PF := fun _ m => .ok [] m
def consPr (fk fv : EF) (fr : PF) : PF := fun ρ m => (fk ρ m).bind fun a m1 => (fv ρ m1).bind fun b m2 => (fr ρ m2).bind fun r m3 => .ok ((a, b) :: r) m3
/-- what stands at p is kept: pairs -/
inductive EPr (X : Cx) (W : XK) (pos : Pos) : List (Option Expr) → List Expr → List (TE × TE) → PF → Prop
  | nil : EPr X W pos [] [] [] nilPr
  | cons {k v : Expr} {ks : List (Option Expr)} {vs : List Expr} {trs : List (TE × TE)} {fk fv : EF} {fr : PF} : EE X W k fk → EE X W v fv → EPr X W pos ks vs trs fr →
      EPr X W pos (some k :: ks) (v :: vs) ((tEF X (wx W) fk, tEF X (wx W) fv) :: trs) (consPr fk fv fr)
theorem EPr.pps {pos : Pos} {ks : List (Option Expr)} {vs : List Expr} {trs : List (TE × TE)} {f : PF} (h : EPr X W pos ks vs trs f) : PPs X pos ks vs trs := by
  induction h with
  | nil => exact pps_nil
  | cons hk hv _ ih => exact pps_cons hk.pe hv.pe ih
/-- pairs of values -/
def RepPs (K : PySem.W.Frag) (β : List Addr) (F : Hp) (ps : List (Val × Val)) (us : List (V × V)) : Prop := RepL K β F (ps.map (·.1)) (us.map (·.1)) ∧ RepL K β F (ps.map (·.2)) (us.map (·.2))
def FinP (X : Cx) (W : XK) (β : List Addr) (F H : Hp) (r : Res (List (Val × Val))) (Q : List (V × V) → Hp → Prop) : Prop :=
  match r with
  | .ok v m => ∀ β' F' H' u, Ext β β' F F' H H' → Wld X.K X.mg β' F' m H' → RepPs X.K β' F' v u → Q u H'
  | .exc c m => ∀ β' F' H', Ext β β' F F' H H' → Wld X.K X.mg β' F' m H' → ∃ C, X.mg c = some (.ref C) ∧ W (.ref C) none H'
  | .stuck => False
theorem FinP.ext {β β1 : List Addr} {F F1 H H1 : Hp} {r : Res (List (Val × Val))} {Q : List (V × V) → Hp → Prop} (e : Ext β β1 F F1 H H1) (h : FinP X W β F H r Q) : FinP X W β1 F1 H1 r Q := by
  cases r with
  | ok v m => exact fun β' F' H' u x w q => h β' F' H' u (e.trans x) w q
  | exc c m => exact fun β' F' H' x w => h β' F' H' (e.trans x) w
  | stuck => exact h
theorem t_thenP {fa : EF} {k : Val → Sto → Res (List (Val × Val))} {σ : L2.St} {H : Hp} {Q : List (V × V) → Hp → Prop} {Q1 : VK} {ρ : Env} {m : Sto} {β : List Addr} {F : Hp} (er : ER X.K β F ρ σ) (wl : Wld X.K X.mg β F m H) (h : FinP X W β F H ((fa ρ m).bind k) Q)
    (hk : ∀ a m1 β' F' H' u, Ext β β' F F' H H' → Wld X.K X.mg β' F' m1 H' → Rep X.K β' F' a u → FinP X W β' F' H' (k a m1) Q → Q1 u H') : tEF X (wx W) fa σ H Q1 := by
  refine ⟨ρ, m, β, F, er, wl, ?_⟩
  generalize hr : fa ρ m = r at h
  cases r with
  | ok a m1 => exact fun β' F' H' u x w q => hk a m1 β' F' H' u x w q (FinP.ext x h)
  | exc c m1 => exact h
  | stuck => exact h
theorem pairs_read {pos : Pos} {ks : List (Option Expr)} {vs : List Expr} {trs : List (TE × TE)} {f : PF} (h : EPr X W pos ks vs trs f) :
    ∀ {σ : L2.St} {H : Hp} {Q : List (V × V) → Hp → Prop} {ρ : Env} {m : Sto} {β : List Addr} {F : Hp}, ER X.K β F ρ σ → Wld X.K X.mg β F m H → FinP X W β F H (f ρ m) Q → tPairs trs σ H Q := by
  induction h with
  | nil =>
    intro σ H Q ρ m β F er wl h
    exact h β F H [] (Ext.refl _ _ _) wl ⟨by simp [RepL], by simp [RepL]⟩
  | cons hk1 hv1 hr ih =>
    rename_i fk fv fr
    intro σ H Q ρ m β F er wl h
    refine t_thenP er wl h fun a m1 β1 F1 H1 u x1 w1 r1 h1 => ?_
    refine t_thenP (er.ext x1) w1 h1 fun b m2 β2 F2 H2 u2 x2 w2 r2 h2 => ?_
    refine ih (er.ext (x1.trans x2)) w2 ?_
    generalize fr ρ m2 = rr at h2 ⊢
    cases rr with
    | ok ps m3 =>
      intro β3 F3 H3 us x3 w3 r3
      refine h2 β3 F3 H3 ((u, u2) :: us) x3 w3 ⟨?_, ?_⟩
      · rw [List.map_cons, List.map_cons, RepL]; exact ⟨_, _, rfl, r1.ext (x2.trans x3), r3.1⟩
      · rw [List.map_cons, List.map_cons, RepL]; exact ⟨_, _, rfl, r2.ext x3, r3.2⟩
    | exc c m3 => exact h2
    | stuck => exact h2
theorem mergeK_rep {K : PySem.W.Frag} {β : List Addr} {F : Hp} : ∀ {ps : List (Val × Val)} {us : List (V × V)} {acc : List (Val × Val)} {ks : List (Key × V)}, RepPs K β F ps us → (ps.all fun p => kfit1 p.1) = true → RepD K β F acc (ks.map fun p => (kVal p.1, p.2)) →
    ∃ kvs : List (Key × V), us = kvs.map (fun kv => (kV kv.1, kv.2)) ∧ RepD K β F (mergeV acc ps) ((mergeK ks kvs).map fun p => (kVal p.1, p.2))
  | [], us, acc, ks, h, _, r => by
    have e := h.1.length
    simp at e
    subst e
    exact ⟨[], rfl, r⟩
  | (a, b) :: ps, us, acc, ks, h, hf, r => by
    cases us with
    | nil => have := h.1.length; simp at this
    | cons u us =>
      obtain ⟨h1, h2⟩ := h
      rw [List.map_cons, List.map_cons, RepL] at h1 h2
      obtain ⟨_, _, e1, ra, h1⟩ := h1
      obtain ⟨_, _, e2, rb, h2⟩ := h2
      cases e1
      cases e2
      simp only [List.all_cons, Bool.and_eq_true] at hf
      obtain ⟨k, hk1, hk2⟩ := kfit1_key ra hf.1
      simp only at hk1
      subst hk1
      have r2 := repD_put (k := kVal k) rb r
      rw [← putK_map1] at r2
      obtain ⟨kvs, e3, r3⟩ := mergeK_rep (ks := putK ks k u.2) ⟨h1, h2⟩ hf.2 r2
      exact ⟨(k, u.2) :: kvs, by rw [List.map_cons, ← hk2, e3], r3⟩
def dispF (f : PF) : EF := fun ρ m => (f ρ m).bind fun ps m1 => if (ps.all fun p => kfit1 p.1) = true ∧ ps.length ≤ 15 then .ok (.ref m1.length) (m1 ++ [.dct .k (mergeV [] ps)]) else .stuck
theorem ee_disp {pos : Pos} {keys : List (Option Expr)} {values : List Expr} {trs : List (TE × TE)} {f : PF} (h : EPr X W pos keys values trs f) (hall : keys.all (·.isSome) = true := by rfl) (hl : keys.length = values.length := by rfl) (h0 : keys ≠ [] := by exact List.cons_ne_nil _ _)
    (h15 : keys.length ≤ 15 := by decide) : EE X W (.Dict keys values pos) (dispF f) := by
  refine ⟨pe_imp (pe_disp h.pps hall hl h0 h15) fun σ H Q ⟨ρ, m, β, F, er, wl, q⟩ => ?_⟩
  intro p hp
  obtain ⟨x0, w0⟩ := wl.beside hp (.dK [])
  unfold dispF at q
  refine pairs_read h (er.ext x0) w0 ?_
  generalize f ρ m = rr at q
  cases rr with
  | exc c m1 => exact fun β' F' H' x w => q β' F' H' (x0.trans x) w
  | stuck => exact q
  | ok ps m1 =>
    intro β1 F1 H1 us x1 w1 r1
    obtain ⟨d1, f1, b1⟩ := x1.besideStays upd_same (wl.none_of hp) (wl.ne_of hp)
    refine ⟨d1, ?_⟩
    rw [Res.bind_ok] at q
    split at q
    · rename_i hc
      obtain ⟨kvs, e, r2⟩ := mergeK_rep (acc := []) (ks := []) r1 hc.1 (by simp [RepD])
      refine ⟨kvs, e, ?_, ?_⟩
      · have := r1.1.length
        rw [e] at this
        simp at this
        omega
      · obtain ⟨x2, w2, r3⟩ := Wld.adopt (x0.trans x1) w1 hp f1 b1 (o := .dK (mergeK [] kvs)) (c := .dct .k (mergeV [] ps)) ⟨_, ⟨_, rfl, rfl⟩, r2⟩
        exact q _ _ _ _ x2 w2 r3
    · exact q.elim
end G

-- part C14
set_option maxHeartbeats 4000000
namespace G
open PySem L2 RZ
variable {X : Cx} {W : XK}

/-! ### tuple * int, any -/
section
open PyProof.Rows
theorem tuple_mulS (l : Addr) (items : Array Value) (n : Nat) (dd : Option Addr) (sl : Array (Option Value)) (x : Int) (u : Tok) (c0 : (decide (x < -(2 ^ 63)) || decide (x ≥ 2 ^ 63)) = false) (c1 : (items.isEmpty || x == 1) = true) :
    Meets (Builtin.«tuple.__mul__» ⟨[.ref l, .int x u], []⟩) (fun _ R s => s.heap.get? l = some { cls := .type "tuple", dict := dd, data := .seq items n, slots := sl } ∧
      R (.ok (.ret (.ref l))) s) :=
  .of_wp fun prog w A R s h => by
    obtain ⟨hp, g, d, tk, os⟩ := s
    obtain ⟨hl, h⟩ := h
    have f1 := AutoSeq1.idx_int
    wp_walk using wpAny_loadPart' hl
    repeat (first
      | (refine wpAny_ite_false (decide_eq_false (by rw [c0]; exact Bool.false_ne_true)) ?_; wp_walk using wpAny_loadPart' hl)
      | (refine wpAny_ite_true (decide_eq_true (by rw [c1])) ?_; wp_walk using wpAny_loadPart' hl)
      | (rw [if_pos c1]; wp_walk using wpAny_loadPart' hl))
    exact ⟨_, rfl, h⟩
theorem tuple_mul0 (l : Addr) (items : Array Value) (n : Nat) (dd : Option Addr) (sl : Array (Option Value)) (x : Int) (u : Tok) (c0 : (decide (x < -(2 ^ 63)) || decide (x ≥ 2 ^ 63)) = false) (c1 : (items.isEmpty || x == 1) = false) (c2 : (decide (x ≤ 0) || items.isEmpty) = true) :
    Meets (Builtin.«tuple.__mul__» ⟨[.ref l, .int x u], []⟩) (fun _ R s => s.heap.get? l = some { cls := .type "tuple", dict := dd, data := .seq items n, slots := sl } ∧
      R (.ok (.ret (Value.ref s.heap.objs.size))) { s with heap := s.heap.push { cls := Value.type "tuple", data := Data.seq #[] }, toks := s.toks }) :=
  .of_wp fun prog w A R s h => by
    obtain ⟨hp, g, d, tk, os⟩ := s
    obtain ⟨hl, h⟩ := h
    have f1 := AutoSeq1.idx_int
    wp_walk using wpAny_loadPart' hl
    repeat (first
      | (refine wpAny_ite_false (decide_eq_false (by rw [c0]; exact Bool.false_ne_true)) ?_; wp_walk using wpAny_loadPart' hl)
      | (refine wpAny_ite_false (decide_eq_false (by rw [c1]; exact Bool.false_ne_true)) ?_; wp_walk using wpAny_loadPart' hl)
      | (refine wpAny_ite_true (decide_eq_true (by rw [c2])) ?_; wp_walk using wpAny_loadPart' hl)
      | (rw [if_pos c2]; wp_walk using wpAny_loadPart' hl))
    exact ⟨_, rfl, h⟩
end
def rRepN (K : PySem.W.Frag) : R2 := fun x y H Q => ∃ l k xs, x = .ref l ∧ y = .int k ∧ SqT K H l xs ∧ xs ≠ [] ∧ 2 ≤ k ∧ k ≤ 1000 ∧ xs.length ≤ 1000 ∧ NewT H (List.replicate k.toNat xs).flatten Q
theorem op_repN : OpR X (binaryOp .Mult) (rRepN X.K) := by
  intro pins s σ H x y v u Q I rx ry h
  obtain ⟨l, k, xs, rfl, rfl, hT, hne, h1, h2, hz, q⟩ := h
  cases rx
  obtain ⟨t, rfl⟩ := ry
  obtain ⟨its, r, ⟨⟨cls, dd, data, sl⟩, ho, hc, n, hd⟩, hs⟩ := I.tuple hT
  simp only at hc hd
  subst hc hd
  have hle : its.length = xs.length := r.length.symm
  have hi : its.toArray.isEmpty = false := by
    cases its with
    | nil => exact absurd (List.eq_nil_of_length_eq_zero hle.symm) hne
    | cons a b => rfl
  have hsz0 : its.toArray.size = xs.length := by rw [List.size_toArray, hle]
  have hm : ((its.toArray.size : Nat) : Int) * k ≤ 1000000 := by
    rw [hsz0]
    have a1 : ((xs.length : Nat) : Int) * k ≤ 1000 * k := Int.mul_le_mul_of_nonneg_right (by omega) (by omega)
    omega
  have flen : (List.replicate k.toNat its).flatten.length ≤ sizeLine := by
    rw [PyProof.Rows.lm_len_rep_flat, hle, sizeLine_eq]
    have a1 : k.toNat * xs.length ≤ 1000 * 1000 := Nat.mul_le_mul (by omega) hz
    omega
  have c0 : (decide (k < -(2 ^ 63)) || decide (k ≥ 2 ^ 63)) = false := by
    rw [decide_eq_false (by omega), decide_eq_false (by omega)] <;> rfl
  have c1 : (its.toArray.isEmpty || k == 1) = false := by
    rw [hi, Bool.false_or]
    exact beq_eq_false_iff_ne.mpr (by omega)
  have c2 : (decide (k ≤ 0) || its.toArray.isEmpty) = false := by
    rw [hi, Bool.or_false]
    exact decide_eq_false (by omega)
  have c4 : Builtin.Tuple.tupleTooMany (((its.toArray.size : Nat) : Int) * k) = false := by
    unfold Builtin.Tuple.tupleTooMany
    rw [sizeLine_eq]
    exact decide_eq_false (by omega)
  refine wpAny_binaryOp_repeat_ref (T := "tuple") (U := "int") (by decide) ⟨_, ho, rfl⟩ (fun s' => typeIs_int s' k t) noFill_tuple_mul F.fills_int_mul F.slot_int_rmul repeat_tuple F.slot_int_index.lookup
    (call_meets F.slot_int_rmul (typeIs_int s k t) F.entry_int_rmul (F.args_int_rmul_2 _ _) (int_rmul_tuple k t l its.toArray n dd sl)
      ⟨ho, rfl, ⟨_, ho, rfl⟩, call_meets F.slot_tuple_mul ⟨_, ho, rfl⟩ F.entry_tuple_mul (F.args_tuple_mul_2 _ _) (tuple_mulW l its.toArray n dd sl k t c0 c1 c2 (by omega) c4 (by rw [size_rep, List.size_toArray]; exact flen)) ⟨ho, ?_⟩⟩)
  rw [size_rep]
  exact q.end I (r.rep k.toNat) (by rw [PyProof.Rows.lm_len_rep_flat, sizeLine_eq]; have a1 : k.toNat * xs.length ≤ 1000 * 1000 := Nat.mul_le_mul (by omega) hz; omega)
def rRepTA (K : PySem.W.Frag) : R2 := fun x y H Q => rRepN K x y H Q ∨ (∃ l k xs, x = .ref l ∧ y = .int k ∧ SqT K H l xs ∧ -(2 ^ 63) ≤ k ∧ k < 2 ^ 63 ∧ (xs = [] ∨ k = 1) ∧ Q (.ref l) H) ∨
  ∃ l k xs, x = .ref l ∧ y = .int k ∧ SqT K H l xs ∧ -(2 ^ 63) ≤ k ∧ k ≤ 0 ∧ xs ≠ [] ∧ NewT H [] Q
theorem op_repTA : OpR X (binaryOp .Mult) (rRepTA X.K) := by
  refine op_repN.or (OpR.or ?_ ?_)
  · intro pins s σ H x y v u Q I rx ry h
    obtain ⟨l, k, xs, rfl, rfl, hT, h1, h2, hne, q⟩ := h
    cases rx
    obtain ⟨t, rfl⟩ := ry
    obtain ⟨its, r, ⟨⟨cls, dd, data, sl⟩, ho, hc, n, hd⟩, hs⟩ := I.tuple hT
    simp only at hc hd
    subst hc hd
    have hle : its.length = xs.length := r.length.symm
    have c0 : (decide (k < -(2 ^ 63)) || decide (k ≥ 2 ^ 63)) = false := by
      rw [decide_eq_false (by omega), decide_eq_false (by omega)] <;> rfl
    have c1 : (its.toArray.isEmpty || k == 1) = true := by
      rcases hne with rfl | rfl
      · cases its with
        | nil => rfl
        | cons _ _ => simp at hle
      · simp
    exact wpAny_binaryOp_repeat_ref (T := "tuple") (U := "int") (by decide) ⟨_, ho, rfl⟩ (fun s' => typeIs_int s' k t) noFill_tuple_mul F.fills_int_mul F.slot_int_rmul repeat_tuple F.slot_int_index.lookup
      (call_meets F.slot_int_rmul (typeIs_int s k t) F.entry_int_rmul (F.args_int_rmul_2 _ _) (int_rmul_tuple k t l its.toArray n dd sl)
        ⟨ho, rfl, ⟨_, ho, rfl⟩, call_meets F.slot_tuple_mul ⟨_, ho, rfl⟩ F.entry_tuple_mul (F.args_tuple_mul_2 _ _) (tuple_mulS l its.toArray n dd sl k t c0 c1) ⟨ho, .ref l, _, I, rfl, q⟩⟩)
  · intro pins s σ H x y v u Q I rx ry h
    obtain ⟨l, k, xs, rfl, rfl, hT, h1, h2, hne, q⟩ := h
    cases rx
    obtain ⟨t, rfl⟩ := ry
    obtain ⟨its, r, ⟨⟨cls, dd, data, sl⟩, ho, hc, n, hd⟩, hs⟩ := I.tuple hT
    simp only at hc hd
    subst hc hd
    have hle : its.length = xs.length := r.length.symm
    have c0 : (decide (k < -(2 ^ 63)) || decide (k ≥ 2 ^ 63)) = false := by
      rw [decide_eq_false (by omega), decide_eq_false (by omega)] <;> rfl
    have c1 : (its.toArray.isEmpty || k == 1) = false := by
      cases its with
      | nil => exact absurd (List.eq_nil_of_length_eq_zero hle.symm) hne
      | cons a b => simp; omega
    have c2 : (decide (k ≤ 0) || its.toArray.isEmpty) = true := by rw [decide_eq_true h2, Bool.true_or]
    refine wpAny_binaryOp_repeat_ref (T := "tuple") (U := "int") (by decide) ⟨_, ho, rfl⟩ (fun s' => typeIs_int s' k t) noFill_tuple_mul F.fills_int_mul F.slot_int_rmul repeat_tuple F.slot_int_index.lookup
      (call_meets F.slot_int_rmul (typeIs_int s k t) F.entry_int_rmul (F.args_int_rmul_2 _ _) (int_rmul_tuple k t l its.toArray n dd sl)
        ⟨ho, rfl, ⟨_, ho, rfl⟩, call_meets F.slot_tuple_mul ⟨_, ho, rfl⟩ F.entry_tuple_mul (F.args_tuple_mul_2 _ _) (tuple_mul0 l its.toArray n dd sl k t c0 c1 c2) ⟨ho, ?_⟩⟩)
    exact q.end I (us := []) .nil (by decide)

/-! ### str * int -/
/-- products -/
def mulOk (i j : Int) : Prop := CMulX i j
instance (i j : Int) : Decidable (mulOk i j) := by unfold mulOk CMulX; infer_instance
def mulV : VF2 := fun v w m => match v, w with
  | .int i, .int j => if mulOk i j then .ok (.int (i * j)) m else .stuck
  | .tup xs, .int k => if xs = [] ∨ k = 1 then (if -(2 ^ 63) ≤ k ∧ k < 2 ^ 63 then .ok (.tup xs) m else .stuck)
      else if k ≤ 0 then (if -(2 ^ 63) ≤ k then .ok (.tup []) m else .stuck)
      else if k ≤ 1000 ∧ xs.length ≤ 1000 then .ok (.tup (List.replicate k.toNat xs).flatten) m else .stuck
  | .str x, .int k => if 0 ≤ k ∧ k ≤ 1048576 ∧ x.length ≤ 16 then .ok (.str (List.replicate k.toNat x).flatten) m else .stuck
  | v, .int k => match asL m v with
    | some xs => if -(2 ^ 63) ≤ k ∧ k < 2 ^ 63 ∧ xs.length * k.toNat ≤ sizeLine then .ok (.lst (List.replicate k.toNat xs).flatten) m else .stuck
    | none => .stuck
  | _, _ => .stuck
theorem foldl_arr (xs : List Nat) : ∀ (m : Nat) (acc : List Nat), List.foldl (fun x1 x2 => x1 ++ x2) acc.toArray (List.replicate m xs.toArray) = (acc ++ (List.replicate m xs).flatten).toArray
  | 0, acc => by simp
  | m + 1, acc => by
    rw [List.replicate_succ, List.foldl_cons, List.append_toArray, foldl_arr xs m (acc ++ xs), List.replicate_succ, List.flatten_cons, List.append_assoc]
theorem txt_mul (x : List Nat) {k : Int} (h0 : 0 ≤ k) : Txt.mul ⟨x.toArray⟩ k = ⟨(List.replicate k.toNat x).flatten.toArray⟩ := by
  unfold Txt.mul
  by_cases h1 : k < 1
  · have : k = 0 := by omega
    subst this
    rw [if_pos h1]
    rfl
  · rw [if_neg h1]
    split
    · rename_i hc
      rw [Bool.or_eq_true, beq_iff_eq, beq_iff_eq] at hc
      rcases hc with rfl | hc
      · simp
      · have : x = [] := by
          have hl : (⟨x.toArray⟩ : Str).length = x.length := by simp [Str.length]
          rw [hl] at hc
          exact List.eq_nil_of_length_eq_zero hc
        subst this
        simp
    · have := foldl_arr x k.toNat []
      rw [List.nil_append] at this
      rw [← this]
def rMulS : R2 := fun x y H Q => ∃ (z : List Nat) (k : Int), x = .str ⟨z.toArray⟩ ∧ y = .int k ∧ 0 ≤ k ∧ k ≤ 1048576 ∧ z.length ≤ 16 ∧ Q (.str ⟨(List.replicate k.toNat z).flatten.toArray⟩) H
theorem op_mulS : OpR X (binaryOp .Mult) rMulS := by
  rintro pins s σ H x y v u Q I rx ry ⟨z, k, rfl, rfl, h0, h1, hz, q⟩
  obtain ⟨t, rfl⟩ := rx
  obtain ⟨t', rfl⟩ := ry
  have hl : (⟨z.toArray⟩ : Str).length = z.length := by simp [Str.length]
  refine SB.mul (PyProof.Rows.mulOk_of 16 1048576 (by omega) (by omega) (by omega) (by decide) (by decide)) fun t1 k1 => ?_
  rw [txt_mul z h0]
  exact ⟨.str _, H, I.tok _, ⟨_, rfl⟩, q⟩
def rMulA (K : PySem.W.Frag) : R2 := fun x y H Q => rMulS x y H Q ∨ rI CMulX (fun i j => .int (i * j)) x y H Q ∨ rRepTA K x y H Q ∨ rRep x y H Q
theorem op_mulA : OpR X (binaryOp .Mult) (rMulA X.K) := op_mulS.or (op_mulX.or (op_repTA.or op_rep))
theorem v2_mul : V2 X W (rMulA X.K) mulV := by
  intro β F m H v w x y Q wl rx ry h
  unfold mulV at h
  split at h
  · rw [Rep] at rx ry; subst rx ry
    split at h
    · rename_i hz
      exact .inr (.inl ⟨_, _, rfl, rfl, hz, h.int wl⟩)
    · exact h.elim
  · rename_i xs k
    rw [Rep] at rx
    rw [Rep] at ry
    obtain ⟨a, us, rfl, ha, hu⟩ := rx
    subst ry
    have hl := hu.length
    have hT : SqT X.K H a us := ha.sq wl.sub
    have rt : Rep X.K β F (.tup xs) (.ref a) := by rw [Rep]; exact ⟨a, us, rfl, ha, hu⟩
    have en : us = [] ↔ xs = [] := by
      constructor
      · intro e; subst e; exact List.eq_nil_of_length_eq_zero hl.symm
      · intro e; subst e; exact List.eq_nil_of_length_eq_zero hl
    split at h
    · rename_i hz
      split at h
      · rename_i hk
        exact .inr (.inr (.inl (.inr (.inl ⟨a, k, us, rfl, rfl, hT, hk.1, hk.2, hz.imp en.mpr id, h.here wl rt⟩))))
      · exact h.elim
    · rename_i hz
      rw [not_or] at hz
      split at h
      · rename_i h0
        split at h
        · rename_i hk
          exact .inr (.inr (.inl (.inr (.inr ⟨a, k, us, rfl, rfl, hT, hk, h0, fun e => hz.1 (en.mp e), h.tup wl (us := []) (by rw [RepL])⟩))))
        · exact h.elim
      · split at h
        · rename_i h0 hk
          refine .inr (.inr (.inl (.inl ⟨a, k, us, rfl, rfl, hT, fun e => hz.1 (en.mp e), by omega, hk.1, by omega, h.tup wl (hu.rep k.toNat)⟩)))
        · exact h.elim
  · rename_i z k
    rw [Rep] at rx
    rw [Rep] at ry
    subst rx ry
    split at h
    · rename_i hc
      exact .inl ⟨z, k, rfl, rfl, hc.1, hc.2.1, hc.2.2, h.str wl⟩
    · exact h.elim
  · rename_i _ _ k _ _ _
    rw [Rep] at ry
    subst ry
    split at h
    · rename_i xs hx
      obtain ⟨a, us, rfl, ha, hu⟩ := asL_at wl rx hx
      split at h
      · rename_i hk
        exact .inr (.inr (.inr ⟨a, k, us, rfl, rfl, ha, hk.1, hk.2.1, by rw [hu.length]; exact hk.2.2, fun p hp => h.lst wl (hu.rep k.toNat) hp⟩))
      · exact h.elim
    · exact h.elim
  · exact h.elim
theorem ee_mul {a b : Expr} {fa fb : EF} {pos : Pos} (ha : EE X W a fa) (hb : EE X W b fb) : EE X W (.BinOp a .Mult b pos) (bin2 mulV fa fb) := ee_op op_mulA v2_mul ha hb
end G

-- part C15
namespace G
open PySem L2 RZ
open PySem.W (dataLt dataLe alike AllAlike Sortable sorted_data EachIs each_mem)
variable {X : Cx} {W : XK}

/-! ### sorted of a list -/
def sortLt (a b : Val) : Bool := dataLt (toPy a) (toPy b)
def sortLe' (a b : Val) : Bool := !sortLt b a
/-- values that are sorted: alike, comparable -/
def sortOk (xs : List Val) : Bool := xs.all gd && xs.all (fun a => xs.all fun b => alike (toPy a) (toPy b)) &&
  (xs.all (fun a => match a with | .tup (_ :: _) => true | _ => false) || xs.all (fun a => match a with | .tup _ => false | .non => false | _ => true))
def sortV (xs : List Val) : List Val := xs.mergeSort sortLe'
theorem sortLe_eq : (fun a b => sortLe' a b) = dataLe false toPy := by
  funext a b
  rfl
theorem sortOk_alike {xs : List Val} (h : sortOk xs = true) : AllAlike (xs.map toPy) := by
  simp only [sortOk, Bool.and_eq_true, List.all_eq_true] at h
  intro d hd d' hd'
  obtain ⟨a, ha, rfl⟩ := List.mem_map.mp hd
  obtain ⟨b, hb, rfl⟩ := List.mem_map.mp hd'
  exact h.1.2 a ha b hb
theorem sortOk_gd {xs : List Val} (h : sortOk xs = true) : ∀ x ∈ xs, gd x = true := by
  simp only [sortOk, Bool.and_eq_true, List.all_eq_true] at h
  exact h.1.1
theorem sortOk_able {xs : List Val} (h : sortOk xs = true) : Sortable (xs.map toPy) := by
  have hg := sortOk_gd h
  simp only [sortOk, Bool.and_eq_true, Bool.or_eq_true, List.all_eq_true] at h
  rcases h.2 with h | h
  · left
    intro d hd
    obtain ⟨a, ha, rfl⟩ := List.mem_map.mp hd
    have := h a ha
    split at this
    · rename_i _ y ys
      exact ⟨toPy y, toPyL ys, by simp only [toPy, toPyL]⟩
    · cases this
  · right
    intro d hd
    obtain ⟨a, ha, rfl⟩ := List.mem_map.mp hd
    have h2 := h a ha
    have h3 := hg a ha
    simp only [gd, Bool.and_eq_true] at h3
    cases a <;> simp [toPy] at h2 ⊢
theorem each_of_rep {K : PySem.W.Frag} {β : List Addr} {F : Hp} : ∀ {vs : List Val} {xs : List V} {us : List Value}, RepL K β F vs xs → Vals xs us → EachIs (fun (u : Value) (v : Val) => ∃ x, Rep K β F v x ∧ RelV x u) us vs
  | [], xs, us, r, h => by
    rw [RepL] at r; subst r; cases h; exact .nil
  | v :: vs, xs, us, r, h => by
    rw [RepL] at r
    obtain ⟨x, ys, rfl, r1, r2⟩ := r
    cases h with
    | cons h1 h2 => exact .cons ⟨x, r1, h1⟩ (each_of_rep r2 h2)
theorem rep_of_each {K : PySem.W.Frag} {β : List Addr} {F : Hp} {vs : List Val} {us : List Value} (h : EachIs (fun (u : Value) (v : Val) => ∃ x, Rep K β F v x ∧ RelV x u) us vs) : ∃ xs, RepL K β F vs xs ∧ Vals xs us := by
  induction h with
  | nil => exact ⟨[], by rw [RepL], .nil⟩
  | cons h1 _ ih =>
    obtain ⟨x, r1, h1⟩ := h1
    obtain ⟨xs, r2, h2⟩ := ih
    exact ⟨x :: xs, by rw [RepL]; exact ⟨x, xs, rfl, r1, r2⟩, .cons h1 h2⟩
def sortedV : VFn := fun vs m => match vs with
  | [v] => match asL m v with
    | some xs => if sortOk xs = true ∧ xs.length ≤ sizeLine then .ok (.lst (sortV xs)) m else .stuck
    | none => .stuck
  | _ => .stuck
def rSortedL (X : Cx) (W : XK) : List V → Hp → VK → Prop := fun us H Q => ∃ (β : List Addr) (F : Hp) (m : Sto) (xs : List Val) (a : Addr) (ys : List V), us = [.ref a] ∧ Wld X.K X.mg β F m H ∧ H a = some (.lst ys) ∧ RepL X.K β F xs ys ∧ sortOk xs = true ∧ xs.length ≤ sizeLine ∧
  ∀ (zs : List V) (p : Addr), RepL X.K β F (sortV xs) zs → H p = none → Q (.ref p) (upd H p (.lst zs))
theorem cr_sortedL (hu : X.A.units + 64 < cLine) : CallR X (.builtin "sorted") (rSortedL X W) := by
  intro pins s σ H vs us Q I r h
  obtain ⟨β, F, m, xs, a, ys, rfl, wl, ha, hr, hok, hz, q⟩ := h
  obtain ⟨its, rv, hl, _⟩ := I.list (SqL.of ha)
  obtain ⟨u, rfl, ru⟩ := vals1 r
  cases ru
  have hg := sortOk_gd hok
  have e := each_of_rep hr rv
  have er : EachIs (fun (v : Value) (b : Val) => ∃ as, Reads s.heap v (toPy b) as) its xs := by
    have em := each_mem e
    refine em.mono fun v b ⟨⟨x, h1, h2⟩, hb⟩ => ?_
    have gb := hg b hb
    simp only [gd, Bool.and_eq_true] at gb
    exact Dp.reads I (toPy b) x v (rep_dp wl.sub gb.1 h1) h2
  refine sorted_data hl.isList e er (sortOk_alike hok) (sortOk_able hok) hz (fun b hb => ?_) fun out ho eo => ?_
  · have gb := hg b hb
    simp only [gd, Bool.and_eq_true, decide_eq_true_eq] at gb
    rw [dep_py b gb.1]
    omega
  · obtain ⟨zs, h1, h2⟩ := rep_of_each eo
    obtain ⟨ep, he'⟩ := PyProof.Rows.sortedAll_at s.heap its out.toArray
    have hlen : zs.length ≤ sizeLine := by rw [h2.length, ho]; exact hz
    exact ⟨.ref _, upd H (s.heap.objs.size + 1) (.lst zs), I.laid (t' := s.toks) (fun _ _ => PyProof.Rows.sortedAll_old) (Nat.le_succ _) ⟨hlen, out, ep, h2, he'⟩, rfl, q zs _ h1 (I.hok.fresh (Nat.le_succ _))⟩
theorem v_sortedL : VN X W (rSortedL X W) sortedV := fun β F m H vs xs Q wl r h => by
  unfold sortedV at h
  split at h
  · split at h
    · rename_i ys hx
      obtain ⟨x, rfl, rx⟩ := repL1 r
      obtain ⟨a, us, rfl, ha, hu⟩ := asL_at wl rx hx
      split at h
      · rename_i hc
        exact ⟨β, F, m, ys, a, us, rfl, wl, ha, hu, hc.1, hc.2, fun zs p hz hp => h.lst wl hz hp⟩
      · exact h.elim
    · exact h.elim
  · exact h.elim

/-! ### sorted of a dict of texts -/
def strKeys : List (Val × Val) → Option (List Val)
  | [] => some []
  | (.str x, _) :: r => (strKeys r).map (.str x :: ·)
  | _ => none
/-- texts sorted -/
def sortS (xs : List (List Nat)) : List (List Nat) := xs.mergeSort fun a b => decide (a ≤ b)
theorem sortV_strs (xs : List (List Nat)) : sortV (xs.map Val.str) = (sortS xs).map Val.str := by
  unfold sortV sortS
  symm
  apply List.map_mergeSort
  intro a _ b _
  have := congrFun (congrFun (PySem.W.dataLe_str (β := List Nat) fun x => ⟨x.toArray⟩) a) b
  simp only [] at this
  simp only [sortLe', sortLt, toPy]
  have e : dataLe false (fun b : List Nat => PyData.str ⟨b.toArray⟩) a b = !dataLt (.str ⟨b.toArray⟩) (.str ⟨a.toArray⟩) := rfl
  rw [← e, this]
theorem rising_le : ∀ (p : Str) (l : List Str), PyProof.Rows.risingS p l = true → ((p :: l).map fun x : Str => x.cps.toList).Pairwise (· ≤ ·)
  | p, [], _ => by simp
  | p, x :: r, h => by
    have h' : (!PySem.Spec.ltCps x.cps.toList p.cps.toList && PyProof.Rows.risingS x r) = true := h
    rw [Bool.and_eq_true, PyProof.Rows.ltCps_eq] at h'
    have ih := rising_le x r h'.2
    have hpx : p.cps.toList ≤ x.cps.toList := by simpa using h'.1
    rw [List.map_cons, List.pairwise_cons]
    refine ⟨fun a ha => ?_, ih⟩
    rw [List.map_cons] at ha ih
    rcases List.mem_cons.mp ha with rfl | ha
    · exact hpx
    · exact List.le_trans hpx ((List.pairwise_cons.mp ih).1 a ha)
theorem sortS_unique {xs ys : List (List Nat)} (hp : ys.Perm xs) (hs : ys.Pairwise (· ≤ ·)) : ys = sortS xs := by
  refine List.Perm.eq_of_pairwise (le := fun a b => a ≤ b) (fun a b _ _ h1 h2 => List.le_antisymm h1 h2) hs ?_ (hp.trans (List.mergeSort_perm ..).symm)
  have := List.pairwise_mergeSort (le := fun a b : List Nat => decide (a ≤ b)) (fun a b c h1 h2 => by simpa using List.le_trans (by simpa using h1) (by simpa using h2)) (fun a b => by simpa using List.le_total a b) xs
  exact this.imp fun h => by simpa using h
/-- sorted(x) of a list, or of a dict with fewer than 64 texts for keys -/
def sortedA : VFn := fun vs m => match vs with
  | [v] => match asD m v with
    | some (.k, kvs) => match strKeys kvs with
      | some ks => if ks.length < 64 then .ok (.lst (sortV ks)) m else .stuck
      | none => .stuck
    | some _ => .stuck
    | none => sortedV [v] m
  | _ => .stuck
theorem strKeys_at {K : PySem.W.Frag} {β : List Addr} {F : Hp} : ∀ {kvs : List (Val × Val)} {ks : List Val} {ks' : List (Key × V)}, strKeys kvs = some ks → RepD K β F kvs (ks'.map fun p => (kVal p.1, p.2)) →
    ∃ ss : List Str, ks'.map (·.1) = ss.map Sum.inr ∧ ks = ss.map fun x => Val.str x.cps.toList
  | [], ks, ks', h, r => by
    rw [RepD] at r
    simp only [strKeys, Option.some.injEq] at h
    subst h
    have : ks' = [] := by simpa using r
    subst this
    exact ⟨[], rfl, rfl⟩
  | (q, w) :: kvs, ks, ks', h, r => by
    rw [RepD] at r
    obtain ⟨u, rr, e, h1, h2⟩ := r
    cases ks' with
    | nil => cases e
    | cons p ks' =>
      rw [List.map_cons] at e
      cases e
      rw [RepP] at h1
      obtain ⟨rfl, h1⟩ := h1
      obtain ⟨k, v⟩ := p
      cases k with
      | inl i => simp [strKeys, kVal] at h
      | inr x =>
        simp only [strKeys, kVal, Option.map_eq_some_iff] at h
        obtain ⟨ks0, h3, rfl⟩ := h
        obtain ⟨ss, e1, e2⟩ := strKeys_at h3 h2
        exact ⟨x :: ss, by rw [List.map_cons, List.map_cons, e1], by rw [List.map_cons, e2]⟩
theorem repL_strs {K : PySem.W.Frag} {β : List Addr} {F : Hp} : ∀ (ys : List Str), RepL K β F (ys.map fun x => Val.str x.cps.toList) (ys.map V.str)
  | [] => by simp [RepL]
  | y :: ys => by
    rw [List.map_cons, List.map_cons, RepL]
    exact ⟨_, _, rfl, by rw [Rep], repL_strs ys⟩
theorem bSorted {n : Nat} (g : Good X n) : BltOk X W "sorted" sortedA := by
  refine ⟨"sorted", _, (cr_sortedL (W := W) g.u64).or (call_sortedD g.calm), fun β F m H vs xs Q wl r h => ?_, PyProof.Rows.boot_sorted, g.blt.sorted, by decide, by decide⟩
  unfold sortedA at h
  split at h
  · rename_i v
    split at h
    · rename_i kvs hd
      split at h
      · rename_i ks hk
        split at h
        · rename_i hl
          obtain ⟨x, rfl, rx⟩ := repL1 r
          obtain ⟨a, o, ks0, rfl, ha, ⟨ks', rfl, rfl⟩, hr⟩ := asD_at wl rx hd
          obtain ⟨ss, e1, e2⟩ := strKeys_at hk hr
          subst e2
          refine .inr ⟨a, ks', ss, rfl, .inl ha, e1, by simpa using hl, fun ys p hp hs hn => ?_⟩
          have e3 : (ys.map fun x : Str => x.cps.toList) = sortS (ss.map fun x : Str => x.cps.toList) := by
            refine sortS_unique (hp.map _) ?_
            cases ys with
            | nil => exact List.Pairwise.nil
            | cons y r => exact rising_le y r hs
          have e4 : sortV (ss.map fun x : Str => Val.str x.cps.toList) = ys.map fun x : Str => Val.str x.cps.toList := by
            have := sortV_strs (ss.map fun x : Str => x.cps.toList)
            rw [List.map_map, ← e3, List.map_map] at this
            exact this
          rw [e4] at h
          exact h.lst wl (repL_strs ys) hn
        · exact h.elim
      · exact h.elim
    · exact h.elim
    · exact .inl (v_sortedL β F m H [v] xs Q wl r h)
  · exact h.elim

/-! ### lists that change -/
/-- xs.append(x) -/
def appF (fo fa : EF) : EF := fun ρ m => (fo ρ m).bind fun v m1 => match asL m1 v with
  | none => .stuck
  | some _ => (fa ρ m1).bind fun w m2 => match v with
    | .ref n => match m2[n]? with
      | some (.lst xs) => if xs.length < sizeLine then .ok .non (m2.set n (.lst (xs ++ [w]))) else .stuck
      | _ => .stuck
    | _ => .stuck
theorem cell_lst {K : PySem.W.Frag} {mg : Str → Option Value} {β : List Addr} {F : Hp} {m : Sto} {H : Hp} (w : Wld K mg β F m H) {n : Nat} {x : V} (r : Rep K β F (.ref n) x) {xs : List Val} (h : m[n]? = some (.lst xs)) : ∃ a us, x = .ref a ∧ β[n]? = some a ∧ H a = some (.lst us) ∧ RepL K β F xs us := by
  rw [Rep] at r
  obtain ⟨a, rfl, e⟩ := r
  obtain ⟨o, h1, us, rfl, h3⟩ := w.at' n a _ e h
  exact ⟨a, us, rfl, e, h1, h3⟩
theorem ee_append {o e : Expr} {fo fa : EF} {apos cpos : Pos} (ho : EE X W o fo) (ha : EE X W e fa)
    (hbase : attributeBase o "append" X.env (eval o X.env) = eval o X.env := by rfl)
    (hfew : ((backTo cpos (starEach [e] X.env)).all (fun x => !x.1) && (backToKw cpos (keywordEach [] X.env)).all (fun x => x.1.isSome)
      && decide (([e] : List Expr).length + ([] : List Keyword).length + (if ([] : List Keyword).isEmpty then 0 else 1) < 30)) = true := by rfl)
    (hline : (apos.endLine == cpos.line) = true := by rfl) (hs : starEach [e] X.env = (false, eval e X.env) :: starEach [] X.env := by rfl) :
    EE X W (.Call (.Attribute o "append" apos) [e] [] cpos) (appF fo fa) := by
  refine ⟨pe_imp (pe_bm F.plainAttrs_list F.slot_list_append F.type_list_append mt_append ho.pe (pa_cons ha.pe pa_nil hs) hbase hfew hline hs rfl) fun σ H Q ⟨ρ, m, β, F, er, wl, h⟩ => ?_⟩
  refine t_thenE er wl h fun v m1 β1 F1 H1 x x1 w1 r1 h1 => ?_
  split at h1
  · exact h1.elim
  · rename_i zs hz
    obtain ⟨a, us, rfl, hH, _⟩ := asL_at w1 r1 hz
    refine ⟨.inl ⟨rfl, us, .of hH⟩, ?_⟩
    refine t_thenE (er.ext x1) w1 h1 fun w m2 β2 F2 H2 y x2 w2 r2 h2 => ?_
    split at h2
    · rename_i n
      split at h2
      · rename_i xs hm
        split at h2
        · rename_i hlt
          obtain ⟨a', us', e, e2, e3, e4⟩ := cell_lst w2 (r1.ext x2) hm
          cases e
          refine ⟨a, us', y, rfl, rfl, e3, by rw [e4.length]; exact hlt, ?_⟩
          obtain ⟨x3, w3⟩ := w2.set e2 (o := .lst (us' ++ [y])) (c := .lst (xs ++ [w])) ⟨_, rfl, e4.append (by rw [RepL]; exact ⟨y, [], rfl, r2, by rw [RepL]⟩)⟩
          exact h2 _ _ _ _ x3 w3 (by rw [Rep])
        · exact h2.elim
      · exact h2.elim
    · exact h2.elim

/-! ### dicts that change -/
/-- d[k] = v -/
def dputF (fv fd fk : EF) : SF := fun ρ m => sbind (fv ρ m) fun v m1 => sbind (fd ρ m1) fun d m2 => sbind (fk ρ m2) fun k m3 => match d with
  | .ref n => match m3[n]? with
    | some (.dct t kvs) => if kfit t k = true ∧ kvs.length < sizeLine then .nx ρ (m3.set n (.dct t (dputV kvs k v))) else .stuck
    | _ => .stuck
  | _ => .stuck
theorem es_dput {n : Nat} (g : Good X n) {o i value : Expr} {fd fk fv : EF} {pos pos' : Pos} (ho : EE X W o fd) (hi : EE X W i fk) (hv : EE X W value fv) (hs : swapsWith value (some (.Subscript o i pos')) pos.line X.env = pure false := by rfl) :
    ES X W (.Assign [.Subscript o i pos'] value pos) (dputF fv fd fk) := by
  refine ⟨ps_imp (ps_dput (by have := g.u64; omega) ho.pe hi.pe hv.pe hs) fun D σ H ⟨ρ, m, β, F, er, wl, h⟩ => ?_⟩
  refine s_thenE er wl h fun v m1 β1 F1 H1 x x1 w1 r1 h1 => ?_
  refine s_thenE (er.ext x1) w1 h1 fun d m2 β2 F2 H2 y x2 w2 r2 h2 => ?_
  refine s_thenE (er.ext (x1.trans x2)) w2 h2 fun k m3 β3 F3 H3 z x3 w3 r3 h3 => ?_
  split at h3
  · rename_i n
    split at h3
    · rename_i t kvs hm
      split at h3
      · rename_i hc
        have r2' := r2.ext x3
        rw [Rep] at r2'
        obtain ⟨a, rfl, e⟩ := r2'
        obtain ⟨ob, h5, us, h6, h7⟩ := w3.at' n a _ e hm
        have rv := r1.ext (x2.trans x3)
        have put := repD_put (k := k) rv h7
        have er3 := er.ext (x1.trans (x2.trans x3))
        cases t with
        | k =>
          obtain ⟨ks', rfl, rfl⟩ := h6
          obtain ⟨q, rfl, rfl⟩ := kfit1_key r3 hc.1
          rw [← putK_map1] at put
          obtain ⟨x4, w4⟩ := w3.set e (o := .dK (putK ks' q x)) (c := .dct .k (dputV kvs (kVal q) v)) ⟨_, ⟨_, rfl, rfl⟩, put⟩
          have hl := h7.length
          rw [List.length_map] at hl
          exact ⟨a, _, rfl, .k h5 (by omega), h3 _ _ _ _ x4 w4 (er3.ext x4)⟩
        | t =>
          obtain ⟨ks', rfl, rfl⟩ := h6
          cases k with
          | tup xs =>
            rw [Rep] at r3
            obtain ⟨b, us2, rfl, hb, hl2⟩ := r3
            have hkt : keyT xs = true := hc.1
            rw [hkt] at hb
            obtain ⟨q, rfl, rfl⟩ := kfitL_key hl2 (keyT_all hkt)
            rw [← putK_map2] at put
            obtain ⟨x4, w4⟩ := w3.set e (o := .dT (putK ks' q x)) (c := .dct .t (dputV kvs (.tup (q.map kVal)) v)) ⟨_, ⟨_, rfl, rfl⟩, put⟩
            have hl := h7.length
            rw [List.length_map] at hl
            exact ⟨a, _, rfl, .t h5 (w3.sub _ _ hb.key) (by omega), h3 _ _ _ _ x4 w4 (er3.ext x4)⟩
          | _ => simp [kfit] at hc
        | d => exact h6.elim
      · exact h3.elim
    · exact h3.elim
  · exact h3.elim
/-- d.pop(k), there -/
def dpopF (fd fk : EF) : EF := fun ρ m => (fd ρ m).bind fun d m1 => match d with
  | .ref n => match m1[n]? with
    | some (.dct .k _) => (fk ρ m1).bind fun k m2 => match m2[n]? with
      | some (.dct .k kvs) => if kfit1 k = true then (match dget kvs k with | some v => .ok v (m2.set n (.dct .k (dropV kvs k))) | none => .stuck) else .stuck
      | _ => .stuck
    | _ => .stuck
  | _ => .stuck
theorem ee_dpop {o e : Expr} {fd fk : EF} {apos cpos : Pos} (ho : EE X W o fd) (he : EE X W e fk) (m : M1 X o "pop" apos e cpos) : EE X W (.Call (.Attribute o "pop" apos) [e] [] cpos) (dpopF fd fk) := by
  refine ⟨pe_imp (pe_dpop1 ho.pe he.pe m) fun σ H Q ⟨ρ, m, β, F, er, wl, h⟩ => ?_⟩
  refine t_thenE er wl h fun d m1 β1 F1 H1 x x1 w1 r1 h1 => ?_
  split at h1
  · rename_i n
    split at h1
    · rename_i kvs0 hm
      have r1' := r1
      rw [Rep] at r1'
      obtain ⟨a, rfl, e0⟩ := r1'
      obtain ⟨ob, h5, us, ⟨ks0, rfl, rfl⟩, h7⟩ := w1.at' n a _ e0 hm
      refine ⟨a, rfl, .inl ⟨ks0, .inl h5⟩, ?_⟩
      refine t_thenE (er.ext x1) w1 h1 fun k m2 β2 F2 H2 y x2 w2 r2 h2 => ?_
      split at h2
      · rename_i kvs hm2
        split at h2
        · rename_i hk
          obtain ⟨ob, h8, us, ⟨ks', rfl, rfl⟩, h9⟩ := w2.at' n a _ (x2.get e0) hm2
          obtain ⟨q, rfl, rfl⟩ := kfit1_key r2 hk
          have gt := repD_get (kVal q) h9
          split at h2
          · rename_i v hv
            rw [hv] at gt
            obtain ⟨p, g1, g2⟩ := gt
            refine ⟨ks', q, p.2, h8, rfl, by rw [valV_find1, g1]; rfl, ?_⟩
            have dr := repD_filter (f := fun z => !veq z (kVal q)) h9
            rw [← dropK_map1] at dr
            obtain ⟨x4, w4⟩ := w2.set (x2.get e0) (o := .dK (dropK ks' q)) (c := .dct .k (dropV kvs (kVal q))) ⟨_, ⟨_, rfl, rfl⟩, dr⟩
            exact h2 _ _ _ _ x4 w4 (g2.ext x4)
          · exact h2.elim
        · exact h2.elim
      · exact h2.elim
    · exact h1.elim
  · exact h1.elim
end G

-- part C16
set_option maxHeartbeats 4000000
namespace G
open PySem L2 RZ
variable {X : Cx} {W : XK}

/-! ### texts -/
def upV (v : Val) (m : Sto) : Res Val := match v with
  | .str a => if a.all (· < 128) = true ∧ a.length ≤ 5592405 then .ok (.str (a.map PyProof.Rows.up1)) m else .stuck
  | _ => .stuck
def loV (v : Val) (m : Sto) : Res Val := match v with
  | .str a => if a.all (· < 128) = true ∧ a.length ≤ 5592405 then .ok (.str (a.map PyProof.Rows.lo1)) m else .stuck
  | _ => .stuck
def m0F (g : Val → Sto → Res Val) (fo : EF) : EF := fun ρ m => (fo ρ m).bind g
theorem ee_upper {o : Expr} {fo : EF} {apos pos : Pos} (ho : EE X W o fo) (hbase : attributeBase o "upper" X.env (eval o X.env) = eval o X.env := by rfl) (hline : (apos.endLine == pos.line) = true := by rfl) :
    EE X W (.Call (.Attribute o "upper" apos) [] [] pos) (m0F upV fo) := by
  refine ⟨pe_imp (pe_upper ho.pe hbase hline) fun σ H Q ⟨ρ, m, β, F, er, wl, h⟩ => ?_⟩
  refine t_thenE er wl h fun v m1 β1 F1 H1 x x1 w1 r1 h1 => ?_
  unfold upV at h1
  split at h1
  · rename_i a
    rw [Rep] at r1
    subst r1
    split at h1
    · rename_i hc
      refine ⟨⟨_, rfl⟩, _, rfl, rfl, by simpa [Str.length] using hc.2, ?_⟩
      show Q (V.str (Txt.upper (SX.S a))) H1
      rw [SX.upper_S hc.1]
      exact h1.str w1
    · exact h1.elim
  · exact h1.elim
theorem ee_lower {o : Expr} {fo : EF} {apos pos : Pos} (ho : EE X W o fo) (hbase : attributeBase o "lower" X.env (eval o X.env) = eval o X.env := by rfl) (hline : (apos.endLine == pos.line) = true := by rfl) :
    EE X W (.Call (.Attribute o "lower" apos) [] [] pos) (m0F loV fo) := by
  refine ⟨pe_imp (pe_lower ho.pe hbase hline) fun σ H Q ⟨ρ, m, β, F, er, wl, h⟩ => ?_⟩
  refine t_thenE er wl h fun v m1 β1 F1 H1 x x1 w1 r1 h1 => ?_
  unfold loV at h1
  split at h1
  · rename_i a
    rw [Rep] at r1
    subst r1
    split at h1
    · rename_i hc
      refine ⟨⟨_, rfl⟩, _, rfl, rfl, by simpa [Str.length] using hc.2, ?_⟩
      show Q (V.str (Txt.lower (SX.S a))) H1
      rw [SX.lower_S hc.1]
      exact h1.str w1
    · exact h1.elim
  · exact h1.elim
/-- a number's text -/
def strInt (i : Int) : List Nat := (Str.ofString (toString i)).cps.toList
def strB (b : Bool) : List Nat := if b = true then [84, 114, 117, 101] else [70, 97, 108, 115, 101]
def strV : VFn := fun vs m => match vs with
  | [.int i] => if i.natAbs.log2 < 1920 then .ok (.str (strInt i)) m else .stuck
  | [.str a] => .ok (.str a) m
  | [.bl b] => .ok (.str (strB b)) m
  | _ => .stuck
theorem call_str_bool : CallR X (.type "str") (fun xs H Q => ∃ b, xs = [.bl b] ∧ Q (.str ⟨(strB b).toArray⟩) H) := by
  intro pins s σ H xs us Q I r h
  obtain ⟨b, rfl, q⟩ := h
  obtain ⟨u, rfl, ru⟩ := vals1 r
  cases ru
  have e : (if b = true then (Str.ofString "True") else (Str.ofString "False")) = ⟨(strB b).toArray⟩ := by cases b <;> decide +kernel
  refine PySem.P.str_of_bool ⟨.str ⟨(strB b).toArray⟩, H, I.tok _, ⟨s.toks, ?_⟩, q⟩
  show Value.str _ _ = _
  rw [e]
theorem tStr {n : Nat} (g : Good X n) : TypOk X W "str" strV := by
  refine ⟨"str", _, call_str_int.or (SkE.call_str_str.or call_str_bool), fun β F m H vs xs Q wl r h => ?_, PyProof.Rows.boot_str, g.blt.str, by decide, by decide⟩
  unfold strV at h
  split at h
  · rename_i i
    obtain ⟨x, rfl, rx⟩ := repL1 r
    rw [Rep] at rx; subst rx
    split at h
    · rename_i hz
      refine .inl ⟨i, rfl, hz, ?_⟩
      have := h.str wl
      simpa [strInt] using this
    · exact h.elim
  · obtain ⟨x, rfl, rx⟩ := repL1 r
    rw [Rep] at rx; subst rx
    exact .inr (.inl ⟨_, rfl, h.str wl⟩)
  · obtain ⟨x, rfl, rx⟩ := repL1 r
    rw [Rep] at rx; subst rx
    exact .inr (.inr ⟨_, rfl, h.str wl⟩)
  · exact h.elim

/-! ### turned round -/
section
open PyProof.Rows
theorem sliceApplied_rev {prog : Program} {w : World} {A : Around} {E : Value → Shared → Prop} {s : Shared} {sl : Addr} {vl vu vs : Value} {n : Nat} {Q : Int × Int × Nat → Shared → Prop} (hs : s.heap.IsSliceOf sl vl vu vs) (pl : IsPart vl none) (pu : IsPart vu none) (ps : IsPart vs (some (-1)))
    (h : Q ((n : Int) - 1, -1, n) s) : wpAny (model prog w) A (Builtin.Slice.sliceApplied (.ref sl) (pure (n : Int))) Q E s := by
  obtain ⟨os, hos, hcs, hds⟩ := id hs
  unfold Builtin.Slice.sliceApplied Builtin.Slice.sliceFields
  refine wpAny_bind (wpAny_bind (wpAny_field hos hds (x := vl) rfl (wpAny_bind (wpAny_field hos hds (x := vu) rfl (wpAny_bind (wpAny_field hos hds (x := vs) rfl (wpAny_pure ?_)))))))
  refine wpAny_bind (HT.slicePart_ ps ?_)
  show wpAny _ _ (if ((-1 : Int) == 0) = true then _ else _) _ _ s
  rw [if_neg (by decide)]
  refine wpAny_bind (HT.slicePart_ pl (wpAny_bind (HT.slicePart_ pu (wpAny_bind (wpAny_pure ?_)))))
  have e : Builtin.Slice.sliceAdjust none none (-1) (n : Int) = ((n : Int) - 1, -1) := by
    unfold Builtin.Slice.sliceAdjust
    simp
  show wpAny _ _ (match Builtin.Slice.sliceAdjust none none (-1) (n : Int) with | (lo, hi) => pure (lo, (-1 : Int), Builtin.Slice.slicePlaces lo hi (-1))) _ _ s
  rw [e]
  have e2 : Builtin.Slice.slicePlaces ((n : Int) - 1) (-1) (-1) = n := by
    unfold Builtin.Slice.slicePlaces
    simp
    try omega
  show wpAny _ _ (pure ((n : Int) - 1, (-1 : Int), Builtin.Slice.slicePlaces ((n : Int) - 1) (-1) (-1))) _ _ s
  rw [e2]
  exact wpAny_pure h
theorem fm_congr {α β : Type} {f g : α → Option β} : ∀ l : List α, (∀ x ∈ l, f x = g x) → l.filterMap f = l.filterMap g
  | [], _ => rfl
  | x :: l, h => by
    rw [List.filterMap_cons, List.filterMap_cons, h x (by simp), fm_congr l fun y hy => h y (by simp [hy])]
theorem pick_rev (xs : Array Value) : ((List.range xs.size).filterMap fun (k : Nat) => xs[((xs.size : Int) - 1 + (k : Int) * -1).toNat]?).toArray = xs.toList.reverse.toArray := by
  have e : ((List.range xs.size).filterMap fun (k : Nat) => xs[((xs.size : Int) - 1 + (k : Int) * -1).toNat]?) = ((List.range xs.size).map fun k => xs.size - 1 - k).filterMap (xs[·]?) := by
    rw [List.filterMap_map]
    apply fm_congr
    intro k hk
    have hk' := List.mem_range.mp hk
    have e1 : ((xs.size : Int) - 1 + (k : Int) * -1).toNat = xs.size - 1 - k := by omega
    rw [e1]
    rfl
  rw [e, PySem.W.krv_range, List.filterMap_reverse, PySem.W.krv_all]
theorem getItem_tuple_rev {prog : Program} {w : World} {A : Around} {E : Value → Shared → Prop} {s : Shared} {t sl : Addr} {items : Array Value} {vl vu vs : Value} {Q : Value → Shared → Prop} (ht : IsTup s.heap t items) (hs : s.heap.IsSliceOf sl vl vu vs) (pl : IsPart vl none) (pu : IsPart vu none) (ps : IsPart vs (some (-1)))
    (h : Q (.ref s.heap.objs.size) { s with heap := s.heap.push { cls := .type "tuple", data := .seq items.toList.reverse.toArray } })
    (hsz : items.size ≤ sizeLine) : wpAny (model prog w) A (getItem (.ref t) (.ref sl)) Q E s := by
  have htake : sizeOk (.seq items.toList.reverse.toArray) := by
    show items.toList.reverse.toArray.size ≤ sizeLine
    rw [List.size_toArray, List.length_reverse, Array.length_toList]
    exact hsz
  obtain ⟨os, hos, hcs, hds⟩ := id hs
  have hTs : s.TypeIs (.ref sl) "slice" := ⟨os, hos, hcs⟩
  unfold getItem
  try with_reducible refine wpAny_holding ?_
  first | refine wpAny_bind (wpAny_pure ?_) | skip
  refine wpAny_bind (wpAny_sequenceKey ht.typeIs (by decide) ?_)
  refine wpAny_bind (wpAny_callSpecial?_slot (name := Str.ofString "__getitem__") ht.typeIs PyProof.Rows.slot_tuple_getitem
    (wpAny_call_entry PyProof.Rows.slot_tuple_getitem ht.typeIs entry_tuple_getitem ?_ (args_tuple_getitem _ _)))
  show wpAny _ _ (Builtin.Tuple.tupleItemsOf (.ref t) >>= _) _ _ s
  refine wpAny_bind (tupleItemsOf_ ht ?_)
  refine wpAny_bind (wpAny_typeOf hTs ?_)
  rw [if_pos (by decide)]
  refine wpAny_bind (sliceApplied_rev hs pl pu ps ?_)
  have hno : ¬ ((((items.size : Int) - 1) == 0 && (-1 : Int) == 1 && items.size == items.size) = true) := by
    intro q
    rw [Bool.and_eq_true, Bool.and_eq_true] at q
    exact absurd (eq_of_beq q.1.2) (by decide)
  show wpAny _ _ (if (((items.size : Int) - 1) == 0 && (-1 : Int) == 1 && items.size == items.size) = true then _ else _) _ _ s
  rw [if_neg hno]
  rw [pick_rev]
  first
    | exact wpAny_bind (m := Builtin.Tuple.tupleExact _) (wpAny_newObj_type (wpAny_pure ⟨_, rfl, wpAny_pure h⟩) htake)
    | exact wpAny_bind (m := Builtin.Tuple.tupleExact _) (wpAny_newObj_type (wpAny_bind (wpAny_pure (wpAny_pure ⟨_, rfl, wpAny_pure h⟩))) htake)
    | exact wpAny_bind (wpAny_bind (m := Builtin.Tuple.tupleExact _) (wpAny_newObj_type (wpAny_pure (wpAny_pure ⟨_, rfl, wpAny_pure h⟩)) htake))
    | exact wpAny_bind (wpAny_bind (m := Builtin.Tuple.tupleExact _) (wpAny_newObj_type (wpAny_pure ⟨_, rfl, wpAny_pure h⟩) htake))
theorem slot_tup_gi : Slot "tuple" "__getitem__" "tuple.__getitem__" := PyProof.Rows.slot_tuple_getitem
def tRevA (K : PySem.W.Frag) (te : TE) : TE := fun σ H Q => te σ H fun x H1 => (∃ a xs, x = .ref a ∧ SqL K H1 a xs ∧ ∀ p, H1 p = none → Q (.ref p) (upd H1 p (.lst xs.reverse))) ∨ ∃ a xs, x = .ref a ∧ SqT K H1 a xs ∧ NewT H1 xs.reverse Q
theorem pe_revA {X : Cx} {e : Expr} {te : TE} {k : Nat} {p1 p2 p3 pos : Pos} (he : PE X e te) : PE X (.Subscript e (.Slice none none (some (.UnaryOp .USub (.Constant (.int 1) k p1) p2)) p3) pos) (tRevA X.K te) := by
  refine ⟨fun pins s σ H Q I h => ?_⟩
  refine Subscript_ (thn (he.run pins s σ H _ I h) fun v s1 ⟨x, H1, I1, r1, q1⟩ => ?_)
  have hst : PO X (some (.UnaryOp .USub (.Constant (.int 1) k p1) p2)) (tPart (tUn (rU fun i => .int (-i)) (tC (.int 1)))) := po_some (pe_un un_neg pe_int)
  refine wpAny_Slice (thn (po_none.run pins s1 σ H1 (fun o H2 => o = none ∧ H2 = H1) I1 ⟨rfl, rfl⟩) fun vl s2 ⟨l, H2, I2, pl, el, e2⟩ => ?_)
  subst el e2
  refine thn (po_none.run pins s2 σ H2 (fun o H3 => o = none ∧ H3 = H2) I2 ⟨rfl, rfl⟩) fun vu s3 ⟨u, H3, I3, pu, eu, e3⟩ => ?_
  subst eu e3
  refine thn (hst.run pins s3 σ H3 (fun o H4 => o = some (-1) ∧ H4 = H3) I3 ⟨1, rfl, -1, rfl, rfl, rfl⟩) fun vs s4 ⟨o, H4, I4, ps, eo, e4⟩ => ?_
  subst eo e4
  have I5 : Inv X pins σ H4 { s4 with heap := s4.heap.push { cls := .type "slice", data := .fields #[vl, vu, vs] } } := I4.kept (t' := s4.toks) fun b ob q => Heap.get?_push_of_some _ q
  rcases q1 with ⟨a, xs, ex, hx, q⟩ | ⟨a, xs, ex, hx, q⟩
  · subst ex
    cases r1
    obtain ⟨its, r, ht, hz⟩ := I5.list hx
    have hlen := r.length
    show wpAny (model X.prog X.w) X.A (subscriptTail e (.Slice none none (some (.UnaryOp .USub (.Constant (.int 1) k p1) p2)) p3) (.ref a) (.ref s4.heap.objs.size)) (EP X pins σ Q) X.xe { s4 with heap := s4.heap.push { cls := .type "slice", data := .fields #[vl, vu, vs] } }
    refine tail_any (ops := [.ref a, .ref s4.heap.objs.size]) ht.isList.typeIs (PySem.slot_list_getitem.lookup) ?_ (by with_unfolding_all rfl)
    refine wpAny_getItem_list_slice ht.isList (Heap.IsSliceOf.new _ vl vu vs) pl pu ps (by decide) ?_ (by rw [List.size_toArray]; omega)
    rw [PySem.W.krv_pick]
    refine ⟨.ref _, _, I5.laid (t' := s4.toks) (o := .lst xs.reverse) (fun b ob q => Heap.get?_push_of_some _ q) (Nat.le_refl _) ?_, rfl, q _ (I5.hok.fresh (Nat.le_refl _))⟩
    exact ⟨by rw [List.length_reverse]; exact hz, _, 0, r.reverse, Heap.get?_push_size _ rfl⟩
  · subst ex
    cases r1
    obtain ⟨its, r, ht, hz⟩ := I5.tuple hx
    have hlen := r.length
    show wpAny (model X.prog X.w) X.A (subscriptTail e (.Slice none none (some (.UnaryOp .USub (.Constant (.int 1) k p1) p2)) p3) (.ref a) (.ref s4.heap.objs.size)) (EP X pins σ Q) X.xe { s4 with heap := s4.heap.push { cls := .type "slice", data := .fields #[vl, vu, vs] } }
    refine tail_any (ops := [.ref a, .ref s4.heap.objs.size]) ht.typeIs (PyProof.Rows.slot_tuple_getitem.lookup) ?_ (by with_unfolding_all rfl)
    refine getItem_tuple_rev ht (Heap.IsSliceOf.new _ vl vu vs) pl pu ps ?_ (by rw [List.size_toArray]; omega)
    exact q.end I5 r.reverse (by rw [List.length_reverse]; exact hz)
end
def revV (v : Val) (m : Sto) : Res Val := match v with
  | .tup xs => .ok (.tup xs.reverse) m
  | v => match asL m v with
    | some xs => .ok (.lst xs.reverse) m
    | none => .stuck
theorem ee_rev {e : Expr} {f : EF} {k : Nat} {p1 p2 p3 pos : Pos} (he : EE X W e f) : EE X W (.Subscript e (.Slice none none (some (.UnaryOp .USub (.Constant (.int 1) k p1) p2)) p3) pos) (m0F revV f) := by
  refine ⟨pe_imp (pe_revA he.pe) fun σ H Q ⟨ρ, m, β, F, er, wl, h⟩ => ?_⟩
  refine t_thenE er wl h fun v m1 β1 F1 H1 x x1 w1 r1 h1 => ?_
  unfold revV at h1
  split at h1
  · rw [Rep] at r1
    obtain ⟨a, us, rfl, ha, hu⟩ := r1
    exact .inr ⟨a, us, rfl, ha.sq w1.sub, h1.tup w1 hu.rev⟩
  · split at h1
    · rename_i xs hx
      obtain ⟨a, us, rfl, ha, hu⟩ := asL_at w1 r1 hx
      exact .inl ⟨a, us, rfl, .of ha, fun p hp => h1.lst w1 hu.rev hp⟩
    · exact h1.elim
end G

-- part C17
set_option maxHeartbeats 4000000
namespace G
open PySem L2 RZ
open PySem.Spec PyProof.Rows

/-! ### sets of ints and texts, whose members can be gone through -/
def keyV : Value → Key
  | .int i _ => .inl i
  | .str x _ => .inr x
  | _ => .inl 0
def GoodM (w : World) (e : Int × Value) : Prop := keyIs (keyV e.2) e.2 = true ∧ e.1 = keyH w (keyV e.2)
/-- the set at a of the keys ks -/
def SetM (w : World) (h : Heap) (a : Addr) (ks : List Key) : Prop :=
  ∃ o es ep t, h.get? a = some o ∧ o.ExactSet ∧ o.data = .set es ep t ∧ (∀ e ∈ es.toList, GoodM w e) ∧ (es.toList.map fun e => keyV e.2).Perm ks ∧ ks.Nodup ∧
    es.size < scanBound ∧ t.fits es.size = true ∧ Ris t.place.toList ∧ (w.params.followText "set-order" = true ∨ t.led = true)
theorem keyV_of {k : Key} {v : Value} (h : keyIs k v = true) : keyV v = k := by
  rcases keyIs_shape h with ⟨i, t, rfl, rfl⟩ | ⟨x, t, rfl, rfl⟩ <;> rfl
theorem key_sc {k : Key} {v : Value} (h : keyIs k v = true) : v.scannable = true := by
  rcases keyIs_shape h with ⟨i, t, rfl, rfl⟩ | ⟨x, t, rfl, rfl⟩ <;> rfl
section
variable {P : Program} {w : World} {A : Around} {E : Value → Shared → Prop} {s : Shared} {a : Addr} {ks : List Key}
theorem SetM.at {h h' : Heap} (R : SetM w h a ks) (k : ∀ o, h.get? a = some o → h'.get? a = some o) : SetM w h' a ks := by
  obtain ⟨o, es, ep, t, ho, r⟩ := R
  exact ⟨o, es, ep, t, k o ho, r⟩
theorem goodM_elems {l : List (Int × Value)} (g : ∀ e ∈ l, GoodM w e) : ElemsOf (mixKind P w) l := fun e he => by
  obtain ⟨h1, h2⟩ := g e he
  exact ⟨⟨_, h1, h2⟩, key_sc h1⟩
theorem goodM_mem {l : List (Int × Value)} (g : ∀ e ∈ l, GoodM w e) (k : Key) : k ∈ (l.map fun e => keyV e.2) ↔ ∃ e ∈ l, keyIs k e.2 = true := by
  rw [List.mem_map]
  constructor
  · rintro ⟨e, he, rfl⟩
    exact ⟨e, he, (g e he).1⟩
  · rintro ⟨e, he, q⟩
    exact ⟨e, he, keyV_of q⟩
/-- what a set becomes -/
def hasK (ks : List Key) (k : Key) : Bool := ks.any fun j => decide (j = k)
theorem hasK_iff {k : Key} : hasK ks k = true ↔ k ∈ ks := by simp [hasK]
def addK (ks : List Key) (k : Key) : List Key := if hasK ks k = true then ks else ks ++ [k]
theorem addK_nodup {k : Key} (h : ks.Nodup) : (addK ks k).Nodup := by
  unfold addK
  split
  · exact h
  · rename_i hk
    rw [List.nodup_append]
    exact ⟨h, by simp, fun a ha b hb => by
      rw [List.mem_singleton] at hb
      subst hb
      exact fun z => hk (hasK_iff.mpr (z ▸ ha))⟩
theorem addM_tail {g : Bool → Sem Unit} (hg : ∀ (b : Bool) (s₁ : Shared) (Q' : Unit → Shared → Prop), Q' () s₁ → wpAny (model P w) A (g b) Q' E s₁)
    {o : Obj} {es : Array (Int × Value)} {ep : Nat} {t : SetTable} (ho : s.heap.get? a = some o) (hex : o.ExactSet) (hd : o.data = .set es ep t)
    {es1 : Array (Int × Value)} {t2 : SetTable} (g1 : ∀ e ∈ es1.toList, GoodM w e) (p1 : (es1.toList.map fun e => keyV e.2).Perm ks) (nd : ks.Nodup)
    (hb1 : es1.size < scanBound) (hf2 : t2.fits es1.size = true) (hr : Ris t2.place.toList) (hl : w.params.followText "set-order" = true ∨ t2.led = true) {wasDummy : Bool} {R : Option Bool → Shared → Prop}
    (hR : ∀ h', Heap.SameBut a s.heap h' → SetM w h' a ks → R (some true) { s with heap := h' }) :
    wpAny (model P w) A (do
        storeSet a es1 t2
        if (!wasDummy && t2.tooFull) = true then do
            g (relayAll t2 es1 (SetTable.grown es1.size)).2.2
            storeSet a (relayAll t2 es1 (SetTable.grown es1.size)).1 (relayAll t2 es1 (SetTable.grown es1.size)).2.1
            pure (some true)
          else pure (some true)) R E s := by
  refine wpAny_bind (wpAny_storeSet_of ho hd ?_ (fits_of_scanBound hb1))
  have ho1 := store_at (es' := es1) (t' := t2) ho hd
  have sb1 := Heap.SameBut.update s.heap a (Obj.putSet es1 t2)
  split
  · have pm := relayAll_perm t2 es1 (SetTable.grown es1.size)
    have hf3 := relayAll_fits t2 es1 (SetTable.grown es1.size)
    have hr3 := relayAll_ris t2 es1 (SetTable.grown es1.size)
    have hl3 := relayAll_led t2 es1 (SetTable.grown es1.size)
    generalize relayAll t2 es1 (SetTable.grown es1.size) = Z at pm hf3 hr3 hl3 ⊢
    obtain ⟨es2, t3, gave⟩ := Z
    dsimp only at pm hf3 hr3 hl3 ⊢
    have hsz : es2.size = es1.size := by rw [← Array.length_toList, pm.length_eq, Array.length_toList]
    have hb2 : es2.size < scanBound := by rw [hsz]; exact hb1
    refine wpAny_bind (hg _ _ _ ?_)
    refine wpAny_bind (wpAny_storeSet_of ho1 rfl ?_ (fits_of_scanBound hb2))
    have ho2 := store_at (es' := es2) (t' := t3) ho1 rfl
    refine wpAny_pure (hR _ (sb1.trans (Heap.SameBut.update _ a _)) ?_)
    exact ⟨_, es2, _, t3, ho2, hex, rfl, fun e he => g1 e (pm.mem_iff.mp he), (pm.map _).trans p1, nd, hb2, hf3, hr3, hl.imp id fun z => by rw [hl3]; exact z⟩
  · exact wpAny_pure (hR _ sb1 ⟨_, es1, _, t2, ho1, hex, rfl, g1, p1, nd, hb1, hf2, hr, hl⟩)
theorem addM_hashed {k : Key} {v : Value} {Q : Bool → Shared → Prop} (hkey : keyIs k v = true) (R : SetM w s.heap a ks) (room : ks.length + 1 < scanBound)
    (hQ : ∀ b h', Heap.SameBut a s.heap h' → SetM w h' a (addK ks k) → Q b { s with heap := h' }) :
    wpAny (model P w) A (setAddHashed a v (keyH w k)) Q E s := by
  obtain ⟨o, es, ep, t, ho, hex, hd, g, pk, nd, hb, hf, hr, hl⟩ := R
  have hsc : v.scannable = true := key_sc hkey
  have hel : ElemsOf (mixKind P w) es.toList := goodM_elems g
  unfold setAddHashed setAddHashedIn
  refine wpAny_holding (wpAny_bind (wpAny_setState_of ho hd hf ?_))
  dsimp only
  rw [byScan_of hsc hb hel]
  simp only [↓reduceIte]
  unfold setAddByScan
  refine wpAny_bind ?_
  refine wpAny_bind (wpAny_rule ?_)
  refine wpAny_bind (wpAny_setScan_of (knd := mixKind P w) hkey ho hd hf hel ?_)
  cases hfi : List.findIdx? (fun e => (mixKind P w).is k e.2) es.toList with
  | some j =>
    dsimp only
    obtain ⟨hj, pj, _⟩ := List.findIdx?_eq_some_iff_getElem.mp hfi
    have hk : k ∈ ks := pk.mem_iff.mp ((goodM_mem g k).2 ⟨es.toList[j], List.getElem_mem hj, pj⟩)
    refine wpAny_pure (wpAny_pure ?_)
    exact hQ _ s.heap (Heap.SameBut.refl a s.heap) (by unfold addK; rw [if_pos (hasK_iff.mpr hk)]; exact ⟨o, es, ep, t, ho, hex, hd, g, pk, nd, hb, hf, hr, hl⟩)
  | none =>
    dsimp only
    have hnk : k ∉ ks := fun z => by
      obtain ⟨e, he, q⟩ := (goodM_mem g k).1 (pk.mem_iff.mpr z)
      have c := List.findIdx?_eq_none_iff.mp hfi e he
      have c' : keyIs k e.2 = false := c
      rw [q] at c'
      cases c'
    have ea : addK ks k = ks ++ [k] := by unfold addK; rw [if_neg (fun z => hnk (hasK_iff.mp z))]
    have hgw : ∀ (b : Bool) {s₁ : Shared} {Q' : Unit → Shared → Prop}, Q' () s₁ → wpAny (model P w) A (match b with | true => rule "set.scan.the-table-gave-way" | false => pure ()) Q' E s₁ :=
      fun b s₁ Q' q => by cases b <;> first | exact wpAny_pure q | exact wpAny_rule q
    have pm := layNew_perm t es (keyH w k) v
    have hf1 := layNew_fits t es (keyH w k) v
    have hr1 := layNew_ris t es (keyH w k) v hr
    have hl1 := layNew_led t es (keyH w k) v
    show wpAny (model P w) A _ _ E s
    generalize layNew t es (keyH w k) v = Z at pm hf1 hr1 hl1 ⊢
    obtain ⟨es1, t1, wasDummy, gave⟩ := Z
    dsimp only at pm hf1 hr1 hl1 ⊢
    rw [Array.toList_push] at pm
    have p2 : (es1.toList.map fun e => keyV e.2).Perm (addK ks k) := by
      rw [ea]
      refine (pm.map _).trans ?_
      rw [List.map_append, List.map_cons, List.map_nil, keyV_of hkey]
      exact pk.append_right _
    have g1 : ∀ e ∈ es1.toList, GoodM w e := fun e he => by
      rcases List.mem_append.mp (pm.mem_iff.mp he) with z | z
      · exact g e z
      · rw [List.mem_singleton.mp z]
        exact ⟨by show keyIs (keyV v) v = true; rw [keyV_of hkey]; exact hkey, by show keyH w k = keyH w (keyV v); rw [keyV_of hkey]⟩
    have hsz : es1.size = ks.length + 1 := by
      rw [← Array.length_toList]
      have := p2.length_eq
      rw [ea] at this
      simpa using this
    have hb1 : es1.size < scanBound := by rw [hsz]; exact room
    have hled : w.params.followText "set-order" = true ∨ t1.led = true := hl.imp id fun z => by rw [hl1]; exact z
    have nd1 := addK_nodup (k := k) nd
    refine wpAny_bind (hgw _ ?_)
    split
    · refine wpAny_bind ?_
      rw [hashByValue_scannable 8 hsc]
      refine wpAny_pure ?_
      refine addM_tail ?_ ho hex hd g1 p2 nd1 hb1 ?_ ?_ ?_ ?_
      · intro b s₁ Q' q; cases b <;> first | exact wpAny_pure q | exact wpAny_rule q
      · first | (split <;> first | exact hf1 | exact SetTable.fits_plain_off hf1) | exact hf1
      · first | (split <;> exact hr1) | exact hr1
      · first | (split <;> exact hled) | exact hled
      · intro h' sb r; dsimp only; exact wpAny_pure (hQ _ h' sb r)
    · refine wpAny_bind (wpAny_pure ?_)
      simp only [↓reduceIte]
      refine addM_tail ?_ ho hex hd g1 p2 nd1 hb1 hf1 hr1 hled ?_
      · intro b s₁ Q' q; cases b <;> first | exact wpAny_pure q | exact wpAny_rule q
      · intro h' sb r; dsimp only; exact wpAny_pure (hQ _ h' sb r)
end
/-! ### set(xs) of a list -/
def setK (ks : List Key) : List Key := ks.foldl addK []
theorem setK_snoc (ks : List Key) (k : Key) : setK (ks ++ [k]) = addK (setK ks) k := by simp [setK, List.foldl_append]
theorem addK_len (ks : List Key) (k : Key) : (addK ks k).length ≤ ks.length + 1 := by unfold addK; split <;> simp
theorem setK_len : ∀ (n : Nat) (ks : List Key), ks.length = n → (setK ks).length ≤ n
  | 0, ks, h => by have := List.eq_nil_of_length_eq_zero h; subst this; simp [setK]
  | n + 1, ks, h => by
    have hne : ks ≠ [] := by intro e; subst e; cases h
    have e := List.dropLast_concat_getLast hne
    rw [← e, setK_snoc]
    have := setK_len n ks.dropLast (by rw [List.length_dropLast, h]; rfl)
    have := addK_len (setK ks.dropLast) (ks.getLast hne)
    omega
section
variable {P : Program} {w : World} {A : Around} {R : Result → Shared → Prop} {I : Addr} {fp wr : List Addr} {G' : Array GenState → Array GenState → Prop} {n : Nat} {Pv : Nat → Value → Prop} {St : Nat → Shared → Prop}
theorem loopM (W : WalksS P w A.in1 I fp wr G' n Pv St) (S : Addr) (hSf : S ∉ fp) (ks : List Key) (hsz : ks.length = n) (hn1 : n + 1 < scanBound)
    (hval : ∀ i v, Pv i v → ∃ k, ks[i]? = some k ∧ keyIs k v = true) :
    ∀ (j i : Nat) (s : Shared), n - i = j → i ≤ n → St i s → SetM w s.heap S (setK (ks.take i)) →
      (∀ s', Moved (S :: wr) G' s s' → SetM w s'.heap S (setK ks) → R (.ok (.ret .none)) s') →
      codeAny (model P w) A (.builtin "set.update.loop" ⟨[.ref S, .ref I], []⟩) R s := by
  have hSw : S ∉ wr := fun h => hSf (W.sub _ h)
  have hsub : ∀ b ∈ wr, b ∈ S :: wr := fun b hb => List.mem_cons_of_mem _ hb
  intro j
  induction j with
  | zero =>
    intro i s hk hi hst hS hR
    have hin : i = n := by omega
    subst hin
    refine codeAny_builtin F.entry_set_update_loop ?_
    rw [Around.under_plainId F.plain_set_update_loop _]
    show wpAny _ A.in1 (pyNext (.ref I) >>= _) _ _ s
    refine wpAny_bind (W.done s _ _ hst fun s' hm => ?_)
    show wpAny _ A.in1 (ret Value.none) _ _ s'
    rw [← hsz, List.take_length] at hS
    exact wpAny_pure (hR s' (hm.mono hsub) (hS.at fun o e => hm.heap S o hSw e))
  | succ j ih =>
    intro i s hk hi hst hS hR
    have hlt : i < n := by omega
    refine codeAny_builtin F.entry_set_update_loop ?_
    rw [Around.under_plainId F.plain_set_update_loop _]
    show wpAny _ A.in1 (pyNext (.ref I) >>= _) _ _ s
    refine wpAny_bind (W.item i s _ _ hlt hst fun v s' hP hst' hm => ?_)
    obtain ⟨k, hki, hkv⟩ := hval i v hP
    have hS' : SetM w s'.heap S (setK (ks.take i)) := hS.at fun o e => hm.heap S o hSw e
    have hroom : (setK (ks.take i)).length + 1 < scanBound := by
      have := setK_len _ (ks.take i) rfl
      have h2 : (ks.take i).length ≤ n := by rw [List.length_take]; omega
      omega
    show wpAny _ A.in1 (holding [v] (setAdd S v) >>= _) _ _ s'
    refine wpAny_bind (wpAny_holding ?_)
    unfold setAdd
    refine wpAny_holding ?_
    refine wpAny_bind ((mixKind P w).pyHash (k := k) hkv ?_)
    refine addM_hashed (s := { s' with toks := s'.toks + 1 }) hkv hS' hroom fun b h' hsb hS2 => ?_
    have e : ks.take (i + 1) = ks.take i ++ [k] := by
      rw [List.take_add_one, hki]; rfl
    rw [← setK_snoc, ← e] at hS2
    refine wpAny_pure ⟨plainId_quiet F.plain_set_update_loop _, ih (i + 1) _ (by omega) hlt (W.frame _ s' _ _ hst' (Nat.le_succ _) fun b hb o e => ?_) hS2 fun s'' hm'' hS'' => ?_⟩
    · rw [hsb.2 b (fun h : b = S => hSf (by rw [← h]; exact hb))]; exact e
    · refine hR s'' (Moved.trans W.gtrans ((hm.mono hsub).then_heap (Nat.le_succ _) fun b o hb e => ?_) hm'') hS''
      rw [hsb.2 b (fun h : b = S => hb (by rw [h]; exact List.mem_cons_self))]; exact e
end
section
variable {P : Program} {w : World} {A : Around} {E : Value → Shared → Prop} {s : Shared}
theorem setM_fresh {h : Heap} (w : World) : SetM w (h.push { cls := .type "set", dict := none, data := .set #[] 0 (.fresh 0 0 (!w.params.followText "set-order")) }) h.objs.size [] :=
  ⟨_, #[], 0, _, Heap.get?_push_size _ rfl, ⟨rfl, rfl, rfl⟩, rfl, (fun e he => by simp at he), .nil, .nil, (by decide), (by rfl), List.Pairwise.nil, by
    show _ ∨ (!w.params.followText "set-order") = true
    cases w.params.followText "set-order"
    · exact .inr rfl
    · exact .inl rfl⟩
def KeysAre (vs : List Value) (ks : List Key) : Prop := Paired (fun (v : Value) (k : Key) => keyIs k v = true) vs ks
set_option maxHeartbeats 3200000 in
theorem call_set_M {l : Addr} {items : Array Value} {ks : List Key} {Q : Value → Shared → Prop}
    (hh : A.handled = none) (hl : s.heap.IsList l items) (hi : KeysAre items.toList ks) (hn1 : ks.length + 1 < scanBound)
    (h : ∀ (h' : Heap) (tk : Nat), SetM w h' s.heap.objs.size (setK ks) → (∀ b o, b < s.heap.objs.size → s.heap.get? b = some o → h'.get? b = some o) → Q (.ref s.heap.objs.size) { s with heap := h', toks := tk }) :
    wpAny (model P w) A (call (.type "set") [.ref l]) Q E s := by
  obtain ⟨c, tl, hmro⟩ := F.called_set.mro
  have hmade := F.called_set.made
  have hsub := F.called_set.sub
  refine wpAny_call (codeAny_of_tree ?_)
  show wpAny _ _ (callAny (.type "set") _) _ _ _
  refine wpAny_pure ⟨Code.quiet_builtin _ (by decide +kernel), codeAny_builtin F.entry_type_call ?_⟩
  rw [Around.under_plain (weight_type_call_type "set" [.ref l] []) rfl]
  have h1 := F.called_set.notType
  have h2 := F.called_set.canCreate
  have hct := F.typeCall_set_1 (.ref l)
  repeat (any_goals (first | assumption | wp_step))

  refine codeAny_mono (code_set_led1 (.ref l) (E := E) (Q₁ := fun obj s₁ => obj = .ref s.heap.objs.size ∧ s₁ = { s with heap := s.heap.push { cls := .type "set", dict := none, data := .set #[] 0 (.fresh 0 0 (!w.params.followText "set-order")) } }) ⟨rfl, rfl⟩) fun r s₁ hr => ?_
  cases r with
  | error e => exact hr
  | ok fl =>
    cases fl with
    | ret obj =>
      obtain ⟨rfl, rfl⟩ := hr
      have hS : (s.heap.push { cls := .type "set", dict := none, data := .set #[] 0 (.fresh 0 0 (!w.params.followText "set-order")) }).get? s.heap.objs.size = some { cls := .type "set", dict := none, data := .set #[] 0 (.fresh 0 0 (!w.params.followText "set-order")) } := Heap.get?_push_size _ rfl
      have hT : Shared.TypeIs { s with heap := s.heap.push { cls := .type "set", dict := none, data := .set #[] 0 (.fresh 0 0 (!w.params.followText "set-order")) } } (.ref s.heap.objs.size) "set" := ⟨_, hS, rfl⟩
      have hli := F.called_set.init.lookup
      have hbi := F.called_set.init.bind (.ref s.heap.objs.size)
      repeat (any_goals (first | assumption | wp_step))

      refine codeAny_mono (codeAny_call_builtin (R := wants (fun r s₂ => r = .none ∧ ∃ h' tk, s₂ = { s with heap := h', toks := tk } ∧
          SetM w h' s.heap.objs.size (setK ks) ∧ (∀ b o, b < s.heap.objs.size → s.heap.get? b = some o → h'.get? b = some o)) E) F.called_set.init.plain F.entry_set_init (check_set_init_1 hT ?_)) fun r₂ s₂ hr₂ => ?_
      · obtain ⟨ol, hol, hcl, nl, hdl⟩ := hl
        obtain ⟨ocls, odict, odata, oslots⟩ := ol
        simp only at hcl hdl
        subst hcl; subst hdl
        have hol' : (s.heap.push { cls := .type "set", dict := none, data := .set #[] 0 (.fresh 0 0 (!w.params.followText "set-order")) }).get? l = some { cls := .type "list", dict := odict, data := .seq items nl, slots := oslots } := Heap.get?_push_of_some _ hol
        have hsls := F.sub_list_set
        have hslf := F.sub_list_frozenset
        have hne : (Value.type "list" == Value.type "dict") = false := by decide
        have hl1 : (s.heap.push { cls := .type "set", dict := none, data := .set #[] 0 (.fresh 0 0 (!w.params.followText "set-order")) }).IsList l items := ⟨_, hol', rfl, nl, rfl⟩
        unfold Builtin.«set.__init__» noKeywords Builtin.Frozenset.updateFrom
        generalize hPI : pyIter = PI
        wp_walk
        subst hPI

        refine wpAny_pyIter_list hl1 ?_
        refine wpAny_bind (wpAny_runValue ?_)
        have hlS : l < s.heap.objs.size := Heap.lt_size hol
        have hh3 : A.in1.in1.in1.handled = none := by simp [hh]
        have hneI : l ≠ (s.heap.push { cls := .type "set", dict := none, data := .set #[] 0 (.fresh 0 0 (!w.params.followText "set-order")) }).objs.size := by
          rw [Heap.size_push]; exact Nat.ne_of_lt (Nat.lt_succ_of_lt hlS)
        have hSf : s.heap.objs.size ∉ [(s.heap.push { cls := .type "set", dict := none, data := .set #[] 0 (.fresh 0 0 (!w.params.followText "set-order")) }).objs.size, l] := by
          rw [Heap.size_push]; simp only [List.mem_cons, List.mem_singleton, List.not_mem_nil, or_false, not_or]
          exact ⟨Nat.ne_of_lt (Nat.lt_succ_self _), Nat.ne_of_gt hlS⟩
        have hsz : ks.length = items.size := by
          have e : items.toList.length = ks.length := Paired.length hi
          rw [← e, Array.length_toList]
        have hval : ∀ (i : Nat) (v : Value), items[i]? = some v → ∃ k, ks[i]? = some k ∧ keyIs k v = true := fun i v hv => paired_get hi (by rw [Array.getElem?_toList]; exact hv)
        refine loopM ((Walks.list hh3 _ l hneI items).toS) s.heap.objs.size
          hSf ks hsz (by rw [← hsz]; exact hn1) hval (items.size - 0) 0 _ (by omega) (Nat.zero_le _)
          ⟨⟨_, Heap.get?_push_size _ rfl, rfl, rfl⟩, (hl1.push _)⟩ ?hS0 ?hR
        case hS0 =>
          exact (setM_fresh w).at fun o e => Heap.get?_push_of_some _ e
        case hR =>
          intro s' hm hS'
          obtain ⟨h', g', d', tk', os'⟩ := s'
          have eg : g' = s.gens := hm.gens
          have ed : d' = s.drawn := hm.drawn
          have eo : os' = s.os := hm.os
          subst eg; subst ed; subst eo
          show wpAny _ _ _ _ _ _
          refine wpAny_pure ?_
          show wpAny _ _ (ret Value.none) _ _ _
          refine wpAny_pure ⟨rfl, h', tk', rfl, hS', fun b o hb e => ?_⟩
          have hb1 : b ≠ s.heap.objs.size := Nat.ne_of_lt hb
          have hb2 : b ≠ (s.heap.push { cls := .type "set", dict := none, data := .set #[] 0 (.fresh 0 0 (!w.params.followText "set-order")) }).objs.size := by
            rw [Heap.size_push]; exact Nat.ne_of_lt (Nat.lt_succ_of_lt hb)
          exact hm.heap b o (by simp only [List.mem_cons, List.mem_singleton, List.not_mem_nil, or_false, not_or]; exact ⟨hb1, hb2⟩) (Heap.get?_push_of_some _ (Heap.get?_push_of_some _ e))

      · cases r₂ with
        | error e => exact hr₂
        | ok fl₂ =>
          cases fl₂ with
          | ret r =>
            obtain ⟨rfl, h', tk, rfl, hS', hk'⟩ := hr₂
            repeat (any_goals (first | assumption | wp_step))
            exact h _ _ hS' hk'
          | _ => exact hr₂.elim
    | _ => exact hr.elim
end
end G

-- part C18
namespace G
open PySem L2 RZ
open PyProof.Rows (seqObj)
open PySem.W (dataLt dataLe alike AllAlike Sortable sorted_data EachIs each_mem)
variable {X : Cx} {W : XK}

/-- a list's items as keys -/
def keysV : List Val → Option (List Key)
  | [] => some []
  | .int i :: r => (keysV r).map (.inl i :: ·)
  | .str x :: r => (keysV r).map (.inr ⟨x.toArray⟩ :: ·)
  | _ => none
def setHO (w : World) (a : Addr) (ks : List Key) : HO := .ext fun h => SetM w h a ks
def rSetM (X : Cx) : List V → Hp → VK → Prop := fun xs H Q => ∃ l ks, xs = [.ref l] ∧ H l = some (.lst (ks.map kV)) ∧ ks.length < 4000 ∧ ∀ p, H p = none → Q (.ref p) (upd H p (setHO X.w p (setK ks)))
theorem keysAre_of : ∀ {ks : List Key} {us : List Value}, Vals (ks.map kV) us → KeysAre us ks
  | [], us, h => by cases h; exact .nil
  | k :: ks, us, h => by
    rw [List.map_cons] at h
    cases h with
    | cons r rs =>
      refine .cons ?_ (keysAre_of rs)
      cases k with
      | inl i => obtain ⟨t, rfl⟩ := r; exact keyIs_int i t
      | inr x => obtain ⟨t, rfl⟩ := r; exact keyIs_str x t
theorem cr_setM (hc : X.calm = true) : CallR X (.type "set") (rSetM X) := by
  intro pins s σ H vs us Q I r h
  obtain ⟨l, ks, rfl, hl, hz, q⟩ := h
  obtain ⟨u, rfl, ru⟩ := vals1 r
  cases ru
  obtain ⟨its, rv, pl, _⟩ := I.list (SqL.of hl)
  refine call_set_M (I.ok.hd hc) pl.isList (keysAre_of rv) (by unfold scanBound; omega) fun h' tk hS hk => ?_
  have hO : ObjOk X.prog X.w (upd H s.heap.objs.size (setHO X.w s.heap.objs.size (setK ks))) h' s.heap.objs.size (setHO X.w s.heap.objs.size (setK ks)) := by
    have ⟨o, _, _, _, ho, _⟩ := hS
    exact ⟨hS, ⟨o, ho⟩, fun h1 h2 p k => SetM.at p k⟩
  exact ⟨.ref _, _, I.laid (t' := tk) (fun b o e => hk b o (Heap.lt_size e) e) (Nat.le_refl _) hO, rfl, q _ (I.hok.fresh (Nat.le_refl _))⟩

/-! ### sorted, len of a set -/
/-- a key as data -/
def kPy : Key → PyData
  | .inl i => .int i
  | .inr x => .str x
/-- all numbers, or all texts -/
def oneKind (ks : List Key) : Bool := ks.all (fun k => match k with | .inl _ => true | .inr _ => false) || ks.all (fun k => match k with | .inl _ => false | .inr _ => true)
theorem toPy_kVal (k : Key) : toPy (kVal k) = kPy k := by
  cases k with
  | inl i => rfl
  | inr x => simp [kVal, toPy, kPy]
def sortK (ks : List Key) : List Key := ks.mergeSort (dataLe false kPy)
theorem sortV_keys (ks : List Key) : sortV (ks.map kVal) = (sortK ks).map kVal := by
  unfold sortV sortK
  symm
  apply List.map_mergeSort
  intro a _ b _
  show (!dataLt (kPy b) (kPy a)) = (!dataLt (toPy (kVal b)) (toPy (kVal a)))
  rw [toPy_kVal, toPy_kVal]
theorem oneKind_cases {ks : List Key} (h : oneKind ks = true) : (∃ is : List Int, ks = is.map Sum.inl) ∨ ∃ xs : List Str, ks = xs.map Sum.inr := by
  unfold oneKind at h
  rw [Bool.or_eq_true] at h
  rcases h with h | h
  · left
    induction ks with
    | nil => exact ⟨[], rfl⟩
    | cons k ks ih =>
      simp only [List.all_cons, Bool.and_eq_true] at h
      obtain ⟨is, rfl⟩ := ih h.2
      cases k with
      | inl i => exact ⟨i :: is, rfl⟩
      | inr x => simp at h
  · right
    induction ks with
    | nil => exact ⟨[], rfl⟩
    | cons k ks ih =>
      simp only [List.all_cons, Bool.and_eq_true] at h
      obtain ⟨is, rfl⟩ := ih h.2
      cases k with
      | inr i => exact ⟨i :: is, rfl⟩
      | inl x => simp at h
theorem oneKind_perm {ks ls : List Key} (p : ks.Perm ls) (h : oneKind ls = true) : oneKind ks = true := by
  unfold oneKind at h ⊢
  rw [Bool.or_eq_true] at h ⊢
  rw [p.all_eq, p.all_eq]
  exact h
theorem sortK_perm {ks ls : List Key} (p : ks.Perm ls) (h : oneKind ls = true) : sortK ks = sortK ls := by
  have tot : ∀ (xs : List Key), oneKind xs = true → (sortK xs).Pairwise (fun a b => dataLe false kPy a b = true) := fun xs hx => by
    unfold sortK
    rcases oneKind_cases hx with ⟨is, rfl⟩ | ⟨ss, rfl⟩
    · have e : (is.map Sum.inl : List Key).mergeSort (dataLe false kPy) = (is.mergeSort (dataLe false fun b : Int => .int b)).map Sum.inl := by
        symm
        apply List.map_mergeSort
        intro a _ b _
        rfl
      rw [e, List.pairwise_map, PySem.W.dataLe_int (fun b => b)]
      refine (List.pairwise_mergeSort (fun a b c h1 h2 => by simp at *; omega) (fun a b => by simp; omega) is).imp fun {a b} h => ?_
      have := congrFun (congrFun (PySem.W.dataLe_int (fun b : Int => b)) a) b
      exact this.trans h
    · have e : (ss.map Sum.inr : List Key).mergeSort (dataLe false kPy) = (ss.mergeSort (dataLe false fun b : Str => .str b)).map Sum.inr := by
        symm
        apply List.map_mergeSort
        intro a _ b _
        rfl
      rw [e, List.pairwise_map, PySem.W.dataLe_str (fun b => b)]
      refine (List.pairwise_mergeSort (le := fun a b : Str => decide (a.cps.toList ≤ b.cps.toList)) (fun a b c h1 h2 => decide_eq_true (List.le_trans (of_decide_eq_true h1) (of_decide_eq_true h2))) (fun a b => by rw [Bool.or_eq_true, decide_eq_true_eq, decide_eq_true_eq]; exact List.le_total _ _) ss).imp fun {a b} h => ?_
      have := congrFun (congrFun (PySem.W.dataLe_str (fun b : Str => b)) a) b
      exact this.trans h
  have p2 : (sortK ks).Perm (sortK ls) := (List.mergeSort_perm ..).trans (p.trans (List.mergeSort_perm ..).symm)
  refine List.Perm.eq_of_pairwise (le := fun a b => dataLe false kPy a b = true) (fun a b ha hb h1 h2 => ?_) (tot _ (oneKind_perm p h)) (tot _ h) p2
  have ha' : a ∈ ls := p.mem_iff.mp ((List.mergeSort_perm ..).mem_iff.mp ha)
  have hb' : b ∈ ls := (List.mergeSort_perm ..).mem_iff.mp hb
  rcases oneKind_cases h with ⟨is, rfl⟩ | ⟨ss, rfl⟩
  · obtain ⟨i, _, rfl⟩ := List.mem_map.mp ha'
    obtain ⟨j, _, rfl⟩ := List.mem_map.mp hb'
    have e1 := congrFun (congrFun (PySem.W.dataLe_int (fun b : Int => b)) i) j
    have e2 := congrFun (congrFun (PySem.W.dataLe_int (fun b : Int => b)) j) i
    have f1 := e1.symm.trans h1
    have f2 := e2.symm.trans h2
    simp only [decide_eq_true_eq] at f1 f2
    congr 1
    omega
  · obtain ⟨i, _, rfl⟩ := List.mem_map.mp ha'
    obtain ⟨j, _, rfl⟩ := List.mem_map.mp hb'
    have e1 := congrFun (congrFun (PySem.W.dataLe_str (fun b : Str => b)) i) j
    have e2 := congrFun (congrFun (PySem.W.dataLe_str (fun b : Str => b)) j) i
    have f1 := e1.symm.trans h1
    have f2 := e2.symm.trans h2
    simp only [decide_eq_true_eq] at f1 f2
    congr 1
    exact PySem.W.str_of_cps (List.le_antisymm f1 f2)

theorem setK_nodup (ks : List Key) : (setK ks).Nodup := by
  have : ∀ (ks acc : List Key), acc.Nodup → (ks.foldl addK acc).Nodup := by
    intro ks
    induction ks with
    | nil => intro acc h; exact h
    | cons k ks ih => intro acc h; exact ih _ (addK_nodup h)
  exact this ks [] .nil
def rSortM (X : Cx) : List V → Hp → VK → Prop := fun xs H Q => ∃ a ks, xs = [.ref a] ∧ H a = some (setHO X.w a ks) ∧ oneKind ks = true ∧ ks.length < 4000 ∧ ∀ p, H p = none → Q (.ref p) (upd H p (.lst ((sortK ks).map kV)))
theorem setHO_get {pins : List (Addr × Obj)} {σ : L2.St} {H : Hp} {s : Shared} {a : Addr} {ks : List Key} (I : Inv X pins σ H s) (ha : H a = some (setHO X.w a ks)) : SetM X.w s.heap a ks := (I.hok a _ ha).1
theorem keyV_kV {v : Value} {k : Key} (h : keyIs k v = true) : RelV (kV k) v := by
  rcases keyIs_shape h with ⟨i, t, rfl, rfl⟩ | ⟨x, t, rfl, rfl⟩ <;> exact ⟨t, rfl⟩
theorem reads_key {h : Heap} {v : Value} {k : Key} (hk : keyIs k v = true) : ∃ as, Reads h v (kPy k) as := by
  rcases keyIs_shape hk with ⟨i, t, rfl, rfl⟩ | ⟨x, t, rfl, rfl⟩
  · exact ⟨[], .int _ _⟩
  · exact ⟨[], .str _ _⟩
theorem each_keys_of {w : World} : ∀ {out : List Value}, (∀ v ∈ out, keyIs (keyV v) v = true) → EachIs (fun (v : Value) (k : Key) => keyIs k v = true) out (out.map keyV)
  | [], _ => .nil
  | v :: out, h => .cons (h v (by simp)) (each_keys_of (w := w) fun u hu => h u (by simp [hu]))
theorem vals_of_each {out : List Value} {ks : List Key} (h : EachIs (fun (v : Value) (k : Key) => keyIs k v = true) out ks) : Vals (ks.map kV) out := by
  induction h with
  | nil => exact .nil
  | cons h1 _ ih => exact .cons (keyV_kV h1) ih
theorem alike_keys {ks : List Key} (h : oneKind ks = true) : AllAlike (ks.map kPy) := by
  intro d hd d' hd'
  obtain ⟨a, ha, rfl⟩ := List.mem_map.mp hd
  obtain ⟨b, hb, rfl⟩ := List.mem_map.mp hd'
  rcases oneKind_cases h with ⟨is, rfl⟩ | ⟨ss, rfl⟩
  · obtain ⟨i, _, rfl⟩ := List.mem_map.mp ha
    obtain ⟨j, _, rfl⟩ := List.mem_map.mp hb
    rfl
  · obtain ⟨i, _, rfl⟩ := List.mem_map.mp ha
    obtain ⟨j, _, rfl⟩ := List.mem_map.mp hb
    rfl
theorem able_keys {ks : List Key} : Sortable (ks.map kPy) := by
  right
  intro d hd
  obtain ⟨a, ha, rfl⟩ := List.mem_map.mp hd
  cases a <;> simp [kPy]
theorem cr_sortM (hc : X.calm = true) (hu : X.A.units + 64 < cLine) : CallR X (.builtin "sorted") (rSortM X) := by
  intro pins s σ H vs us Q I r h
  obtain ⟨a, ks, rfl, ha, hok, hz, q⟩ := h
  obtain ⟨u, rfl, ru⟩ := vals1 r
  cases ru
  obtain ⟨o, es, ep, t, ho, hex, hd, g, pk, nd, hb, hf, hr, hl⟩ := setHO_get I ha
  refine Calls.call_function_entry PyProof.Rows.kind_sorted PyProof.Rows.plain_sorted PyProof.Rows.entry_sorted (PyProof.Rows.args_sorted1 _) ?_
  unfold Builtin.«sorted»
  refine wpAny_bind (m := checkCount "sorted" 1 1 _) (wpAny_pure ?_)
  refine wpAny_bind (collect_set (A := X.A.in1) (I.ok.hd hc) ⟨o, ho, hex.1, hd⟩ hf hb hr hl fun s1 out k1 hz1 g1 o1 pm => ?_)
  have hgood : ∀ v ∈ out, keyIs (keyV v) v = true := fun v hv => by
    obtain ⟨e, he, rfl⟩ := List.mem_map.mp (pm.mem_iff.mp hv)
    exact (g e he).1
  have pk2 : (out.map keyV).Perm ks := by
    refine (pm.map keyV).trans ?_
    rw [List.map_map]
    exact pk
  have hlen : out.length = ks.length := by
    have := pk2.length_eq
    rw [List.length_map] at this
    exact this
  have hsz : out.length ≤ sizeLine := by rw [hlen, sizeLine_eq]; omega
  refine wpAny_bind (wpAny_newList ?_ hsz)
  have hoL : (s1.heap.push (seqObj "list" out.toArray 0)).get? s1.heap.objs.size = some (seqObj "list" out.toArray 0) := Heap.get?_push_size _ rfl
  have e := each_keys_of (w := X.w) hgood
  refine wpAny_bind (wpAny_holding (PySem.W.list_sort_data (s := { s1 with heap := s1.heap.push (seqObj "list" out.toArray 0) }) (R := fun (v : Value) (k : Key) => keyIs k v = true) (enc := kPy) hoL e (e.mono fun v k hk => ?_) (alike_keys (oneKind_perm pk2 hok)) able_keys (by rw [List.length_map]; exact hsz) (fun b _ => ?_) fun out' h1 h2 => ?_))
  · rcases keyIs_shape hk with ⟨i, t, rfl, rfl⟩ | ⟨x, t, rfl, rfl⟩
    · exact ⟨[], .int _ _, by simp⟩
    · exact ⟨[], .str _ _, by simp⟩
  · have : (kPy b).depth = 0 := by cases b <;> rfl
    rw [this]
    have : X.A.in1.units = X.A.units + 1 := PySem.Around.in1_units ..
    omega
  · obtain ⟨c, hc'⟩ := PyProof.Rows.sortedHeap_at (vs := out) (out := out'.toArray) hoL
    have hv := vals_of_each h2
    have e3 : sortK (out.map keyV) = sortK ks := sortK_perm pk2 hok
    have hv2 : Vals ((sortK ks).map kV) out' := by rw [← e3]; exact hv
    have hlen2 : ((sortK ks).map kV).length ≤ sizeLine := by rw [hv2.length, h1, List.length_map]; exact hsz
    have hn : H s1.heap.objs.size = none := I.hok.fresh hz1
    have kp : ∀ b u, s.heap.get? b = some u → (PyProof.Rows.sortedHeap (s1.heap.push (seqObj "list" out.toArray 0)) s1.heap.objs.size out out'.toArray).get? b = some u := fun b u e => by
      have q := k1 b u e
      have hlt := Heap.lt_size q
      rw [PyProof.Rows.sortedHeap_old (Nat.ne_of_lt hlt) (by rw [PyProof.Rows.size_push']; exact Nat.lt_succ_of_lt hlt)]
      exact Heap.get?_push_of_some _ q
    have J : Inv X pins σ (upd H s1.heap.objs.size (.lst ((sortK ks).map kV))) { s with heap := PyProof.Rows.sortedHeap (s1.heap.push (seqObj "list" out.toArray 0)) s1.heap.objs.size out out'.toArray, gens := s1.gens, drawn := s1.drawn, toks := s1.toks } :=
      I.call (ch := []) (Un.laid kp hz1 hn) (I.hok.laid kp hz1 ⟨hlen2, out', c, hv2, hc'⟩) (by rw [g1]; exact I.bare) (fun _ z => nomatch z)
    have e : ({ s1 with heap := PyProof.Rows.sortedHeap (s1.heap.push (seqObj "list" out.toArray 0)) s1.heap.objs.size out out'.toArray } : Shared) = { s with heap := PyProof.Rows.sortedHeap (s1.heap.push (seqObj "list" out.toArray 0)) s1.heap.objs.size out out'.toArray, gens := s1.gens, drawn := s1.drawn, toks := s1.toks } := by
      cases s1
      cases s
      cases o1
      rfl
    refine wpAny_pure ⟨_, rfl, .ref s1.heap.objs.size, _, ?_, rfl, q _ hn⟩
    show Inv X pins σ _ { s1 with heap := PyProof.Rows.sortedHeap (s1.heap.push (seqObj "list" out.toArray 0)) s1.heap.objs.size out out'.toArray }
    rw [e]
    exact J
def rLenM (X : Cx) : List V → Hp → VK → Prop := fun xs H Q => ∃ a ks, xs = [.ref a] ∧ H a = some (setHO X.w a ks) ∧ ks.length < 4000 ∧ Q (.int ks.length) H
theorem cr_lenM : CallR X (.builtin "len") (rLenM X) := by
  intro pins s σ H vs us Q I r h
  obtain ⟨a, ks, rfl, ha, hz, q⟩ := h
  obtain ⟨u, rfl, ru⟩ := vals1 r
  cases ru
  obtain ⟨o, es, ep, t, ho, hex, hd, g, pk, nd, hb, hf, hr, hl⟩ := setHO_get I ha
  have e : es.size = ks.length := by
    have := pk.length_eq
    rw [List.length_map, Array.length_toList] at this
    exact this
  exact call_len_set ho hex hd hf (by omega) ⟨.int ks.length, H, I.tok _, ⟨_, by rw [e]⟩, q⟩

/-! ### the rules: sorted(set(xs)), len(set(xs)) -/
theorem keysV_rep {K : PySem.W.Frag} {β : List Addr} {F : Hp} : ∀ {vs : List Val} {ks : List Key} {us : List V}, keysV vs = some ks → RepL K β F vs us → us = ks.map kV
  | [], ks, us, h, r => by
    simp only [keysV, Option.some.injEq] at h
    subst h
    rw [RepL] at r
    exact r
  | v :: vs, ks, us, h, r => by
    rw [RepL] at r
    obtain ⟨u, us', rfl, r1, r2⟩ := r
    cases v with
    | int i =>
      simp only [keysV, Option.map_eq_some_iff] at h
      obtain ⟨ks', h1, rfl⟩ := h
      rw [Rep] at r1
      rw [r1, keysV_rep h1 r2]
      rfl
    | str x =>
      simp only [keysV, Option.map_eq_some_iff] at h
      obtain ⟨ks', h1, rfl⟩ := h
      rw [Rep] at r1
      rw [r1, keysV_rep h1 r2]
      rfl
    | _ => simp [keysV] at h
theorem repL_keys {K : PySem.W.Frag} {β : List Addr} {F : Hp} : ∀ (ks : List Key), RepL K β F (ks.map kVal) (ks.map kV)
  | [] => by simp [RepL]
  | k :: ks => by
    rw [List.map_cons, List.map_cons, RepL]
    refine ⟨_, _, rfl, ?_, repL_keys ks⟩
    cases k with
    | inl i => show Rep K β F (.int i) (.int i); rw [Rep]
    | inr x => show Rep K β F (.str x.cps.toList) (.str x); rw [Rep]
/-- the members of a list, each once, as values -/
def dedupV (xs : List Val) : Option (List Key) := (keysV xs).map setK
def ssortF (f : EF) : EF := fun ρ m => (f ρ m).bind fun v m1 => match asL m1 v with
  | some xs => match keysV xs with
    | some ks => if oneKind ks = true ∧ ks.length < 4000 then .ok (.lst (sortV ((setK ks).map kVal))) m1 else .stuck
    | none => .stuck
  | none => .stuck
def slenF (f : EF) : EF := fun ρ m => (f ρ m).bind fun v m1 => match asL m1 v with
  | some xs => match keysV xs with
    | some ks => if ks.length < 4000 then .ok (.int (setK ks).length) m1 else .stuck
    | none => .stuck
  | none => .stuck
theorem addK_sub {ks : List Key} {k j : Key} (h : j ∈ addK ks k) : j ∈ ks ∨ j = k := by
  unfold addK at h
  split at h
  · exact .inl h
  · rcases List.mem_append.mp h with h | h
    · exact .inl h
    · exact .inr (List.mem_singleton.mp h)
theorem setK_sub {ks : List Key} {j : Key} (h : j ∈ setK ks) : j ∈ ks := by
  have : ∀ (ks acc : List Key) (j : Key), j ∈ ks.foldl addK acc → j ∈ acc ∨ j ∈ ks := by
    intro ks
    induction ks with
    | nil => intro acc j h; exact .inl h
    | cons k ks ih =>
      intro acc j h
      rcases ih _ j h with h | h
      · rcases addK_sub h with h | h
        · exact .inl h
        · exact .inr (by simp [h])
      · exact .inr (by simp [h])
  rcases this ks [] j h with h | h
  · cases h
  · exact h
theorem oneKind_set {ks : List Key} (h : oneKind ks = true) : oneKind (setK ks) = true := by
  unfold oneKind at h ⊢
  rw [Bool.or_eq_true, List.all_eq_true, List.all_eq_true] at h ⊢
  exact h.imp (fun h x hx => h x (setK_sub hx)) (fun h x hx => h x (setK_sub hx))
theorem ee_ssort {n : Nat} (g : Good X n) {e : Expr} {f : EF} {p p2 q pos : Pos} (he : EE X W e f) (hg : Gl X "sorted" := by rfl) (hg2 : Gl X "set" := by rfl)
    (hs1 : starEach [e] X.env = (false, eval e X.env) :: starEach [] X.env := by rfl) (hp1 : (backTo q (starEach [] X.env)).any (·.1) = false := by rfl)
    (hs2 : starEach [.Call (.Name "set" p2) [e] [] q] X.env = (false, eval (.Call (.Name "set" p2) [e] [] q) X.env) :: starEach [] X.env := by rfl) (hp2 : (backTo pos (starEach [] X.env)).any (·.1) = false := by rfl) :
    EE X W (.Call (.Name "sorted" p) [.Call (.Name "set" p2) [e] [] q] [] pos) (ssortF f) := by
  refine ⟨pe_imp (pe_callB (cr_sortM g.calm g.u64) hg g.blt.sorted PyProof.Rows.boot_sorted (pa_cons (pe_callTy (cr_setM g.calm) hg2 g.blt.set PyProof.Rows.boot_set (pa_cons he.pe pa_nil hs1) (by decide) (by decide) hs1 hp1) pa_nil hs2) (by decide) (by decide) hs2 hp2) fun σ H Q ⟨ρ, m, β, F, er, wl, h⟩ => ?_⟩
  refine t_thenE er wl h fun v m1 β1 F1 H1 x x1 w1 r1 h1 => ?_
  show rSetM X [x] H1 fun y H2 => rSortM X [y] H2 Q
  split at h1
  · rename_i xs hx
    split at h1
    · rename_i ks hk
      split at h1
      · rename_i hc
        obtain ⟨a, us, rfl, ha, hu⟩ := asL_at w1 r1 hx
        have e1 := keysV_rep hk hu
        subst e1
        refine ⟨a, ks, rfl, ha, hc.2, fun p hp => ?_⟩
        show rSortM X [.ref p] _ Q
        have hl := setK_len _ ks rfl
        obtain ⟨x2, w2⟩ := w1.beside hp (setHO X.w p (setK ks))
        refine ⟨p, setK ks, rfl, upd_same, oneKind_set hc.1, by omega, fun p2 hp2 => ?_⟩
        have h2 := Fin.ext x2 h1
        rw [sortV_keys] at h2
        exact h2.lst w2 (repL_keys _) hp2
      · exact h1.elim
    · exact h1.elim
  · exact h1.elim
theorem ee_slen {n : Nat} (g : Good X n) {e : Expr} {f : EF} {p p2 q pos : Pos} (he : EE X W e f) (hg : Gl X "len" := by rfl) (hg2 : Gl X "set" := by rfl)
    (hs1 : starEach [e] X.env = (false, eval e X.env) :: starEach [] X.env := by rfl) (hp1 : (backTo q (starEach [] X.env)).any (·.1) = false := by rfl)
    (hs2 : starEach [.Call (.Name "set" p2) [e] [] q] X.env = (false, eval (.Call (.Name "set" p2) [e] [] q) X.env) :: starEach [] X.env := by rfl) (hp2 : (backTo pos (starEach [] X.env)).any (·.1) = false := by rfl) :
    EE X W (.Call (.Name "len" p) [.Call (.Name "set" p2) [e] [] q] [] pos) (slenF f) := by
  refine ⟨pe_imp (pe_callB cr_lenM hg g.blt.len PySem.boot_len (pa_cons (pe_callTy (cr_setM g.calm) hg2 g.blt.set PyProof.Rows.boot_set (pa_cons he.pe pa_nil hs1) (by decide) (by decide) hs1 hp1) pa_nil hs2) (by decide) (by decide) hs2 hp2) fun σ H Q ⟨ρ, m, β, F, er, wl, h⟩ => ?_⟩
  refine t_thenE er wl h fun v m1 β1 F1 H1 x x1 w1 r1 h1 => ?_
  show rSetM X [x] H1 fun y H2 => rLenM X [y] H2 Q
  split at h1
  · rename_i xs hx
    split at h1
    · rename_i ks hk
      split at h1
      · rename_i hc
        obtain ⟨a, us, rfl, ha, hu⟩ := asL_at w1 r1 hx
        have e1 := keysV_rep hk hu
        subst e1
        refine ⟨a, ks, rfl, ha, hc, fun p hp => ?_⟩
        show rLenM X [.ref p] _ Q
        have hl := setK_len _ ks rfl
        obtain ⟨x2, w2⟩ := w1.beside hp (setHO X.w p (setK ks))
        exact ⟨p, setK ks, rfl, upd_same, by omega, (Fin.ext x2 h1).int w2⟩
      · exact h1.elim
    · exact h1.elim
  · exact h1.elim
end G

-- part C19
namespace G
open PySem L2 RZ
variable {X : Cx} {W : XK}

/-! ### a walk over a list, a tuple, a text -/
def iAnyS (K : PySem.W.Frag) (te : TE) : TI := fun σ H R => te σ H fun v H1 => (∃ a, v = .ref a ∧ (∃ xs, SqL K H1 a xs) ∧ R (Itl K a) H1) ∨ (∃ a, v = .ref a ∧ (∃ xs, SqT K H1 a xs) ∧ R (Itt K a) H1) ∨ ∃ x, v = .str x ∧ R (Its x) H1
theorem pi_any {X : Cx} {tg e : Expr} {te : TE} (he : PE X e te) : PI X tg e (iAnyS X.K te) := by
  refine ⟨fun pins s σ H R I h => ?_⟩
  refine thn (he.run pins s σ H _ I h) fun v s1 ⟨y, H1, I1, r1, q1⟩ => ?_
  rcases q1 with ⟨a, rfl, ⟨xs, hq⟩, q⟩ | ⟨a, rfl, ⟨xs, hq⟩, q⟩ | ⟨x, rfl, q⟩
  · cases r1
    obtain ⟨its, rv, p, hz⟩ := I1.list hq
    refine wpAny_pyIter_list p.isList ?_
    exact pi_one (tk := s1.toks) I1 _ (turn_list a _) ⟨_, Heap.get?_push_size _ rfl, rfl, rfl⟩ q
  · cases r1
    obtain ⟨its, rv, p, hz⟩ := I1.tuple hq
    refine wpAny_pyIter_tuple (show s1.heap.IsTuple a its.toArray from p) ?_
    exact pi_one (tk := s1.toks) I1 _ (turn_tuple a _) ⟨_, Heap.get?_push_size _ rfl, rfl, rfl⟩ q
  · obtain ⟨t, rfl⟩ := r1
    cases ha : x.cps.all (· < 128)
    · exact wpAny_pyIter_wide ha (pi_one (tk := s1.toks) I1 _ (turn_str _ x t "str_iterator" (.inr rfl)) ⟨_, Heap.get?_push_size _ rfl, rfl, rfl⟩ q)
    · exact wpAny_pyIter_ascii ha (pi_one (tk := s1.toks) I1 _ (turn_str _ x t "str_ascii_iterator" (.inl rfl)) ⟨_, Heap.get?_push_size _ rfl, rfl, rfl⟩ q)
def itemsA (v : Val) (m : Sto) : Res (List Val × Gd) := match v with
  | .str z => .ok (z.map fun c => .str [c], none) m
  | v => itemsQ v m
theorem ei_any {tg e : Expr} {f : EF} (h : EE X W e f) : EI X W tg e (itF itemsA f) := by
  refine ⟨_, pi_any h.pe, fun σ H R ρ m β F er wl h => ?_⟩
  refine t_thenI er wl h fun v m1 β1 F1 H1 u x1 w1 r1 h1 => ?_
  unfold itemsA at h1
  split at h1
  · rename_i z
    rw [Rep] at r1
    subst r1
    refine .inr (.inr ⟨_, rfl, h1 β1 F1 H1 _ (Ext.refl _ _ _) w1 ⟨fun i β' F' m' H' hi x w o => ?_, fun β' F' m' H' x w o => ?_, fun i β' F' m' H' x H'' hi e w o y => ?_⟩ trivial⟩)
    · simpa [Its] using hi
    · simp [Its]
    · obtain ⟨rfl, c, hc, rfl⟩ := y
      have hi' : i < z.length := by simpa using hi
      refine ⟨.str [c], F', ?_, Ext.refl _ _ _, w, by rw [Rep]⟩
      simp only [List.getElem?_toArray] at hc
      simp [hc]
  · cases hv : itemsQ v m1 with
    | ok p m2 =>
      obtain ⟨xs, g⟩ := p
      rw [hv] at h1
      obtain ⟨rfl, go, a, rfl, hh⟩ := seq_stays w1 r1 hv
      rcases hh with ⟨hl, hs⟩ | ⟨hl, hs⟩
      · exact .inl ⟨a, rfl, hl, h1 β1 F1 H1 _ (Ext.refl _ _ _) w1 (walkR_list hs) go⟩
      · exact .inr (.inl ⟨a, rfl, hl, h1 β1 F1 H1 _ (Ext.refl _ _ _) w1 (walkR_tup hs) go⟩)
    | exc c m2 => exact (itemsQ_x hv).elim
    | stuck => rw [hv] at h1; exact h1.elim

/-! ### contexts within comprehensions -/
theorem Ctx.blk {n : Nat} (c : Ctx X W n) (s : Shared) (H : Hp) (scope : Scope) (cenv : PySem.Env) (fp : List Addr) : Ctx (X.blk s H scope cenv fp) E0 n :=
  ⟨⟨c.calm, c.nd, c.room, c.blt⟩, fun u s' ⟨_, _, _, _, _, _, _, _, _, _, _, _, _, _, _, _, z⟩ => z.elim⟩

/-! ### the law's own promise -/
def SpLaw (K : PySem.W.Frag) : Sp := fun vs H Q _ => ∃ (a : Addr) (ns : List Int), vs = [.ref a] ∧ SqL K H a (ns.map V.int) ∧ ns.length ≤ 63 ∧ (∀ z ∈ ns, Builtin.Int.intBits z ≤ 1048576) ∧ ∀ H', Q (.bl true) H'
theorem law_of {P : Program} {w : World} {K : PySem.W.Frag} {mg : Str → Option Value} {base : Heap} {CX : CXT} {k : Nat} {f : Addr} {fd : FuncData} {ps : List Str} {g : VFn} (h : FnOk P w K mg base CX k f fd ps (SpG K mg 1 g))
    (ht : ∀ ns : List Int, ns.length ≤ 63 → (∀ z ∈ ns, Builtin.Int.intBits z ≤ 1048576) → ∃ m, g [.scr ns] [] = .ok (.bl true) m) : FnOk P w K mg base CX k f fd ps (SpLaw K) :=
  L2.FnOk.imp h fun vs H Q E ⟨a, ns, e, hs, hl, hb, q⟩ => by
    subst e
    obtain ⟨m, hm⟩ := ht ns hl hb
    refine ⟨[.scr ns], [], [], H, rfl, ?_, ⟨fun _ _ e => e, rfl, List.nodup_nil, (by simp), fun n a c e => by simp at e⟩, ?_⟩
    · rw [RepL]
      exact ⟨.ref a, [], rfl, by rw [Rep]; exact ⟨a, rfl, hs⟩, by rw [RepL]⟩
    · rw [hm]
      intro β' F' H' u x w r
      rw [Rep] at r
      rw [r]
      exact q H'
end G

-- part C20
namespace G
open PySem L2 RZ
variable {X : Cx} {W : XK}

/-! ### dict(pairs), of a list or a tuple: int and text keys -/
theorem call_dictT (hcalm : X.calm = true) : CallR X (.type "dict") (fun xs H Q => ∃ (a : Addr) (o : Obj) (ps : List Addr) (kvs : List (Key × V)), xs = [.ref a] ∧ o.dict = none ∧ H a = some (.frz o (.tup (ps.map V.ref))) ∧
    Paired (fun p kv => SqT X.K H p [kV kv.1, kv.2]) ps kvs ∧ ∀ p, H p = none → Q (.ref p) (upd H p (.dK (mergeK [] kvs)))) := by
  intro pins s σ H xs us Q I r q
  obtain ⟨a, o, ps, kvs, rfl, hdn, hf, hp, q⟩ := q
  obtain ⟨u, rfl, rx⟩ := vals1 r
  cases rx
  obtain ⟨ho, hz, its, rv, o', ho', hc, n, hdat⟩ := I.hok a _ hf
  rw [ho] at ho'
  cases ho'
  have ei := refs_at rv
  subst ei
  rw [List.length_map] at hz
  obtain ⟨prs, rel, hl, hpr⟩ := pairs_of I hp
  have hl' : prs.length = ps.length := hl
  let keyOf : Nat → Value := fun j => match ps[j]? with
    | some b => (match s.heap.get? b with | some ob => (match ob.data with | .seq it _ => it[0]?.getD .none | _ => .none) | none => .none)
    | none => .none
  have hkey : ∀ (j : Nat) (z : Key × Value), prs[j]? = some z → ∃ b, ps[j]? = some b ∧ s.heap.IsTuple b #[keyOf j, z.2] ∧ keyIs z.1 (keyOf j) = true := fun j z e => by
    obtain ⟨b, u, e1, e2, e3⟩ := hpr j z e
    have ek : keyOf j = u := by
      obtain ⟨ob, g1, _, m, g2⟩ := id e2
      simp only [keyOf, e1, g1, g2]
      rfl
    rw [ek]
    exact ⟨b, e1, e2, e3⟩
  let rows : List (Value × Value) := prs.mapIdx fun j z => (keyOf j, z.2)
  have hrl : rows.length = ps.length := by simp [rows, hl']
  have hrow : ∀ (j : Nat) (k v : Value), rows[j]? = some (k, v) → ∃ z, prs[j]? = some z ∧ k = keyOf j ∧ v = z.2 := fun j k v e => by
    simp only [rows, List.getElem?_mapIdx, Option.map_eq_some_iff] at e
    obtain ⟨z, e1, e2⟩ := e
    cases e2
    exact ⟨z, e1, rfl, rfl⟩
  have P := PySem.PairArg.tuple (prog := X.prog) (w := X.w) a (ps.map Value.ref).toArray (fun j => ps.getD j 0) rows
  refine PySem.call_dict_pairs (knd := mixKind X.prog X.w) (kvs := prs) P (I.ok.hd hcalm) ⟨⟨o, n, ho, hc, hdn, hdat⟩, by simp [hrl], fun j k v e => ?_⟩ ⟨by rw [hrl, hl'], fun i k v e => ?_⟩ (by rw [hrl]; exact hz) fun h' tk hd' kp => ?_
  · obtain ⟨z, e1, rfl, rfl⟩ := hrow j k v e
    obtain ⟨b, e2, e3, _⟩ := hkey j z e1
    refine ⟨by simp [e2, List.getD], .inl ?_⟩
    have : ps.getD j 0 = b := by simp [List.getD, e2]
    show s.heap.IsTuple (ps.getD j 0) _
    rw [this]
    exact e3
  · obtain ⟨z, e1, rfl, rfl⟩ := hrow i k v e
    obtain ⟨b, e2, e3, e4⟩ := hkey i z e1
    exact ⟨z.1, e1, e4⟩
  · have hm : (s.heap.objs.size == sysModules) = false := beq_eq_false_iff_ne.mpr (Nat.ne_of_gt I.big)
    have hlen : (mergeK [] kvs).length ≤ sizeLine := by
      refine Nat.le_trans (length_mergeK kvs []) ?_
      rw [List.length_nil, Nat.zero_add, rel.length, hl]
      exact hz
    exact ⟨.ref s.heap.objs.size, upd H s.heap.objs.size (.dK (mergeK [] kvs)), I.laid (t' := tk) (fun b o e => kp b o (by simp) e) (Nat.le_refl _) (show ObjOk X.prog X.w _ _ _ (.dK (mergeK [] kvs)) from ⟨hlen, hm, merged [] prs, KV.merge rel .nil, hd'⟩), rfl, q _ (I.hok.fresh (Nat.le_refl _))⟩
/-- the pairs of a row, their keys ints and texts -/
def pairsV : List Val → Option (List (Val × Val))
  | [] => some []
  | .tup [k, v] :: r => if kfit1 k = true then (pairsV r).map ((k, v) :: ·) else none
  | _ => none
def dictV : VFn := fun vs m => match vs with
  | [v] => match tlOf m v with
    | some xs => match pairsV xs with
      | some ps => .ok (.dct .k (mergeV [] ps)) m
      | none => .stuck
    | none => .stuck
  | _ => .stuck
theorem pairs_at {K : PySem.W.Frag} {β : List Addr} {F H : Hp} (hs : ∀ a o, F a = some o → H a = some o) : ∀ {xs : List Val} {us : List V} {ps : List (Val × Val)}, pairsV xs = some ps → RepL K β F xs us →
    ∃ (as : List Addr) (kvs : List (Key × V)), us = as.map V.ref ∧ Paired (fun p kv => SqT K H p [kV kv.1, kv.2]) as kvs ∧ (ps.all fun p => kfit1 p.1) = true ∧ RepPs K β F ps (kvs.map fun kv => (kV kv.1, kv.2))
  | [], us, ps, h, r => by
    rw [RepL] at r
    simp only [pairsV, Option.some.injEq] at h
    subst h r
    exact ⟨[], [], rfl, .nil, rfl, by simp [RepPs, RepL]⟩
  | x :: xs, us, ps, h, r => by
    rw [RepL] at r
    obtain ⟨u, us', rfl, r1, r2⟩ := r
    unfold pairsV at h
    split at h
    · rename_i h0; cases h0
    · rename_i k v r' h0
      cases h0
      split at h
      · rename_i hk
        rw [Option.map_eq_some_iff] at h
        obtain ⟨ps', h1, rfl⟩ := h
        obtain ⟨as, kvs, rfl, h2, h3, h4⟩ := pairs_at hs h1 r2
        rw [Rep] at r1
        obtain ⟨a, vs, rfl, ha, hv⟩ := r1
        obtain ⟨y, z, rfl, ry, rz⟩ := repL2 hv
        obtain ⟨q, rfl, rfl⟩ := kfit1_key ry hk
        refine ⟨a :: as, (q, z) :: kvs, rfl, .cons (ha.sq hs) h2, by simp [h3, hk], ?_, ?_⟩
        · rw [List.map_cons, List.map_cons, List.map_cons, RepL]; exact ⟨_, _, rfl, ry, h4.1⟩
        · rw [List.map_cons, List.map_cons, List.map_cons, RepL]; exact ⟨_, _, rfl, rz, h4.2⟩
      · cases h
    · cases h
theorem mergeK_kvs {K : PySem.W.Frag} {β : List Addr} {F : Hp} {ps : List (Val × Val)} {kvs : List (Key × V)} (h : RepPs K β F ps (kvs.map fun kv => (kV kv.1, kv.2))) (hf : (ps.all fun p => kfit1 p.1) = true) :
    RepD K β F (mergeV [] ps) ((mergeK [] kvs).map fun p => (kVal p.1, p.2)) := by
  obtain ⟨kvs', e, r⟩ := mergeK_rep (acc := []) (ks := []) h hf (by simp [RepD])
  have inj : ∀ a b : Key × V, (kV a.1, a.2) = (kV b.1, b.2) → a = b := by
    rintro ⟨a, x⟩ ⟨b, y⟩ e
    simp only [Prod.mk.injEq] at e
    obtain ⟨e1, rfl⟩ := e
    cases a <;> cases b <;> simp [kV] at e1 <;> rw [e1]
  have : kvs' = kvs := by
    have := List.map_inj_right (f := fun kv : Key × V => (kV kv.1, kv.2)) (fun a b e => inj a b e) |>.mp e.symm
    exact this
  subst this
  exact r
theorem keyT_refs {K : PySem.W.Frag} {β : List Addr} {F : Hp} : ∀ {xs : List Val} {as : List Addr} {ps : List (Val × Val)}, pairsV xs = some ps → keyT xs = false := by
  intro xs as ps h
  cases xs with
  | nil => rfl
  | cons x xs =>
    unfold pairsV at h
    split at h
    · rename_i h0; cases h0
    · rename_i h0; cases h0; rfl
    · cases h
theorem tDict {n : Nat} (g : Good X n) : TypOk X W "dict" dictV := by
  refine ⟨"dict", _, (call_dictP g.calm).or (call_dictT g.calm), fun β F m H vs xs Q wl r h => ?_, PyProof.Rows.boot_dict, g.blt.dict, by decide, by decide⟩
  unfold dictV at h
  split at h
  · split at h
    · rename_i xs hx
      split at h
      · rename_i ps hp
        obtain ⟨x, rfl, rx⟩ := repL1 r
        obtain ⟨a, us, rfl, hu, hh⟩ := tl_at wl rx hx
        obtain ⟨as, kvs, rfl, h2, h3, h4⟩ := pairs_at wl.sub hp hu
        have hm := mergeK_kvs h4 h3
        have fin : ∀ p, H p = none → Q (.ref p) (upd H p (.dK (mergeK [] kvs))) := fun p hp => by
          obtain ⟨x2, w2⟩ := wl.lay hp (.dK (mergeK [] kvs))
          refine h _ _ _ _ x2 w2 ?_
          rw [Rep]
          exact ⟨p, _, _, rfl, upd_same, ⟨_, rfl, rfl⟩, hm.ext x2⟩
        rcases hh with ⟨_, o, ho, hh⟩ | hh
        · rw [keyT_refs (K := X.K) (β := β) (F := F) (as := as) hp] at hh
          exact .inr ⟨a, o, as, kvs, rfl, ho, wl.sub _ _ hh, h2, fin⟩
        · exact .inl ⟨a, as, kvs, rfl, .of hh, h2, fin⟩
      · exact h.elim
    · exact h.elim
  · exact h.elim
/-! ### minus -/
def negV (v : Val) (m : Sto) : Res Val := match v with
  | .int i => .ok (.int (-i)) m
  | _ => .stuck
theorem ee_negE {e : Expr} {f : EF} {pos : Pos} (he : EE X W e f) : EE X W (.UnaryOp .USub e pos) (m0F negV f) := by
  refine ⟨pe_imp (pe_un un_neg he.pe) fun σ H Q ⟨ρ, m, β, F, er, wl, h⟩ => ?_⟩
  refine t_thenE er wl h fun v m1 β1 F1 H1 x x1 w1 r1 h1 => ?_
  unfold negV at h1
  split at h1
  · rw [Rep] at r1
    subst r1
    exact ⟨_, rfl, h1.int w1⟩
  · exact h1.elim
end G

-- part C21
namespace G
open PySem L2 RZ
variable {X : Cx} {W : XK}
/-! ### max and sum of ints -/
def intsV : List Val → Option (List Int)
  | [] => some []
  | .int i :: r => (intsV r).map (i :: ·)
  | _ => none
def maxI : List Int → Int
  | [] => 0
  | [a] => a
  | a :: b :: r => max a (maxI (b :: r))
def maxV : VFn := fun vs m => match vs with
  | [v] => match asL m v with
    | some xs => match intsV xs with
      | some (i :: r) => .ok (.int (maxI (i :: r))) m
      | _ => .stuck
    | none => .stuck
  | _ => .stuck
def sumV : VFn := fun vs m => match vs with
  | [v] => match asL m v with
    | some xs => match intsV xs with
      | some is => .ok (.int is.sum) m
      | _ => .stuck
    | none => .stuck
  | _ => .stuck
theorem ints_at {K : PySem.W.Frag} {β : List Addr} {F : Hp} : ∀ {xs : List Val} {us : List V} {is : List Int}, intsV xs = some is → RepL K β F xs us → us = is.map V.int
  | [], us, is, h, r => by
    rw [RepL] at r
    simp only [intsV, Option.some.injEq] at h
    subst h r
    rfl
  | x :: xs, us, is, h, r => by
    rw [RepL] at r
    obtain ⟨u, r', rfl, r1, r2⟩ := r
    cases x with
    | int i =>
      simp only [intsV, Option.map_eq_some_iff] at h
      obtain ⟨is', h1, rfl⟩ := h
      rw [Rep] at r1
      rw [r1, ints_at h1 r2]
      rfl
    | _ => simp [intsV] at h
theorem maxI_spec : ∀ (a : Int) (r : List Int), maxI (a :: r) ∈ a :: r ∧ ∀ x ∈ a :: r, x ≤ maxI (a :: r)
  | a, [] => by simp [maxI]
  | a, b :: r => by
    obtain ⟨h1, h2⟩ := maxI_spec b r
    rw [maxI]
    constructor
    · by_cases h : a ≤ maxI (b :: r)
      · rw [Int.max_eq_right h]; exact List.mem_cons_of_mem _ h1
      · rw [Int.max_eq_left (by omega)]; exact List.mem_cons_self
    · intro x hx
      rcases List.mem_cons.mp hx with rfl | hx
      · exact Int.le_max_left _ _
      · exact Int.le_trans (h2 x hx) (Int.le_max_right _ _)
theorem bMax {n : Nat} (g : Good X n) : BltOk X W "max" maxV := by
  refine ⟨"max", _, cr_max g.calm, fun β F m H vs xs Q wl r h => ?_, PyProof.Rows.boot_max, g.blt.max, by decide, by decide⟩
  unfold maxV at h
  split at h
  · split at h
    · rename_i ys hx
      split at h
      · rename_i i rr hi
        obtain ⟨x, rfl, rx⟩ := repL1 r
        obtain ⟨a, us, rfl, ha, hu⟩ := asL_at wl rx hx
        have e := ints_at hi hu
        subst e
        obtain ⟨s1, s2⟩ := maxI_spec i rr
        refine ⟨a, i :: rr, rfl, .of ha, by simp, fun M hM hA => ?_⟩
        have : M = maxI (i :: rr) := Int.le_antisymm (s2 M hM) (hA _ s1)
        rw [this]
        exact h.int wl
      · exact h.elim
    · exact h.elim
  · exact h.elim
theorem bSum {n : Nat} (g : Good X n) : BltOk X W "sum" sumV := by
  refine ⟨"sum", _, cr_sum g.calm, fun β F m H vs xs Q wl r h => ?_, PyProof.Rows.boot_sum, g.blt.sum, by decide, by decide⟩
  unfold sumV at h
  split at h
  · split at h
    · rename_i ys hx
      split at h
      · rename_i is hi
        obtain ⟨x, rfl, rx⟩ := repL1 r
        obtain ⟨a, us, rfl, ha, hu⟩ := asL_at wl rx hx
        have e := ints_at hi hu
        subst e
        exact ⟨a, is, rfl, .of ha, h.int wl⟩
      · exact h.elim
    · exact h.elim
  · exact h.elim
end G

-- part C22
set_option maxHeartbeats 4000000
namespace G
open PySem L2 RZ
open PySem.Spec PyProof.Rows

/-! ### sets of things that are keys by their address (any HeapKind), fewer than 64 -/
/-- the n-th place of the way of a hash -/
abbrev pos (m : Nat) (h : Int) (n : Nat) : SetTable.Probe := nth m (runAt m (SetTable.bits h % (m + 1)) (SetTable.bits h)) n
theorem nth_dummy (m : Nat) : ∀ (n : Nat) (p : SetTable.Probe), p.dummy = none → (nth m p n).dummy = none
  | 0, _, h => h
  | n + 1, p, h => nth_dummy m n (adv m p) (by unfold adv; split <;> exact h)
section
variable {P : Program} {w : World} {κ : Type} [DecidableEq κ] {knd : HeapKind P w κ}
structure SetKind (knd : HeapKind P w κ) : Prop where
  cls : ∀ {A : Around} {E : Value → Shared → Prop} {s : Shared} {k : κ} {b : Addr} {Q : Bool → Shared → Prop}, knd.is s.heap k b → Q false s → wpAny (model P w) A (ofAClassStatement 8 (.ref b)) Q E s
  val : ∀ {A : Around} {E : Value → Shared → Prop} {s : Shared} {k : κ} {b : Addr} {Q : Bool → Shared → Prop}, knd.is s.heap k b → (∀ c, Q c s) → wpAny (model P w) A (hashByValue 8 (.ref b)) Q E s
  same : ∀ {h h' : Heap} {k : κ} {a b : Addr} {o : Obj} {es : Array (Int × Value)} {ep : Nat} {t : SetTable}, knd.is h k b → h.get? a = some o → o.data = .set es ep t → Heap.SameBut a h h' → knd.is h' k b
  grow : ∀ {h h' : Heap} {k : κ} {b : Addr}, knd.is h k b → (∀ c o, h.get? c = some o → h'.get? c = some o) → knd.is h' k b
/-- a member's entry -/
def ent (knd : HeapKind P w κ) (p : κ × Addr) : Int × Value := (knd.hash p.1, .ref p.2)
def hashesOf (knd : HeapKind P w κ) (R : List (κ × Addr)) : List Int := R.map fun p => knd.hash p.1
/-- the set at a, its members R in the order of the table -/
structure KSet (knd : HeapKind P w κ) (h : Heap) (a : Addr) (R : List (κ × Addr)) (es : Array (Int × Value)) (ep : Nat) (t : SetTable) : Prop where
  obj : ∃ o, h.get? a = some o ∧ o.ExactSet ∧ o.data = .set es ep t
  ents : es.toList = R.map (ent knd)
  tab : TabOk t (hashesOf knd R)
  once : (R.map (·.1)).Nodup
  mem : ∀ p ∈ R, knd.is h p.1 p.2
  led : w.params.followText "set-order" = true ∨ t.led = true
  room : R.length * 5 < t.mask * 3
  few : R.length < 64
variable {A : Around} {E : Value → Shared → Prop} {s : Shared} {a : Addr} {R : List (κ × Addr)} {es : Array (Int × Value)} {ep : Nat} {t : SetTable}
theorem ents_size (h : es.toList = R.map (ent knd)) : es.size = R.length := by rw [← Array.length_toList, h, List.length_map]
theorem ents_at (h : es.toList = R.map (ent knd)) (i : Nat) : es[i]? = (R[i]?).map (ent knd) := by rw [← Array.getElem?_toList, h, List.getElem?_map]
theorem fits_of (hp : t.place.size = R.length) (hd : t.dummies = #[]) (hl : R.length ≤ t.mask) : t.fits R.length = true := by
  unfold SetTable.fits SetTable.fill
  rw [hd, hp, Bool.and_eq_true, beq_iff_eq, decide_eq_true_eq]
  exact ⟨rfl, hl⟩
theorem KSet.pls (S : KSet knd s.heap a R es ep t) : t.place.size = R.length := by
  have := S.tab.sz
  unfold hashesOf at this
  rwa [List.length_map] at this
theorem KSet.fit (S : KSet knd s.heap a R es ep t) : t.fits es.size = true := by
  rw [ents_size S.ents]
  exact fits_of S.pls S.tab.dm (by have := S.room; omega)
/-- looking for one among such members shows nothing -/
theorem unseen (SK : SetKind knd) {k : κ} {x : Addr} (hx : knd.is s.heap k x) {ys : List Value} (hy : ∀ y ∈ ys, ∃ j b, y = Value.ref b ∧ knd.is s.heap j b) {Q : Bool → Shared → Prop} (h : Q false s) : wpAny (model P w) A (searchCouldBeSeen (.ref x) ys) Q E s := by
  unfold searchCouldBeSeen
  refine wpAny_bind (wpAny_forIn_list _ (fun todo acc st => acc.1 = none ∧ st = s ∧ ∀ y ∈ todo, y ∈ ys) _ ?_ ?_ _ _ ⟨rfl, rfl, fun y hy => hy⟩)
  · rintro y todo acc st ⟨e, rfl, hs⟩
    obtain ⟨j, b, rfl, hb⟩ := hy y (hs y (by simp))
    have ht : ∀ z ∈ todo, z ∈ ys := fun z hz => hs z (by simp [hz])
    dsimp only
    by_cases q : (x == b || (carriedByValue (.ref x) && carriedByValue (.ref b))) = true
    · exact wp_if_pos q (wpAny_pure ⟨rfl, rfl, ht⟩)
    · refine wp_if_neg q (wpAny_bind (knd.quiet hx ?_))
      simp only [Bool.not_true, Bool.false_eq_true, if_false]
      refine wpAny_bind (knd.quiet hb ?_)
      simp only [Bool.not_true, Bool.false_eq_true, if_false]
      refine wpAny_bind (SK.cls hx ?_)
      simp only [Bool.false_eq_true, if_false]
      refine wpAny_bind (SK.cls hb ?_)
      simp only [Bool.false_eq_true, if_false]
      exact wpAny_pure ⟨rfl, rfl, ht⟩
  · rintro ⟨r, u⟩ st ⟨e, rfl, _⟩
    dsimp only at e
    subst e
    exact wpAny_pure h
/-- the search goes on from its c-th place -/
theorem seek (SK : SetKind knd) (S : KSet knd s.heap a R es ep t) {x : Addr} {k : κ} (hx : knd.is s.heap k x) (hr : knd.room A) {K : Nat} (hK1 : K < 10 * SetTable.turns t.mask)
    (hK2 : way t.mask (knd.hash k) K ∉ t.place.toList) (hK3 : ∀ c, c < K → way t.mask (knd.hash k) c ∈ t.place.toList) {Q : SetFound → Shared → Prop}
    (hin : k ∈ R.map (·.1) → Q (.there none) s) (hout : k ∉ R.map (·.1) → Q (.free (way t.mask (knd.hash k) K) false) s) :
    ∀ (f c : Nat) (st : Option SetTable.Probe), st.getD (t.probeStart (knd.hash k)) = pos t.mask (knd.hash k) c → c ≤ K → K < f + c →
      (∀ (i : Nat) p, R[i]? = some p → p.1 = k → ∃ d, c ≤ d ∧ d < K ∧ t.place.toList[i]? = some (way t.mask (knd.hash k) d)) →
      wpAny (model P w) A (setSearchFrom a (.ref x) (knd.hash k) true f st) Q E s := by
  obtain ⟨o, ho, hex, hd⟩ := S.obj
  have even : ¬ t.gaveWay = true := by
    unfold SetTable.gaveWay
    rw [mask_odd S.tab.mok]
    decide
  have hash_at : ∀ (i : Nat) p, R[i]? = some p → (es[i]?.map (·.1)).getD 0 = knd.hash p.1 := fun i p hp => by rw [ents_at S.ents, hp]; rfl
  intro f
  induction f with
  | zero => intro c st _ h1 h2; omega
  | succ f ih =>
    intro c st hst hc hf hleft
    have go := fun q : Nat => (nth_add t.mask c (runAt t.mask (SetTable.bits (knd.hash k) % (t.mask + 1)) (SetTable.bits (knd.hash k))) q).symm
    rw [setSearchFrom_succ]
    refine wpAny_bind (wpAny_setState_of ho hd S.fit ?_)
    dsimp only
    refine wp_if_neg even ?_
    try refine wpAny_bind (wpAny_pure ?_)
    obtain ⟨q, rfl⟩ : ∃ q, K = c + q := ⟨K - c, by omega⟩
    have spec := go_spec t S.tab.ris S.tab.dm (fun i => (es[i]?.map (·.1)).getD 0) (knd.hash k) (10 * SetTable.turns t.mask) q (pos t.mask (knd.hash k) c) (nth_dummy _ _ _ rfl) (by omega)
      (fun d hd => by rw [go]; exact hK3 (c + d) (by omega)) (by rw [go]; exact hK2)
    rcases spec with ⟨d, i, hd1, hi, hh, hno, hpr⟩ | ⟨hno, hpr⟩
    · rw [go] at hi
      have hpr' : t.probe (fun i => (es[i]?.map (·.1)).getD 0) (knd.hash k) (st.getD (t.probeStart (knd.hash k))) = some (.candidate (way t.mask (knd.hash k) (c + d)) i (pos t.mask (knd.hash k) (c + (d + 1)))) := by
        rw [hst]
        have e := hpr
        rw [go, go] at e
        exact e
      rw [hpr']
      dsimp only
      have hil : i < R.length := by
        have := (List.getElem?_eq_some_iff.mp hi).1
        rw [Array.length_toList, S.pls] at this
        exact this
      obtain ⟨p, hp⟩ : ∃ p, R[i]? = some p := ⟨R[i], List.getElem?_eq_getElem hil⟩
      have hpm := List.mem_of_getElem? hp
      have hent : es[i]? = some (knd.hash p.1, Value.ref p.2) := by rw [ents_at S.ents, hp]; rfl
      have rest : wpAny (model P w) A (searchRest a (.ref x) (knd.hash k) true f es t (way t.mask (knd.hash k) (c + d)) i (pos t.mask (knd.hash k) (c + (d + 1)))) Q E s := by
        unfold searchRest
        rw [hent]
        dsimp only
        refine wpAny_bind (wpAny_holding (knd.eqBool hr (S.mem p hpm) hx ?_))
        refine wpAny_bind (wpAny_setState_of ho hd S.fit ?_)
        dsimp only
        by_cases hpk : p.1 = k
        · exact wp_if_pos (by simp [hpk]) (wpAny_pure (hin (List.mem_map.mpr ⟨p, hpm, hpk⟩)))
        · refine wp_if_neg (by simp [hpk]) ?_
          try refine wpAny_bind (wpAny_pure ?_)
          rw [sameMem]
          dsimp only
          have live := slot_live S.tab.ris hi
          simp only [if_true, live, hent]
          refine wpAny_bind (wpAny_isSame_ref_self (wpAny_bind (wpAny_pure ?_)))
          simp only [if_true]
          refine wp_if_neg (by simp [hpk]) ?_
          refine ih (c + (d + 1)) _ rfl (by omega) (by omega) fun i' p' h' hk' => ?_
          obtain ⟨e, e1, e2, e3⟩ := hleft i' p' h' hk'
          refine ⟨e, ?_, e2, e3⟩
          have hne : ¬ e < c + d := fun z => hno (e - c) i' (by omega) (by rw [go, show c + (e - c) = e by omega]; exact e3) (by rw [hash_at i' p' h', hk'])
          have hne2 : e ≠ c + d := fun z => by
            subst z
            have l2 := slot_live S.tab.ris e3
            rw [live] at l2
            injection l2 with l2
            subst l2
            rw [hp] at h'
            cases h'
            exact hpk hk'
          omega
      by_cases hl : t.led = true
      · refine wp_if_neg (by simp [hl]) ?_
        try refine wpAny_bind (wpAny_pure ?_)
        exact rest
      · refine wp_if_pos (by simp [hl]) (wpAny_bind (unseen SK hx (fun y hy => ?_) ?_))
        · obtain ⟨e, he, rfl⟩ := List.mem_map.mp hy
          have he' : e ∈ es.toList := by
            have : e ∈ es ∧ e.1 = knd.hash k := by simpa using he
            simpa using this.1
          rw [S.ents] at he'
          obtain ⟨p2, h2, rfl⟩ := List.mem_map.mp he'
          exact ⟨p2.1, p2.2, rfl, S.mem p2 h2⟩
        · refine wp_if_neg (by decide) ?_
          try refine wpAny_bind (wpAny_pure ?_)
          exact rest
    · have hpr' : t.probe (fun i => (es[i]?.map (·.1)).getD 0) (knd.hash k) (st.getD (t.probeStart (knd.hash k))) = some (.empty (way t.mask (knd.hash k) (c + q)) none) := by
        rw [hst]
        have e := hpr
        rw [go] at e
        exact e
      rw [hpr']
      dsimp only
      refine wpAny_pure (hout fun hm => ?_)
      obtain ⟨p, hp, hpk⟩ := List.mem_map.mp hm
      obtain ⟨i, hi, e⟩ := List.getElem_of_mem hp
      have hp' : R[i]? = some p := by rw [List.getElem?_eq_getElem hi, e]
      obtain ⟨d, d1, d2, d3⟩ := hleft i p hp' hpk
      exact hno (d - c) i (by omega) (by rw [go, show c + (d - c) = d by omega]; exact d3) (by rw [hash_at i p hp', hpk])

theorem seek0 (SK : SetKind knd) (S : KSet knd s.heap a R es ep t) {x : Addr} {k : κ} (hx : knd.is s.heap k x) (hr : knd.room A) {Q : SetFound → Shared → Prop} (hin : k ∈ R.map (·.1) → Q (.there none) s)
    (hout : ∀ K, k ∉ R.map (·.1) → way t.mask (knd.hash k) K ∉ t.place.toList → (∀ c, c < K → way t.mask (knd.hash k) c ∈ t.place.toList) → Q (.free (way t.mask (knd.hash k) K) false) s) :
    wpAny (model P w) A (setSearch a (.ref x) (knd.hash k) true) Q E s := by
  have hlen : (hashesOf knd R).length = R.length := List.length_map _
  obtain ⟨K, h1, h2, h3⟩ := S.tab.first (by rw [hlen]; have := S.room; omega) (knd.hash k)
  have hsm : 10 * SetTable.turns t.mask < 100000 := by
    unfold SetTable.turns
    rcases S.tab.mok with e | e | e <;> omega
  refine seek SK S hx hr h1 h2 h3 hin (fun z => hout K z h2 h3) 100000 0 none rfl (Nat.zero_le _) (by omega) fun i p hp hk => ?_
  have hi : (hashesOf knd R)[i]? = some (knd.hash k) := by
    unfold hashesOf
    rw [List.getElem?_map, hp, ← hk]
    rfl
  have hil : i < t.place.toList.length := by
    rw [Array.length_toList, S.pls]
    exact (List.getElem?_eq_some_iff.mp hp).1
  obtain ⟨c, c1, c2⟩ := S.tab.before h2 hi (List.getElem?_eq_getElem hil)
  exact ⟨c, Nat.zero_le _, c1, by rw [c2]; exact List.getElem?_eq_getElem hil⟩
theorem range_items {α : Type} (l : List α) : ∀ n, n ≤ l.length → (List.range n).filterMap (fun i => l[i]?) = l.take n
  | 0, _ => by simp
  | n + 1, h => by
    rw [List.range_succ, List.filterMap_append, range_items l n (by omega), List.take_add_one, List.getElem?_eq_getElem h]
    simp [List.getElem?_eq_getElem h]
theorem order_perm {α : Type} (l : List α) {o : List Nat} (h : o.Perm (List.range l.length)) : (o.filterMap fun i => l[i]?).Perm l := by
  have := h.filterMap fun i => l[i]?
  rwa [range_items l l.length (Nat.le_refl _), List.take_length] at this
theorem order_hash (hs : es.toList = R.map (ent knd)) : ∀ {o : List Nat}, (∀ i ∈ o, i < R.length) → (o.map fun i => (es.map (·.1)).getD i 0) = hashesOf knd (o.filterMap fun i => R[i]?)
  | [], _ => rfl
  | i :: o, h => by
    have hi := h i (by simp)
    have ih := order_hash hs (o := o) fun j hj => h j (by simp [hj])
    have e : (es.map (·.1)).getD i 0 = knd.hash R[i].1 := by
      have e2 : (es.map (·.1))[i]? = some (knd.hash R[i].1) := by rw [Array.getElem?_map, ents_at hs, List.getElem?_eq_getElem hi]; rfl
      rw [Array.getD_eq_getD_getElem?, e2]; rfl
    rw [List.map_cons, e, ih, List.filterMap_cons_some (List.getElem?_eq_getElem hi)]
    rfl
/-- the table is laid anew -/
theorem relay (SK : SetKind knd) {o : Obj} (ho : s.heap.get? a = some o) (hex : o.ExactSet) (hd : o.data = .set es ep t) (he : es.toList = R.map (ent knd)) (hpl : t.place.size = R.length) (hdm : t.dummies = #[]) (hmk : R.length ≤ t.mask)
    (once : (R.map (·.1)).Nodup) (mem : ∀ p ∈ R, knd.is s.heap p.1 p.2) (led : w.params.followText "set-order" = true ∨ t.led = true) (few : R.length < 64) {n M : Nat} (hn : SetTable.sizeAbove n - 1 = M) (hM : MaskOk M)
    (hn2 : SetTable.sizeAbove n ≤ 128) (room : R.length * 5 < M * 3) {Q : Unit → Shared → Prop}
    (hQ : ∀ h' R' es' ep' t', Heap.SameBut a s.heap h' → KSet knd h' a R' es' ep' t' → R'.Perm R → Q () { s with heap := h' }) : wpAny (model P w) A (setRelay a n) Q E s := by
  have hsz := ents_size he
  obtain ⟨t', ord, e1, e2, e3, e4, e5, e6, e7⟩ := relaid_ok t (hs := es.map (·.1)) (wanted := n) hn hM (by rw [Array.size_map, hsz]; omega)
  rw [Array.size_map, hsz] at e2
  have hin : ∀ i ∈ ord.toList, i < R.length := fun i hi => List.mem_range.mp (e2.mem_iff.mp hi)
  rw [order_hash he hin] at e3
  have pm := order_perm R e2
  have hes : (ord.filterMap (es[·]?)).toList = (ord.toList.filterMap fun i => R[i]?).map (ent knd) := by
    rw [Array.toList_filterMap, List.map_filterMap]
    congr 1
    funext i
    exact ents_at he i
  have hsz2 : (ord.filterMap (es[·]?)).size = es.size := by rw [ents_size hes, pm.length_eq, hsz]
  rw [setRelay_eq]
  refine wpAny_bind (wpAny_setState_of ho hd (by rw [hsz]; exact fits_of hpl hdm hmk) ?_)
  dsimp only
  refine wp_if_neg (by rw [sizeLine_eq]; omega) ?_
  try refine wpAny_bind (wpAny_pure ?_)
  rw [e1]
  dsimp only
  refine wpAny_bind (wp_if_neg (by rw [hsz2]; simp) ?_)
  try refine wpAny_bind (wpAny_pure ?_)
  refine wpAny_pure ?_
  dsimp only
  refine wpAny_storeSet_of ho hd ?_ (by rw [hsz2, hsz, sizeLine_eq]; omega)
  have sb : Heap.SameBut a s.heap (s.heap.update a (Obj.putSet (ord.filterMap (es[·]?)) t')) := Heap.SameBut.update ..
  exact hQ _ _ _ _ _ sb ⟨⟨_, store_at ho hd, ⟨hex.1, hex.2.1, hex.2.2⟩, rfl⟩, hes, e3, (pm.map (·.1)).nodup_iff.mpr once, fun p hm => SK.same (mem p (pm.mem_iff.mp hm)) ho hd sb, by rw [e5]; exact led, by rw [pm.length_eq, e4]; exact room, by rw [pm.length_eq]; exact few⟩ pm
/-- one is put in -/
theorem put1 (SK : SetKind knd) (S : KSet knd s.heap a R es ep t) {x : Addr} {k : κ} (hx : knd.is s.heap k x) (hr : knd.room A) (hfew : R.length + 1 < 64) {Q : Bool → Shared → Prop}
    (hQ : ∀ b h' R' es' ep' t', Heap.SameBut a s.heap h' → KSet knd h' a R' es' ep' t' → (k ∈ R.map (·.1) → R' = R) → (k ∉ R.map (·.1) → R'.Perm ((k, x) :: R)) → Q b { s with heap := h' }) :
    wpAny (model P w) A (setAddHashed a (.ref x) (knd.hash k)) Q E s := by
  obtain ⟨o, ho, hex, hd⟩ := S.obj
  have hsz := ents_size S.ents
  have hroom := S.room
  have hlen : (hashesOf knd R).length = R.length := List.length_map _
  unfold setAddHashed
  refine wpAny_holding ?_
  rw [show (100000 : Nat) = 99999 + 1 from rfl, setAddHashedIn_succ]
  refine wpAny_bind (wpAny_setState_of ho hd S.fit ?_)
  dsimp only
  refine wp_if_neg (by simp [byScan, Value.scannable]) ?_
  try refine wpAny_bind (wpAny_pure ?_)
  refine wpAny_bind (seek0 SK S hx hr (fun hm => wpAny_pure (hQ false s.heap R es ep t (Heap.SameBut.refl a s.heap) S (fun _ => rfl) fun z => absurd hm z)) fun K hm k1 k2 => ?_)
  dsimp only
  refine wpAny_bind (wpAny_setState_of ho hd S.fit ?_)
  dsimp only
  obtain ⟨b1, b2, b3, b4, b5, b6, _, _, b9⟩ := S.tab.put k1 k2
  rw [hlen] at b2 b9
  generalize t.put (way t.mask (knd.hash k) K) = z at b1 b3 b4 b5 b6 b9 ⊢
  obtain ⟨t1, i⟩ := z
  dsimp only at b1 b3 b4 b5 b6 b9 ⊢
  rw [← b1] at b2 b3
  have anyb : ∀ k' : Bool → Sem Bool, (∀ c, wpAny (model P w) A (k' c) Q E s) → wpAny (model P w) A (if t1.plain = true then hashByValue 8 (.ref x) >>= k' else pure true >>= k') Q E s := fun k' hq => by
    split
    · exact wpAny_bind (SK.val hx hq)
    · exact wpAny_bind (wpAny_pure (hq true))
  refine anyb _ fun c => ?_
  obtain ⟨t2, ht2⟩ : ∃ t2 : SetTable, t2 = if c = true then t1 else { t1 with plain := false } := ⟨_, rfl⟩
  have f1 : t2.place = t1.place ∧ t2.dummies = t1.dummies ∧ t2.mask = t1.mask ∧ t2.led = t1.led := by
    rw [ht2]
    split <;> exact ⟨rfl, rfl, rfl, rfl⟩
  obtain ⟨f1, f2, f3, f4⟩ := f1
  have b9' : t2.fill = R.length + 1 := by
    rw [← b9]
    unfold SetTable.fill
    rw [f1, f2]
  have b3' : TabOk t2 ((hashesOf knd R).take i ++ knd.hash k :: (hashesOf knd R).drop i) := by
    obtain ⟨c1, c2, c3, c4, c5, c6⟩ := b3
    exact ⟨by rw [f1]; exact c1, by rw [f2]; exact c2, by rw [f1]; exact c3, by rw [f3]; exact c4, by rw [f1, f3]; exact c5, by rw [f1, f3]; exact c6⟩
  rw [← f3] at b4
  rw [← f4] at b5
  try dsimp only
  rw [← ht2]
  clear ht2 b3 b9 f1 f2 f3 f4
  obtain ⟨R1, hR1⟩ : ∃ R1, R1 = R.take i ++ (k, x) :: R.drop i := ⟨_, rfl⟩
  have pm : R1.Perm ((k, x) :: R) := by
    rw [hR1]
    refine List.perm_middle.trans ?_
    rw [List.take_append_drop]
  have e1 : (SetTable.insertAt es i (knd.hash k, Value.ref x)).toList = R1.map (ent knd) := by
    rw [SetTable.toList_insertAt, S.ents, hR1, List.map_append, List.map_cons, List.map_take, List.map_drop]
    rfl
  have e3 : TabOk t2 (hashesOf knd R1) := by
    have : hashesOf knd R1 = (hashesOf knd R).take i ++ knd.hash k :: (hashesOf knd R).drop i := by
      unfold hashesOf
      rw [hR1, List.map_append, List.map_cons, List.map_take, List.map_drop]
    rw [this]
    exact b3'
  have once1 : (R1.map (·.1)).Nodup := by
    refine (pm.map (·.1)).nodup_iff.mpr ?_
    rw [List.map_cons, List.nodup_cons]
    exact ⟨hm, S.once⟩
  have hl1 : R1.length = R.length + 1 := by rw [pm.length_eq]; rfl
  have hes1 := ents_size e1
  generalize SetTable.insertAt es i (knd.hash k, Value.ref x) = es1 at e1 hes1 ⊢
  refine wpAny_bind (wpAny_storeSet_of ho hd ?_ (by rw [hes1, hl1, sizeLine_eq]; omega))
  have sb : Heap.SameBut a s.heap (s.heap.update a (Obj.putSet es1 t2)) := Heap.SameBut.update ..
  have ho1 := store_at (es' := es1) (t' := t2) ho hd
  generalize s.heap.update a (Obj.putSet es1 t2) = h1 at sb ho1 ⊢
  have mem1 : ∀ p ∈ R1, knd.is h1 p.1 p.2 := fun p hpm => by
    rcases List.mem_cons.mp (pm.mem_iff.mp hpm) with e | h2
    · subst e; exact SK.same hx ho hd sb
    · exact SK.same (S.mem p h2) ho hd sb
  have led1 : w.params.followText "set-order" = true ∨ t2.led = true := by rw [b5]; exact S.led
  have full : t2.tooFull = decide ((R.length + 1) * 5 ≥ t2.mask * 3) := by
    unfold SetTable.tooFull
    rw [b9']
  by_cases hf : t2.tooFull = true
  · first
      | (refine wpAny_bind ?_; refine wp_if_pos (by simp [hf]) ?_)
      | (refine wp_if_pos (by simp [hf]) ?_; refine wpAny_bind ?_)
    rw [hsz]
    rw [full, decide_eq_true_eq, b4] at hf
    have hpl1 : t2.place.size = R1.length := by
      have := e3.sz
      unfold hashesOf at this
      rwa [List.length_map] at this
    have step : ∀ M, SetTable.sizeAbove (SetTable.grown (R.length + 1)) - 1 = M → MaskOk M → SetTable.sizeAbove (SetTable.grown (R.length + 1)) ≤ 128 → (R.length + 1) * 5 < M * 3 → R.length + 1 ≤ t2.mask →
        wpAny (model P w) A (setRelay a (SetTable.grown (R.length + 1))) (fun _ s' => wpAny (model P w) A (pure true) Q E s') E { s with heap := h1 } := fun M m1 m2 m3 m4 m5 =>
      relay SK (s := { s with heap := h1 }) ho1 ⟨hex.1, hex.2.1, hex.2.2⟩ rfl e1 hpl1 e3.dm (by rw [hl1]; exact m5) once1 mem1 led1 (by rw [hl1]; exact hfew) m1 m2 m3 (by rw [hl1]; exact m4)
        fun h2 R2 es2 ep2 t3 sb2 S2 pm2 => wpAny_pure (hQ true h2 R2 es2 ep2 t3 (sb.trans sb2) S2 (fun z => absurd z hm) fun _ => pm2.trans pm)
    rcases S.tab.mok with e | e | e
    · have h4 : R.length = 4 := by rw [e] at hf hroom; omega
      exact step 31 (by rw [h4, size_20]) (.inr (.inl rfl)) (by rw [h4, size_20]; decide) (by omega) (by rw [b4, e]; omega)
    · have h18 : R.length = 18 := by rw [e] at hf hroom; omega
      exact step 127 (by rw [h18, size_76]) (.inr (.inr rfl)) (by rw [h18, size_76]; decide) (by omega) (by rw [b4, e]; omega)
    · rw [e] at hf; omega
  · first
      | refine wp_if_neg (by simp [hf]) ?_
      | (refine wpAny_bind ?_; refine wp_if_neg (by simp [hf]) ?_; refine wpAny_pure ?_)
    refine wpAny_pure (hQ true h1 R1 es1 (ep + 1) t2 sb ⟨⟨_, ho1, ⟨hex.1, hex.2.1, hex.2.2⟩, rfl⟩, e1, e3, once1, mem1, led1, ?_, by rw [hl1]; exact hfew⟩ (fun z => absurd z hm) fun _ => pm)
    rw [full, decide_eq_true_eq] at hf
    rw [hl1]
    omega
theorem fresh_set {h : Heap} {a : Addr} (ho : h.get? a = some { cls := .type "set", dict := none, data := .set #[] 0 (.fresh 0 0 (!w.params.followText "set-order")) }) : KSet knd h a [] #[] 0 (.fresh 0 0 (!w.params.followText "set-order")) where
  obj := ⟨_, ho, ⟨rfl, rfl, rfl⟩, rfl⟩
  ents := rfl
  tab := ⟨List.Pairwise.nil, rfl, rfl, .inl rfl, (fun x hx => nomatch hx), fun i h j hi => by simp [hashesOf] at hi⟩
  once := List.nodup_nil
  mem := fun p hp => nomatch hp
  led := by
    show _ ∨ (!w.params.followText "set-order") = true
    cases w.params.followText "set-order"
    · exact .inr rfl
    · exact .inl rfl
  room := by show 0 * 5 < 7 * 3; decide
  few := by show 0 < 64; decide
end
end G

-- part C23
set_option maxHeartbeats 4000000
namespace G
open PySem L2 RZ
open PySem.Spec PyProof.Rows
section
variable {P : Program} {w : World} {κ : Type} [DecidableEq κ] {knd : HeapKind P w κ}
/-- what a set has of the first i of some things -/
structure Had (ks : List (κ × Addr)) (i : Nat) (R : List (κ × Addr)) : Prop where
  from' : ∀ p ∈ R, p ∈ ks.take i
  all : ∀ p ∈ ks.take i, p.1 ∈ R.map (·.1)
  len : R.length ≤ i
theorem Had.zero (ks : List (κ × Addr)) : Had ks 0 [] := ⟨(fun p h => nomatch h), (fun p h => by simp at h), Nat.le_refl _⟩
theorem Had.next {ks R R' : List (κ × Addr)} {i : Nat} {p : κ × Addr} (H : Had ks i R) (hp : ks[i]? = some p) (h1 : p.1 ∈ R.map (·.1) → R' = R) (h2 : p.1 ∉ R.map (·.1) → R'.Perm (p :: R)) : Had ks (i + 1) R' := by
  have e : ks.take (i + 1) = ks.take i ++ [p] := by rw [List.take_add_one, hp]; rfl
  by_cases hm : p.1 ∈ R.map (·.1)
  · rw [h1 hm]
    refine ⟨fun q hq => by rw [e]; exact List.mem_append_left _ (H.from' q hq), fun q hq => ?_, Nat.le_succ_of_le H.len⟩
    rw [e] at hq
    rcases List.mem_append.mp hq with hq | hq
    · exact H.all q hq
    · rw [List.mem_singleton.mp hq]; exact hm
  · have pm := h2 hm
    refine ⟨fun q hq => ?_, fun q hq => ?_, by rw [pm.length_eq]; exact Nat.succ_le_succ H.len⟩
    · rw [e]
      rcases List.mem_cons.mp (pm.mem_iff.mp hq) with rfl | hq
      · exact List.mem_append_right _ (List.mem_singleton.mpr rfl)
      · exact List.mem_append_left _ (H.from' q hq)
    · rw [e] at hq
      refine (pm.map (·.1)).mem_iff.mpr ?_
      rcases List.mem_append.mp hq with hq | hq
      · exact List.mem_cons_of_mem _ (H.all q hq)
      · rw [List.mem_singleton.mp hq]; exact List.mem_cons_self
theorem KSet.move (SK : SetKind knd) {h h' : Heap} {a : Addr} {R : List (κ × Addr)} {es : Array (Int × Value)} {ep : Nat} {t : SetTable} (S : KSet knd h a R es ep t) (ha : ∀ o, h.get? a = some o → h'.get? a = some o) (hm : ∀ p ∈ R, knd.is h' p.1 p.2) : KSet knd h' a R es ep t := by
  obtain ⟨⟨o, ho, hr⟩, r⟩ := S
  exact ⟨⟨o, ha o ho, hr⟩, r, ‹_›, ‹_›, hm, ‹_›, ‹_›, ‹_›⟩
variable {A : Around} {Z : Result → Shared → Prop} {I : Addr} {fp wr : List Addr} {G' : Array GenState → Array GenState → Prop} {n : Nat} {Pv : Nat → Value → Prop} {St : Nat → Shared → Prop}
/-- the loop of set.update over keys that lie in the heap h0 -/
theorem loopK (SK : SetKind knd) (W : WalksS P w A.in1 I fp wr G' n Pv St) (S : Addr) (hSf : S ∉ fp) (ks : List (κ × Addr)) (hsz : ks.length = n) (h64 : ks.length < 64) (hval : ∀ i v, Pv i v → ∃ p, ks[i]? = some p ∧ v = .ref p.2)
    (h0 : Heap) (hk : ∀ p ∈ ks, knd.is h0 p.1 p.2) (hS0 : h0.get? S = none) (hw0 : ∀ b ∈ wr, h0.get? b = none) (hr : knd.room A.in1) :
    ∀ (j i : Nat) (s : Shared), n - i = j → i ≤ n → St i s → (∀ b o, h0.get? b = some o → s.heap.get? b = some o) → (∃ R es ep t, KSet knd s.heap S R es ep t ∧ Had ks i R) →
      (∀ s' R es ep t, Moved (S :: wr) G' s s' → KSet knd s'.heap S R es ep t → Had ks ks.length R → (∀ b o, h0.get? b = some o → s'.heap.get? b = some o) → Z (.ok (.ret .none)) s') →
      codeAny (model P w) A (.builtin "set.update.loop" ⟨[.ref S, .ref I], []⟩) Z s := by
  have hSw : S ∉ wr := fun h => hSf (W.sub _ h)
  have hsub : ∀ b ∈ wr, b ∈ S :: wr := fun b hb => List.mem_cons_of_mem _ hb
  have still : ∀ {s s' : Shared}, Moved wr G' s s' → (∀ b o, h0.get? b = some o → s.heap.get? b = some o) → ∀ b o, h0.get? b = some o → s'.heap.get? b = some o := fun hm hb b o e =>
    hm.heap b o (fun z => by rw [hw0 b z] at e; cases e) (hb b o e)
  intro j
  induction j with
  | zero =>
    intro i s hj hi hst hb ⟨R, es, ep, t, hS, hH⟩ hZ
    obtain rfl : i = n := by omega
    refine codeAny_builtin F.entry_set_update_loop ?_
    rw [Around.under_plainId F.plain_set_update_loop _]
    show wpAny _ A.in1 (pyNext (.ref I) >>= _) _ _ s
    refine wpAny_bind (W.done s _ _ hst fun s' hm => ?_)
    show wpAny _ A.in1 (ret Value.none) _ _ s'
    have hb' := still hm hb
    rw [← hsz] at hH
    exact wpAny_pure (hZ s' R es ep t (hm.mono hsub) (hS.move SK (fun o e => hm.heap S o hSw e) fun p hp => SK.grow (hk p (List.mem_of_mem_take (hH.from' p hp))) hb') hH hb')
  | succ j ih =>
    intro i s hj hi hst hb ⟨R, es, ep, t, hS, hH⟩ hZ
    have hlt : i < n := by omega
    refine codeAny_builtin F.entry_set_update_loop ?_
    rw [Around.under_plainId F.plain_set_update_loop _]
    show wpAny _ A.in1 (pyNext (.ref I) >>= _) _ _ s
    refine wpAny_bind (W.item i s _ _ hlt hst fun v s' hP hst' hm => ?_)
    obtain ⟨p, hp, rfl⟩ := hval i v hP
    have hb' := still hm hb
    have hS' : KSet knd s'.heap S R es ep t := hS.move SK (fun o e => hm.heap S o hSw e) fun q hq => SK.grow (hk q (List.mem_of_mem_take (hH.from' q hq))) hb'
    have hx := SK.grow (hk p (List.mem_of_getElem? hp)) hb'
    show wpAny _ A.in1 (holding [Value.ref p.2] (setAdd S (.ref p.2)) >>= _) _ _ s'
    refine wpAny_bind (wpAny_holding ?_)
    unfold setAdd
    refine wpAny_holding ?_
    refine wpAny_bind (knd.pyHash hr hx ?_)
    refine put1 SK (s := { s' with toks := s'.toks + knd.draws p.1 }) hS' hx hr (by have := hH.len; omega) fun b h' R' es' ep' t' hsb hS2 c1 c2 => ?_
    have hH2 : Had ks (i + 1) R' := hH.next hp c1 c2
    have hb2 : ∀ b o, h0.get? b = some o → h'.get? b = some o := fun b o e => (hsb.2 b (fun z => by rw [z, hS0] at e; cases e)).trans (hb' b o e)
    refine wpAny_pure ⟨plainId_quiet F.plain_set_update_loop _, ih (i + 1) _ (by omega) hlt (W.frame _ s' _ _ hst' (Nat.le_add_right _ _) fun b hbf o e => ?_) hb2 ⟨R', es', ep', t', hS2, hH2⟩ fun s'' R2 es2 ep2 t2 hm2 hS3 hH3 hb3 => ?_⟩
    · rw [hsb.2 b (fun h : b = S => hSf (by rw [← h]; exact hbf))]; exact e
    · refine hZ s'' R2 es2 ep2 t2 (Moved.trans W.gtrans ((hm.mono hsub).then_heap (Nat.le_add_right _ _) fun b o hb e => ?_) hm2) hS3 hH3 hb3
      rw [hsb.2 b (fun h : b = S => hb (by rw [h]; exact List.mem_cons_self))]; exact e
end
section
variable {P : Program} {w : World} {κ : Type} [DecidableEq κ] {knd : HeapKind P w κ} {A : Around} {E : Value → Shared → Prop} {s : Shared}
set_option maxHeartbeats 8000000 in
/-- set(xs) of a list of keys -/
theorem call_set_K (SK : SetKind knd) {l : Addr} {items : Array Value} {ks : List (κ × Addr)} {Q : Value → Shared → Prop} (hh : A.handled = none) (hl : s.heap.IsList l items) (hi : items.toList = ks.map fun p => Value.ref p.2) (hk : ∀ p ∈ ks, knd.is s.heap p.1 p.2) (h64 : ks.length < 64)
    (hr : knd.room A.in1.in1.in1)
    (h : ∀ (h' : Heap) (tk : Nat) R es ep t, KSet knd h' s.heap.objs.size R es ep t → Had ks ks.length R → (∀ b o, s.heap.get? b = some o → h'.get? b = some o) → Q (.ref s.heap.objs.size) { s with heap := h', toks := tk }) :
    wpAny (model P w) A (call (.type "set") [.ref l]) Q E s := by
  obtain ⟨c, tl, hmro⟩ := F.called_set.mro
  have hmade := F.called_set.made
  have hsub := F.called_set.sub
  refine wpAny_call (codeAny_of_tree ?_)
  show wpAny _ _ (callAny (.type "set") _) _ _ _
  refine wpAny_pure ⟨Code.quiet_builtin _ (by decide +kernel), codeAny_builtin F.entry_type_call ?_⟩
  rw [Around.under_plain (weight_type_call_type "set" [.ref l] []) rfl]
  have h1 := F.called_set.notType
  have h2 := F.called_set.canCreate
  have hct := F.typeCall_set_1 (.ref l)
  repeat (any_goals (first | assumption | wp_step))

  refine codeAny_mono (code_set_led1 (.ref l) (E := E) (Q₁ := fun obj s₁ => obj = .ref s.heap.objs.size ∧ s₁ = { s with heap := s.heap.push { cls := .type "set", dict := none, data := .set #[] 0 (.fresh 0 0 (!w.params.followText "set-order")) } }) ⟨rfl, rfl⟩) fun r s₁ hr₁ => ?_
  cases r with
  | error e => exact hr₁
  | ok fl =>
    cases fl with
    | ret obj =>
      obtain ⟨rfl, rfl⟩ := hr₁
      have hS : (s.heap.push { cls := .type "set", dict := none, data := .set #[] 0 (.fresh 0 0 (!w.params.followText "set-order")) }).get? s.heap.objs.size = some { cls := .type "set", dict := none, data := .set #[] 0 (.fresh 0 0 (!w.params.followText "set-order")) } := Heap.get?_push_size _ rfl
      have hT : Shared.TypeIs { s with heap := s.heap.push { cls := .type "set", dict := none, data := .set #[] 0 (.fresh 0 0 (!w.params.followText "set-order")) } } (.ref s.heap.objs.size) "set" := ⟨_, hS, rfl⟩
      have hli := F.called_set.init.lookup
      have hbi := F.called_set.init.bind (.ref s.heap.objs.size)
      repeat (any_goals (first | assumption | wp_step))

      refine codeAny_mono (codeAny_call_builtin (R := wants (fun r s₂ => r = .none ∧ ∃ h' tk R es ep t, s₂ = { s with heap := h', toks := tk } ∧ KSet knd h' s.heap.objs.size R es ep t ∧ Had ks ks.length R ∧ (∀ b o, s.heap.get? b = some o → h'.get? b = some o)) E)
        F.called_set.init.plain F.entry_set_init (check_set_init_1 hT ?_)) fun r₂ s₂ hr₂ => ?_
      · obtain ⟨ol, hol, hcl, nl, hdl⟩ := hl
        obtain ⟨ocls, odict, odata, oslots⟩ := ol
        simp only at hcl hdl
        subst hcl; subst hdl
        have hol' : (s.heap.push { cls := .type "set", dict := none, data := .set #[] 0 (.fresh 0 0 (!w.params.followText "set-order")) }).get? l = some { cls := .type "list", dict := odict, data := .seq items nl, slots := oslots } := Heap.get?_push_of_some _ hol
        have hsls := F.sub_list_set
        have hslf := F.sub_list_frozenset
        have hne : (Value.type "list" == Value.type "dict") = false := by decide
        have hl1 : (s.heap.push { cls := .type "set", dict := none, data := .set #[] 0 (.fresh 0 0 (!w.params.followText "set-order")) }).IsList l items := ⟨_, hol', rfl, nl, rfl⟩
        unfold Builtin.«set.__init__» noKeywords Builtin.Frozenset.updateFrom
        generalize hPI : pyIter = PI
        wp_walk
        subst hPI

        refine wpAny_pyIter_list hl1 ?_
        refine wpAny_bind (wpAny_runValue ?_)
        have hlS : l < s.heap.objs.size := Heap.lt_size hol
        have hh3 : A.in1.in1.in1.handled = none := by simp [hh]
        have hneI : l ≠ (s.heap.push { cls := .type "set", dict := none, data := .set #[] 0 (.fresh 0 0 (!w.params.followText "set-order")) }).objs.size := by
          rw [Heap.size_push]; exact Nat.ne_of_lt (Nat.lt_succ_of_lt hlS)
        have hSf : s.heap.objs.size ∉ [(s.heap.push { cls := .type "set", dict := none, data := .set #[] 0 (.fresh 0 0 (!w.params.followText "set-order")) }).objs.size, l] := by
          rw [Heap.size_push]; simp only [List.mem_cons, List.mem_singleton, List.not_mem_nil, or_false, not_or]
          exact ⟨Nat.ne_of_lt (Nat.lt_succ_self _), Nat.ne_of_gt hlS⟩
        have hsz : ks.length = items.size := by
          have e := congrArg List.length hi
          rw [List.length_map, Array.length_toList] at e
          exact e.symm
        have hval : ∀ (i : Nat) (v : Value), items[i]? = some v → ∃ p, ks[i]? = some p ∧ v = .ref p.2 := fun i v hv => by
          rw [← Array.getElem?_toList, hi, List.getElem?_map, Option.map_eq_some_iff] at hv
          obtain ⟨p, h1, h2⟩ := hv
          exact ⟨p, h1, h2.symm⟩
        have none_at : ∀ b, s.heap.objs.size ≤ b → s.heap.get? b = none := fun b hb => by
          cases q : s.heap.get? b with
          | none => rfl
          | some o => exact absurd (Heap.lt_size q) (Nat.not_lt.mpr hb)
        have hget : ((s.heap.push { cls := .type "set", dict := none, data := .set #[] 0 (.fresh 0 0 (!w.params.followText "set-order")) }).push { cls := .type "list_iterator", data := .fields #[.ref l, .int 0 0] }).get? s.heap.objs.size = some { cls := .type "set", dict := none, data := .set #[] 0 (.fresh 0 0 (!w.params.followText "set-order")) } := Heap.get?_push_of_some _ hS
        refine loopK SK ((Walks.list hh3 _ l hneI items).toS) s.heap.objs.size hSf ks hsz h64 hval s.heap hk (none_at _ (Nat.le_refl _))
          (fun b hb => none_at b (by rw [List.mem_singleton.mp hb, Heap.size_push]; exact Nat.le_succ _)) hr (items.size - 0) 0 _ (by omega) (Nat.zero_le _)
          ⟨⟨_, Heap.get?_push_size _ rfl, rfl, rfl⟩, (hl1.push _)⟩ (fun b o e => Heap.get?_push_of_some _ (Heap.get?_push_of_some _ e)) ⟨[], #[], 0, _, fresh_set hget, Had.zero ks⟩ ?hR
        case hR =>
          intro s' R es ep t hm hS' hH' hb'
          obtain ⟨h', g', d', tk', os'⟩ := s'
          have eg : g' = s.gens := hm.gens
          have ed : d' = s.drawn := hm.drawn
          have eo : os' = s.os := hm.os
          subst eg; subst ed; subst eo
          show wpAny _ _ _ _ _ _
          refine wpAny_pure ?_
          show wpAny _ _ (ret Value.none) _ _ _
          exact wpAny_pure ⟨rfl, h', tk', R, es, ep, t, rfl, hS', hH', hb'⟩

      · cases r₂ with
        | error e => exact hr₂
        | ok fl₂ =>
          cases fl₂ with
          | ret r =>
            obtain ⟨rfl, h', tk, R, es, ep, t, rfl, hS', hH', hb'⟩ := hr₂
            repeat (any_goals (first | assumption | wp_step))
            exact h _ _ _ _ _ _ hS' hH' hb'
          | _ => exact hr₂.elim
    | _ => exact hr₁.elim
end
end G

-- part C24
set_option maxHeartbeats 4000000
namespace G
open PySem L2 RZ
open PySem.Spec PyProof.Rows
open PySem.W (dataLt dataLe alike alikeAll AllAlike Sortable EachIs each_mem)

/-! ### pairs of a text and an int as keys -/
def pk (k : Str × Int) : List Key := [.inr k.1, .inl k.2]
theorem pk_inj {a b : Str × Int} (h : pk a = pk b) : a = b := by
  obtain ⟨x, i⟩ := a
  obtain ⟨y, j⟩ := b
  simp only [pk, List.cons.injEq, Sum.inr.injEq, Sum.inl.injEq, and_true] at h
  rw [h.1, h.2]
def pairKind (P : Program) (w : World) : HeapKind P w (Str × Int) where
  is := fun h k a => IsTupleKey (mixKind P w) h (pk k) a
  hash := fun k => tupleKeyHash (mixKind P w) (pk k)
  draws := fun _ => 3
  room := fun A => A.units < cLine
  inj := fun hx hy => pk_inj (hx.inj hy)
  keeps := fun x ho hd hs => (tupleKind (mixKind P w)).keeps x ho hd hs
  pyHash := fun hu hk h => wpAny_pyHash_tuple hu hk h
  eqBool := fun {A E s x y a b Q} hu hx hy h => wpAny_eqBool_tuple hu hx hy (by
    have e : decide (pk x = pk y) = decide (x = y) := decide_eq_decide.mpr ⟨pk_inj, fun h => by rw [h]⟩
    rw [e]
    exact h)
  quiet := fun hk h => wpAny_eqIsQuiet_tuple hk h
section
variable {P : Program} {w : World}
theorem items_sc {k : List Key} {vs : List Value} (h : ItemsAre (mixKind P w) k vs) : ∀ v ∈ vs, ∃ q : Key, keyIs q v = true := by
  induction h with
  | nil => intro v hv; cases hv
  | cons h1 _ ih =>
    intro v hv
    rcases List.mem_cons.mp hv with rfl | hv
    · exact ⟨_, h1⟩
    · exact ih v hv
theorem cls_key {q : Key} {v : Value} (n : Nat) (h : keyIs q v = true) : ofAClassStatement n v = pure false := by
  rcases keyIs_shape h with ⟨i, t, rfl, rfl⟩ | ⟨x, t, rfl, rfl⟩ <;> cases n <;> rfl
theorem val_key {q : Key} {v : Value} (n : Nat) (h : keyIs q v = true) : hashByValue n v = pure (plainKind v) := hashByValue_scannable n (key_sc h)
theorem pairSet : SetKind (pairKind P w) where
  cls := fun {A E s k b Q} hk h => by
    have hT := IsTupleKey.typeIs hk
    obtain ⟨o, items, n, ho, _, hd, hi⟩ := hk
    have sc := items_sc hi
    unfold ofAClassStatement
    refine wpAny_bind (wpAny_typeOf hT ?_)
    dsimp only
    have e : (("tuple" : String) == "tuple") = true := by decide
    simp only [e, if_true, Bool.not_true, Bool.false_eq_true, if_false]
    try refine wpAny_bind (wpAny_pure ?_)
    try simp only [Bool.not_true, Bool.false_eq_true, if_false]
    show wpAny _ _ (seqItems? (.ref b) >>= _) _ _ s
    refine wpAny_bind (wpAny_seqItems ho hd ?_)
    dsimp only
    refine wpAny_bind ?_
    show wpAny _ _ (forIn items _ _) _ _ s
    rw [← Array.forIn_toList]
    refine wpAny_forIn_list _ (fun todo acc st => acc.1 = none ∧ st = s ∧ ∀ v ∈ todo, v ∈ items.toList) _ ?_ ?_ _ _ ⟨rfl, rfl, fun v hv => hv⟩
    · rintro v todo acc st ⟨ha, rfl, hs⟩
      obtain ⟨q, hq⟩ := sc v (hs v (by simp))
      rw [cls_key _ hq]
      refine wpAny_bind (wpAny_pure ?_)
      simp only [Bool.false_eq_true, if_false]
      exact wpAny_pure ⟨rfl, rfl, fun u hu => hs u (by simp [hu])⟩
    · rintro ⟨r, u⟩ st ⟨ha, rfl, _⟩
      dsimp only at ha
      subst ha
      exact wpAny_pure h
  val := fun {A E s k b Q} hk h => by
    have hT := IsTupleKey.typeIs hk
    obtain ⟨o, items, n, ho, _, hd, hi⟩ := hk
    have sc := items_sc hi
    unfold hashByValue
    refine wpAny_bind (wpAny_specialOf hT F.slot_tuple_hash.lookup ?_)
    show wpAny _ _ (seqItems? (.ref b) >>= _) _ _ s
    refine wpAny_bind (wpAny_seqItems ho hd ?_)
    refine wpAny_bind ?_
    show wpAny _ _ (forIn items _ _) _ _ s
    rw [← Array.forIn_toList]
    refine wpAny_forIn_list _ (fun todo acc st => acc.1 = none ∧ st = s ∧ ∀ v ∈ todo, v ∈ items.toList) _ ?_ ?_ _ _ ⟨rfl, rfl, fun v hv => hv⟩
    · rintro v todo acc st ⟨ha, rfl, hs⟩
      obtain ⟨q, hq⟩ := sc v (hs v (by simp))
      rw [val_key _ hq]
      refine wpAny_bind (wpAny_pure ?_)
      cases plainKind v
      · simp only [Bool.not_false, if_true]
        exact wpAny_pure (wpAny_pure (h _))
      · simp only [Bool.not_true, Bool.false_eq_true, if_false]
        exact wpAny_pure ⟨rfl, rfl, fun u hu => hs u (by simp [hu])⟩
    · rintro ⟨r, u⟩ st ⟨ha, rfl, _⟩
      dsimp only at ha
      subst ha
      exact wpAny_pure (h _)
  same := fun {h h' k a b o es ep t} hk ho hd hs => by
    obtain ⟨o', items, n, ho', r⟩ := hk
    refine ⟨o', items, n, (hs.2 b fun e => ?_).trans ho', r⟩
    subst e
    rw [ho] at ho'
    cases ho'
    rw [hd] at r
    exact nomatch r.2.1
  grow := fun {h h' k b} hk hg => by
    obtain ⟨o', items, n, ho', r⟩ := hk
    exact ⟨o', items, n, hg _ _ ho', r⟩
end
/-! ### the set in the abstract heap -/
def SetLater (P : Program) (w : World) (h : Heap) (a : Addr) (R : List ((Str × Int) × Addr)) : Prop :=
  ∃ es ep t o, h.get? a = some o ∧ ∀ h' : Heap, h'.get? a = some o → (∀ p ∈ R, (pairKind P w).is h' p.1 p.2) → KSet (pairKind P w) h' a R es ep t
def setTO (P : Program) (w : World) (a : Addr) (R : List ((Str × Int) × Addr)) : HO := .ext fun h => SetLater P w h a R
theorem KSet.later {P : Program} {w : World} {h : Heap} {a : Addr} {R : List ((Str × Int) × Addr)} {es : Array (Int × Value)} {ep : Nat} {t : SetTable} (S : KSet (pairKind P w) h a R es ep t) : SetLater P w h a R := by
  obtain ⟨o, ho, hx⟩ := S.obj
  exact ⟨es, ep, t, o, ho, fun h' e hm => S.move pairSet (fun o' e' => by rw [ho] at e'; cases e'; exact e) hm⟩
theorem SetLater.at {P : Program} {w : World} {h h' : Heap} {a : Addr} {R : List ((Str × Int) × Addr)} (S : SetLater P w h a R) (k : ∀ o, h.get? a = some o → h'.get? a = some o) : SetLater P w h' a R := by
  obtain ⟨es, ep, t, o, ho, r⟩ := S
  exact ⟨es, ep, t, o, k o ho, r⟩
/-- a pair's tuple, abstractly -/
def pairO (k : Str × Int) : HO := .tup [.str k.1, .int k.2]
section
variable {X : Cx} {W : XK}
theorem pair_is {pins : List (Addr × Obj)} {σ : L2.St} {H : Hp} {s : Shared} {k : Str × Int} {b : Addr} (I : Inv X pins σ H s) (h : H b = some (pairO k)) : (pairKind X.prog X.w).is s.heap k b := by
  obtain ⟨its, r, ⟨o, ho, hc, n, hd⟩, _⟩ := I.tuple (xs := [.str k.1, .int k.2]) (.inl (.inl h))
  refine ⟨o, its.toArray, n, ho, hc, hd, ?_⟩
  cases r with
  | cons r1 r2 =>
    cases r2 with
    | cons r2 r3 =>
      cases r3
      obtain ⟨t1, rfl⟩ := r1
      obtain ⟨t2, rfl⟩ := r2
      exact .cons (keyIs_str k.1 t1) (.cons (keyIs_int k.2 t2) .nil)
theorem refs_eq {κ : Type} : ∀ {ks : List (κ × Addr)} {us : List Value}, Vals (ks.map fun p => V.ref p.2) us → us = ks.map fun p => Value.ref p.2
  | [], _, h => by cases h; rfl
  | p :: ks, _, h => by
    rw [List.map_cons] at h
    cases h with
    | cons r rs =>
      cases r
      rw [refs_eq rs]
      rfl
theorem refs_vals {κ : Type} : ∀ (ks : List (κ × Addr)), Vals (ks.map fun p => V.ref p.2) (ks.map fun p => Value.ref p.2)
  | [] => .nil
  | p :: ks => .cons rfl (refs_vals ks)
def rSetT (X : Cx) : List V → Hp → VK → Prop := fun xs H Q => ∃ l ks, xs = [.ref l] ∧ H l = some (.lst (ks.map fun p : (Str × Int) × Addr => V.ref p.2)) ∧ (∀ p ∈ ks, H p.2 = some (pairO p.1)) ∧ ks.length < 64 ∧
  ∀ p R, H p = none → Had ks ks.length R → (R.map (·.1)).Nodup → R.length < 64 → Q (.ref p) (upd H p (setTO X.prog X.w p R))
theorem cr_setT (hc : X.calm = true) (hu : X.A.units + 64 < cLine) : CallR X (.type "set") (rSetT X) := by
  intro pins s σ H vs us Q I r h
  obtain ⟨l, ks, rfl, hl, hk, hz, q⟩ := h
  obtain ⟨u, rfl, ru⟩ := vals1 r
  cases ru
  obtain ⟨its, rv, pl, _⟩ := I.list (SqL.of hl)
  refine call_set_K (pairSet (P := X.prog) (w := X.w)) (I.ok.hd hc) pl.isList (by simpa using refs_eq rv) (fun p hp => pair_is I (hk p hp)) hz (by
    show X.A.in1.in1.in1.units < cLine
    have e1 : X.A.in1.in1.in1.units = X.A.in1.in1.units + 1 := PySem.Around.in1_units ..
    have e2 : X.A.in1.in1.units = X.A.in1.units + 1 := PySem.Around.in1_units ..
    have e3 : X.A.in1.units = X.A.units + 1 := PySem.Around.in1_units ..
    omega) fun h' tk R es ep t hS hH hk' => ?_
  have hO : ObjOk X.prog X.w (upd H s.heap.objs.size (setTO X.prog X.w s.heap.objs.size R)) h' s.heap.objs.size (setTO X.prog X.w s.heap.objs.size R) := by
    have L := hS.later
    have ⟨_, _, _, o, ho, _⟩ := L
    exact ⟨L, ⟨o, ho⟩, fun h1 h2 p k => SetLater.at p k⟩
  exact ⟨.ref _, _, I.laid (t' := tk) hk' (Nat.le_refl _) hO, rfl, q _ R (I.hok.fresh (Nat.le_refl _)) hH hS.once hS.few⟩
/-- a pair as data -/
def pairPy (p : (Str × Int) × Addr) : PyData := .tuple [.str p.1.1, .int p.1.2]
theorem pair_reads {P : Program} {w : World} {h : Heap} {k : Str × Int} {b : Addr} (x : (pairKind P w).is h k b) : Reads h (.ref b) (.tuple [.str k.1, .int k.2]) [] := by
  obtain ⟨o, items, n, ho, hc, hd, hi⟩ := x
  refine .tuple ho hc hd ?_
  generalize items.toList = vs at hi
  cases hi with
  | cons h1 h2 =>
    cases h2 with
    | cons h2 h3 =>
      cases h3
      rcases keyIs_shape (k := .inr k.1) h1 with ⟨i, t, e, _⟩ | ⟨y, t, e, rfl⟩
      · cases e
      · cases e
        rcases keyIs_shape (k := .inl k.2) h2 with ⟨i, t', e, rfl⟩ | ⟨y, t', e, _⟩
        · cases e
          exact .cons (.str _ _) (.cons (.int _ _) .nil)
        · cases e
theorem alike_pairs (l : List ((Str × Int) × Addr)) : AllAlike (l.map pairPy) := by
  intro d hd d' hd'
  obtain ⟨p, _, rfl⟩ := List.mem_map.mp hd
  obtain ⟨q, _, rfl⟩ := List.mem_map.mp hd'
  simp [pairPy, alike, alikeAll]
theorem able_pairs (l : List ((Str × Int) × Addr)) : Sortable (l.map pairPy) := by
  left
  intro d hd
  obtain ⟨p, _, rfl⟩ := List.mem_map.mp hd
  exact ⟨_, _, rfl⟩
theorem each_rows {R : List ((Str × Int) × Addr)} : ∀ {bs : List ((Str × Int) × Addr)}, (∀ p ∈ bs, p ∈ R) → EachIs (fun (v : Value) (p : (Str × Int) × Addr) => v = .ref p.2 ∧ p ∈ R) (bs.map fun p => Value.ref p.2) bs
  | [], _ => .nil
  | p :: bs, h => .cons ⟨rfl, h p (by simp)⟩ (each_rows fun q hq => h q (by simp [hq]))
theorem rows_each {R : List ((Str × Int) × Addr)} {out : List Value} {bs : List ((Str × Int) × Addr)} (h : EachIs (fun (v : Value) (p : (Str × Int) × Addr) => v = .ref p.2 ∧ p ∈ R) out bs) : out = bs.map fun p => Value.ref p.2 := by
  induction h with
  | nil => rfl
  | cons h1 _ ih => rw [h1.1, ih]; rfl
theorem perm_map {α β : Type} {f : α → β} : ∀ {l : List β} {m : List α}, l.Perm (m.map f) → ∃ m' : List α, m'.Perm m ∧ l = m'.map f := by
  intro l m h
  generalize hz : m.map f = z at h
  induction h generalizing m with
  | nil => exact ⟨[], by rw [List.map_eq_nil_iff.mp hz], rfl⟩
  | cons x _ ih =>
    cases m with
    | nil => simp at hz
    | cons a m =>
      rw [List.map_cons] at hz
      cases hz
      obtain ⟨m', h1, rfl⟩ := ih rfl
      exact ⟨a :: m', h1.cons a, rfl⟩
  | swap x y l =>
    match m, hz with
    | a :: b :: m, hz =>
      simp only [List.map_cons, List.cons.injEq] at hz
      obtain ⟨rfl, rfl, rfl⟩ := hz
      exact ⟨b :: a :: m, .swap a b m, rfl⟩
  | trans _ _ ih1 ih2 =>
    obtain ⟨m1, p1, rfl⟩ := ih2 hz
    obtain ⟨m2, p2, e⟩ := ih1 rfl
    exact ⟨m2, p2.trans p1, e⟩
def rSortT (X : Cx) : List V → Hp → VK → Prop := fun xs H Q => ∃ (a : Addr) (R : List ((Str × Int) × Addr)), xs = [.ref a] ∧ H a = some (setTO X.prog X.w a R) ∧ (∀ p ∈ R, H p.2 = some (pairO p.1)) ∧
  ∀ (p : Addr) (bs : List ((Str × Int) × Addr)), H p = none → bs.Perm R → Q (.ref p) (upd H p (.lst ((bs.mergeSort (dataLe false pairPy)).map fun q => V.ref q.2)))
theorem cr_sortT (hc : X.calm = true) (hu : X.A.units + 64 < cLine) : CallR X (.builtin "sorted") (rSortT X) := by
  intro pins s σ H vs us Q I r h
  obtain ⟨a, R, rfl, ha, hR, q⟩ := h
  obtain ⟨u, rfl, ru⟩ := vals1 r
  cases ru
  obtain ⟨es, ep, t, o, ho, later⟩ : SetLater X.prog X.w s.heap a R := (I.hok a _ ha).1
  have S := later s.heap ho fun p hp => pair_is I (hR p hp)
  obtain ⟨o', ho', hex, hd⟩ := S.obj
  rw [ho] at ho'
  cases ho'
  refine Calls.call_function_entry PyProof.Rows.kind_sorted PyProof.Rows.plain_sorted PyProof.Rows.entry_sorted (PyProof.Rows.args_sorted1 _) ?_
  unfold Builtin.«sorted»
  refine wpAny_bind (m := checkCount "sorted" 1 1 _) (wpAny_pure ?_)
  refine wpAny_bind (collect_set (A := X.A.in1) (I.ok.hd hc) ⟨o, ho, hex.1, hd⟩ S.fit (by rw [ents_size S.ents]; have := S.few; unfold scanBound; omega) S.tab.ris S.led fun s1 out k1 hz1 g1 o1 pm => ?_)
  rw [S.ents, List.map_map] at pm
  obtain ⟨bs, pb, rfl⟩ := perm_map (f := fun p : (Str × Int) × Addr => Value.ref p.2) pm
  have hlen : (bs.map fun p => Value.ref p.2).length < 64 := by rw [List.length_map, pb.length_eq]; exact S.few
  have hsz : (bs.map fun p => Value.ref p.2).length ≤ sizeLine := by rw [sizeLine_eq]; omega
  refine wpAny_bind (wpAny_newList ?_ hsz)
  generalize hout : (bs.map fun p => Value.ref p.2) = out at hlen hsz
  have hoL : (s1.heap.push (seqObj "list" out.toArray 0)).get? s1.heap.objs.size = some (seqObj "list" out.toArray 0) := Heap.get?_push_size _ rfl
  have e := each_rows (R := R) (bs := bs) fun p hp => pb.mem_iff.mp hp
  rw [hout] at e
  refine wpAny_bind (wpAny_holding (PySem.W.list_sort_data (s := { s1 with heap := s1.heap.push (seqObj "list" out.toArray 0) }) (enc := pairPy) hoL e (e.mono fun v p hp => ?_) (alike_pairs bs) (able_pairs bs) (by rw [← List.length_map (f := fun p : (Str × Int) × Addr => Value.ref p.2), hout]; exact hsz) (fun b _ => ?_) fun out' h1 h2 => ?_))
  · obtain ⟨rfl, hpR⟩ := hp
    exact ⟨[], pair_reads (pairSet.grow (pair_is I (hR p hpR)) fun c o q => Heap.get?_push_of_some _ (k1 c o q)), by simp⟩
  · have e1 : (pairPy b).depth = 1 := rfl
    rw [e1]
    have : X.A.in1.units = X.A.units + 1 := PySem.Around.in1_units ..
    omega
  · obtain ⟨c, hc'⟩ := PyProof.Rows.sortedHeap_at (vs := out) (out := out'.toArray) hoL
    have hv : Vals ((bs.mergeSort (dataLe false pairPy)).map fun q => V.ref q.2) out' := by rw [rows_each h2]; exact refs_vals _
    have hlen2 : ((bs.mergeSort (dataLe false pairPy)).map fun q => V.ref q.2).length ≤ sizeLine := by
      rw [List.length_map, List.length_mergeSort, pb.length_eq, sizeLine_eq]
      have := S.few
      omega
    have hn : H s1.heap.objs.size = none := I.hok.fresh hz1
    have kp : ∀ b u, s.heap.get? b = some u → (PyProof.Rows.sortedHeap (s1.heap.push (seqObj "list" out.toArray 0)) s1.heap.objs.size out out'.toArray).get? b = some u := fun b u e => by
      have q := k1 b u e
      have hlt := Heap.lt_size q
      rw [PyProof.Rows.sortedHeap_old (Nat.ne_of_lt hlt) (by rw [PyProof.Rows.size_push']; exact Nat.lt_succ_of_lt hlt)]
      exact Heap.get?_push_of_some _ q
    have J : Inv X pins σ (upd H s1.heap.objs.size (.lst ((bs.mergeSort (dataLe false pairPy)).map fun q => V.ref q.2))) { s with heap := PyProof.Rows.sortedHeap (s1.heap.push (seqObj "list" out.toArray 0)) s1.heap.objs.size out out'.toArray, gens := s1.gens, drawn := s1.drawn, toks := s1.toks } :=
      I.call (ch := []) (Un.laid kp hz1 hn) (I.hok.laid kp hz1 ⟨hlen2, out', c, hv, hc'⟩) (by rw [g1]; exact I.bare) (fun _ z => nomatch z)
    have e : ({ s1 with heap := PyProof.Rows.sortedHeap (s1.heap.push (seqObj "list" out.toArray 0)) s1.heap.objs.size out out'.toArray } : Shared) = { s with heap := PyProof.Rows.sortedHeap (s1.heap.push (seqObj "list" out.toArray 0)) s1.heap.objs.size out out'.toArray, gens := s1.gens, drawn := s1.drawn, toks := s1.toks } := by
      cases s1
      cases s
      cases o1
      rfl
    refine wpAny_pure ⟨_, rfl, .ref s1.heap.objs.size, _, ?_, rfl, q _ bs hn pb⟩
    show Inv X pins σ _ { s1 with heap := PyProof.Rows.sortedHeap (s1.heap.push (seqObj "list" out.toArray 0)) s1.heap.objs.size out out'.toArray }
    rw [e]
    exact J
end
end G

-- part C25
namespace G
open PySem L2 RZ
open PySem.W (dataLt dataLe alike)
variable {X : Cx} {W : XK}
/-! ### sorted(set(xs)), xs a list of (text, int) -/
abbrev TI := List Nat × Int
def tiVal (p : TI) : Val := .tup [.str p.1, .int p.2]
def pairsT : List Val → Option (List TI)
  | [] => some []
  | .tup [.str x, .int i] :: r => (pairsT r).map ((x, i) :: ·)
  | _ => none
def leT (a b : TI) : Bool := decide (a.1 < b.1) || (decide (a.1 = b.1) && decide (a.2 ≤ b.2))
def dedT (ps : List TI) : List TI := ps.foldl (fun acc p => if p ∈ acc then acc else acc ++ [p]) []
def sortT (ps : List TI) : List TI := ps.mergeSort leT
def ssortT (f : EF) : EF := fun ρ m => (f ρ m).bind fun v m1 => match asL m1 v with
  | some xs => match pairsT xs with
    | some ps => if ps.length < 64 then .ok (.lst ((sortT (dedT ps)).map tiVal)) m1 else .stuck
    | none => .stuck
  | none => .stuck
theorem lt_irr (a : List Nat) : ¬ a < a := List.lt_irrefl a
theorem leT_total (a b : TI) : (leT a b || leT b a) = true := by
  unfold leT
  rcases List.le_total a.1 b.1 with h | h
  · by_cases e : a.1 = b.1
    · rcases Int.le_total a.2 b.2 with h2 | h2 <;> simp [e, h2]
    · have : a.1 < b.1 := by
        by_cases hl : a.1 < b.1
        · exact hl
        · exact absurd (List.le_antisymm h (List.not_lt.mp hl)) e
      simp [this]
  · by_cases e : a.1 = b.1
    · rcases Int.le_total a.2 b.2 with h2 | h2 <;> simp [e, h2]
    · have : b.1 < a.1 := by
        by_cases hl : b.1 < a.1
        · exact hl
        · exact absurd (List.le_antisymm (List.not_lt.mp hl) h) e
      simp [this]
theorem leT_trans (a b c : TI) (h1 : leT a b = true) (h2 : leT b c = true) : leT a c = true := by
  unfold leT at *
  simp only [Bool.or_eq_true, Bool.and_eq_true, decide_eq_true_eq] at *
  rcases h1 with h1 | ⟨e1, h1⟩ <;> rcases h2 with h2 | ⟨e2, h2⟩
  · exact .inl (List.lt_trans h1 h2)
  · exact .inl (by rw [← e2]; exact h1)
  · exact .inl (by rw [e1]; exact h2)
  · exact .inr ⟨e1.trans e2, Int.le_trans h1 h2⟩
theorem leT_antisymm {a b : TI} (h1 : leT a b = true) (h2 : leT b a = true) : a = b := by
  unfold leT at *
  simp only [Bool.or_eq_true, Bool.and_eq_true, decide_eq_true_eq] at *
  rcases h1 with h1 | ⟨e1, h1⟩ <;> rcases h2 with h2 | ⟨e2, h2⟩
  · exact absurd (List.lt_trans h1 h2) (lt_irr _)
  · rw [e2] at h1; exact absurd h1 (lt_irr _)
  · rw [e1] at h2; exact absurd h2 (lt_irr _)
  · exact Prod.ext e1 (Int.le_antisymm h1 h2)
theorem sortT_pw (ps : List TI) : (sortT ps).Pairwise fun a b => leT a b = true := List.pairwise_mergeSort leT_trans leT_total ps
theorem sortT_unique {xs ys : List TI} (h : xs.Perm ys) (hs : xs.Pairwise fun a b => leT a b = true) : xs = sortT ys :=
  List.Perm.eq_of_pairwise (fun a b _ _ h1 h2 => leT_antisymm h1 h2) hs (sortT_pw ys) (h.trans (List.mergeSort_perm ..).symm)
theorem dedT_mem (ps : List TI) (p : TI) : p ∈ dedT ps ↔ p ∈ ps := by
  have : ∀ (ps acc : List TI), p ∈ ps.foldl (fun acc p => if p ∈ acc then acc else acc ++ [p]) acc ↔ p ∈ acc ∨ p ∈ ps := by
    intro ps
    induction ps with
    | nil => intro acc; simp
    | cons q ps ih =>
      intro acc
      rw [List.foldl_cons, ih]
      split
      · rename_i hq
        constructor
        · rintro (h | h)
          · exact .inl h
          · exact .inr (by simp [h])
        · rintro (h | h)
          · exact .inl h
          · rcases List.mem_cons.mp h with rfl | h
            · exact .inl hq
            · exact .inr h
      · rw [List.mem_append, List.mem_singleton, List.mem_cons, or_assoc]
  unfold dedT
  rw [this]
  simp
theorem dedT_nodup (ps : List TI) : (dedT ps).Nodup := by
  have : ∀ (ps acc : List TI), acc.Nodup → (ps.foldl (fun acc p => if p ∈ acc then acc else acc ++ [p]) acc).Nodup := by
    intro ps
    induction ps with
    | nil => intro acc h; exact h
    | cons q ps ih =>
      intro acc h
      rw [List.foldl_cons]
      refine ih _ ?_
      split
      · exact h
      · rename_i hq
        rw [List.nodup_append]
        exact ⟨h, by simp, fun a ha b hb => by rw [List.mem_singleton] at hb; subst hb; exact fun e => hq (e ▸ ha)⟩
  exact this ps [] List.nodup_nil
/-- a pair's key in the heap, back -/
def tiOf (k : Str × Int) : TI := (k.1.cps.toList, k.2)
theorem tiOf_inj {a b : Str × Int} (h : tiOf a = tiOf b) : a = b := by
  simp only [tiOf, Prod.mk.injEq] at h
  exact Prod.ext (PySem.W.str_of_cps h.1) h.2
theorem le_pairs (a b : (Str × Int) × Addr) : dataLe false pairPy a b = leT (tiOf a.1) (tiOf b.1) := by
  obtain ⟨⟨x, i⟩, aa⟩ := a
  obtain ⟨⟨y, j⟩, bb⟩ := b
  show (!dataLt (.tuple [.str y, .int j]) (.tuple [.str x, .int i])) = (decide (x.cps.toList < y.cps.toList) || (decide (x.cps.toList = y.cps.toList) && decide (i ≤ j)))
  rw [PySem.W.dataLt_pair (by simp [alike]) (by simp [alike]), PySem.W.dataLt_int, PySem.W.dataLt_str]
  simp only [PyData.eqv, beq_iff_eq]
  by_cases h : y = x
  · subst h
    have h0 : ¬ y.cps.toList < y.cps.toList := lt_irr _
    by_cases h2 : j = i
    · simp [h2, h0]
    · simp only [if_true, h2, if_false, h0, decide_false, Bool.false_or, decide_true, Bool.true_and]
      by_cases h3 : j < i
      · have : ¬ i ≤ j := by omega
        simp [h3, this]
      · have : i ≤ j := by omega
        simp [h3, this]
  · have hne : ¬ x.cps.toList = y.cps.toList := fun e => h (PySem.W.str_of_cps e).symm
    simp only [h, if_false, hne, decide_false, Bool.false_and, Bool.or_false]
    by_cases hl : y.cps.toList < x.cps.toList
    · have : ¬ x.cps.toList < y.cps.toList := fun z => lt_irr _ (List.lt_trans hl z)
      simp [hl, this]
    · have h3 := List.not_lt.mp hl
      have : x.cps.toList < y.cps.toList := by
        by_cases h4 : x.cps.toList < y.cps.toList
        · exact h4
        · exact absurd (List.le_antisymm h3 (List.not_lt.mp h4)) hne
      simp [hl, this]
/-- the rows of a list of pairs -/
theorem rows_at {K : PySem.W.Frag} {β : List Addr} {F : Hp} : ∀ {xs : List Val} {us : List V} {ps : List TI}, pairsT xs = some ps → RepL K β F xs us →
    ∃ ks : List ((Str × Int) × Addr), us = (ks.map fun p => V.ref p.2) ∧ ps = (ks.map fun p => tiOf p.1) ∧ (∀ p ∈ ks, F p.2 = some (pairO p.1)) ∧ ∀ p ∈ ks, Rep K β F (tiVal (tiOf p.1)) (.ref p.2)
  | [], us, ps, h, r => by
    rw [RepL] at r
    simp only [pairsT, Option.some.injEq] at h
    subst h r
    exact ⟨[], rfl, rfl, by simp, by simp⟩
  | v :: xs, us, ps, h, r => by
    unfold pairsT at h
    split at h
    · rename_i e; cases e
    · rename_i x i r' e
      cases e
      rw [RepL] at r
      obtain ⟨u, us', rfl, r1, r2⟩ := r
      simp only [Option.map_eq_some_iff] at h
      obtain ⟨ps', h1, rfl⟩ := h
      obtain ⟨ks, e1, e2, e3, e4⟩ := rows_at h1 r2
      have r1' := r1
      rw [Rep] at r1
      obtain ⟨a, vs, rfl, ht, hv⟩ := r1
      rw [RepL] at hv
      obtain ⟨u1, w1, rfl, q1, hv⟩ := hv
      rw [RepL] at hv
      obtain ⟨u2, w2, rfl, q2, hv⟩ := hv
      rw [RepL] at hv
      rw [Rep] at q1
      rw [Rep] at q2
      subst hv q1 q2
      have hk := TpA.key (F := F) (a := a) (us := [sV x, .int i]) ht
      refine ⟨((⟨x.toArray⟩, i), a) :: ks, by rw [e1]; rfl, by rw [e2]; simp [tiOf], fun p hp => ?_, fun p hp => ?_⟩
      · rcases List.mem_cons.mp hp with rfl | hp
        · exact hk
        · exact e3 p hp
      · rcases List.mem_cons.mp hp with rfl | hp
        · simpa [tiVal, tiOf] using r1'
        · exact e4 p hp
    · cases h
theorem repL_rows {K : PySem.W.Frag} {β : List Addr} {F : Hp} : ∀ (ks : List ((Str × Int) × Addr)), (∀ p ∈ ks, Rep K β F (tiVal (tiOf p.1)) (.ref p.2)) → RepL K β F ((ks.map fun p => tiOf p.1).map tiVal) (ks.map fun p => V.ref p.2)
  | [], _ => by simp [RepL]
  | p :: ks, h => by
    rw [List.map_cons, List.map_cons, List.map_cons, RepL]
    exact ⟨_, _, rfl, h p (by simp), repL_rows ks fun q hq => h q (by simp [hq])⟩
theorem sorted_rows {ks R bs : List ((Str × Int) × Addr)} (hH : Had ks ks.length R) (hn : (R.map (·.1)).Nodup) (pb : bs.Perm R) : ((bs.mergeSort (dataLe false pairPy)).map fun p => tiOf p.1) = sortT (dedT (ks.map fun p => tiOf p.1)) := by
  have e : (bs.mergeSort (dataLe false pairPy)).map (fun p => tiOf p.1) = sortT (bs.map fun p => tiOf p.1) := by
    unfold sortT
    apply List.map_mergeSort
    intro a _ b _
    exact le_pairs a b
  rw [e]
  refine sortT_unique ?_ (sortT_pw _)
  refine (List.mergeSort_perm ..).trans ?_
  refine (List.perm_ext_iff_of_nodup ?_ (dedT_nodup _)).mpr fun p => ?_
  · have h1 : (bs.map (·.1)).Nodup := (pb.map (·.1)).nodup_iff.mpr hn
    rw [show (bs.map fun p => tiOf p.1) = (bs.map (·.1)).map tiOf by simp]
    exact h1.map tiOf (fun a b hne e => hne (tiOf_inj e))
  · rw [dedT_mem]
    constructor
    · intro h
      obtain ⟨q, hq, rfl⟩ := List.mem_map.mp h
      have := hH.from' q (pb.mem_iff.mp hq)
      rw [List.take_length] at this
      exact List.mem_map.mpr ⟨q, this, rfl⟩
    · intro h
      obtain ⟨q, hq, rfl⟩ := List.mem_map.mp h
      have := hH.all q (by rw [List.take_length]; exact hq)
      obtain ⟨r, hr, hre⟩ := List.mem_map.mp this
      exact List.mem_map.mpr ⟨r, pb.mem_iff.mpr hr, by rw [hre]⟩
theorem ee_ssortT {n : Nat} (g : Good X n) {e : Expr} {f : EF} {p p2 q pos : Pos} (he : EE X W e f) (hg : Gl X "sorted" := by rfl) (hg2 : Gl X "set" := by rfl)
    (hs1 : starEach [e] X.env = (false, eval e X.env) :: starEach [] X.env := by rfl) (hp1 : (backTo q (starEach [] X.env)).any (·.1) = false := by rfl)
    (hs2 : starEach [.Call (.Name "set" p2) [e] [] q] X.env = (false, eval (.Call (.Name "set" p2) [e] [] q) X.env) :: starEach [] X.env := by rfl) (hp2 : (backTo pos (starEach [] X.env)).any (·.1) = false := by rfl) :
    EE X W (.Call (.Name "sorted" p) [.Call (.Name "set" p2) [e] [] q] [] pos) (ssortT f) := by
  refine ⟨pe_imp (pe_callB (cr_sortT g.calm g.u64) hg g.blt.sorted PyProof.Rows.boot_sorted (pa_cons (pe_callTy (cr_setT g.calm g.u64) hg2 g.blt.set PyProof.Rows.boot_set (pa_cons he.pe pa_nil hs1) (by decide) (by decide) hs1 hp1) pa_nil hs2) (by decide) (by decide) hs2 hp2) fun σ H Q ⟨ρ, m, β, F, er, wl, h⟩ => ?_⟩
  refine t_thenE er wl h fun v m1 β1 F1 H1 x x1 w1 r1 h1 => ?_
  show rSetT X [x] H1 fun y H2 => rSortT X [y] H2 Q
  split at h1
  · rename_i xs hx
    split at h1
    · rename_i ps hk
      split at h1
      · rename_i hc
        obtain ⟨a, us, rfl, ha, hu⟩ := asL_at w1 r1 hx
        obtain ⟨ks, rfl, rfl, e3, e4⟩ := rows_at hk hu
        rw [List.length_map] at hc
        refine ⟨a, ks, rfl, ha, fun p hp => w1.sub _ _ (e3 p hp), hc, fun p R hp hH hnd hl => ?_⟩
        show rSortT X [.ref p] _ Q
        have hR : ∀ q ∈ R, q ∈ ks := fun q hq => List.mem_of_mem_take (hH.from' q hq)
        obtain ⟨x2, w2⟩ := w1.beside hp (setTO X.prog X.w p R)
        refine ⟨p, R, rfl, upd_same, fun q hq => w2.sub _ _ (e3 q (hR q hq)), fun p2 bs hp2 pb => ?_⟩
        have h2 := Fin.ext x2 h1
        have e := sorted_rows hH hnd pb
        rw [← e] at h2
        exact h2.lst w2 (repL_rows _ fun q hq => e4 q (hR q (pb.mem_iff.mp ((List.mergeSort_perm ..).mem_iff.mp hq)))) hp2
      · exact h1.elim
    · exact h1.elim
  · exact h1.elim
end G

-- part M0
namespace G
open PySem L2 RZ

/-! ### the combinators, applied -/
section
variable {ρ : Env} {m : Sto} {α β : Type}
@[simp] theorem bind_ite {c : Prop} [Decidable c] {a b : Res α} {k : α → Sto → Res β} : (if c then a else b).bind k = if c then a.bind k else b.bind k := by split <;> rfl
@[simp] theorem sbind_ite {c : Prop} [Decidable c] {a b : Res α} {k : α → Sto → SRes} : sbind (if c then a else b) k = if c then sbind a k else sbind b k := by split <;> rfl
@[simp] theorem asT_ite {c : Prop} [Decidable c] {a b : Res Val} : asT (if c then a else b) = if c then asT a else asT b := by split <;> rfl
@[simp] theorem asT_bl {b : Bool} : asT (.ok (.bl b) m) = .ok b m := id rfl
@[simp] theorem asT_exc {c : String} : asT (.exc c m) = .exc c m := id rfl
@[simp] theorem asT_stuck : asT .stuck = .stuck := id rfl
def seqR (r : SRes) (g : SF) : SRes := match r with
  | .nx ρ' m' => g ρ' m'
  | r => r
@[simp] theorem e_seq {f g : SF} : seqF f g ρ m = seqR (f ρ m) g := id rfl
@[simp] theorem seqR_nx {g : SF} : seqR (.nx ρ m) g = g ρ m := id rfl
@[simp] theorem seqR_rt {v : Val} {g : SF} : seqR (.rt v m) g = .rt v m := id rfl
@[simp] theorem seqR_bk {g : SF} : seqR (.bk ρ m) g = .bk ρ m := id rfl
@[simp] theorem seqR_ct {g : SF} : seqR (.ct ρ m) g = .ct ρ m := id rfl
@[simp] theorem seqR_exc {c : String} {g : SF} : seqR (.exc c m) g = .exc c m := id rfl
@[simp] theorem seqR_stuck {g : SF} : seqR .stuck g = .stuck := id rfl
@[simp] theorem seqR_ite {c : Prop} [Decidable c] {a b : SRes} {g : SF} : seqR (if c then a else b) g = if c then seqR a g else seqR b g := by split <;> rfl
def endR (r : SRes) : Res Val := match r with
  | .nx _ m' => .ok .non m'
  | .rt v m' => .ok v m'
  | .exc c m' => .exc c m'
  | _ => .stuck
@[simp] theorem e_body {N : Nat} {b : SF} {args : List Val} : bodyF N b args m = endR (b (args.map some ++ List.replicate (N - args.length) none) m) := id rfl
@[simp] theorem endR_nx : endR (.nx ρ m) = .ok .non m := id rfl
@[simp] theorem endR_rt {v : Val} : endR (.rt v m) = .ok v m := id rfl
@[simp] theorem endR_exc {c : String} : endR (.exc c m) = .exc c m := id rfl
@[simp] theorem endR_ite {c : Prop} [Decidable c] {a b : SRes} : endR (if c then a else b) = if c then endR a else endR b := by split <;> rfl
@[simp] theorem e_var {i : Nat} : varF i ρ m = match ρ[i]? with | some (some v) => .ok v m | _ => .stuck := id rfl
@[simp] theorem e_con {v : Val} : conF v ρ m = .ok v m := id rfl
@[simp] theorem e_nil : nilF ρ m = .ok [] m := id rfl
@[simp] theorem e_cons {fa : EF} {fr : AF} : consF fa fr ρ m = (fa ρ m).bind fun v m1 => (fr ρ m1).bind fun vs m2 => .ok (v :: vs) m2 := id rfl
@[simp] theorem e_tup {f : AF} : tupF f ρ m = (f ρ m).bind fun vs m1 => if vs.length ≤ sizeLine then .ok (.tup vs) m1 else .stuck := id rfl
@[simp] theorem e_lst {f : AF} : lstF f ρ m = (f ρ m).bind fun vs m1 => if vs.length ≤ sizeLine then .ok (.lst vs) m1 else .stuck := id rfl
@[simp] theorem e_lstN {f : AF} : lstNF f ρ m = (f ρ m).bind fun vs m1 => if vs.length ≤ sizeLine then .ok (.ref m1.length) (m1 ++ [.lst vs]) else .stuck := id rfl
@[simp] theorem e_bin2 {g : VF2} {fa fb : EF} : bin2 g fa fb ρ m = (fa ρ m).bind fun v m1 => (fb ρ m1).bind fun w m2 => g v w m2 := id rfl
@[simp] theorem e_ret {fe : EF} : retF fe ρ m = sbind (fe ρ m) fun v m1 => .rt v m1 := id rfl
@[simp] theorem e_retN : retNF ρ m = .rt .non m := id rfl
@[simp] theorem e_drop {fe : EF} : dropF fe ρ m = sbind (fe ρ m) fun _ m1 => .nx ρ m1 := id rfl
@[simp] theorem e_if {c : TF} {f g : SF} : ifF c f g ρ m = sbind (c ρ m) fun b m1 => if b = true then f ρ m1 else g ρ m1 := id rfl
@[simp] theorem e_next : nextF ρ m = .nx ρ m := id rfl
def asgR (o : Option Env) (m : Sto) : SRes := match o with
  | some ρ' => .nx ρ' m
  | none => .stuck
@[simp] theorem e_asg {fe : EF} {g : GF} : asgF fe g ρ m = sbind (fe ρ m) fun v m1 => asgR (g v ρ m1) m1 := id rfl
@[simp] theorem asgR_some {ρ' : Env} : asgR (some ρ') m = .nx ρ' m := id rfl
@[simp] theorem asgR_none : asgR none m = .stuck := id rfl
@[simp] theorem e_name {i : Nat} {v : Val} : nameG i v ρ m = some (ρ.set i (some v)) := id rfl
@[simp] theorem e_tst {f : EF} : tstF f ρ m = asT (f ρ m) := id rfl
@[simp] theorem e_and {fa fr : EF} : andF fa fr ρ m = (asT (fa ρ m)).bind fun b m1 => if b = true then fr ρ m1 else .ok (.bl false) m1 := id rfl
@[simp] theorem e_or {fa fr : EF} : orF fa fr ρ m = (asT (fa ρ m)).bind fun b m1 => if b = true then .ok (.bl true) m1 else fr ρ m1 := id rfl
@[simp] theorem e_not {fa : EF} : notF fa ρ m = (asT (fa ρ m)).bind fun b m1 => .ok (.bl (!b)) m1 := id rfl
@[simp] theorem e_andT {fa fr : TF} : andTF fa fr ρ m = (fa ρ m).bind fun b m1 => if b = true then fr ρ m1 else .ok false m1 := id rfl
@[simp] theorem e_orT {fa fr : TF} : orTF fa fr ρ m = (fa ρ m).bind fun b m1 => if b = true then .ok true m1 else fr ρ m1 := id rfl
@[simp] theorem e_notT {fa : TF} : notTF fa ρ m = (fa ρ m).bind fun b m1 => .ok (!b) m1 := id rfl
@[simp] theorem e_chain {g g' : VF2} {fa fb fc : EF} : chainF g g' fa fb fc ρ m = (fa ρ m).bind fun v m1 => (fb ρ m1).bind fun w m2 => (asT (g v w m2)).bind fun k m3 => if k = true then (fc ρ m3).bind fun z m4 => g' w z m4 else .ok (.bl false) m3 := id rfl
@[simp] theorem e_call {g : VFn} {fa : AF} : callF g fa ρ m = (fa ρ m).bind g := id rfl
@[simp] theorem e_def {ar : Nat} {g : VFn} {fa : AF} : defF ar g fa ρ m = (fa ρ m).bind fun vs m1 => if vs.length = ar then trimR m1 (g vs m1) else .stuck := id rfl
@[simp] theorem e_isi {T : String} {f : EF} : isiF T f ρ m = (f ρ m).bind (isiV T) := id rfl
@[simp] theorem e_slc {f : EF} {fl fh : OF} : slcF f fl fh ρ m = (f ρ m).bind fun v m1 => (fl ρ m1).bind fun lo m2 => (fh ρ m2).bind fun hi m3 => slcV v lo hi m3 := id rfl
@[simp] theorem e_noP : noPF ρ m = .ok none m := id rfl
@[simp] theorem e_par {f : EF} : parF f ρ m = (f ρ m).bind fun v m1 => match v with | .int i => .ok (some i) m1 | _ => .stuck := id rfl
@[simp] theorem e_m0 {g : Val → Sto → Res Val} {f : EF} : m0F g f ρ m = (f ρ m).bind g := id rfl
theorem e_comp {it : IF} {g : GF} {tt : TF} {fe : EF} {vs : List Nat} : compF it g tt fe vs ρ m = (it ρ m).bind fun p m1 => if p.1.length ≤ sizeLine then (noExc (compGo p.2 g tt fe (wipeE ρ vs) p.1 m1)).bind fun ys m2 => .ok (.lst ys) m2 else .stuck := id rfl
@[simp] theorem e_it {g : Val → Sto → Res (List Val × Gd)} {f : EF} : itF g f ρ m = (f ρ m).bind g := id rfl
@[simp] theorem e_itA {g : List Val → Sto → Res (List Val × Gd)} {f : AF} : itA g f ρ m = (f ρ m).bind g := id rfl
@[simp] theorem e_itA1 {g : Val → Sto → Res (List Val × Gd)} {f : AF} : itA1 g f ρ m = (f ρ m).bind fun vs m1 => match vs with | [v] => g v m1 | _ => .stuck := id rfl
@[simp] theorem e_itA2 {g : Val → Val → Sto → Res (List Val × Gd)} {f : AF} : itA2 g f ρ m = (f ρ m).bind fun vs m1 => match vs with | [v, w] => g v w m1 | _ => .stuck := id rfl
theorem e_for {it : IF} {g : GF} {b : SF} : forF it g b ρ m = sbind (it ρ m) fun p m1 => forGo p.2 g b p.1 ρ m1 := id rfl
@[simp] theorem e_yes : yesT ρ m = .ok true m := id rfl
end

/-! ### numbers -/
@[simp] theorem cast_le (n k : Nat) : ((n : Int) ≤ (no_index (OfNat.ofNat k) : Int)) ↔ n ≤ k := Int.ofNat_le
@[simp] theorem le_cast (n k : Nat) : ((no_index (OfNat.ofNat k) : Int) ≤ (n : Int)) ↔ k ≤ n := Int.ofNat_le
@[simp] theorem cast_lt (n k : Nat) : ((n : Int) < (no_index (OfNat.ofNat k) : Int)) ↔ n < k := Int.ofNat_lt
@[simp] theorem lt_cast (n k : Nat) : ((no_index (OfNat.ofNat k) : Int) < (n : Int)) ↔ k < n := Int.ofNat_lt
@[simp] theorem cast_eq' (n k : Nat) : ((n : Int) = (no_index (OfNat.ofNat k) : Int)) ↔ n = k := Int.ofNat_inj
/-! ### data -/
@[simp] theorem sz_eq : sizeLine = 16777216 := sizeLine_eq
mutual
theorem good_refs : ∀ {v : Val} (n : Nat), good v = true → refsLt n v = true
  | .non, _, _ => by simp [refsLt]
  | .bl _, _, _ => by simp [refsLt]
  | .int _, _, _ => by simp [refsLt]
  | .str _, _, _ => by simp [refsLt]
  | .tup xs, n, h => by simp only [good] at h; simp only [refsLt]; exact good_refsL n h
  | .lst xs, n, h => by simp only [good] at h; simp only [refsLt]; exact good_refsL n h
  | .dct _ _, _, h => by simp [good] at h
  | .ref _, _, h => by simp [good] at h
  | .scr _, _, h => by simp [good] at h
  | .wt _, _, h => by simp [good] at h
theorem good_refsL : ∀ {v : List Val} (n : Nat), goodL v = true → refsLtL n v = true
  | [], _, _ => by simp [refsLtL]
  | x :: xs, n, h => by
    simp only [goodL, Bool.and_eq_true] at h
    simp only [refsLtL, Bool.and_eq_true]
    exact ⟨good_refs n h.1, good_refsL n h.2⟩
end
theorem gd_good {v : Val} (h : gd v = true) : good v = true := by simp only [gd, Bool.and_eq_true] at h; exact h.1
theorem gd_refs {v : Val} (n : Nat) (h : gd v = true) : refsLt n v = true := good_refs n (gd_good h)
theorem trimR_refs {m : Sto} {v : Val} (h : refsLt m.length v = true) : trimR m (.ok v m) = .ok v m := by
  unfold trimR
  simp [h]
@[simp] theorem trimR_bl {m : Sto} {b : Bool} : trimR m (.ok (.bl b) m) = .ok (.bl b) m := trimR_refs (by simp [refsLt])
@[simp] theorem trimR_int {m : Sto} {b : Int} : trimR m (.ok (.int b) m) = .ok (.int b) m := trimR_refs (by simp [refsLt])
@[simp] theorem trimR_str {m : Sto} {b : List Nat} : trimR m (.ok (.str b) m) = .ok (.str b) m := trimR_refs (by simp [refsLt])
@[simp] theorem trimR_non {m : Sto} : trimR m (.ok .non m) = .ok .non m := trimR_refs (by simp [refsLt])
theorem trimR_gd {m : Sto} {v : Val} (h : gd v = true) : trimR m (.ok v m) = .ok v m := trimR_refs (gd_refs _ h)
@[simp] theorem trimR_ite {m : Sto} {c : Prop} [Decidable c] {a b : Res Val} : trimR m (if c then a else b) = if c then trimR m a else trimR m b := by split <;> rfl
theorem res1_gd {m : Sto} {v : Val} (h : gd v = true) : res1 m v = v := by
  cases v with
  | ref n => simp [gd, good] at h
  | _ => rfl
@[simp] theorem res1_str {m : Sto} {x : List Nat} : res1 m (.str x) = .str x := rfl
@[simp] theorem res1_int {m : Sto} {x : Int} : res1 m (.int x) = .int x := rfl
@[simp] theorem res1_bl {m : Sto} {x : Bool} : res1 m (.bl x) = .bl x := rfl
@[simp] theorem res1_non {m : Sto} : res1 m .non = .non := rfl
@[simp] theorem res1_tup {m : Sto} {xs : List Val} : res1 m (.tup xs) = .tup xs := rfl
@[simp] theorem res1_lst {m : Sto} {xs : List Val} : res1 m (.lst xs) = .lst xs := rfl
theorem gdL_mem : ∀ {xs : List Val}, goodL xs = true → ∀ x ∈ xs, good x = true
  | [], _, x, h => by cases h
  | y :: ys, h, x, hx => by
    simp only [goodL, Bool.and_eq_true] at h
    rcases List.mem_cons.mp hx with rfl | hx
    · exact h.1
    · exact gdL_mem h.2 x hx
theorem goodL_of : ∀ {xs : List Val}, (∀ x ∈ xs, good x = true) → goodL xs = true
  | [], _ => rfl
  | y :: ys, h => by simp only [goodL, Bool.and_eq_true]; exact ⟨h y (by simp), goodL_of fun x hx => h x (by simp [hx])⟩
theorem depL_mem : ∀ {xs : List Val} {x : Val}, x ∈ xs → dep x ≤ depL xs
  | y :: ys, x, h => by
    simp only [depL]
    rcases List.mem_cons.mp h with rfl | h
    · omega
    · have := depL_mem h; omega
theorem depL_le {n : Nat} : ∀ {xs : List Val}, (∀ x ∈ xs, dep x ≤ n) → depL xs ≤ n
  | [], _ => by simp [depL]
  | y :: ys, h => by
    simp only [depL]
    have := h y (by simp)
    have := depL_le (xs := ys) fun x hx => h x (by simp [hx])
    omega
theorem gd_tup_mem {xs : List Val} (h : gd (.tup xs) = true) {x : Val} (hx : x ∈ xs) : gd x = true := by
  simp only [gd, Bool.and_eq_true, decide_eq_true_eq] at h ⊢
  simp only [good, dep] at h
  have := depL_mem hx
  have h2 := h.2
  exact ⟨gdL_mem h.1 x hx, by omega⟩
theorem gd_lst_mem {xs : List Val} (h : gd (.lst xs) = true) {x : Val} (hx : x ∈ xs) : gd x = true := by
  simp only [gd, Bool.and_eq_true, decide_eq_true_eq] at h ⊢
  simp only [good, dep] at h
  have := depL_mem hx
  have h2 := h.2
  exact ⟨gdL_mem h.1 x hx, by omega⟩
/-- data with a bound on its depth -/
def gdn (n : Nat) (v : Val) : Bool := good v && decide (dep v ≤ n)
theorem gdn_gd {n : Nat} {v : Val} (h : gdn n v = true) (hn : n ≤ 60) : gd v = true := by
  simp only [gdn, gd, Bool.and_eq_true, decide_eq_true_eq] at h ⊢
  exact ⟨h.1, by omega⟩
theorem gdn_tup {n : Nat} {xs : List Val} (h : ∀ x ∈ xs, gdn n x = true) : gdn (n + 1) (.tup xs) = true := by
  simp only [gdn, Bool.and_eq_true, decide_eq_true_eq] at h ⊢
  try simp only [good, dep] at h
  try simp only [good, dep]
  exact ⟨goodL_of fun x hx => (h x hx).1, Nat.succ_le_succ (depL_le (n := n) fun x hx => (h x hx).2)⟩
theorem gdn_lst {n : Nat} {xs : List Val} (h : ∀ x ∈ xs, gdn n x = true) : gdn (n + 1) (.lst xs) = true := by
  simp only [gdn, Bool.and_eq_true, decide_eq_true_eq] at h ⊢
  try simp only [good, dep] at h
  try simp only [good, dep]
  exact ⟨goodL_of fun x hx => (h x hx).1, Nat.succ_le_succ (depL_le (n := n) fun x hx => (h x hx).2)⟩
theorem gdn_mem {n : Nat} {xs : List Val} (h : gdn (n + 1) (.tup xs) = true) {x : Val} (hx : x ∈ xs) : gdn n x = true := by
  simp only [gdn, Bool.and_eq_true, decide_eq_true_eq] at h ⊢
  try simp only [good, dep] at h
  try simp only [good, dep]
  have := depL_mem hx
  have h2 := h.2
  exact ⟨gdL_mem h.1 x hx, by omega⟩
theorem gdn_memL {n : Nat} {xs : List Val} (h : gdn (n + 1) (.lst xs) = true) {x : Val} (hx : x ∈ xs) : gdn n x = true := by
  simp only [gdn, Bool.and_eq_true, decide_eq_true_eq] at h ⊢
  try simp only [good, dep] at h
  try simp only [good, dep]
  have := depL_mem hx
  have h2 := h.2
  exact ⟨gdL_mem h.1 x hx, by omega⟩
theorem gdn_mono {n k : Nat} {v : Val} (h : gdn n v = true) (hk : n ≤ k) : gdn k v = true := by
  simp only [gdn, Bool.and_eq_true, decide_eq_true_eq] at h ⊢
  exact ⟨h.1, by omega⟩
@[simp] theorem gdn_non {n : Nat} : gdn n .non = true := by simp [gdn, good, dep]
@[simp] theorem gdn_bl {n : Nat} {b : Bool} : gdn n (.bl b) = true := by simp [gdn, good, dep]
@[simp] theorem gdn_int {n : Nat} {b : Int} : gdn n (.int b) = true := by simp [gdn, good, dep]
theorem gdn_str {n : Nat} {x : List Nat} : gdn n (.str x) = (x.all (· < 128) && decide (x.length ≤ 1000000)) := by simp [gdn, good, dep]
theorem gdn_str0 {n k : Nat} {x : List Nat} (h : gdn n (.str x) = true) : gdn k (.str x) = true := by rw [gdn_str] at h ⊢; exact h
@[simp] theorem gd_non : gd .non = true := by simp [gd, good, dep]
@[simp] theorem gd_bl {b : Bool} : gd (.bl b) = true := by simp [gd, good, dep]
@[simp] theorem gd_int {b : Int} : gd (.int b) = true := by simp [gd, good, dep]
theorem gd_str {x : List Nat} : gd (.str x) = (x.all (· < 128) && decide (x.length ≤ 1000000)) := by simp [gd, good, dep]

mutual
/-- no row longer than 1000 -/
def lens : Val → Bool
  | .tup xs | .lst xs => decide (xs.length ≤ 1000) && lensL xs
  | _ => true
def lensL : List Val → Bool
  | [] => true
  | x :: xs => lens x && lensL xs
end
theorem lensL_mem : ∀ {xs : List Val}, lensL xs = true → ∀ x ∈ xs, lens x = true
  | [], _, x, h => by cases h
  | y :: ys, h, x, hx => by
    simp only [lensL, Bool.and_eq_true] at h
    rcases List.mem_cons.mp hx with rfl | hx
    · exact h.1
    · exact lensL_mem h.2 x hx
theorem lensL_of : ∀ {xs : List Val}, (∀ x ∈ xs, lens x = true) → lensL xs = true
  | [], _ => by simp [lensL]
  | y :: ys, h => by simp only [lensL, Bool.and_eq_true]; exact ⟨h y (by simp), lensL_of fun x hx => h x (by simp [hx])⟩
theorem lens_len {xs : List Val} (h : lens (.tup xs) = true) : xs.length ≤ 1000 := by simp only [lens, Bool.and_eq_true, decide_eq_true_eq] at h; exact h.1
theorem lens_mem {xs : List Val} (h : lens (.tup xs) = true) {x : Val} (hx : x ∈ xs) : lens x = true := by simp only [lens, Bool.and_eq_true] at h; exact lensL_mem h.2 x hx
theorem lens_memL {xs : List Val} (h : lens (.lst xs) = true) {x : Val} (hx : x ∈ xs) : lens x = true := by simp only [lens, Bool.and_eq_true] at h; exact lensL_mem h.2 x hx
theorem lens_tup {xs : List Val} (h : xs.length ≤ 1000) (hx : ∀ x ∈ xs, lens x = true) : lens (.tup xs) = true := by simp only [lens, Bool.and_eq_true, decide_eq_true_eq]; exact ⟨h, lensL_of hx⟩
theorem lens_lst {xs : List Val} (h : xs.length ≤ 1000) (hx : ∀ x ∈ xs, lens x = true) : lens (.lst xs) = true := by simp only [lens, Bool.and_eq_true, decide_eq_true_eq]; exact ⟨h, lensL_of hx⟩
@[simp] theorem lens_str {x : List Nat} : lens (.str x) = true := by simp [lens]
@[simp] theorem lens_int {x : Int} : lens (.int x) = true := by simp [lens]
@[simp] theorem lens_bl {x : Bool} : lens (.bl x) = true := by simp [lens]
@[simp] theorem lens_non : lens .non = true := by simp [lens]

/-! ### equality -/
theorem veq_str {v : Val} {x : List Nat} : veq v (.str x) = decide (v = .str x) := by
  cases v with
  | str y => simp only [veq, Val.str.injEq]; exact Bool.beq_eq_decide_eq _ _
  | _ => simp [veq]
theorem veq_str' {v : Val} {x : List Nat} : veq (.str x) v = decide (v = .str x) := by
  cases v with
  | str y => simp only [veq, Val.str.injEq]; rw [Bool.beq_eq_decide_eq]; exact decide_eq_decide.mpr eq_comm
  | _ => simp [veq]
theorem veq_nil {v : Val} : veq v (.tup []) = decide (v = .tup []) := by
  cases v with
  | tup xs => cases xs <;> simp [veq, veqL]
  | _ => simp [veq]
mutual
/-- texts alone, on one side: == is = -/
def strOnly : Val → Bool
  | .str _ => true
  | .tup xs | .lst xs => strOnlyL xs
  | .non => true
  | _ => false
def strOnlyL : List Val → Bool
  | [] => true
  | x :: xs => strOnly x && strOnlyL xs
end
mutual
theorem veq_so : ∀ {v w : Val}, strOnly w = true → veq v w = decide (v = w)
  | v, .str x, _ => veq_str
  | v, .non, _ => by cases v <;> simp [veq]
  | v, .tup ys, h => by
    cases v with
    | tup xs =>
      simp only [strOnly] at h
      simp only [veq, Val.tup.injEq]
      exact veqL_so h
    | _ => simp [veq]
  | v, .lst ys, h => by
    cases v with
    | lst xs =>
      simp only [strOnly] at h
      simp only [veq, Val.lst.injEq]
      exact veqL_so h
    | _ => simp [veq]
  | v, .bl _, h => by simp [strOnly] at h
  | v, .int _, h => by simp [strOnly] at h
  | v, .dct _ _, h => by simp [strOnly] at h
  | v, .ref _, h => by simp [strOnly] at h
  | v, .scr _, h => by simp [strOnly] at h
  | v, .wt _, h => by simp [strOnly] at h
theorem veqL_so : ∀ {v w : List Val}, strOnlyL w = true → veqL v w = decide (v = w)
  | [], [], _ => by simp [veqL]
  | [], _ :: _, _ => by simp [veqL]
  | _ :: _, [], _ => by simp [veqL]
  | x :: xs, y :: ys, h => by
    simp only [strOnlyL, Bool.and_eq_true] at h
    simp only [veqL, veq_so h.1, veqL_so h.2, List.cons.injEq, Bool.decide_and]
end
/-! ### comprehensions over pure parts -/
theorem compGo_map {g : GF} {fe : EF} {ρ : Env} {m : Sto} {gd : Gd} {f : Val → Val} : ∀ {vs : List Val}, gOk gd m → (∀ v ∈ vs, ∃ ρ', g v ρ m = some ρ' ∧ fe ρ' m = .ok (f v) m) → compGo gd g yesT fe ρ vs m = .ok (vs.map f) m
  | [], hg, _ => by simp [compGo, hg]
  | v :: vs, hg, h => by
    obtain ⟨ρ', h1, h2⟩ := h v (by simp)
    have ih := compGo_map (f := f) (fe := fe) (g := g) (ρ := ρ) (vs := vs) hg fun w hw => h w (by simp [hw])
    rw [compGo]
    rw [if_pos hg]
    simp only [h1, yesT, Res.bind_ok, if_true, h2, ih, List.map_cons]
theorem compGo_filter {g : GF} {tt : TF} {fe : EF} {ρ : Env} {m : Sto} {gd : Gd} {p : Val → Bool} {f : Val → Val} : ∀ {vs : List Val}, gOk gd m → (∀ v ∈ vs, ∃ ρ', g v ρ m = some ρ' ∧ tt ρ' m = .ok (p v) m ∧ (p v = true → fe ρ' m = .ok (f v) m)) → compGo gd g tt fe ρ vs m = .ok ((vs.filter p).map f) m
  | [], hg, _ => by simp [compGo, hg]
  | v :: vs, hg, h => by
    obtain ⟨ρ', h1, h2, h3⟩ := h v (by simp)
    have ih := compGo_filter (f := f) (fe := fe) (tt := tt) (p := p) (g := g) (ρ := ρ) (vs := vs) hg fun w hw => h w (by simp [hw])
    rw [compGo, if_pos hg]
    cases hp : p v with
    | true => simp only [h1, if_true, Res.bind_ok, h2, hp, h3 hp, ih, List.filter_cons, List.map_cons]
    | false => simp only [h1, if_true, Res.bind_ok, h2, hp, ih, List.filter_cons, if_neg Bool.false_ne_true]
@[simp] theorem noExc_ok' {α : Type} {a : α} {m : Sto} : noExc (.ok a m) = .ok a m := rfl
theorem allB_map {α : Type} {p : α → Bool} : ∀ {vs : List α}, allB (vs.map fun v => .bl (p v)) = some (vs.map p)
  | [] => rfl
  | v :: vs => by simp [allB, allB_map]
@[simp] theorem allV_map {α : Type} {p : α → Bool} {vs : List α} {m : Sto} : allV [.lst (vs.map fun v => .bl (p v))] m = .ok (.bl (vs.all p)) m := by
  simp [allV, asL, allB_map, List.all_map]
@[simp] theorem anyV_map {α : Type} {p : α → Bool} {vs : List α} {m : Sto} : anyV [.lst (vs.map fun v => .bl (p v))] m = .ok (.bl (vs.any p)) m := by
  simp [anyV, asL, allB_map, List.any_map]
theorem comp_map {α : Type} {it : IF} {g : GF} {fe : EF} {ws : List Nat} {ρ : Env} {m : Sto} {xs : List α} (a : α → Val) (f : α → Val) (hi : it ρ m = .ok (xs.map a, none) m) (hl : xs.length ≤ 16777216)
    (h : ∀ x ∈ xs, ∃ ρ', g (a x) (wipeE ρ ws) m = some ρ' ∧ fe ρ' m = .ok (f x) m) : compF it g yesT fe ws ρ m = .ok (.lst (xs.map f)) m := by
  have key : ∀ {xs : List α}, (∀ x ∈ xs, ∃ ρ', g (a x) (wipeE ρ ws) m = some ρ' ∧ fe ρ' m = .ok (f x) m) → compGo none g yesT fe (wipeE ρ ws) (xs.map a) m = .ok (xs.map f) m := by
    intro xs
    induction xs with
    | nil => intro _; simp [compGo]
    | cons x xs ih =>
      intro h
      obtain ⟨ρ', h1, h2⟩ := h x (by simp)
      have ih := ih fun y hy => h y (by simp [hy])
      rw [List.map_cons, compGo, if_pos (by trivial)]
      simp only [h1, yesT, Res.bind_ok, if_true, h2, ih, List.map_cons]
  rw [e_comp, hi, Res.bind_ok, if_pos (by rw [sz_eq, List.length_map]; exact hl), key h]
  rfl
theorem comp_filter {α : Type} {it : IF} {g : GF} {tt : TF} {fe : EF} {ws : List Nat} {ρ : Env} {m : Sto} {xs : List α} (a : α → Val) (p : α → Bool) (f : α → Val) (hi : it ρ m = .ok (xs.map a, none) m) (hl : xs.length ≤ 16777216)
    (h : ∀ x ∈ xs, ∃ ρ', g (a x) (wipeE ρ ws) m = some ρ' ∧ tt ρ' m = .ok (p x) m ∧ (p x = true → fe ρ' m = .ok (f x) m)) : compF it g tt fe ws ρ m = .ok (.lst ((xs.filter p).map f)) m := by
  have key : ∀ {xs : List α}, (∀ x ∈ xs, ∃ ρ', g (a x) (wipeE ρ ws) m = some ρ' ∧ tt ρ' m = .ok (p x) m ∧ (p x = true → fe ρ' m = .ok (f x) m)) → compGo none g tt fe (wipeE ρ ws) (xs.map a) m = .ok ((xs.filter p).map f) m := by
    intro xs
    induction xs with
    | nil => intro _; simp [compGo]
    | cons x xs ih =>
      intro h
      obtain ⟨ρ', h1, h2, h3⟩ := h x (by simp)
      have ih := ih fun y hy => h y (by simp [hy])
      rw [List.map_cons, compGo, if_pos (by trivial)]
      cases hp : p x with
      | true => simp only [h1, Res.bind_ok, h2, hp, if_true, h3 hp, ih, List.filter_cons, List.map_cons]
      | false => simp only [h1, Res.bind_ok, h2, hp, ih, List.filter_cons, if_neg Bool.false_ne_true]
  rw [e_comp, hi, Res.bind_ok, if_pos (by rw [sz_eq, List.length_map]; exact hl), key h]
  rfl
/-- a loop that answers r where an item is not right -/
theorem for_check {g : GF} {b : SF} {m : Sto} {r : Val} (P : Env → Prop) (p : Val → Bool) : ∀ {vs : List Val} {ρ : Env}, P ρ →
    (∀ v ∈ vs, ∀ ρ, P ρ → ∃ ρ1, g v ρ m = some ρ1 ∧ ((p v = true ∧ ∃ ρ2, P ρ2 ∧ b ρ1 m = .nx ρ2 m) ∨ (p v = false ∧ b ρ1 m = .rt r m))) →
    (vs.all p = true ∧ ∃ ρ2, P ρ2 ∧ forGo none g b vs ρ m = .nx ρ2 m) ∨ (vs.all p = false ∧ forGo none g b vs ρ m = .rt r m)
  | [], ρ, h, _ => .inl ⟨rfl, ρ, h, by simp [forGo]⟩
  | v :: vs, ρ, h, hs => by
    obtain ⟨ρ1, h1, h2⟩ := hs v (by simp) ρ h
    rcases h2 with ⟨hp, ρ2, hP, hb⟩ | ⟨hp, hb⟩
    · have ih := for_check P p (vs := vs) hP fun w hw => hs w (by simp [hw])
      rw [forGo, if_pos (by trivial)]
      simp only [h1, hb, List.all_cons, hp, Bool.true_and]
      exact ih
    · right
      rw [forGo, if_pos (by trivial)]
      simp only [h1, hb, List.all_cons, hp, Bool.false_and, and_self]
theorem gd_len {x : List Nat} (h : gd (.str x) = true) : x.length ≤ 16777216 := by
  rw [gd_str] at h
  simp only [Bool.and_eq_true, decide_eq_true_eq] at h
  omega
end G

-- part M1
namespace G
section
variable {m : Sto}
/-! ### values' operations, by their forms -/
@[simp] theorem lenV_tup {xs : List Val} : lenV [.tup xs] m = .ok (.int xs.length) m := id rfl
@[simp] theorem lenV_lst {xs : List Val} : lenV [.lst xs] m = .ok (.int xs.length) m := id rfl
@[simp] theorem lenV_scr {xs : List Int} : lenV [.scr xs] m = .ok (.int xs.length) m := by simp [lenV, seqOf]
theorem lenV_str {x : List Nat} (h : x.length ≤ 16777216) : lenV [.str x] m = .ok (.int x.length) m := by simp [lenV, h]
@[simp] theorem leV_int {i j : Int} : leV (.int i) (.int j) m = .ok (.bl (decide (i ≤ j))) m := id rfl
@[simp] theorem ltV_int {i j : Int} : ltV (.int i) (.int j) m = .ok (.bl (decide (i < j))) m := id rfl
@[simp] theorem gtV_int {i j : Int} : gtV (.int i) (.int j) m = .ok (.bl (decide (j < i))) m := id rfl
@[simp] theorem geV_int {i j : Int} : geV (.int i) (.int j) m = .ok (.bl (decide (j ≤ i))) m := id rfl
@[simp] theorem leV_str {i j : List Nat} : leV (.str i) (.str j) m = .ok (.bl (!decide (j < i))) m := id rfl
@[simp] theorem ltV_str {i j : List Nat} : ltV (.str i) (.str j) m = .ok (.bl (decide (i < j))) m := id rfl
@[simp] theorem addV_int {i j : Int} : addV (.int i) (.int j) m = .ok (.int (i + j)) m := id rfl
@[simp] theorem subV_int {i j : Int} : subV (.int i) (.int j) m = .ok (.int (i - j)) m := id rfl
theorem mulV_int {i j : Int} (h : mulOk i j) : mulV (.int i) (.int j) m = .ok (.int (i * j)) m := by simp [mulV, h]
theorem divV_int {i j : Int} (h : 0 < j) (h' : j < 1073741824) : divV (.int i) (.int j) m = .ok (.int (i / j)) m := by simp [divV, h, h']
theorem modV_int {i j : Int} (h : 0 < j) : modV (.int i) (.int j) m = .ok (.int (i % j)) m := by simp [modV, h]
theorem addV_tup {a b : List Val} (h : a.length + b.length ≤ 16777216) : addV (.tup a) (.tup b) m = .ok (.tup (a ++ b)) m := by simp [addV, h]
theorem addV_lst {a b : List Val} (h : a.length + b.length ≤ 16777216) : addV (.lst a) (.lst b) m = .ok (.lst (a ++ b)) m := by simp [addV, asL, h]
theorem addV_str {a b : List Nat} (h : a.length + b.length ≤ 16777216) : addV (.str a) (.str b) m = .ok (.str (a ++ b)) m := by simp [addV, h]
theorem eqV_gd {v w : Val} (hv : gd v = true) (hw : gd w = true) : eqV v w m = .ok (.bl (veq v w)) m := by simp [eqV, res1_gd, hv, hw]
theorem neV_gd {v w : Val} (hv : gd v = true) (hw : gd w = true) : neV v w m = .ok (.bl (!veq v w)) m := by simp [neV, res1_gd, hv, hw]
@[simp] theorem eqV_int {i j : Int} : eqV (.int i) (.int j) m = .ok (.bl (decide (i = j))) m := by rw [eqV_gd gd_int gd_int]; simp [veq, Bool.beq_eq_decide_eq]
@[simp] theorem neV_int {i j : Int} : neV (.int i) (.int j) m = .ok (.bl (!decide (i = j))) m := by rw [neV_gd gd_int gd_int]; simp [veq, Bool.beq_eq_decide_eq]
theorem eqV_str {v : Val} {x : List Nat} (hv : gd v = true) (hx : gd (.str x) = true) : eqV v (.str x) m = .ok (.bl (decide (v = .str x))) m := by rw [eqV_gd hv hx, veq_str]
theorem neV_str {v : Val} {x : List Nat} (hv : gd v = true) (hx : gd (.str x) = true) : neV v (.str x) m = .ok (.bl (!decide (v = .str x))) m := by rw [neV_gd hv hx, veq_str]
/-- which values are of a type -/
def isTup : Val → Bool | .tup _ => true | _ => false
def isStr : Val → Bool | .str _ => true | _ => false
def isInt : Val → Bool | .int _ => true | .bl _ => true | _ => false
def isBool : Val → Bool | .bl _ => true | _ => false
theorem isi_tup {v : Val} (h : gd v = true) : isiV "tuple" v m = .ok (.bl (isTup v)) m := by cases v <;> simp [isiV, tyOf, isiTab, isTup] <;> simp [gd, good] at h
theorem isi_str {v : Val} (h : gd v = true) : isiV "str" v m = .ok (.bl (isStr v)) m := by cases v <;> simp [isiV, tyOf, isiTab, isStr] <;> simp [gd, good] at h
theorem isi_int {v : Val} (h : gd v = true) : isiV "int" v m = .ok (.bl (isInt v)) m := by cases v <;> simp [isiV, tyOf, isiTab, isInt] <;> simp [gd, good] at h
theorem isi_bool {v : Val} (h : gd v = true) : isiV "bool" v m = .ok (.bl (isBool v)) m := by cases v <;> simp [isiV, tyOf, isiTab, isBool] <;> simp [gd, good] at h
@[simp] theorem isTup_tup {xs : List Val} : isTup (.tup xs) = true := rfl
@[simp] theorem isTup_str {x : List Nat} : isTup (.str x) = false := rfl
@[simp] theorem isTup_lst {xs : List Val} : isTup (.lst xs) = false := rfl
@[simp] theorem isTup_int {i : Int} : isTup (.int i) = false := rfl
@[simp] theorem isTup_bl {b : Bool} : isTup (.bl b) = false := rfl
@[simp] theorem isTup_non : isTup .non = false := rfl
@[simp] theorem isStr_tup {xs : List Val} : isStr (.tup xs) = false := rfl
@[simp] theorem isStr_str {x : List Nat} : isStr (.str x) = true := rfl
@[simp] theorem isStr_lst {xs : List Val} : isStr (.lst xs) = false := rfl
@[simp] theorem isStr_int {i : Int} : isStr (.int i) = false := rfl
@[simp] theorem isStr_bl {b : Bool} : isStr (.bl b) = false := rfl
@[simp] theorem isStr_non : isStr .non = false := rfl
@[simp] theorem isInt_tup {xs : List Val} : isInt (.tup xs) = false := rfl
@[simp] theorem isInt_str {x : List Nat} : isInt (.str x) = false := rfl
@[simp] theorem isInt_lst {xs : List Val} : isInt (.lst xs) = false := rfl
@[simp] theorem isInt_int {i : Int} : isInt (.int i) = true := rfl
@[simp] theorem isInt_bl {b : Bool} : isInt (.bl b) = true := rfl
@[simp] theorem isInt_non : isInt .non = false := rfl
theorem isTup_iff {v : Val} : isTup v = true ↔ ∃ xs, v = .tup xs := by cases v <;> simp [isTup]
theorem isStr_iff {v : Val} : isStr v = true ↔ ∃ xs, v = .str xs := by cases v <;> simp [isStr]
/-! ### indices -/
theorem atI_nat {α : Type} {xs : List α} {k : Nat} : L2.atI xs (k : Int) = xs[k]? := by
  unfold L2.atI L2.ixN
  rw [if_pos (by omega)]
  by_cases h : k < xs.length
  · rw [if_pos (by omega)]
    simp
  · rw [if_neg (by omega), List.getElem?_eq_none (by omega)]
    rfl
theorem atI_int {α : Type} {xs : List α} {i : Int} (h : 0 ≤ i) : L2.atI xs i = xs[i.toNat]? := by
  have := atI_nat (xs := xs) (k := i.toNat)
  rwa [Int.toNat_of_nonneg h] at this
@[simp] theorem atI_0 {α : Type} {xs : List α} : L2.atI xs 0 = xs[0]? := atI_nat (k := 0)
@[simp] theorem atI_1 {α : Type} {xs : List α} : L2.atI xs 1 = xs[1]? := atI_nat (k := 1)
@[simp] theorem atI_2 {α : Type} {xs : List α} : L2.atI xs 2 = xs[2]? := atI_nat (k := 2)
@[simp] theorem atI_3 {α : Type} {xs : List α} : L2.atI xs 3 = xs[3]? := atI_nat (k := 3)
@[simp] theorem atI_4 {α : Type} {xs : List α} : L2.atI xs 4 = xs[4]? := atI_nat (k := 4)
@[simp] theorem atI_5 {α : Type} {xs : List α} : L2.atI xs 5 = xs[5]? := atI_nat (k := 5)
def getR (o : Option Val) (m : Sto) : Res Val := match o with | some x => .ok x m | none => .stuck
@[simp] theorem getR_some {x : Val} : getR (some x) m = .ok x m := id rfl
@[simp] theorem getR_none : getR none m = .stuck := id rfl
@[simp] theorem idxV_tup {xs : List Val} {i : Int} : idxV (.tup xs) (.int i) m = getR (L2.atI xs i) m := by simp only [idxV, asD, seqOf, getR] <;> rfl
@[simp] theorem idxV_wt {xs : List Val} {i : Int} : idxV (.wt xs) (.int i) m = getR (L2.atI xs i) m := by simp only [idxV, asD, seqOf, getR] <;> rfl
@[simp] theorem idxV_lst {xs : List Val} {i : Int} : idxV (.lst xs) (.int i) m = getR (L2.atI xs i) m := by simp only [idxV, asD, seqOf, asL, getR] <;> rfl
@[simp] theorem idxV_scr {xs : List Int} {i : Int} : idxV (.scr xs) (.int i) m = getR (L2.atI (xs.map .int) i) m := by simp only [idxV, asD, seqOf, getR] <;> rfl
theorem idxV_str {x : List Nat} {i : Int} (h : x.length ≤ 16777216) : idxV (.str x) (.int i) m = getR ((L2.atI x i).map fun c => .str [c]) m := by
  simp only [idxV, asD, sz_eq, if_pos h]
  cases L2.atI x i <;> rfl
/-- the index of a sequence shown by its number mod its length -/
theorem atI_mod {α : Type} {xs : List α} {i k : Int} (hk : (xs.length : Int) = k) (h0 : 0 < k) : ∃ x, L2.atI xs (i % k) = some x ∧ x ∈ xs := by
  have h1 := Int.emod_nonneg i (show k ≠ 0 by omega)
  have h2 := Int.emod_lt_of_pos i h0
  rw [atI_int h1, List.getElem?_eq_getElem (by omega)]
  exact ⟨_, rfl, List.getElem_mem _⟩
theorem atI_in {α : Type} {xs : List α} {i : Int} (h1 : 0 ≤ i) (h2 : i < xs.length) : ∃ x, L2.atI xs i = some x ∧ x ∈ xs := by
  rw [atI_int h1, List.getElem?_eq_getElem (by omega)]
  exact ⟨_, rfl, List.getElem_mem _⟩

/-! ### slices -/
@[simp] theorem cut_all0 {α : Type} {xs : List α} : cut xs none none = xs := by simp [cut, HT.sIx]
theorem cut_from {α : Type} {xs : List α} {k : Nat} : cut xs (some (k : Int)) none = xs.drop k := by
  unfold cut
  rw [HT.sIx_nat, HT.sIx_none]
  by_cases h : k ≤ xs.length
  · rw [Nat.min_eq_left h, List.take_of_length_le (by simp)]
  · rw [Nat.min_eq_right (by omega)]
    simp
    omega
theorem cut_to {α : Type} {xs : List α} {k : Nat} : cut xs none (some (k : Int)) = xs.take k := by
  unfold cut
  rw [HT.sIx_nat, HT.sIx_none]
  by_cases h : k ≤ xs.length
  · rw [Nat.min_eq_left h]; simp
  · rw [Nat.min_eq_right (by omega)]
    simp
    rw [List.take_of_length_le (by omega)]
@[simp] theorem cut_1 {α : Type} {xs : List α} : cut xs (some 1) none = xs.drop 1 := cut_from (k := 1)
@[simp] theorem cut_2 {α : Type} {xs : List α} : cut xs (some 2) none = xs.drop 2 := cut_from (k := 2)
@[simp] theorem cut_3 {α : Type} {xs : List α} : cut xs (some 3) none = xs.drop 3 := cut_from (k := 3)
@[simp] theorem cut_t1 {α : Type} {xs : List α} : cut xs none (some 1) = xs.take 1 := cut_to (k := 1)
@[simp] theorem cut_t2 {α : Type} {xs : List α} : cut xs none (some 2) = xs.take 2 := cut_to (k := 2)
@[simp] theorem cut_t3 {α : Type} {xs : List α} : cut xs none (some 3) = xs.take 3 := cut_to (k := 3)
@[simp] theorem cut_butlast {α : Type} {xs : List α} : cut xs none (some (-1)) = xs.dropLast := by
  unfold cut HT.sIx
  simp only [List.drop_zero]
  rw [if_pos (by omega), List.dropLast_eq_take]
  congr 1
  omega
@[simp] theorem cut_last {α : Type} {xs : List α} : cut xs (some (-1)) none = xs.drop (xs.length - 1) := by
  unfold cut HT.sIx
  simp only []
  rw [if_pos (by omega), List.take_of_length_le (by simp)]
  congr 1
  omega
@[simp] theorem slcV_tup {xs : List Val} {lo hi : Option Int} : slcV (.tup xs) lo hi m = .ok (.tup (cut xs lo hi)) m := id rfl
@[simp] theorem slcV_lst {xs : List Val} {lo hi : Option Int} : slcV (.lst xs) lo hi m = .ok (.lst (cut xs lo hi)) m := id rfl
theorem slcV_str {x : List Nat} {lo hi : Option Int} (h : x.length ≤ 16777216) : slcV (.str x) lo hi m = .ok (.str (cut x lo hi)) m := by simp [slcV, h]

/-! ### in -/
@[simp] theorem inV_sign {c : Nat} {z : List Nat} : inV (.str [c]) (.str z) m = .ok (.bl (decide (c ∈ z))) m := id rfl
@[simp] theorem notInV_sign {c : Nat} {z : List Nat} : notInV (.str [c]) (.str z) m = .ok (.bl (!decide (c ∈ z))) m := id rfl
theorem inV_tup {v : Val} {xs : List Val} (hv : gd v = true) (hx : gd (.tup xs) = true) : inV v (.tup xs) m = .ok (.bl (xs.any fun z => veq z v)) m := by simp [inV, inB, hv, hx]
theorem notInV_tup {v : Val} {xs : List Val} (hv : gd v = true) (hx : gd (.tup xs) = true) : notInV v (.tup xs) m = .ok (.bl (!xs.any fun z => veq z v)) m := by simp [notInV, inB, hv, hx]
theorem inV_wt {v : Val} {xs : List Val} (hv : gd v = true) (hx : gd (.tup xs) = true) : inV v (.wt xs) m = .ok (.bl (xs.any fun z => veq z v)) m := by simp [inV, inB, hv, hx]
theorem notInV_wt {v : Val} {xs : List Val} (hv : gd v = true) (hx : gd (.tup xs) = true) : notInV v (.wt xs) m = .ok (.bl (!xs.any fun z => veq z v)) m := by simp [notInV, inB, hv, hx]
theorem inV_lst {v : Val} {xs : List Val} (hv : gd v = true) (hx : gd (.lst xs) = true) : inV v (.lst xs) m = .ok (.bl (xs.any fun z => veq z v)) m := by simp [inV, inB, asD, asL, hv, hx]
theorem notInV_lst {v : Val} {xs : List Val} (hv : gd v = true) (hx : gd (.lst xs) = true) : notInV v (.lst xs) m = .ok (.bl (!xs.any fun z => veq z v)) m := by simp [notInV, inB, asD, asL, hv, hx]
/-- a text among texts -/
theorem any_strs {x : List Nat} {ys : List (List Nat)} : ((ys.map Val.str).any fun z => veq z (.str x)) = decide (x ∈ ys) := by
  induction ys with
  | nil => simp
  | cons y ys ih =>
    rw [List.map_cons, List.any_cons, ih, veq_str]
    simp [eq_comm]
theorem any_veq_str {xs : List Val} {x : List Nat} : (xs.any fun z => veq z (.str x)) = decide (Val.str x ∈ xs) := by
  induction xs with
  | nil => simp
  | cons y ys ih => rw [List.any_cons, ih, veq_str]; simp [eq_comm]
theorem any_veq_so {xs : List Val} {v : Val} (h : strOnly v = true) : (xs.any fun z => veq z v) = decide (v ∈ xs) := by
  induction xs with
  | nil => simp
  | cons y ys ih => rw [List.any_cons, ih, veq_so h]; simp [eq_comm]
theorem strOnlyL_mem : ∀ {xs : List Val}, strOnlyL xs = true → ∀ x ∈ xs, strOnly x = true
  | [], _, x, h => by cases h
  | y :: ys, h, x, hx => by
    simp only [strOnlyL, Bool.and_eq_true] at h
    rcases List.mem_cons.mp hx with rfl | hx
    · exact h.1
    · exact strOnlyL_mem h.2 x hx
mutual
theorem veq_comm : ∀ {v w : Val}, veq v w = veq w v
  | v, w => by
    cases v <;> cases w <;> simp only [veq]
    all_goals first
      | rfl
      | exact veqL_comm
      | (simp only [Bool.beq_eq_decide_eq]; exact decide_eq_decide.mpr eq_comm)
theorem veqL_comm : ∀ {v w : List Val}, veqL v w = veqL w v
  | v, w => by
    cases v <;> cases w <;> simp only [veqL]
    rw [veq_comm, veqL_comm]
end
theorem veq_so' {v w : Val} (h : strOnly v = true) : veq v w = decide (w = v) := by rw [veq_comm, veq_so h]
end
end G

-- part M2
namespace G
/-! ### texts that rise; sorted(set(..)) of texts -/
def riseL : List (List Nat) → Bool
  | a :: b :: r => decide (a < b) && riseL (b :: r)
  | _ => true
def strsOf : List Val → List (List Nat)
  | [] => []
  | .str x :: r => x :: strsOf r
  | _ :: r => strsOf r
theorem strsOf_map {xs : List (List Nat)} : strsOf (xs.map Val.str) = xs := by
  induction xs with
  | nil => rfl
  | cons x xs ih => simp [strsOf, ih]
theorem map_str_inj {xs ys : List (List Nat)} : xs.map Val.str = ys.map Val.str ↔ xs = ys := by
  constructor
  · intro h
    have := congrArg strsOf h
    rwa [strsOf_map, strsOf_map] at this
  · intro h; rw [h]
theorem rise_pw : ∀ {xs : List (List Nat)}, riseL xs = true ↔ xs.Pairwise (· < ·)
  | [] => by simp [riseL]
  | [a] => by simp [riseL]
  | a :: b :: r => by
    rw [riseL, Bool.and_eq_true, decide_eq_true_eq, rise_pw (xs := b :: r), List.pairwise_cons (a := a)]
    constructor
    · rintro ⟨h1, h2⟩
      refine ⟨fun c hc => ?_, h2⟩
      rcases List.mem_cons.mp hc with rfl | hc
      · exact h1
      · exact List.lt_trans h1 ((List.pairwise_cons.mp h2).1 c hc)
    · rintro ⟨h1, h2⟩
      exact ⟨h1 b (by simp), h2⟩
def keyStr (x : List Nat) : L2.Key := .inr ⟨x.toArray⟩
theorem keyStr_inj {x y : List Nat} : keyStr x = keyStr y ↔ x = y := by
  constructor
  · intro h
    simp only [keyStr, Sum.inr.injEq, PySem.Str.mk.injEq] at h
    simpa using h
  · intro h; rw [h]
@[simp] theorem kVal_key (x : List Nat) : kVal (keyStr x) = .str x := by simp [kVal, keyStr]
theorem keysV_strs : ∀ xs : List (List Nat), keysV (xs.map Val.str) = some (xs.map keyStr)
  | [] => rfl
  | x :: xs => by simp [keysV, keysV_strs xs, keyStr]
/-- each once -/
def dedS (xs : List (List Nat)) : List (List Nat) := xs.foldl (fun acc x => if x ∈ acc then acc else acc ++ [x]) []
theorem setK_strs (xs : List (List Nat)) : setK (xs.map keyStr) = (dedS xs).map keyStr := by
  have : ∀ (xs acc : List (List Nat)), (xs.map keyStr).foldl addK (acc.map keyStr) = (xs.foldl (fun acc x => if x ∈ acc then acc else acc ++ [x]) acc).map keyStr := by
    intro xs
    induction xs with
    | nil => intro acc; rfl
    | cons x xs ih =>
      intro acc
      rw [List.map_cons, List.foldl_cons, List.foldl_cons, ← ih]
      congr 1
      unfold addK
      have e : hasK (acc.map keyStr) (keyStr x) = decide (x ∈ acc) := by
        rw [Bool.eq_iff_iff, hasK_iff, decide_eq_true_eq, List.mem_map]
        constructor
        · rintro ⟨y, hy, e⟩; rw [← keyStr_inj.mp e]; exact hy
        · intro h; exact ⟨x, h, rfl⟩
      rw [e]
      by_cases h : x ∈ acc <;> simp [h]
  exact this xs []
theorem dedS_nodup (xs : List (List Nat)) : (dedS xs).Nodup := by
  have : ∀ (xs acc : List (List Nat)), acc.Nodup → (xs.foldl (fun acc x => if x ∈ acc then acc else acc ++ [x]) acc).Nodup := by
    intro xs
    induction xs with
    | nil => intro acc h; exact h
    | cons x xs ih =>
      intro acc h
      refine ih _ ?_
      dsimp only
      split
      · exact h
      · rename_i hx
        rw [List.nodup_append]
        exact ⟨h, by simp, fun a ha b hb => by
          rw [List.mem_singleton] at hb
          subst hb
          exact fun z => hx (z ▸ ha)⟩
  exact this xs [] .nil
theorem dedS_of_nodup {xs : List (List Nat)} (h : xs.Nodup) : dedS xs = xs := by
  have : ∀ (xs acc : List (List Nat)), (acc ++ xs).Nodup → xs.foldl (fun acc x => if x ∈ acc then acc else acc ++ [x]) acc = acc ++ xs := by
    intro xs
    induction xs with
    | nil => intro acc _; simp
    | cons x xs ih =>
      intro acc h
      rw [List.foldl_cons, if_neg (fun hx => by
        rw [List.nodup_append] at h
        exact h.2.2 x hx x (by simp) rfl), ih _ (by simpa using h)]
      simp
  exact this xs [] (by simpa using h)
theorem sortS_pw (xs : List (List Nat)) : (sortS xs).Pairwise (· ≤ ·) := by
  have := List.pairwise_mergeSort (le := fun a b : List Nat => decide (a ≤ b)) (fun a b c h1 h2 => by simpa using List.le_trans (by simpa using h1) (by simpa using h2)) (fun a b => by simpa using List.le_total a b) xs
  exact this.imp fun h => by simpa using h
theorem sortS_perm (xs : List (List Nat)) : (sortS xs).Perm xs := List.mergeSort_perm ..
theorem lt_of_le_ne' {a b : List Nat} (h : a ≤ b) (hn : a ≠ b) : a < b := by
  rcases List.le_total b a with h2 | h2
  · exact absurd (List.le_antisymm h h2) hn
  · by_cases hl : a < b
    · exact hl
    · exact absurd (List.le_antisymm h (List.not_lt.mp hl)) hn
theorem sort_ded {xs : List (List Nat)} : sortS (dedS xs) = xs ↔ riseL xs = true := by
  rw [rise_pw]
  constructor
  · intro h
    have h1 := sortS_pw (dedS xs)
    have h2 : (sortS (dedS xs)).Nodup := (sortS_perm _).nodup_iff.mpr (dedS_nodup xs)
    rw [h] at h1 h2
    exact (List.pairwise_and_iff.mpr ⟨h1, h2⟩).imp fun h => lt_of_le_ne' h.1 h.2
  · intro h
    have hn : xs.Nodup := h.imp fun {a b} h e => by subst e; exact List.lt_irrefl _ h
    rw [dedS_of_nodup hn]
    exact (sortS_unique (List.Perm.refl _) (h.imp fun h => List.le_of_lt h)).symm
/-- sorted(set(..)) of texts -/
theorem ssort_strs {f : EF} {ρ : Env} {m : Sto} {xs : List (List Nat)} (h : f ρ m = .ok (.lst (xs.map Val.str)) m) (hl : xs.length < 4000) : ssortF f ρ m = .ok (.lst ((sortS (dedS xs)).map Val.str)) m := by
  have ok : oneKind (xs.map keyStr) = true := by
    unfold oneKind
    rw [Bool.or_eq_true]
    right
    simp [keyStr]
  unfold ssortF
  rw [h, Res.bind_ok]
  simp only [asL, keysV_strs]
  rw [if_pos ⟨ok, by simpa using hl⟩, setK_strs, List.map_map]
  have e : (kVal ∘ keyStr) = Val.str := by funext x; simp
  rw [e, sortV_strs]
theorem ne_ssort {xs : List (List Nat)} {m : Sto} (hg : gd (.lst (xs.map Val.str)) = true) : neV (.lst (xs.map Val.str)) (.lst ((sortS (dedS xs)).map Val.str)) m = .ok (.bl (!riseL xs)) m := by
  have hg2 : gd (.lst ((sortS (dedS xs)).map Val.str)) = true := by
    refine gdn_gd (n := 1) (gdn_lst fun v hv => ?_) (by omega)
    obtain ⟨x, hx, rfl⟩ := List.mem_map.mp hv
    have hx1 : x ∈ dedS xs := (sortS_perm _).mem_iff.mp hx
    have sub : ∀ (xs acc : List (List Nat)) (x : List Nat), x ∈ xs.foldl (fun acc x => if x ∈ acc then acc else acc ++ [x]) acc → x ∈ acc ∨ x ∈ xs := by
      intro xs
      induction xs with
      | nil => intro acc x h; exact .inl h
      | cons y ys ih =>
        intro acc x h
        rcases ih _ x h with h | h
        · dsimp only at h
          split at h
          · exact .inl h
          · rcases List.mem_append.mp h with h | h
            · exact .inl h
            · exact .inr (by simp [List.mem_singleton.mp h])
        · exact .inr (by simp [h])
    have hx2 : x ∈ xs := by
      rcases sub xs [] x hx1 with h | h
      · cases h
      · exact h
    have := gd_lst_mem hg (x := .str x) (List.mem_map.mpr ⟨x, hx2, rfl⟩)
    rw [gd_str] at this
    rw [gdn_str]
    exact this
  rw [neV_gd hg hg2, veq, veqL_so]
  · congr 2
    congr 1
    rw [Bool.eq_iff_iff, decide_eq_true_eq, map_str_inj, ← sort_ded]
    exact eq_comm
  · generalize sortS (dedS xs) = ys
    induction ys with
    | nil => simp [strOnlyL]
    | cons y ys ih => simp [strOnlyL, strOnly, ih]
end G

-- part M3
namespace G
open PySem (Builtin.Int.intBits)
/-! ### numbers that are drawn -/
theorem abs_bits (z : Int) : z.natAbs < 2 ^ (PySem.Builtin.Int.intBits z) := by
  unfold PySem.Builtin.Int.intBits
  by_cases h : z = 0
  · subst h; simp
  · rw [if_neg (by simpa using h)]
    exact Nat.lt_log2_self
theorem mulOk_of {i j : Int} {a b : Nat} (ha : i.natAbs < 2 ^ a) (hb : j.natAbs < 2 ^ b) (h : a + b ≤ 134217728) : mulOk i j := L2.mulx_ok ha hb h
theorem mulOk_small {i j : Int} (h1 : -1000000000000 < i) (h2 : i < 1000000000000) (h3 : -1000000000000 < j) (h4 : j < 1000000000000) : mulOk i j := by
  refine mulOk_of (a := 40) (b := 40) ?_ ?_ (by decide) <;> omega
theorem mulOk_big {z c j : Int} (hz : PySem.Builtin.Int.intBits z ≤ 1048576) (h1 : 0 ≤ c) (h2 : c < 1000000000000) (h3 : -1000000000000 < j) (h4 : j < 1000000000000) : mulOk (z + c) j := by
  refine mulOk_of (a := PySem.Builtin.Int.intBits z + 41) (b := 40) ?_ (by omega) (by omega)
  have e := abs_bits z
  generalize PySem.Builtin.Int.intBits z = b at e ⊢
  have e2 : 2 ^ (b + 41) = 2 ^ b * 2199023255552 := by rw [Nat.pow_add]
  have e3 : 1 ≤ 2 ^ b := Nat.one_le_two_pow
  rw [e2]
  generalize 2 ^ b = B at e e3 ⊢
  omega
/-- a drawn number -/
def Drw (i : Int) : Prop := 0 ≤ i ∧ i < 2147483648
theorem drw_mod {a : Int} (j : Int) (h : 0 < j) (h2 : j ≤ 2147483648) : Drw (a % j) := ⟨Int.emod_nonneg a (by omega), by have := Int.emod_lt_of_pos a h; omega⟩
theorem drw_div {a j : Int} (h : Drw a) (hj : 0 < j) : Drw (a / j) := by
  obtain ⟨h1, h2⟩ := h
  refine ⟨Int.ediv_nonneg h1 (by omega), ?_⟩
  have := Int.ediv_le_self j h1
  omega
theorem mod_lt {a j : Int} (h : 0 < j) : 0 ≤ a % j ∧ a % j < j := ⟨Int.emod_nonneg a (by omega), Int.emod_lt_of_pos a h⟩
/-! ### loops that go through -/
theorem for_run {g : GF} {b : SF} (I : Nat → Env → Sto → Prop) : ∀ {vs : List Val} {ρ : Env} {m : Sto} {k : Nat}, I k ρ m →
    (∀ i v, vs[i]? = some v → ∀ ρ m, I (k + i) ρ m → ∃ ρ1, g v ρ m = some ρ1 ∧ ∃ ρ2 m2, b ρ1 m = .nx ρ2 m2 ∧ I (k + i + 1) ρ2 m2) →
    ∃ ρ' m', forGo none g b vs ρ m = .nx ρ' m' ∧ I (k + vs.length) ρ' m'
  | [], ρ, m, k, h, _ => ⟨ρ, m, by simp [forGo], h⟩
  | v :: vs, ρ, m, k, h, hs => by
    obtain ⟨ρ1, h1, ρ2, m2, h2, h3⟩ := hs 0 v (by simp) ρ m h
    obtain ⟨ρ', m', h4, h5⟩ := for_run I (vs := vs) (k := k + 1) h3 fun i w hi ρ m hI => by
      have := hs (i + 1) w (by simpa using hi) ρ m (by rw [show k + (i + 1) = k + 1 + i by omega]; exact hI)
      rw [show k + (i + 1) + 1 = k + 1 + i + 1 by omega] at this
      exact this
    refine ⟨ρ', m', ?_, by rw [List.length_cons, show k + (vs.length + 1) = k + 1 + vs.length by omega]; exact h5⟩
    rw [forGo, if_pos (by trivial)]
    simp only [h1, h2, h4]
theorem rangeV_at {lo : Int} {n i : Nat} {v : Val} (h : (rangeV lo n)[i]? = some v) : i < n ∧ v = .int (lo + (i : Nat)) := by
  unfold rangeV at h
  rw [List.getElem?_map] at h
  by_cases hi : i < n
  · rw [List.getElem?_range hi] at h
    exact ⟨hi, (Option.some.inj h).symm⟩
  · rw [List.getElem?_eq_none (by simpa using hi)] at h
    cases h
theorem numb_at {xs : List Val} {i : Nat} {v : Val} (h : (numb xs)[i]? = some v) : ∃ x, xs[i]? = some x ∧ v = .wt [.int (i : Nat), x] := by
  have hi : i < xs.length := by
    have := (List.getElem?_eq_some_iff.mp h).1
    rwa [numb_len] at this
  rw [numb_get hi] at h
  exact ⟨xs[i], List.getElem?_eq_getElem hi, (Option.some.inj h).symm⟩
end G

-- part M4
namespace G
/-! ### sorted, of texts -/
theorem alike_str (x y : List Nat) : PySem.W.alike (toPy (.str x)) (toPy (.str y)) = true := rfl
theorem sortOk_strs {xs : List (List Nat)} (h : ∀ x ∈ xs, gd (.str x) = true) : sortOk (xs.map Val.str) = true := by
  unfold sortOk
  simp only [Bool.and_eq_true, Bool.or_eq_true, List.all_eq_true, List.mem_map, forall_exists_index, and_imp, forall_apply_eq_imp_iff₂]
  exact ⟨⟨fun x hx => h x hx, fun x _ y _ => alike_str x y⟩, .inr fun x _ => trivial⟩
theorem sortedA_lst {xs : List (List Nat)} {m : Sto} (h : ∀ x ∈ xs, gd (.str x) = true) (hl : xs.length ≤ 16777216) : sortedA [.lst (xs.map Val.str)] m = .ok (.lst ((sortS xs).map Val.str)) m := by
  simp [sortedA, asD, sortedV, asL, sortOk_strs h, hl, sortV_strs]
theorem sortedA_cell {xs : List (List Nat)} {m : Sto} {j : Nat} (hj : m[j]? = some (.lst (xs.map Val.str))) (h : ∀ x ∈ xs, gd (.str x) = true) (hl : xs.length ≤ 16777216) : sortedA [.ref j] m = .ok (.lst ((sortS xs).map Val.str)) m := by
  simp [sortedA, asD, hj, sortedV, asL, sortOk_strs h, hl, sortV_strs]
theorem strKeys_of : ∀ {kvs : List (Val × Val)} {xs : List (List Nat)}, kvs.map (·.1) = xs.map Val.str → strKeys kvs = some (xs.map Val.str)
  | [], xs, h => by
    have : xs = [] := by simpa using h.symm
    subst this
    rfl
  | (k, v) :: kvs, xs, h => by
    cases xs with
    | nil => simp at h
    | cons x xs =>
      simp only [List.map_cons, List.cons.injEq] at h
      obtain ⟨rfl, h⟩ := h
      simp [strKeys, strKeys_of h]
theorem sortedA_dct {kvs : List (Val × Val)} {xs : List (List Nat)} {m : Sto} {j : Nat} (hj : m[j]? = some (.dct .k kvs)) (hk : kvs.map (·.1) = xs.map Val.str) (hl : xs.length < 64) : sortedA [.ref j] m = .ok (.lst ((sortS xs).map Val.str)) m := by
  simp [sortedA, asD, hj, strKeys_of hk, hl, sortV_strs]
theorem sortS_len (xs : List (List Nat)) : (sortS xs).length = xs.length := (sortS_perm xs).length_eq
theorem sortS_mem {xs : List (List Nat)} {x : List Nat} : x ∈ sortS xs ↔ x ∈ xs := (sortS_perm xs).mem_iff
theorem sortS_rise {xs : List (List Nat)} (h : xs.Nodup) : riseL (sortS xs) = true := by
  rw [rise_pw]
  exact (List.pairwise_and_iff.mpr ⟨sortS_pw xs, (sortS_perm xs).nodup_iff.mpr h⟩).imp fun h => lt_of_le_ne' h.1 h.2

/-! ### dicts with texts for keys -/
theorem dput_keys {kvs : List (Val × Val)} {x : List Nat} {v : Val} : (dputV kvs (.str x) v).map (·.1) = if Val.str x ∈ kvs.map (·.1) then kvs.map (·.1) else kvs.map (·.1) ++ [.str x] := by
  unfold dputV
  have e : (kvs.any fun p => veq p.1 (.str x)) = decide (Val.str x ∈ kvs.map (·.1)) := by
    rw [← any_veq_str, List.any_map]
    rfl
  rw [e]
  by_cases h : Val.str x ∈ kvs.map (·.1)
  · rw [if_pos (by simpa using h), if_pos h, List.map_map]
    apply List.map_congr_left
    intro p _
    simp only [Function.comp]
    split <;> rfl
  · rw [if_neg (by simpa using h), if_neg h]
    simp
theorem dput_len {kvs : List (Val × Val)} {x : List Nat} {v : Val} : (dputV kvs (.str x) v).length ≤ kvs.length + 1 ∧ 1 ≤ (dputV kvs (.str x) v).length ∧ kvs.length ≤ (dputV kvs (.str x) v).length := by
  have h := congrArg List.length (dput_keys (kvs := kvs) (x := x) (v := v))
  rw [List.length_map] at h
  by_cases hx : Val.str x ∈ kvs.map (·.1)
  · rw [if_pos hx, List.length_map] at h
    obtain ⟨p, hp, _⟩ := List.mem_map.mp hx
    have := List.length_pos_of_mem hp
    omega
  · rw [if_neg hx, List.length_append, List.length_map] at h
    simp at h
    omega
theorem dput_mem {kvs : List (Val × Val)} {x : List Nat} {v : Val} {p : Val × Val} (h : p ∈ dputV kvs (.str x) v) : p ∈ kvs ∨ p = (.str x, v) := by
  unfold dputV at h
  split at h
  · obtain ⟨q, hq, rfl⟩ := List.mem_map.mp h
    by_cases hx : veq q.1 (.str x) = true
    · rw [if_pos hx]
      rw [veq_str, decide_eq_true_eq] at hx
      right
      rw [hx]
    · rw [if_neg hx]
      exact .inl hq
  · rcases List.mem_append.mp h with h | h
    · exact .inl h
    · exact .inr (List.mem_singleton.mp h)
theorem dput_nodup {kvs : List (Val × Val)} {x : List Nat} {v : Val} (h : (kvs.map (·.1)).Nodup) : ((dputV kvs (.str x) v).map (·.1)).Nodup := by
  rw [dput_keys]
  split
  · exact h
  · rename_i hx
    rw [List.nodup_append]
    exact ⟨h, by simp, fun a ha b hb => by
      rw [List.mem_singleton] at hb
      subst hb
      exact fun z => hx (z ▸ ha)⟩
theorem dget_in : ∀ {kvs : List (Val × Val)} {x : List Nat}, Val.str x ∈ kvs.map (·.1) → ∃ v, dget kvs (.str x) = some v ∧ (Val.str x, v) ∈ kvs
  | [], x, h => by simp at h
  | (k, v) :: kvs, x, h => by
    unfold dget
    by_cases hk : k = .str x
    · subst hk
      exact ⟨v, by simp [veq_str], by simp⟩
    · simp only [List.map_cons, List.mem_cons] at h
      obtain ⟨w, h1, h2⟩ := dget_in (h.resolve_left fun e => hk e.symm)
      refine ⟨w, ?_, by simp [h2]⟩
      rw [List.find?_cons, veq_str, decide_eq_false hk]
      exact h1
theorem drop_keys {kvs : List (Val × Val)} {x : List Nat} : (dropV kvs (.str x)).map (·.1) = (kvs.map (·.1)).filter fun k => !decide (k = .str x) := by
  unfold dropV
  rw [List.filter_map]
  congr 1
  apply List.filter_congr
  intro p _
  simp [veq_str]
theorem drop_len {kvs : List (Val × Val)} {x : List Nat} (hn : (kvs.map (·.1)).Nodup) (hx : Val.str x ∈ kvs.map (·.1)) : (dropV kvs (.str x)).length + 1 = kvs.length := by
  have h := congrArg List.length (drop_keys (kvs := kvs) (x := x))
  rw [List.length_map] at h
  have h2 : ((kvs.map (·.1)).erase (.str x)).length = kvs.length - 1 := by rw [List.length_erase_of_mem hx, List.length_map]
  rw [hn.erase_eq_filter] at h2
  have e : ((kvs.map (·.1)).filter fun k => !decide (k = .str x)) = (kvs.map (·.1)).filter fun k => k != .str x := by
    apply List.filter_congr
    intro k _
    by_cases e : k = .str x <;> simp [e]
  rw [e, h2] at h
  obtain ⟨p, hp, _⟩ := List.mem_map.mp hx
  have := List.length_pos_of_mem hp
  omega
theorem drop_mem {kvs : List (Val × Val)} {x : List Nat} {p : Val × Val} (h : p ∈ dropV kvs (.str x)) : p ∈ kvs := (List.mem_filter.mp h).1
theorem drop_nodup {kvs : List (Val × Val)} {x : List Nat} (h : (kvs.map (·.1)).Nodup) : ((dropV kvs (.str x)).map (·.1)).Nodup := by
  rw [drop_keys]
  exact h.filter _
/-! ### while -/
theorem while_run {c : TF} {b : SF} (I : Nat → Env → Sto → Prop) : ∀ (n k : Nat) {ρ : Env} {m : Sto}, I k ρ m → k < n →
    (∀ k ρ m, I k ρ m → ∃ t, c ρ m = .ok t m ∧ (t = true → ∃ j ρ2 m2, j < k ∧ b ρ m = .nx ρ2 m2 ∧ I j ρ2 m2)) →
    ∃ k' ρ' m', whileN c b n ρ m = .nx ρ' m' ∧ I k' ρ' m' ∧ c ρ' m' = .ok false m'
  | 0, k, ρ, m, _, h, _ => absurd h (Nat.not_lt_zero _)
  | n + 1, k, ρ, m, hI, hk, hs => by
    obtain ⟨t, h1, h2⟩ := hs k ρ m hI
    cases t with
    | false => exact ⟨k, ρ, m, by rw [whileN, h1]; rfl, hI, h1⟩
    | true =>
      obtain ⟨j, ρ2, m2, hj, h3, h4⟩ := h2 rfl
      obtain ⟨k', ρ', m', h5, h6, h7⟩ := while_run I n j h4 (by omega) hs
      refine ⟨k', ρ', m', ?_, h6, h7⟩
      rw [whileN, h1, sbind_ok, if_pos rfl, h3]
      exact h5
/-! ### stores -/
@[simp] theorem last_get {pre : Sto} {c : Cell} : (pre ++ [c])[pre.length]? = some c := by simp
theorem last_set {pre : Sto} {c d : Cell} : (pre ++ [c]).set pre.length d = pre ++ [d] := by simp
theorem pre_get {pre : Sto} {c d : Cell} {j : Nat} (h : pre[j]? = some c) : (pre ++ [d])[j]? = some c := by
  have := (List.getElem?_eq_some_iff.mp h).1
  rw [List.getElem?_append_left this]; exact h
end G

-- part M5
namespace G
/-! ### tame data: rows no longer than L, texts no longer than S -/
mutual
def tmb (L S : Nat) : Val → Bool
  | .non | .bl _ | .int _ => true
  | .str x => x.all (· < 128) && decide (x.length ≤ S)
  | .tup xs | .lst xs => decide (xs.length ≤ L) && tmbL L S xs
  | _ => false
def tmbL (L S : Nat) : List Val → Bool
  | [] => true
  | x :: xs => tmb L S x && tmbL L S xs
end
mutual
/-- texts and tuples alone -/
def tms (L S : Nat) : Val → Bool
  | .str x => x.all (· < 128) && decide (x.length ≤ S)
  | .tup xs => decide (xs.length ≤ L) && tmsL L S xs
  | _ => false
def tmsL (L S : Nat) : List Val → Bool
  | [] => true
  | x :: xs => tms L S x && tmsL L S xs
end
theorem tmbL_iff {L S : Nat} : ∀ {xs : List Val}, tmbL L S xs = true ↔ ∀ x ∈ xs, tmb L S x = true
  | [] => by simp [tmbL]
  | y :: ys => by simp [tmbL, tmbL_iff (xs := ys)]
theorem tmsL_iff {L S : Nat} : ∀ {xs : List Val}, tmsL L S xs = true ↔ ∀ x ∈ xs, tms L S x = true
  | [] => by simp [tmsL]
  | y :: ys => by simp [tmsL, tmsL_iff (xs := ys)]
theorem tmb_tup {L S : Nat} {xs : List Val} : tmb L S (.tup xs) = true ↔ xs.length ≤ L ∧ ∀ x ∈ xs, tmb L S x = true := by
  simp only [tmb, Bool.and_eq_true, decide_eq_true_eq, tmbL_iff]
theorem tmb_lst {L S : Nat} {xs : List Val} : tmb L S (.lst xs) = true ↔ xs.length ≤ L ∧ ∀ x ∈ xs, tmb L S x = true := by
  simp only [tmb, Bool.and_eq_true, decide_eq_true_eq, tmbL_iff]
theorem tms_tup {L S : Nat} {xs : List Val} : tms L S (.tup xs) = true ↔ xs.length ≤ L ∧ ∀ x ∈ xs, tms L S x = true := by
  simp only [tms, Bool.and_eq_true, decide_eq_true_eq, tmsL_iff]
theorem tmb_str {L S : Nat} {x : List Nat} : tmb L S (.str x) = true ↔ (∀ c ∈ x, c < 128) ∧ x.length ≤ S := by
  simp only [tmb, Bool.and_eq_true, decide_eq_true_eq, List.all_eq_true]
theorem tms_str {L S : Nat} {x : List Nat} : tms L S (.str x) = true ↔ (∀ c ∈ x, c < 128) ∧ x.length ≤ S := by
  simp only [tms, Bool.and_eq_true, decide_eq_true_eq, List.all_eq_true]
@[simp] theorem tmb_non {L S : Nat} : tmb L S .non = true := by simp [tmb]
@[simp] theorem tmb_bl {L S : Nat} {b : Bool} : tmb L S (.bl b) = true := by simp [tmb]
@[simp] theorem tmb_int {L S : Nat} {b : Int} : tmb L S (.int b) = true := by simp [tmb]
theorem tmb_mono {L S L' S' : Nat} (hL : L ≤ L') (hS : S ≤ S') : ∀ {v : Val}, tmb L S v = true → tmb L' S' v = true
  | .non, _ => by simp
  | .bl _, _ => by simp
  | .int _, _ => by simp
  | .str x, h => by rw [tmb_str] at h ⊢; exact ⟨h.1, by omega⟩
  | .tup xs, h => by
    rw [tmb_tup] at h ⊢
    exact ⟨by omega, fun x hx => tmb_mono hL hS (h.2 x hx)⟩
  | .lst xs, h => by
    rw [tmb_lst] at h ⊢
    exact ⟨by omega, fun x hx => tmb_mono hL hS (h.2 x hx)⟩
  | .dct _ _, h => by simp [tmb] at h
  | .ref _, h => by simp [tmb] at h
  | .scr _, h => by simp [tmb] at h
  | .wt _, h => by simp [tmb] at h
theorem tms_tmb {L S : Nat} : ∀ {v : Val}, tms L S v = true → tmb L S v = true
  | .str x, h => by rw [tms_str] at h; rw [tmb_str]; exact h
  | .tup xs, h => by
    rw [tms_tup] at h; rw [tmb_tup]
    exact ⟨h.1, fun x hx => tms_tmb (h.2 x hx)⟩
  | .non, h => by simp [tms] at h
  | .bl _, h => by simp [tms] at h
  | .int _, h => by simp [tms] at h
  | .lst xs, h => by simp [tms] at h
  | .dct _ _, h => by simp [tms] at h
  | .ref _, h => by simp [tms] at h
  | .scr _, h => by simp [tms] at h
  | .wt _, h => by simp [tms] at h
theorem tmb_good {L S : Nat} (hS : S ≤ 1000000) : ∀ {v : Val}, tmb L S v = true → good v = true
  | .non, _ => by simp [good]
  | .bl _, _ => by simp [good]
  | .int _, _ => by simp [good]
  | .str x, h => by
    rw [tmb_str] at h
    simp only [good, Bool.and_eq_true, List.all_eq_true, decide_eq_true_eq]
    exact ⟨h.1, by omega⟩
  | .tup xs, h => by
    rw [tmb_tup] at h
    simp only [good]
    exact goodL_of fun x hx => tmb_good hS (h.2 x hx)
  | .lst xs, h => by
    rw [tmb_lst] at h
    simp only [good]
    exact goodL_of fun x hx => tmb_good hS (h.2 x hx)
  | .dct _ _, h => by simp [tmb] at h
  | .ref _, h => by simp [tmb] at h
  | .scr _, h => by simp [tmb] at h
  | .wt _, h => by simp [tmb] at h
theorem tmb_gd {L S : Nat} (hS : S ≤ 1000000) {v : Val} (h : tmb L S v = true) (hd : dep v ≤ 60) : gd v = true := by
  simp only [gd, Bool.and_eq_true, decide_eq_true_eq]
  exact ⟨tmb_good hS h, hd⟩
theorem tmb_lens {L S : Nat} (hL : L ≤ 1000) : ∀ {v : Val}, tmb L S v = true → lens v = true
  | .non, _ => by simp
  | .bl _, _ => by simp
  | .int _, _ => by simp
  | .str x, _ => by simp
  | .tup xs, h => by
    rw [tmb_tup] at h
    exact lens_tup (by omega) fun x hx => tmb_lens hL (h.2 x hx)
  | .lst xs, h => by
    rw [tmb_lst] at h
    exact lens_lst (by omega) fun x hx => tmb_lens hL (h.2 x hx)
  | .dct _ _, h => by simp [tmb] at h
  | .ref _, h => by simp [tmb] at h
  | .scr _, h => by simp [tmb] at h
  | .wt _, h => by simp [tmb] at h
theorem dep_tup {n : Nat} {xs : List Val} : dep (.tup xs) ≤ n + 1 ↔ ∀ x ∈ xs, dep x ≤ n := by
  simp only [dep]
  constructor
  · intro h x hx
    have := depL_mem hx
    omega
  · intro h
    have := depL_le h
    omega
theorem dep_lst {n : Nat} {xs : List Val} : dep (.lst xs) ≤ n + 1 ↔ ∀ x ∈ xs, dep x ≤ n := by
  simp only [dep]
  constructor
  · intro h x hx
    have := depL_mem hx
    omega
  · intro h
    have := depL_le h
    omega
@[simp] theorem dep_str {x : List Nat} : dep (.str x) = 0 := by simp [dep]
@[simp] theorem dep_int {x : Int} : dep (.int x) = 0 := by simp [dep]
@[simp] theorem dep_bl {x : Bool} : dep (.bl x) = 0 := by simp [dep]
@[simp] theorem dep_non : dep .non = 0 := by simp [dep]
theorem dep_pos {n : Nat} {xs : List Val} {x : Val} (h : dep (.tup xs) ≤ n) (hx : x ∈ xs) : dep x + 1 ≤ n := by
  simp only [dep] at h
  have := depL_mem hx
  omega
end G

-- part LWG
namespace LW
open PySem L2 RZ G

def s_abcdefghijklmnopqrstuvwxyz : List Nat := [97, 98, 99, 100, 101, 102, 103, 104, 105, 106, 107, 108, 109, 110, 111, 112, 113, 114, 115, 116, 117, 118, 119, 120, 121, 122]
@[simp] theorem gd_s_abcdefghijklmnopqrstuvwxyz : gd (.str s_abcdefghijklmnopqrstuvwxyz) = true := by decide +kernel
def s_ABCDEFGHIJKLMNOPQRSTUVWXYZ : List Nat := [65, 66, 67, 68, 69, 70, 71, 72, 73, 74, 75, 76, 77, 78, 79, 80, 81, 82, 83, 84, 85, 86, 87, 88, 89, 90]
@[simp] theorem gd_s_ABCDEFGHIJKLMNOPQRSTUVWXYZ : gd (.str s_ABCDEFGHIJKLMNOPQRSTUVWXYZ) = true := by decide +kernel
def s_number : List Nat := [110, 117, 109, 98, 101, 114]
@[simp] theorem gd_s_number : gd (.str s_number) = true := by decide +kernel
def s_text : List Nat := [116, 101, 120, 116]
@[simp] theorem gd_s_text : gd (.str s_text) = true := by decide +kernel
def s_truth : List Nat := [116, 114, 117, 116, 104]
@[simp] theorem gd_s_truth : gd (.str s_truth) = true := by decide +kernel
def s_must : List Nat := [109, 117, 115, 116]
@[simp] theorem gd_s_must : gd (.str s_must) = true := by decide +kernel
def s_many : List Nat := [109, 97, 110, 121]
@[simp] theorem gd_s_many : gd (.str s_many) = true := by decide +kernel
def s_Root : List Nat := [82, 111, 111, 116]
@[simp] theorem gd_s_Root : gd (.str s_Root) = true := by decide +kernel
def s_first : List Nat := [102, 105, 114, 115, 116]
@[simp] theorem gd_s_first : gd (.str s_first) = true := by decide +kernel
def s_skip : List Nat := [115, 107, 105, 112]
@[simp] theorem gd_s_skip : gd (.str s_skip) = true := by decide +kernel
def s_plus : List Nat := [112, 108, 117, 115]
@[simp] theorem gd_s_plus : gd (.str s_plus) = true := by decide +kernel
def s_A : List Nat := [65]
@[simp] theorem gd_s_A : gd (.str s_A) = true := by decide +kernel
def s_Bc : List Nat := [66, 99]
@[simp] theorem gd_s_Bc : gd (.str s_Bc) = true := by decide +kernel
def s_Zed : List Nat := [90, 101, 100]
@[simp] theorem gd_s_Zed : gd (.str s_Zed) = true := by decide +kernel
def s_v : List Nat := [118]
@[simp] theorem gd_s_v : gd (.str s_v) = true := by decide +kernel
def s_self : List Nat := [115, 101, 108, 102]
@[simp] theorem gd_s_self : gd (.str s_self) = true := by decide +kernel
def s_age : List Nat := [97, 103, 101]
@[simp] theorem gd_s_age : gd (.str s_age) = true := by decide +kernel
def s_k : List Nat := [107]
@[simp] theorem gd_s_k : gd (.str s_k) = true := by decide +kernel
def s_name : List Nat := [110, 97, 109, 101]
@[simp] theorem gd_s_name : gd (.str s_name) = true := by decide +kernel
def s_of : List Nat := [111, 102]
@[simp] theorem gd_s_of : gd (.str s_of) = true := by decide +kernel
def s_tags : List Nat := [116, 97, 103, 115]
@[simp] theorem gd_s_tags : gd (.str s_tags) = true := by decide +kernel
def s_w : List Nat := [119]
@[simp] theorem gd_s_w : gd (.str s_w) = true := by decide +kernel
def s_Z : List Nat := [90]
@[simp] theorem gd_s_Z : gd (.str s_Z) = true := by decide +kernel
def s_a : List Nat := [97]
@[simp] theorem gd_s_a : gd (.str s_a) = true := by decide +kernel
def s_1 : List Nat := [49]
@[simp] theorem gd_s_1 : gd (.str s_1) = true := by decide +kernel
def s_nil : List Nat := []
@[simp] theorem gd_s_nil : gd (.str s_nil) = true := by decide +kernel
def s_piece : List Nat := [112, 105, 101, 99, 101]
@[simp] theorem gd_s_piece : gd (.str s_piece) = true := by decide +kernel
def s_x21 : List Nat := [33]
@[simp] theorem gd_s_x21 : gd (.str s_x21) = true := by decide +kernel
def s_hole : List Nat := [104, 111, 108, 101]
@[simp] theorem gd_s_hole : gd (.str s_hole) = true := by decide +kernel
def s_n : List Nat := [110]
@[simp] theorem gd_s_n : gd (.str s_n) = true := by decide +kernel
def s_abcd : List Nat := [97, 98, 99, 100]
@[simp] theorem gd_s_abcd : gd (.str s_abcd) = true := by decide +kernel
def s_abcde : List Nat := [97, 98, 99, 100, 101]
@[simp] theorem gd_s_abcde : gd (.str s_abcde) = true := by decide +kernel
def s_z : List Nat := [122]
@[simp] theorem gd_s_z : gd (.str s_z) = true := by decide +kernel
def s_abcdef : List Nat := [97, 98, 99, 100, 101, 102]
@[simp] theorem gd_s_abcdef : gd (.str s_abcdef) = true := by decide +kernel
def s_B : List Nat := [66]
@[simp] theorem gd_s_B : gd (.str s_B) = true := by decide +kernel
def s_C : List Nat := [67]
@[simp] theorem gd_s_C : gd (.str s_C) = true := by decide +kernel
def s_S : List Nat := [83]
@[simp] theorem gd_s_S : gd (.str s_S) = true := by decide +kernel
def s_Abcd : List Nat := [65, 98, 99, 100]
@[simp] theorem gd_s_Abcd : gd (.str s_Abcd) = true := by decide +kernel
def s_e : List Nat := [101]
@[simp] theorem gd_s_e : gd (.str s_e) = true := by decide +kernel
def s_lost : List Nat := [108, 111, 115, 116]
@[simp] theorem gd_s_lost : gd (.str s_lost) = true := by decide +kernel
def s_late : List Nat := [108, 97, 116, 101]
@[simp] theorem gd_s_late : gd (.str s_late) = true := by decide +kernel
def s_no : List Nat := [110, 111]
@[simp] theorem gd_s_no : gd (.str s_no) = true := by decide +kernel
def s_abcdefg : List Nat := [97, 98, 99, 100, 101, 102, 103]
@[simp] theorem gd_s_abcdefg : gd (.str s_abcdefg) = true := by decide +kernel
def s_nt : List Nat := [110, 116]
@[simp] theorem gd_s_nt : gd (.str s_nt) = true := by decide +kernel
def s_g : List Nat := [103]
@[simp] theorem gd_s_g : gd (.str s_g) = true := by decide +kernel
def s_field : List Nat := [102, 105, 101, 108, 100]
@[simp] theorem gd_s_field : gd (.str s_field) = true := by decide +kernel
def s_x : List Nat := [120]
@[simp] theorem gd_s_x : gd (.str s_x) = true := by decide +kernel
def s_y : List Nat := [121]
@[simp] theorem gd_s_y : gd (.str s_y) = true := by decide +kernel
def s_abcdefghijklmnopqrstuvw : List Nat := [97, 98, 99, 100, 101, 102, 103, 104, 105, 106, 107, 108, 109, 110, 111, 112, 113, 114, 115, 116, 117, 118, 119]
@[simp] theorem gd_s_abcdefghijklmnopqrstuvw : gd (.str s_abcdefghijklmnopqrstuvw) = true := by decide +kernel
def s_t : List Nat := [116]
@[simp] theorem gd_s_t : gd (.str s_t) = true := by decide +kernel
def s_ab : List Nat := [97, 98]
@[simp] theorem gd_s_ab : gd (.str s_ab) = true := by decide +kernel
def s_p : List Nat := [112]
@[simp] theorem gd_s_p : gd (.str s_p) = true := by decide +kernel
def s_u : List Nat := [117]
@[simp] theorem gd_s_u : gd (.str s_u) = true := by decide +kernel
def s_more : List Nat := [109, 111, 114, 101]
@[simp] theorem gd_s_more : gd (.str s_more) = true := by decide +kernel
inductive I where
  | is_word | is_kind_name | rises | is_must | is_many | bare | is_sort | takes_for | is_field | are_fields | is_book | _law_cell_at | _law_mixed | _law_drawn | _law_takes | _law_sort | _law_book | _law_is_word | _law_is_kind | _law_is_row | _law_is_sort | _law_is_field | _law_is_book | _law_spoilt | _law_edges | law | is_whole | is_worth | is_bad | is_value | is_place | are_values | is_world | _law_value | _law_world | _law_number | _law_is_worth | _law_is_value | _law_is_world | _law_edges_v2 | law_v2 | is_hole | is_told_hole | is_arg | are_args | is_want | are_wants | is_piece | is_request | _law_inner | _law_args | _law_want | _law_wants | _law_ask | _law_is_hole | _law_are_args | _law_are_wants | _law_is_ask | _law_edges_v3 | law_v3 | inner | field_of | pieces_of | put_in | inlined_wants | inlined | deep_of | deepest | times_for | weight_of | weight | _law_put | _law_field | _law_deep | _law_often | _law_heavy | law_v4
/-- slots: 0=thing 1=sign -/
def b_is_word (c : I → VFn) : SF := (retF (andF (isiF "str" (varF 0)) (andF (chainF leV leV (conF (.int 1)) (callF lenV (consF (varF 0) nilF)) (conF (.int 4))) (callF allV (consF (compF (itF itemsA (varF 0)) (nameG 1) yesT (bin2 inV (varF 1) (conF (.str s_abcdefghijklmnopqrstuvwxyz))) [1]) nilF)))))
/-- slots: 0=thing 1=sign -/
def b_is_kind_name (c : I → VFn) : SF := (seqF (ifF (orTF (notTF (tstF (isiF "str" (varF 0)))) (notTF (tstF (chainF leV leV (conF (.int 1)) (callF lenV (consF (varF 0) nilF)) (conF (.int 4)))))) (retF (conF (.bl false))) nextF)
  (retF (andF (bin2 inV (bin2 idxV (varF 0) (conF (.int 0))) (conF (.str s_ABCDEFGHIJKLMNOPQRSTUVWXYZ))) (callF allV (consF (compF (itF itemsA (slcF (varF 0) (parF (conF (.int 1))) noPF)) (nameG 1) yesT (bin2 inV (varF 1) (conF (.str s_abcdefghijklmnopqrstuvwxyz))) [1]) nilF)))))
/-- slots: 0=row 1=one 2=other -/
def b_rises (c : I → VFn) : SF := (retF (callF allV (consF (compF (itA2 zipLL (consF (slcF (varF 0) noPF (parF (conF (.int (-1))))) (consF (slcF (varF 0) (parF (conF (.int 1))) noPF) nilF))) (tupG 2 (consG (nameG 1) (consG (nameG 2) nilG))) yesT (bin2 ltV (varF 1) (varF 2)) [1, 2]) nilF)))
/-- slots: 0=sort -/
def b_is_must (c : I → VFn) : SF := (retF (andF (isiF "tuple" (varF 0)) (bin2 eqV (bin2 idxV (varF 0) (conF (.int 0))) (conF (.str s_must)))))
/-- slots: 0=sort -/
def b_is_many (c : I → VFn) : SF := (retF (andF (isiF "tuple" (varF 0)) (bin2 eqV (bin2 idxV (varF 0) (conF (.int 0))) (conF (.str s_many)))))
/-- slots: 0=sort -/
def b_bare (c : I → VFn) : SF := (seqF (ifF (tstF (defF 1 (c .is_must) (consF (varF 0) nilF))) (retF (bin2 idxV (varF 0) (conF (.int 1)))) nextF)
  (retF (varF 0)))
/-- slots: 0=thing 1=names 2=deep -/
def b_is_sort (c : I → VFn) : SF := (seqF (ifF (tstF (bin2 eqV (varF 2) (conF (.int 0)))) (retF (conF (.bl false))) nextF)
  (seqF (ifF (tstF (isiF "str" (varF 0))) (retF (orF (bin2 inV (varF 0) (conF (.wt [(.str s_number), (.str s_text), (.str s_truth)]))) (bin2 inV (varF 0) (varF 1)))) nextF)
  (seqF (ifF (orTF (notTF (tstF (isiF "tuple" (varF 0)))) (orTF (tstF (bin2 neV (callF lenV (consF (varF 0) nilF)) (conF (.int 2)))) (notTF (tstF (isiF "str" (bin2 idxV (varF 0) (conF (.int 0)))))))) (retF (conF (.bl false))) nextF)
  (seqF (ifF (orTF (tstF (bin2 notInV (bin2 idxV (varF 0) (conF (.int 0))) (tupF (consF (conF (.str s_must)) (consF (conF (.str s_many)) nilF))))) (notTF (tstF (defF 3 (c .is_sort) (consF (bin2 idxV (varF 0) (conF (.int 1))) (consF (varF 1) (consF (bin2 subV (varF 2) (conF (.int 1))) nilF))))))) (retF (conF (.bl false))) nextF)
  (retF (orF (bin2 eqV (bin2 idxV (varF 0) (conF (.int 0))) (conF (.str s_many))) (notF (defF 1 (c .is_must) (consF (bin2 idxV (varF 0) (conF (.int 1))) nilF)))))))))
/-- slots: 0=sort -/
def b_takes_for (c : I → VFn) : SF := (seqF (asgF (defF 1 (c .bare) (consF (varF 0) nilF)) (nameG 0))
  (seqF (ifF (tstF (defF 1 (c .is_many) (consF (varF 0) nilF))) (retF (tupF (consF (conF (.str s_first)) (consF (conF (.str s_skip)) nilF)))) nextF)
  (seqF (ifF (tstF (bin2 eqV (varF 0) (conF (.str s_number)))) (retF (tupF (consF (conF (.str s_plus)) nilF))) nextF)
  (retF (tupF nilF)))))
/-- slots: 0=thing 1=names 2=take -/
def b_is_field (c : I → VFn) : SF := (seqF (ifF (orTF (notTF (tstF (isiF "tuple" (varF 0)))) (orTF (tstF (bin2 neV (callF lenV (consF (varF 0) nilF)) (conF (.int 3)))) (notTF (tstF (defF 1 (c .is_word) (consF (bin2 idxV (varF 0) (conF (.int 0))) nilF)))))) (retF (conF (.bl false))) nextF)
  (seqF (ifF (orTF (notTF (tstF (defF 3 (c .is_sort) (consF (bin2 idxV (varF 0) (conF (.int 1))) (consF (varF 1) (consF (conF (.int 4)) nilF)))))) (notTF (tstF (isiF "tuple" (bin2 idxV (varF 0) (conF (.int 2))))))) (retF (conF (.bl false))) nextF)
  (retF (andF (callF allV (consF (compF (itF itemsA (bin2 idxV (varF 0) (conF (.int 2)))) (nameG 2) yesT (andF (isiF "str" (varF 2)) (bin2 inV (varF 2) (defF 1 (c .takes_for) (consF (bin2 idxV (varF 0) (conF (.int 1))) nilF)))) [2]) nilF)) (defF 1 (c .rises) (consF (bin2 idxV (varF 0) (conF (.int 2))) nilF))))))
/-- slots: 0=thing 1=names 2=part -/
def b_are_fields (c : I → VFn) : SF := (seqF (ifF (orTF (notTF (tstF (isiF "tuple" (varF 0)))) (notTF (tstF (chainF leV leV (conF (.int 1)) (callF lenV (consF (varF 0) nilF)) (conF (.int 5)))))) (retF (conF (.bl false))) nextF)
  (retF (andF (callF allV (consF (compF (itF itemsA (varF 0)) (nameG 2) yesT (defF 2 (c .is_field) (consF (varF 2) (consF (varF 1) nilF))) [2]) nilF)) (defF 1 (c .rises) (consF (compF (itF itemsA (varF 0)) (nameG 2) yesT (bin2 idxV (varF 2) (conF (.int 0))) [2]) nilF)))))
/-- slots: 0=thing 1=names 2=part -/
def b_is_book (c : I → VFn) : SF := (seqF (ifF (orTF (notTF (tstF (isiF "tuple" (varF 0)))) (notTF (tstF (chainF leV leV (conF (.int 1)) (callF lenV (consF (varF 0) nilF)) (conF (.int 4)))))) (retF (conF (.bl false))) nextF)
  (seqF (ifF (notTF (tstF (callF allV (consF (compF (itF itemsA (varF 0)) (nameG 2) yesT (andF (isiF "tuple" (varF 2)) (andF (bin2 eqV (callF lenV (consF (varF 2) nilF)) (conF (.int 2))) (defF 1 (c .is_kind_name) (consF (bin2 idxV (varF 2) (conF (.int 0))) nilF)))) [2]) nilF)))) (retF (conF (.bl false))) nextF)
  (seqF (asgF (compF (itF itemsA (varF 0)) (nameG 2) yesT (bin2 idxV (varF 2) (conF (.int 0))) [2]) (nameG 1))
  (retF (andF (defF 1 (c .rises) (consF (varF 1) nilF)) (andF (bin2 inV (conF (.str s_Root)) (varF 1)) (callF allV (consF (compF (itF itemsA (varF 0)) (nameG 2) yesT (defF 2 (c .are_fields) (consF (bin2 idxV (varF 2) (conF (.int 1))) (consF (varF 1) nilF))) [2]) nilF))))))))
/-- slots: 0=_law_script 1=_law_k -/
def b__law_cell_at (c : I → VFn) : SF := (seqF (ifF (tstF (bin2 ltV (varF 1) (callF lenV (consF (varF 0) nilF)))) (retF (bin2 idxV (varF 0) (varF 1))) nextF)
  (retF (conF (.int 0))))
/-- slots: 0=_law_script 1=_law_k 2=_law_drawn_here -/
def b__law_mixed (c : I → VFn) : SF := (seqF (asgF (bin2 modV (bin2 mulV (bin2 addV (bin2 addV (defF 2 (c ._law_cell_at) (consF (varF 0) (consF (varF 1) nilF))) (bin2 mulV (conF (.int 7919)) (varF 1))) (conF (.int 1))) (conF (.int 48271))) (conF (.int 2147483647))) (nameG 2))
  (retF (bin2 modV (bin2 addV (bin2 addV (bin2 mulV (varF 2) (varF 2)) (bin2 mulV (conF (.int 7)) (varF 2))) (varF 1)) (conF (.int 2147483629)))))
/-- slots: 0=_law_number_here 1=_law_k 2=_law_drawn_here -/
def b__law_drawn (c : I → VFn) : SF := (seqF (asgF (bin2 modV (bin2 mulV (bin2 addV (bin2 addV (varF 0) (bin2 mulV (conF (.int 104729)) (varF 1))) (conF (.int 17))) (conF (.int 69621))) (conF (.int 2147483647))) (nameG 2))
  (retF (bin2 modV (bin2 addV (bin2 addV (bin2 mulV (varF 2) (varF 2)) (bin2 mulV (conF (.int 3)) (varF 2))) (varF 1)) (conF (.int 2147483629)))))
/-- slots: 0=_law_sort_here 1=_law_number_here -/
def b__law_takes (c : I → VFn) : SF := (seqF (ifF (tstF (bin2 eqV (bin2 idxV (varF 0) (conF (.int 0))) (conF (.str s_must)))) (asgF (bin2 idxV (varF 0) (conF (.int 1))) (nameG 0)) nextF)
  (seqF (ifF (tstF (bin2 eqV (bin2 idxV (varF 0) (conF (.int 0))) (conF (.str s_many)))) (retF (bin2 idxV (tupF (consF (tupF (consF (conF (.str s_first)) (consF (conF (.str s_skip)) nilF))) (consF (tupF (consF (conF (.str s_first)) nilF)) (consF (tupF (consF (conF (.str s_skip)) nilF)) (consF (tupF nilF) nilF))))) (bin2 modV (varF 1) (conF (.int 4))))) nextF)
  (retF (bin2 mulV (bin2 idxV (tupF (consF (tupF (consF (conF (.str s_plus)) nilF)) (consF (tupF nilF) nilF))) (bin2 modV (varF 1) (conF (.int 2)))) (callF intV (consF (bin2 eqV (varF 0) (conF (.str s_number))) nilF))))))
/-- slots: 0=_law_number_here 1=_law_names 2=_law_some 3=_law_one 4=_law_kind -/
def b__law_sort (c : I → VFn) : SF := (seqF (asgF (bin2 addV (bin2 addV (lstF (consF (conF (.str s_number)) (consF (conF (.str s_text)) (consF (conF (.str s_truth)) nilF)))) (bin2 mulV (callF listV (consF (varF 1) nilF)) (conF (.int 2)))) (bin2 mulV (lstF (consF (conF (.str s_A)) nilF)) (callF intV (consF (bin2 inV (conF (.str s_A)) (varF 1)) nilF)))) (nameG 2))
  (seqF (asgF (bin2 idxV (varF 2) (bin2 modV (varF 0) (callF lenV (consF (varF 2) nilF)))) (nameG 3))
  (seqF (asgF (bin2 modV (bin2 divV (varF 0) (conF (.int 64))) (conF (.int 8))) (nameG 4))
  (seqF (ifF (tstF (bin2 ltV (varF 4) (conF (.int 3)))) (retF (bin2 idxV (tupF (consF (varF 3) (consF (tupF (consF (conF (.str s_must)) (consF (varF 3) nilF))) (consF (tupF (consF (conF (.str s_many)) (consF (varF 3) nilF))) nilF)))) (varF 4))) nextF)
  (seqF (ifF (tstF (bin2 ltV (varF 4) (conF (.int 5)))) (retF (bin2 idxV (tupF (consF (tupF (consF (conF (.str s_many)) (consF (tupF (consF (conF (.str s_must)) (consF (varF 3) nilF))) nilF))) (consF (tupF (consF (conF (.str s_must)) (consF (tupF (consF (conF (.str s_many)) (consF (varF 3) nilF))) nilF))) nilF))) (bin2 subV (varF 4) (conF (.int 3))))) nextF)
  (retF (bin2 idxV (tupF (consF (varF 3) (consF (tupF (consF (conF (.str s_must)) (consF (tupF (consF (conF (.str s_many)) (consF (tupF (consF (conF (.str s_must)) (consF (varF 3) nilF))) nilF))) nilF))) (consF (tupF (consF (conF (.str s_many)) (consF (tupF (consF (conF (.str s_many)) (consF (varF 3) nilF))) nilF))) nilF)))) (bin2 subV (varF 4) (conF (.int 5))))))))))
def b__law_book_l1 (c : I → VFn) : SF := (ifF (tstF (bin2 gtV (bin2 modV (bin2 divV (varF 0) (bin2 idxV (tupF (consF (conF (.int 3)) (consF (conF (.int 7)) (consF (conF (.int 19)) nilF)))) (varF 2))) (conF (.int 3))) (conF (.int 0)))) (dropF (appF (varF 1) (varF 3))) nextF)
def b__law_book_l2 (c : I → VFn) : SF := (seqF (asgF (bin2 divV (defF 2 (c ._law_drawn) (consF (varF 6) (consF (bin2 addV (conF (.int 10)) (varF 8)) nilF))) (conF (.int 4))) (nameG 9))
  (seqF (asgF (defF 2 (c ._law_sort) (consF (bin2 divV (varF 9) (conF (.int 16))) (consF (callF sortedA (consF (varF 1) nilF)) nilF))) (nameG 10))
  (dputF (tupF (consF (varF 10) (consF (defF 2 (c ._law_takes) (consF (varF 10) (consF (bin2 divV (varF 9) (conF (.int 65536))) nilF))) nilF))) (varF 7) (bin2 idxV (tupF (consF (conF (.str s_age)) (consF (conF (.str s_k)) (consF (conF (.str s_name)) (consF (conF (.str s_of)) (consF (conF (.str s_tags)) (consF (conF (.str s_w)) nilF))))))) (bin2 modV (varF 9) (conF (.int 6)))))))
def b__law_book_l3 (c : I → VFn) : SF := (dropF (dpopF (varF 7) (bin2 idxV (callF sortedA (consF (varF 7) nilF)) (conF (.int 0)))))
def b__law_book_l4 (c : I → VFn) : SF := (seqF (asgF (bin2 divV (defF 2 (c ._law_drawn) (consF (varF 0) (consF (varF 2) nilF))) (conF (.int 4))) (nameG 6))
  (seqF (asgF (dispF (consPr (conF (.str s_v)) (tupF (consF (conF (.str s_number)) (consF (bin2 idxV (tupF (consF (tupF (consF (conF (.str s_plus)) nilF)) (consF (tupF nilF) nilF))) (bin2 modV (bin2 divV (varF 6) (conF (.int 32))) (conF (.int 2)))) nilF))) nilPr)) (nameG 7))
  (seqF (ifF (tstF (bin2 eqV (varF 5) (conF (.str s_Root)))) (dputF (tupF (consF (conF (.str s_Root)) (consF (tupF nilF) nilF))) (varF 7) (conF (.str s_self))) nextF)
  (seqF (forF (itA range1 (consF (bin2 addV (bin2 modV (varF 6) (conF (.int 3))) (bin2 mulV (callF intV (consF (bin2 eqV (varF 5) (conF (.str s_Root))) nilF)) (conF (.int 2)))) nilF)) (nameG 8) (b__law_book_l2 c))
  (seqF (whileF (tstF (bin2 gtV (callF lenV (consF (varF 7) nilF)) (conF (.int 5)))) (b__law_book_l3 c))
  (seqF (asgF (callF tupleV (consF (compF (itF itemsA (callF sortedA (consF (varF 7) nilF))) (nameG 3) yesT (bin2 addV (tupF (consF (varF 3) nilF)) (bin2 idxV (varF 7) (varF 3))) [3]) nilF)) (nameG 11))
  (asgF (bin2 addV (varF 4) (tupF (consF (tupF (consF (varF 5) (consF (varF 11) nilF))) nilF))) (nameG 4))))))))
/-- slots: 0=_law_number_here 1=_law_names 2=_law_k 3=_law_name 4=_law_found 5=_law_kind 6=_law_drawn_here 7=_law_fields 8=_law_j 9=_law_one 10=_law_sort_here 11=_law_rows -/
def b__law_book (c : I → VFn) : SF := (seqF (asgF (lstNF (consF (conF (.str s_Root)) nilF)) (nameG 1))
  (seqF (forF (itA1 enumQ (consF (tupF (consF (conF (.str s_A)) (consF (conF (.str s_Bc)) (consF (conF (.str s_Zed)) nilF)))) nilF)) (tupG 2 (consG (nameG 2) (consG (nameG 3) nilG))) (b__law_book_l1 c))
  (seqF (asgF (tupF nilF) (nameG 4))
  (seqF (forF (itA1 enumQ (consF (callF sortedA (consF (varF 1) nilF)) nilF)) (tupG 2 (consG (nameG 2) (consG (nameG 5) nilG))) (b__law_book_l4 c))
  (retF (varF 4))))))
/-- slots: 0=_law_thing 1=_law_sign -/
def b__law_is_word (c : I → VFn) : SF := (seqF (ifF (orTF (notTF (tstF (isiF "str" (varF 0)))) (notTF (tstF (chainF leV leV (conF (.int 1)) (callF lenV (consF (varF 0) nilF)) (conF (.int 4)))))) (retF (conF (.bl false))) nextF)
  (retF (bin2 eqV (compF (itF itemsA (varF 0)) (nameG 1) (tstF (bin2 notInV (varF 1) (conF (.str s_abcdefghijklmnopqrstuvwxyz)))) (varF 1) [1]) (lstF nilF))))
/-- slots: 0=_law_thing -/
def b__law_is_kind (c : I → VFn) : SF := (seqF (ifF (orTF (notTF (tstF (isiF "str" (varF 0)))) (orTF (tstF (bin2 eqV (callF lenV (consF (varF 0) nilF)) (conF (.int 0)))) (notTF (tstF (chainF leV leV (conF (.str s_A)) (bin2 idxV (varF 0) (conF (.int 0))) (conF (.str s_Z))))))) (retF (conF (.bl false))) nextF)
  (retF (orF (bin2 eqV (callF lenV (consF (varF 0) nilF)) (conF (.int 1))) (andF (bin2 ltV (callF lenV (consF (varF 0) nilF)) (conF (.int 5))) (defF 1 (c ._law_is_word) (consF (slcF (varF 0) (parF (conF (.int 1))) noPF) nilF))))))
/-- slots: 0=_law_thing 1=_law_least 2=_law_most -/
def b__law_is_row (c : I → VFn) : SF := (retF (andF (isiF "tuple" (varF 0)) (chainF leV leV (varF 1) (callF lenV (consF (varF 0) nilF)) (varF 2))))
/-- slots: 0=_law_thing 1=_law_names 2=_law_deep -/
def b__law_is_sort (c : I → VFn) : SF := (seqF (ifF (tstF (bin2 eqV (varF 2) (conF (.int 0)))) (retF (conF (.bl false))) nextF)
  (seqF (ifF (tstF (isiF "str" (varF 0))) (retF (orF (bin2 inV (varF 0) (tupF (consF (conF (.str s_number)) (consF (conF (.str s_text)) (consF (conF (.str s_truth)) nilF))))) (bin2 inV (varF 0) (varF 1)))) nextF)
  (seqF (ifF (orTF (notTF (tstF (defF 3 (c ._law_is_row) (consF (varF 0) (consF (conF (.int 2)) (consF (conF (.int 2)) nilF)))))) (notTF (tstF (isiF "str" (bin2 idxV (varF 0) (conF (.int 0))))))) (retF (conF (.bl false))) nextF)
  (seqF (ifF (andTF (tstF (bin2 eqV (bin2 idxV (varF 0) (conF (.int 0))) (conF (.str s_must)))) (andTF (tstF (isiF "tuple" (bin2 idxV (varF 0) (conF (.int 1))))) (tstF (bin2 eqV (slcF (bin2 idxV (varF 0) (conF (.int 1))) noPF (parF (conF (.int 1)))) (tupF (consF (conF (.str s_must)) nilF)))))) (retF (conF (.bl false))) nextF)
  (retF (andF (bin2 inV (bin2 idxV (varF 0) (conF (.int 0))) (tupF (consF (conF (.str s_must)) (consF (conF (.str s_many)) nilF)))) (defF 3 (c ._law_is_sort) (consF (bin2 idxV (varF 0) (conF (.int 1))) (consF (varF 1) (consF (bin2 subV (varF 2) (conF (.int 1))) nilF))))))))))
/-- slots: 0=_law_thing 1=_law_names 2=_law_sort_here 3=_law_good -/
def b__law_is_field (c : I → VFn) : SF := (seqF (ifF (orTF (notTF (tstF (defF 3 (c ._law_is_row) (consF (varF 0) (consF (conF (.int 3)) (consF (conF (.int 3)) nilF)))))) (notTF (tstF (defF 1 (c ._law_is_word) (consF (bin2 idxV (varF 0) (conF (.int 0))) nilF))))) (retF (conF (.bl false))) nextF)
  (seqF (ifF (orTF (notTF (tstF (defF 3 (c ._law_is_sort) (consF (bin2 idxV (varF 0) (conF (.int 1))) (consF (varF 1) (consF (conF (.int 4)) nilF)))))) (notTF (tstF (isiF "tuple" (bin2 idxV (varF 0) (conF (.int 2))))))) (retF (conF (.bl false))) nextF)
  (seqF (asgF (bin2 idxV (varF 0) (conF (.int 1))) (nameG 2))
  (seqF (ifF (tstF (bin2 eqV (bin2 idxV (varF 2) (conF (.int 0))) (conF (.str s_must)))) (asgF (bin2 idxV (varF 2) (conF (.int 1))) (nameG 2)) nextF)
  (seqF (asgF (lstF (consF (tupF nilF) nilF)) (nameG 3))
  (seqF (ifF (tstF (bin2 eqV (bin2 idxV (varF 2) (conF (.int 0))) (conF (.str s_many)))) (asgF (lstF (consF (tupF nilF) (consF (tupF (consF (conF (.str s_first)) nilF)) (consF (tupF (consF (conF (.str s_skip)) nilF)) (consF (tupF (consF (conF (.str s_first)) (consF (conF (.str s_skip)) nilF))) nilF))))) (nameG 3)) nextF)
  (seqF (ifF (tstF (bin2 eqV (varF 2) (conF (.str s_number)))) (asgF (lstF (consF (tupF nilF) (consF (tupF (consF (conF (.str s_plus)) nilF)) nilF))) (nameG 3)) nextF)
  (retF (bin2 inV (bin2 idxV (varF 0) (conF (.int 2))) (varF 3))))))))))
def b__law_is_book_l1 (c : I → VFn) : SF := (seqF (ifF (orTF (notTF (tstF (defF 3 (c ._law_is_row) (consF (varF 3) (consF (conF (.int 1)) (consF (conF (.int 5)) nilF)))))) (tstF (bin2 neV (compF (itF itemsA (varF 3)) (nameG 6) (notTF (tstF (defF 2 (c ._law_is_field) (consF (varF 6) (consF (varF 1) nilF))))) (varF 6) [6]) (lstF nilF)))) (retF (conF (.bl false))) nextF)
  (seqF (asgF (compF (itF itemsA (varF 3)) (nameG 7) yesT (bin2 idxV (varF 7) (conF (.int 0))) [7]) (nameG 4))
  (ifF (tstF (bin2 neV (varF 4) (ssortF (varF 4)))) (retF (conF (.bl false))) nextF)))
/-- slots: 0=_law_thing 1=_law_names 2=_law_kind 3=_law_fields 4=_law_words 5=_law_part 6=_law_one 7=_law_field -/
def b__law_is_book (c : I → VFn) : SF := (seqF (ifF (notTF (tstF (defF 3 (c ._law_is_row) (consF (varF 0) (consF (conF (.int 1)) (consF (conF (.int 4)) nilF)))))) (retF (conF (.bl false))) nextF)
  (seqF (ifF (tstF (bin2 neV (compF (itF itemsA (varF 0)) (nameG 5) (orTF (notTF (tstF (defF 3 (c ._law_is_row) (consF (varF 5) (consF (conF (.int 2)) (consF (conF (.int 2)) nilF)))))) (notTF (tstF (defF 1 (c ._law_is_kind) (consF (bin2 idxV (varF 5) (conF (.int 0))) nilF))))) (varF 5) [5]) (lstF nilF))) (retF (conF (.bl false))) nextF)
  (seqF (asgF (compF (itF itemsA (varF 0)) (nameG 5) yesT (bin2 idxV (varF 5) (conF (.int 0))) [5]) (nameG 1))
  (seqF (ifF (orTF (tstF (bin2 neV (varF 1) (ssortF (varF 1)))) (tstF (bin2 notInV (conF (.str s_Root)) (varF 1)))) (retF (conF (.bl false))) nextF)
  (seqF (forF (itF itemsA (varF 0)) (tupG 2 (consG (nameG 2) (consG (nameG 3) nilG))) (b__law_is_book_l1 c))
  (retF (conF (.bl true))))))))
/-- slots: 0=_law_thing 1=_law_number_here 2=_law_deep 3=_law_at 4=_law_part 5=_law_some -/
def b__law_spoilt (c : I → VFn) : SF := (seqF (ifF (andTF (tstF (bin2 gtV (varF 2) (conF (.int 0)))) (andTF (tstF (isiF "tuple" (varF 0))) (andTF (tstF (bin2 gtV (callF lenV (consF (varF 0) nilF)) (conF (.int 0)))) (tstF (bin2 gtV (bin2 modV (varF 1) (conF (.int 6))) (conF (.int 0))))))) (seqF (asgF (bin2 modV (bin2 divV (varF 1) (conF (.int 6))) (callF lenV (consF (varF 0) nilF))) (nameG 3))
  (seqF (asgF (defF 3 (c ._law_spoilt) (consF (bin2 idxV (varF 0) (varF 3)) (consF (bin2 divV (defF 2 (c ._law_drawn) (consF (varF 1) (consF (varF 2) nilF))) (conF (.int 4))) (consF (bin2 subV (varF 2) (conF (.int 1))) nilF)))) (nameG 4))
  (retF (bin2 addV (bin2 addV (slcF (varF 0) noPF (parF (varF 3))) (tupF (consF (varF 4) nilF))) (slcF (varF 0) (parF (bin2 addV (varF 3) (conF (.int 1)))) noPF))))) nextF)
  (seqF (ifF (andTF (tstF (isiF "tuple" (varF 0))) (andTF (tstF (bin2 gtV (callF lenV (consF (varF 0) nilF)) (conF (.int 0)))) (tstF (bin2 eqV (bin2 modV (bin2 divV (varF 1) (conF (.int 6))) (conF (.int 2))) (conF (.int 0)))))) (retF (bin2 idxV (lstF (consF (callF listV (consF (varF 0) nilF)) (consF (slcF (varF 0) noPF (parF (conF (.int (-1))))) (consF (bin2 addV (varF 0) (slcF (varF 0) (parF (conF (.int (-1)))) noPF)) (consF (slcF (varF 0) (parF (conF (.int 1))) noPF) (consF (m0F revV (varF 0)) (consF (tupF nilF) nilF))))))) (bin2 modV (bin2 divV (varF 1) (conF (.int 12))) (conF (.int 6))))) nextF)
  (seqF (ifF (andTF (tstF (isiF "str" (varF 0))) (tstF (bin2 eqV (bin2 modV (bin2 divV (varF 1) (conF (.int 6))) (conF (.int 2))) (conF (.int 0))))) (retF (bin2 idxV (lstF (consF (bin2 addV (varF 0) (conF (.str s_a))) (consF (slcF (varF 0) (parF (conF (.int 1))) noPF) (consF (bin2 addV (varF 0) (conF (.str s_1))) (consF (conF (.str s_number)) (consF (m0F upV (varF 0)) (consF (conF (.str s_must)) nilF))))))) (bin2 modV (bin2 divV (varF 1) (conF (.int 12))) (conF (.int 6))))) nextF)
  (seqF (ifF (andTF (tstF (isiF "int" (varF 0))) (tstF (bin2 eqV (bin2 modV (bin2 divV (varF 1) (conF (.int 6))) (conF (.int 2))) (conF (.int 0))))) (retF (bin2 idxV (lstF (consF (callF strV (consF (varF 0) nilF)) (consF (bin2 subV (conF (.int 0)) (varF 0)) (consF (bin2 addV (varF 0) (conF (.int 1))) (consF (bin2 eqV (varF 0) (conF (.int 1))) (consF (bin2 subV (varF 0) (conF (.int 1))) (consF (bin2 addV (varF 0) (conF (.int 999))) nilF))))))) (bin2 modV (bin2 divV (varF 1) (conF (.int 12))) (conF (.int 6))))) nextF)
  (seqF (asgF (lstF (consF (conF .non) (consF (conF (.bl true)) (consF (conF (.bl false)) (consF (conF (.int 0)) (consF (conF (.int 1)) (consF (conF (.int 20)) (consF (conF (.int 21)) (consF (conF (.int (-1))) (consF (conF (.int 1000)) (consF (conF (.str s_nil)) (consF (conF (.str s_a)) (consF (conF (.str s_Root)) (consF (conF (.str s_piece)) (consF (tupF nilF) (consF (tupF (consF (conF (.int 0)) (consF (conF (.int 1)) nilF))) (consF (lstF nilF) nilF))))))))))))))))) (nameG 5))
  (retF (bin2 idxV (bin2 addV (varF 5) (lstF (consF (tupF (consF (conF (.str s_x21)) (consF (conF (.str s_a)) nilF))) (consF (tupF (consF (conF (.str s_hole)) (consF (conF (.str s_n)) nilF))) nilF)))) (bin2 modV (bin2 divV (varF 1) (conF (.int 6))) (conF (.int 18))))))))))
def b__law_edges_l1 (c : I → VFn) : SF := (asgF (bin2 idxV (tupF (consF (tupF (consF (conF (.str s_many)) (consF (varF 4) nilF))) (consF (tupF (consF (conF (.str s_must)) (consF (varF 4) nilF))) nilF))) (bin2 modV (bin2 divV (varF 0) (bin2 idxV (tupF (consF (conF (.int 256)) (consF (conF (.int 512)) (consF (conF (.int 1024)) (consF (conF (.int 2048)) nilF))))) (varF 5))) (conF (.int 2)))) (nameG 4))
/-- slots: 0=_law_number_here 1=_law_words 2=_law_fields 3=_law_kinds 4=_law_sort_here 5=_law_k 6=_law_takes_here 7=_law_found -/
def b__law_edges (c : I → VFn) : SF := (seqF (asgF (bin2 idxV (tupF (consF (conF (.str s_abcd)) (consF (conF (.str s_abcde)) (consF (conF (.str s_z)) (consF (conF (.str s_Z)) nilF))))) (bin2 modV (varF 0) (conF (.int 4)))) (nameG 1))
  (seqF (asgF (callF tupleV (consF (compF (itA range1 (consF (bin2 addV (conF (.int 4)) (bin2 modV (bin2 divV (varF 0) (conF (.int 4))) (conF (.int 3)))) nilF)) (nameG 5) yesT (tupF (consF (bin2 idxV (conF (.str s_abcdef)) (varF 5)) (consF (conF (.str s_number)) (consF (tupF nilF) nilF)))) [5]) nilF)) (nameG 2))
  (seqF (asgF (callF tupleV (consF (compF (itA range1 (consF (bin2 addV (conF (.int 3)) (bin2 modV (bin2 divV (varF 0) (conF (.int 16))) (conF (.int 3)))) nilF)) (nameG 5) yesT (tupF (consF (bin2 idxV (tupF (consF (conF (.str s_A)) (consF (conF (.str s_B)) (consF (conF (.str s_C)) (consF (conF (.str s_Root)) (consF (conF (.str s_S)) nilF)))))) (varF 5)) (consF (slcF (varF 2) noPF (parF (conF (.int 1)))) nilF))) [5]) nilF)) (nameG 3))
  (seqF (asgF (conF (.str s_number)) (nameG 4))
  (seqF (forF (itA range1 (consF (bin2 modV (bin2 divV (varF 0) (conF (.int 64))) (conF (.int 5))) nilF)) (nameG 5) (b__law_edges_l1 c))
  (seqF (asgF (bin2 idxV (tupF (consF (tupF nilF) (consF (tupF (consF (conF (.str s_first)) nilF)) (consF (tupF (consF (conF (.str s_plus)) nilF)) (consF (tupF (consF (conF (.str s_first)) (consF (conF (.str s_skip)) nilF))) (consF (tupF (consF (conF (.str s_skip)) (consF (conF (.str s_first)) nilF))) nilF)))))) (bin2 modV (bin2 divV (varF 0) (conF (.int 4096))) (conF (.int 5)))) (nameG 6))
  (seqF (asgF (lstNF (consF (tupF (consF (tupF (consF (conF (.str s_Root)) (consF (varF 2) nilF))) nilF)) (consF (varF 3) (consF (tupF (consF (tupF (consF (conF (.str s_Root)) (consF (tupF (consF (tupF (consF (varF 1) (consF (conF (.str s_text)) (consF (tupF nilF) nilF)))) nilF)) nilF))) nilF)) nilF)))) (nameG 7))
  (seqF (dropF (appF (varF 7) (tupF (consF (tupF (consF (conF (.str s_Root)) (consF (tupF (consF (tupF (consF (conF (.str s_a)) (consF (varF 4) (consF (varF 6) nilF)))) nilF)) nilF))) nilF))))
  (retF (bin2 addV (varF 7) (lstF (consF (tupF (consF (tupF (consF (bin2 addV (slcF (conF (.str s_Abcd)) noPF (parF (bin2 addV (conF (.int 1)) (bin2 modV (bin2 divV (varF 0) (conF (.int 32768))) (conF (.int 4)))))) (conF (.str s_e))) (consF (varF 2) nilF))) (consF (tupF (consF (conF (.str s_Root)) (consF (varF 2) nilF))) nilF))) nilF))))))))))))
def b_law_l1 (c : I → VFn) : SF := (seqF (asgF (defF 1 (c .is_book) (consF (varF 3) nilF)) (nameG 4))
  (ifF (orTF (notTF (tstF (isiF "bool" (varF 4)))) (tstF (bin2 neV (varF 4) (defF 1 (c ._law_is_book) (consF (varF 3) nilF))))) (retF (conF (.bl false))) nextF))
/-- slots: 0=_law_script 1=_law_number_here 2=_law_thing 3=_law_one 4=_law_got -/
def b_law (c : I → VFn) : SF := (seqF (asgF (defF 2 (c ._law_mixed) (consF (varF 0) (consF (conF (.int 0)) nilF))) (nameG 1))
  (seqF (asgF (defF 1 (c ._law_book) (consF (defF 2 (c ._law_mixed) (consF (varF 0) (consF (conF (.int 1)) nilF))) nilF)) (nameG 2))
  (seqF (ifF (tstF (bin2 isNotV (defF 1 (c .is_book) (consF (varF 2) nilF)) (conF (.bl true)))) (retF (conF (.bl false))) nextF)
  (seqF (ifF (tstF (bin2 gtV (bin2 modV (varF 1) (conF (.int 3))) (conF (.int 0)))) (asgF (defF 3 (c ._law_spoilt) (consF (varF 2) (consF (defF 2 (c ._law_mixed) (consF (varF 0) (consF (conF (.int 2)) nilF))) (consF (bin2 modV (bin2 divV (varF 1) (conF (.int 4))) (conF (.int 6))) nilF)))) (nameG 2)) nextF)
  (seqF (forF (itF itemsA (bin2 addV (defF 1 (c ._law_edges) (consF (defF 2 (c ._law_mixed) (consF (varF 0) (consF (conF (.int 3)) nilF))) nilF)) (lstF (consF (varF 2) nilF)))) (nameG 3) (b_law_l1 c))
  (retF (conF (.bl true))))))))
/-- slots: 0=thing 1=low 2=high -/
def b_is_whole (c : I → VFn) : SF := (retF (andF (isiF "int" (varF 0)) (andF (notF (isiF "bool" (varF 0))) (chainF leV leV (varF 1) (varF 0) (varF 2)))))
/-- slots: 0=base 1=thing 2=sign -/
def b_is_worth (c : I → VFn) : SF := (seqF (ifF (tstF (bin2 eqV (varF 0) (conF (.str s_number)))) (retF (defF 3 (c .is_whole) (consF (varF 1) (consF (m0F negV (conF (.int 999))) (consF (conF (.int 999)) nilF))))) nextF)
  (seqF (ifF (tstF (bin2 eqV (varF 0) (conF (.str s_truth)))) (retF (isiF "bool" (varF 1))) nextF)
  (retF (andF (isiF "str" (varF 1)) (andF (bin2 leV (callF lenV (consF (varF 1) nilF)) (conF (.int 6))) (callF allV (consF (compF (itF itemsA (varF 1)) (nameG 2) yesT (bin2 inV (varF 2) (conF (.str s_abcdefghijklmnopqrstuvwxyz))) [2]) nilF)))))))
/-- slots: 0=thing -/
def b_is_bad (c : I → VFn) : SF := (retF (andF (isiF "tuple" (varF 0)) (andF (bin2 eqV (callF lenV (consF (varF 0) nilF)) (conF (.int 2))) (andF (bin2 eqV (bin2 idxV (varF 0) (conF (.int 0))) (conF (.str s_x21))) (defF 1 (c .is_word) (consF (bin2 idxV (varF 0) (conF (.int 1))) nilF))))))
def k_is_value_1 (c : I → VFn) : EF := (compF (itF itemsA (varF 1)) (nameG 3) yesT (defF 3 (c .is_value) (consF (bin2 idxV (varF 0) (conF (.int 1))) (consF (varF 3) (consF (varF 2) nilF)))) [3])
def t_is_value_5 (c : I → VFn) : SF := (retF (callF allV (consF (k_is_value_1 c) nilF)))
def t_is_value_4 (c : I → VFn) : SF := (seqF (ifF (orTF (notTF (tstF (isiF "tuple" (varF 1)))) (tstF (bin2 gtV (callF lenV (consF (varF 1) nilF)) (conF (.int 4))))) (retF (conF (.bl false))) nextF) (t_is_value_5 c))
def t_is_value_3 (c : I → VFn) : SF := (seqF (ifF (tstF (bin2 eqV (bin2 idxV (varF 0) (conF (.int 0))) (conF (.str s_must)))) (retF (defF 3 (c .is_value) (consF (bin2 idxV (varF 0) (conF (.int 1))) (consF (varF 1) (consF (varF 2) nilF))))) nextF) (t_is_value_4 c))
def t_is_value_2 (c : I → VFn) : SF := (seqF (ifF (tstF (isiF "str" (varF 0))) (seqF (ifF (tstF (bin2 inV (varF 0) (conF (.wt [(.str s_number), (.str s_text), (.str s_truth)])))) (retF (defF 2 (c .is_worth) (consF (varF 0) (consF (varF 1) nilF)))) nextF)
  (retF (andF (defF 3 (c .is_whole) (consF (varF 1) (consF (conF (.int 0)) (consF (conF (.int 20)) nilF)))) (bin2 inV (tupF (consF (varF 0) (consF (varF 1) nilF))) (varF 2))))) nextF) (t_is_value_3 c))
/-- slots: 0=sort 1=thing 2=places 3=part -/
def b_is_value (c : I → VFn) : SF := (seqF (ifF (orTF (tstF (bin2 isV (varF 1) (conF .non))) (tstF (defF 1 (c .is_bad) (consF (varF 1) nilF)))) (retF (conF (.bl true))) nextF) (t_is_value_2 c))
def k_is_place_1 (c : I → VFn) : EF := (compF (itF itemsA (bin2 idxV (varF 1) (conF (.int 2)))) (nameG 2) yesT (andF (isiF "tuple" (varF 2)) (bin2 eqV (callF lenV (consF (varF 2) nilF)) (conF (.int 2)))) [2])
/-- slots: 0=book 1=thing 2=pair -/
def b_is_place (c : I → VFn) : SF := (seqF (ifF (orTF (notTF (tstF (isiF "tuple" (varF 1)))) (orTF (tstF (bin2 neV (callF lenV (consF (varF 1) nilF)) (conF (.int 3)))) (notTF (tstF (isiF "str" (bin2 idxV (varF 1) (conF (.int 0)))))))) (retF (conF (.bl false))) nextF)
  (seqF (ifF (orTF (tstF (bin2 notInV (bin2 idxV (varF 1) (conF (.int 0))) (callF dictV (consF (varF 0) nilF)))) (notTF (tstF (defF 3 (c .is_whole) (consF (bin2 idxV (varF 1) (conF (.int 1))) (consF (conF (.int 0)) (consF (conF (.int 20)) nilF))))))) (retF (conF (.bl false))) nextF)
  (retF (andF (isiF "tuple" (bin2 idxV (varF 1) (conF (.int 2)))) (callF allV (consF (k_is_place_1 c) nilF))))))
def b_are_values_l1 (c : I → VFn) : SF := (ifF (orTF (notTF (tstF (isiF "str" (bin2 idxV (varF 4) (conF (.int 0)))))) (orTF (tstF (bin2 neV (bin2 idxV (varF 4) (conF (.int 0))) (bin2 idxV (varF 3) (conF (.int 0))))) (notTF (tstF (defF 3 (c .is_value) (consF (bin2 idxV (varF 3) (conF (.int 1))) (consF (bin2 idxV (varF 4) (conF (.int 1))) (consF (varF 2) nilF)))))))) (retF (conF (.bl false))) nextF)
/-- slots: 0=fields 1=pairs 2=places 3=field 4=pair -/
def b_are_values (c : I → VFn) : SF := (seqF (ifF (tstF (bin2 neV (callF lenV (consF (varF 0) nilF)) (callF lenV (consF (varF 1) nilF)))) (retF (conF (.bl false))) nextF)
  (seqF (forF (itA2 zipLL (consF (varF 0) (consF (varF 1) nilF))) (tupG 2 (consG (nameG 3) (consG (nameG 4) nilG))) (b_are_values_l1 c))
  (retF (conF (.bl true)))))
def k_is_world_1 (c : I → VFn) : EF := (compF (itF itemsA (varF 1)) (nameG 3) yesT (defF 2 (c .is_place) (consF (varF 0) (consF (varF 3) nilF))) [3])
def k_is_world_2 (c : I → VFn) : EF := (compF (itF itemsA (varF 1)) (nameG 3) yesT (slcF (varF 3) noPF (parF (conF (.int 2)))) [3])
def k_is_world_3 (c : I → VFn) : EF := (compF (itF itemsA (varF 1)) (nameG 3) yesT (defF 3 (c .are_values) (consF (bin2 idxV (callF dictV (consF (varF 0) nilF)) (bin2 idxV (varF 3) (conF (.int 0)))) (consF (bin2 idxV (varF 3) (conF (.int 2))) (consF (varF 2) nilF)))) [3])
def t_is_world_4 (c : I → VFn) : SF := (retF (callF allV (consF (k_is_world_3 c) nilF)))
def t_is_world_3 (c : I → VFn) : SF := (seqF (ifF (orTF (notTF (tstF (defF 1 (c .rises) (consF (varF 2) nilF)))) (tstF (bin2 notInV (tupF (consF (conF (.str s_Root)) (consF (conF (.int 0)) nilF))) (varF 2)))) (retF (conF (.bl false))) nextF) (t_is_world_4 c))
def t_is_world_2 (c : I → VFn) : SF := (seqF (asgF (k_is_world_2 c) (nameG 2)) (t_is_world_3 c))
/-- slots: 0=book 1=thing 2=places 3=part -/
def b_is_world (c : I → VFn) : SF := (seqF (ifF (orTF (notTF (tstF (isiF "tuple" (varF 1)))) (notTF (tstF (callF allV (consF (k_is_world_1 c) nilF))))) (retF (conF (.bl false))) nextF) (t_is_world_2 c))
def k__law_value_1 (c : I → VFn) : EF := (compF (itA range1 (consF (bin2 modV (varF 3) (conF (.int 4))) nilF)) (nameG 5) yesT (defF 3 (c ._law_value) (consF (bin2 idxV (varF 0) (conF (.int 1))) (consF (bin2 divV (defF 2 (c ._law_drawn) (consF (varF 3) (consF (varF 5) nilF))) (conF (.int 4))) (consF (varF 2) nilF)))) [5])
def k__law_value_2 (c : I → VFn) : EF := (compF (itF itemsA (varF 2)) (nameG 6) (tstF (bin2 eqV (bin2 idxV (varF 6) (conF (.int 0))) (varF 0))) (bin2 idxV (varF 6) (conF (.int 1))) [6])
def t__law_value_11 (c : I → VFn) : SF := (retF (bin2 idxV (varF 4) (bin2 modV (varF 3) (callF lenV (consF (varF 4) nilF)))))
def t__law_value_10 (c : I → VFn) : SF := (seqF (ifF (tstF (bin2 eqV (varF 4) (lstF nilF))) (retF (conF .non)) nextF) (t__law_value_11 c))
def t__law_value_9 (c : I → VFn) : SF := (seqF (asgF (k__law_value_2 c) (nameG 4)) (t__law_value_10 c))
def t__law_value_8 (c : I → VFn) : SF := (seqF (ifF (tstF (bin2 eqV (varF 0) (conF (.str s_text)))) (retF (slcF (conF (.str s_abcdefg)) (parF (bin2 modV (varF 3) (conF (.int 5)))) (parF (bin2 addV (bin2 modV (varF 3) (conF (.int 5))) (bin2 modV (bin2 divV (varF 3) (conF (.int 8))) (conF (.int 4))))))) nextF) (t__law_value_9 c))
def t__law_value_7 (c : I → VFn) : SF := (seqF (ifF (tstF (bin2 eqV (varF 0) (conF (.str s_truth)))) (retF (bin2 eqV (bin2 modV (varF 3) (conF (.int 2))) (conF (.int 0)))) nextF) (t__law_value_8 c))
def t__law_value_6 (c : I → VFn) : SF := (seqF (ifF (tstF (bin2 eqV (varF 0) (conF (.str s_number)))) (retF (bin2 subV (bin2 modV (varF 3) (bin2 idxV (tupF (consF (conF (.int 3)) (consF (conF (.int 21)) (consF (conF (.int 1999)) nilF)))) (bin2 modV (bin2 divV (varF 3) (conF (.int 4096))) (conF (.int 3))))) (bin2 idxV (tupF (consF (conF (.int 1)) (consF (conF (.int 10)) (consF (conF (.int 999)) nilF)))) (bin2 modV (bin2 divV (varF 3) (conF (.int 4096))) (conF (.int 3)))))) nextF) (t__law_value_7 c))
def t__law_value_5 (c : I → VFn) : SF := (seqF (ifF (tstF (bin2 eqV (bin2 idxV (varF 0) (conF (.int 0))) (conF (.str s_many)))) (retF (callF tupleV (consF (k__law_value_1 c) nilF))) nextF) (t__law_value_6 c))
def t__law_value_4 (c : I → VFn) : SF := (seqF (ifF (tstF (bin2 eqV (bin2 idxV (varF 0) (conF (.int 0))) (conF (.str s_must)))) (retF (defF 3 (c ._law_value) (consF (bin2 idxV (varF 0) (conF (.int 1))) (consF (varF 3) (consF (varF 2) nilF))))) nextF) (t__law_value_5 c))
def t__law_value_3 (c : I → VFn) : SF := (seqF (ifF (tstF (bin2 eqV (bin2 modV (varF 1) (conF (.int 11))) (conF (.int 0)))) (retF (tupF (consF (conF (.str s_x21)) (consF (bin2 idxV (tupF (consF (conF (.str s_lost)) (consF (conF (.str s_late)) (consF (conF (.str s_no)) nilF)))) (bin2 modV (varF 3) (conF (.int 3)))) nilF)))) nextF) (t__law_value_4 c))
def t__law_value_2 (c : I → VFn) : SF := (seqF (ifF (tstF (bin2 eqV (bin2 modV (varF 1) (conF (.int 7))) (conF (.int 0)))) (retF (conF .non)) nextF) (t__law_value_3 c))
/-- slots: 0=_law_sort_here 1=_law_number_here 2=_law_places 3=_law_drawn_here 4=_law_some 5=_law_k 6=_law_place -/
def b__law_value (c : I → VFn) : SF := (seqF (asgF (bin2 divV (defF 2 (c ._law_drawn) (consF (varF 1) (consF (conF (.int 3)) nilF))) (conF (.int 4))) (nameG 3)) (t__law_value_2 c))
def b__law_world_l1 (c : I → VFn) : SF := (seqF (asgF (tupF (consF (varF 4) (consF (bin2 modV (bin2 divV (defF 2 (c ._law_drawn) (consF (varF 1) (consF (bin2 addV (bin2 addV (conF (.int 20)) (bin2 mulV (conF (.int 4)) (varF 3))) (varF 6)) nilF))) (conF (.int 4))) (bin2 idxV (tupF (consF (conF (.int 21)) (consF (conF (.int 3)) nilF))) (bin2 modV (varF 1) (conF (.int 2))))) nilF))) (nameG 7))
  (ifF (tstF (bin2 notInV (varF 7) (varF 2))) (dropF (appF (varF 2) (varF 7))) nextF))
def b__law_world_l2 (c : I → VFn) : SF := (forF (itA range1 (consF (bin2 addV (bin2 modV (bin2 divV (defF 2 (c ._law_drawn) (consF (varF 1) (consF (varF 3) nilF))) (conF (.int 4))) (conF (.int 3))) (callF intV (consF (bin2 gtV (bin2 modV (varF 1) (conF (.int 5))) (conF (.int 0))) nilF))) nilF)) (nameG 6) (b__law_world_l1 c))
def b__law_world_l3 (c : I → VFn) : SF := (seqF (asgF (defF 3 (c ._law_value) (consF (varF 12) (consF (bin2 divV (defF 2 (c ._law_drawn) (consF (varF 1) (consF (bin2 addV (bin2 addV (conF (.int 60)) (bin2 mulV (conF (.int 6)) (varF 9))) (varF 3)) nilF))) (conF (.int 4))) (consF (varF 2) nilF)))) (nameG 14))
  (seqF (ifF (tstF (bin2 eqV (tupF (consF (varF 11) (consF (varF 12) nilF))) (tupF (consF (conF (.str s_self)) (consF (conF (.str s_Root)) nilF))))) (asgF (conF (.int 0)) (nameG 14)) nextF)
  (asgF (bin2 addV (varF 10) (tupF (consF (tupF (consF (varF 11) (consF (varF 14) nilF))) nilF))) (nameG 10))))
def b__law_world_l4 (c : I → VFn) : SF := (seqF (asgF (tupF nilF) (nameG 10))
  (seqF (forF (itA1 enumQ (consF (bin2 idxV (callF dictV (consF (varF 0) nilF)) (bin2 idxV (varF 7) (conF (.int 0)))) nilF)) (tupG 2 (consG (nameG 3) (consG (tupG 3 (consG (nameG 11) (consG (nameG 12) (consG (nameG 13) nilG)))) nilG))) (b__law_world_l3 c))
  (asgF (bin2 addV (varF 8) (tupF (consF (bin2 addV (varF 7) (tupF (consF (varF 10) nilF))) nilF))) (nameG 8))))
def t__law_world_5 (c : I → VFn) : SF := (retF (varF 8))
def t__law_world_4 (c : I → VFn) : SF := (seqF (forF (itA1 enumQ (consF (callF sortedA (consF (varF 2) nilF)) nilF)) (tupG 2 (consG (nameG 9) (consG (nameG 7) nilG))) (b__law_world_l4 c)) (t__law_world_5 c))
def t__law_world_3 (c : I → VFn) : SF := (seqF (asgF (tupF nilF) (nameG 8)) (t__law_world_4 c))
def t__law_world_2 (c : I → VFn) : SF := (seqF (forF (itA1 enumQ (consF (varF 0) nilF)) (tupG 2 (consG (nameG 3) (consG (tupG 2 (consG (nameG 4) (consG (nameG 5) nilG))) nilG))) (b__law_world_l2 c)) (t__law_world_3 c))
/-- slots: 0=_law_book_here 1=_law_number_here 2=_law_places 3=_law_k 4=_law_kind 5=_law_fields 6=_law_j 7=_law_place 8=_law_found 9=_law_at 10=_law_values 11=_law_name 12=_law_sort_here 13=_law_takes_here 14=_law_value_here -/
def b__law_world (c : I → VFn) : SF := (seqF (asgF (lstNF (consF (tupF (consF (conF (.str s_Root)) (consF (conF (.int 0)) nilF))) nilF)) (nameG 2)) (t__law_world_2 c))
/-- slots: 0=_law_thing 1=_law_low 2=_law_high -/
def b__law_number (c : I → VFn) : SF := (retF (andF (isiF "int" (varF 0)) (andF (notF (isiF "bool" (varF 0))) (chainF leV leV (varF 1) (varF 0) (varF 2)))))
/-- slots: 0=_law_base 1=_law_thing 2=_law_sign -/
def b__law_is_worth (c : I → VFn) : SF := (seqF (ifF (tstF (bin2 eqV (varF 0) (conF (.str s_number)))) (retF (defF 3 (c ._law_number) (consF (varF 1) (consF (conF (.int (-999))) (consF (conF (.int 999)) nilF))))) nextF)
  (seqF (ifF (tstF (bin2 eqV (varF 0) (conF (.str s_truth)))) (retF (isiF "bool" (varF 1))) nextF)
  (seqF (ifF (orTF (notTF (tstF (isiF "str" (varF 1)))) (tstF (bin2 gtV (callF lenV (consF (varF 1) nilF)) (conF (.int 6))))) (retF (conF (.bl false))) nextF)
  (retF (bin2 eqV (compF (itF itemsA (varF 1)) (nameG 2) (tstF (bin2 notInV (varF 2) (conF (.str s_abcdefghijklmnopqrstuvwxyz)))) (varF 2) [2]) (lstF nilF))))))
def k__law_is_value_1 (c : I → VFn) : EF := (compF (itF itemsA (varF 1)) (nameG 3) (notTF (tstF (defF 3 (c ._law_is_value) (consF (bin2 idxV (varF 0) (conF (.int 1))) (consF (varF 3) (consF (varF 2) nilF)))))) (varF 3) [3])
def t__law_is_value_5 (c : I → VFn) : SF := (retF (andF (defF 3 (c ._law_number) (consF (varF 1) (consF (conF (.int 0)) (consF (conF (.int 20)) nilF)))) (bin2 inV (tupF (consF (varF 0) (consF (varF 1) nilF))) (varF 2))))
def t__law_is_value_4 (c : I → VFn) : SF := (seqF (ifF (tstF (bin2 inV (bin2 idxV (varF 0) (conF (.int 0))) (conF (.str s_nt)))) (retF (defF 2 (c ._law_is_worth) (consF (varF 0) (consF (varF 1) nilF)))) nextF) (t__law_is_value_5 c))
def t__law_is_value_3 (c : I → VFn) : SF := (seqF (ifF (tstF (bin2 eqV (bin2 idxV (varF 0) (conF (.int 0))) (conF (.str s_many)))) (seqF (ifF (notTF (tstF (defF 3 (c ._law_is_row) (consF (varF 1) (consF (conF (.int 0)) (consF (conF (.int 4)) nilF)))))) (retF (conF (.bl false))) nextF)
  (retF (bin2 eqV (k__law_is_value_1 c) (lstF nilF)))) nextF) (t__law_is_value_4 c))
def t__law_is_value_2 (c : I → VFn) : SF := (seqF (ifF (tstF (bin2 eqV (bin2 idxV (varF 0) (conF (.int 0))) (conF (.str s_must)))) (retF (defF 3 (c ._law_is_value) (consF (bin2 idxV (varF 0) (conF (.int 1))) (consF (varF 1) (consF (varF 2) nilF))))) nextF) (t__law_is_value_3 c))
/-- slots: 0=_law_sort_here 1=_law_thing 2=_law_places 3=_law_part -/
def b__law_is_value (c : I → VFn) : SF := (seqF (ifF (orTF (tstF (bin2 isV (varF 1) (conF .non))) (andTF (tstF (defF 3 (c ._law_is_row) (consF (varF 1) (consF (conF (.int 2)) (consF (conF (.int 2)) nilF))))) (andTF (tstF (bin2 eqV (bin2 idxV (varF 1) (conF (.int 0))) (conF (.str s_x21)))) (tstF (defF 1 (c ._law_is_word) (consF (bin2 idxV (varF 1) (conF (.int 1))) nilF)))))) (retF (conF (.bl true))) nextF) (t__law_is_value_2 c))
def k__law_is_world_1 (c : I → VFn) : EF := (compF (itF itemsA (bin2 idxV (varF 2) (conF (.int 2)))) (nameG 9) (notTF (tstF (defF 3 (c ._law_is_row) (consF (varF 9) (consF (conF (.int 2)) (consF (conF (.int 2)) nilF)))))) (varF 9) [9])
def b__law_is_world_l1 (c : I → VFn) : SF := (seqF (ifF (orTF (notTF (tstF (defF 3 (c ._law_is_row) (consF (varF 2) (consF (conF (.int 3)) (consF (conF (.int 3)) nilF)))))) (orTF (notTF (tstF (isiF "str" (bin2 idxV (varF 2) (conF (.int 0)))))) (tstF (bin2 notInV (bin2 idxV (varF 2) (conF (.int 0))) (callF dictV (consF (varF 0) nilF)))))) (retF (conF (.bl false))) nextF)
  (seqF (ifF (orTF (notTF (tstF (defF 3 (c ._law_number) (consF (bin2 idxV (varF 2) (conF (.int 1))) (consF (conF (.int 0)) (consF (conF (.int 20)) nilF)))))) (notTF (tstF (isiF "tuple" (bin2 idxV (varF 2) (conF (.int 2))))))) (retF (conF (.bl false))) nextF)
  (ifF (tstF (bin2 neV (k__law_is_world_1 c) (lstF nilF))) (retF (conF (.bl false))) nextF)))
def k__law_is_world_2 (c : I → VFn) : EF := (compF (itF itemsA (varF 1)) (nameG 2) yesT (slcF (varF 2) noPF (parF (conF (.int 2)))) [2])
def b__law_is_world_l2 (c : I → VFn) : SF := (ifF (orTF (tstF (bin2 neV (bin2 idxV (varF 9) (conF (.int 0))) (bin2 idxV (varF 8) (conF (.int 0))))) (notTF (tstF (defF 3 (c ._law_is_value) (consF (bin2 idxV (varF 8) (conF (.int 1))) (consF (bin2 idxV (varF 9) (conF (.int 1))) (consF (varF 3) nilF))))))) (retF (conF (.bl false))) nextF)
def b__law_is_world_l3 (c : I → VFn) : SF := (seqF (asgF (bin2 idxV (callF dictV (consF (varF 0) nilF)) (varF 4)) (nameG 7))
  (seqF (ifF (tstF (bin2 neV (callF lenV (consF (varF 6) nilF)) (callF lenV (consF (varF 7) nilF)))) (retF (conF (.bl false))) nextF)
  (forF (itA2 zipLL (consF (varF 7) (consF (varF 6) nilF))) (tupG 2 (consG (nameG 8) (consG (nameG 9) nilG))) (b__law_is_world_l2 c))))
def t__law_is_world_6 (c : I → VFn) : SF := (retF (conF (.bl true)))
def t__law_is_world_5 (c : I → VFn) : SF := (seqF (forF (itF itemsA (varF 1)) (tupG 3 (consG (nameG 4) (consG (nameG 5) (consG (nameG 6) nilG)))) (b__law_is_world_l3 c)) (t__law_is_world_6 c))
def t__law_is_world_4 (c : I → VFn) : SF := (seqF (ifF (orTF (tstF (bin2 neV (varF 3) (ssortT (varF 3)))) (tstF (bin2 notInV (tupF (consF (conF (.str s_Root)) (consF (conF (.int 0)) nilF))) (varF 3)))) (retF (conF (.bl false))) nextF) (t__law_is_world_5 c))
def t__law_is_world_3 (c : I → VFn) : SF := (seqF (asgF (k__law_is_world_2 c) (nameG 3)) (t__law_is_world_4 c))
def t__law_is_world_2 (c : I → VFn) : SF := (seqF (forF (itF itemsA (varF 1)) (nameG 2) (b__law_is_world_l1 c)) (t__law_is_world_3 c))
/-- slots: 0=_law_book_here 1=_law_thing 2=_law_part 3=_law_places 4=_law_kind 5=_law_number_here 6=_law_values 7=_law_fields 8=_law_field 9=_law_pair -/
def b__law_is_world (c : I → VFn) : SF := (seqF (ifF (notTF (tstF (isiF "tuple" (varF 1)))) (retF (conF (.bl false))) nextF) (t__law_is_world_2 c))
def t__law_edges_v2_9 (c : I → VFn) : SF := (retF (lstF (consF (tupF (consF (varF 5) (consF (varF 7) nilF))) (consF (tupF (consF (varF 5) (consF (slcF (varF 7) (parF (conF (.int 1))) noPF) nilF))) (consF (tupF (consF (varF 5) (consF (slcF (varF 7) noPF (parF (conF (.int 1)))) nilF))) nilF)))))
def t__law_edges_v2_8 (c : I → VFn) : SF := (seqF (asgF (tupF (consF (tupF (consF (conF (.str s_Root)) (consF (conF (.int 0)) (consF (tupF (consF (tupF (consF (conF (.str s_a)) (consF (varF 4) nilF))) nilF)) nilF)))) (consF (tupF (consF (conF (.str s_Root)) (consF (varF 6) (consF (tupF (consF (tupF (consF (conF (.str s_a)) (consF (conF .non) nilF))) nilF)) nilF)))) nilF))) (nameG 7)) (t__law_edges_v2_9 c))
def t__law_edges_v2_7 (c : I → VFn) : SF := (seqF (asgF (bin2 addV (conF (.int 19)) (bin2 modV (bin2 divV (varF 0) (conF (.int 8192))) (conF (.int 3)))) (nameG 6)) (t__law_edges_v2_8 c))
def t__law_edges_v2_6 (c : I → VFn) : SF := (seqF (asgF (tupF (consF (tupF (consF (conF (.str s_Root)) (consF (tupF (consF (tupF (consF (conF (.str s_a)) (consF (varF 1) (consF (tupF nilF) nilF)))) nilF)) nilF))) nilF)) (nameG 5)) (t__law_edges_v2_7 c))
def t__law_edges_v2_5 (c : I → VFn) : SF := (seqF (asgF (bin2 idxV (bin2 addV (varF 2) (varF 3)) (bin2 modV (bin2 divV (varF 0) (conF (.int 64))) (conF (.int 16)))) (nameG 4)) (t__law_edges_v2_6 c))
def t__law_edges_v2_4 (c : I → VFn) : SF := (seqF (asgF (bin2 addV (varF 3) (tupF (consF (tupF nilF) (consF (tupF (consF (tupF nilF) (consF (tupF (consF (conF (.str s_a)) nilF)) nilF))) (consF (tupF (consF (conF (.str s_x21)) (consF (conF (.str s_no)) nilF))) (consF (tupF (consF (conF (.str s_x21)) nilF)) nilF)))))) (nameG 3)) (t__law_edges_v2_5 c))
def t__law_edges_v2_3 (c : I → VFn) : SF := (seqF (asgF (tupF (consF (bin2 addV (slcF (conF (.str s_abcdef)) noPF (parF (bin2 addV (conF (.int 5)) (bin2 modV (bin2 divV (varF 0) (conF (.int 8))) (conF (.int 2)))))) (conF (.str s_g))) (consF (conF (.str s_nil)) (consF (conF (.str s_A)) (consF (bin2 subV (conF (.int (-998))) (bin2 modV (bin2 divV (varF 0) (conF (.int 8))) (conF (.int 3)))) nilF))))) (nameG 3)) (t__law_edges_v2_4 c))
def t__law_edges_v2_2 (c : I → VFn) : SF := (seqF (asgF (tupF (consF (conF .non) (consF (tupF (consF (conF (.str s_x21)) (consF (conF (.str s_abcd)) nilF))) (consF (tupF (consF (conF (.str s_x21)) (consF (conF (.str s_abcde)) nilF))) (consF (bin2 mulV (tupF (consF (conF (.int 1)) nilF)) (bin2 addV (conF (.int 3)) (bin2 modV (bin2 divV (varF 0) (conF (.int 8))) (conF (.int 3))))) (consF (bin2 addV (conF (.int 998)) (bin2 modV (bin2 divV (varF 0) (conF (.int 8))) (conF (.int 3)))) (consF (conF (.bl true)) (consF (conF (.int 0)) (consF (conF (.int 1)) nilF))))))))) (nameG 2)) (t__law_edges_v2_3 c))
/-- slots: 0=_law_number_here 1=_law_sort_here 2=_law_values 3=_law_more 4=_law_value_here 5=_law_book_here 6=_law_last 7=_law_world_here -/
def b__law_edges_v2 (c : I → VFn) : SF := (seqF (asgF (bin2 idxV (tupF (consF (tupF (consF (conF (.str s_many)) (consF (conF (.str s_number)) nilF))) (consF (conF (.str s_number)) (consF (conF (.str s_text)) (consF (tupF (consF (conF (.str s_must)) (consF (conF (.str s_truth)) nilF))) (consF (conF (.str s_Root)) (consF (tupF (consF (conF (.str s_many)) (consF (tupF (consF (conF (.str s_many)) (consF (conF (.str s_text)) nilF))) nilF))) nilF))))))) (bin2 modV (varF 0) (conF (.int 6)))) (nameG 1)) (t__law_edges_v2_2 c))
def b_law_v2_l1 (c : I → VFn) : SF := (seqF (asgF (defF 2 (c .is_world) (consF (varF 4) (consF (varF 5) nilF))) (nameG 6))
  (ifF (orTF (notTF (tstF (isiF "bool" (varF 6)))) (tstF (bin2 neV (varF 6) (defF 2 (c ._law_is_world) (consF (varF 4) (consF (varF 5) nilF)))))) (retF (conF (.bl false))) nextF))
def t_law_v2_7 (c : I → VFn) : SF := (retF (conF (.bl true)))
def t_law_v2_6 (c : I → VFn) : SF := (seqF (forF (itF itemsA (bin2 addV (defF 1 (c ._law_edges_v2) (consF (defF 2 (c ._law_mixed) (consF (varF 0) (consF (conF (.int 4)) nilF))) nilF)) (lstF (consF (tupF (consF (varF 2) (consF (varF 3) nilF))) nilF)))) (tupG 2 (consG (nameG 4) (consG (nameG 5) nilG))) (b_law_v2_l1 c)) (t_law_v2_7 c))
def t_law_v2_5 (c : I → VFn) : SF := (seqF (ifF (tstF (bin2 gtV (bin2 modV (varF 1) (conF (.int 3))) (conF (.int 0)))) (asgF (defF 3 (c ._law_spoilt) (consF (varF 3) (consF (defF 2 (c ._law_mixed) (consF (varF 0) (consF (conF (.int 3)) nilF))) (consF (bin2 modV (bin2 divV (varF 1) (conF (.int 4))) (conF (.int 6))) nilF)))) (nameG 3)) nextF) (t_law_v2_6 c))
def t_law_v2_4 (c : I → VFn) : SF := (seqF (ifF (tstF (bin2 isNotV (defF 2 (c .is_world) (consF (varF 2) (consF (varF 3) nilF))) (conF (.bl true)))) (retF (conF (.bl false))) nextF) (t_law_v2_5 c))
def t_law_v2_3 (c : I → VFn) : SF := (seqF (asgF (defF 2 (c ._law_world) (consF (varF 2) (consF (defF 2 (c ._law_mixed) (consF (varF 0) (consF (conF (.int 2)) nilF))) nilF))) (nameG 3)) (t_law_v2_4 c))
def t_law_v2_2 (c : I → VFn) : SF := (seqF (asgF (defF 1 (c ._law_book) (consF (defF 2 (c ._law_mixed) (consF (varF 0) (consF (conF (.int 1)) nilF))) nilF)) (nameG 2)) (t_law_v2_3 c))
/-- slots: 0=_law_script 1=_law_number_here 2=_law_book_here 3=_law_thing 4=_law_its 5=_law_one 6=_law_got -/
def b_law_v2 (c : I → VFn) : SF := (seqF (asgF (defF 2 (c ._law_mixed) (consF (varF 0) (consF (conF (.int 0)) nilF))) (nameG 1)) (t_law_v2_2 c))
/-- slots: 0=thing -/
def b_is_hole (c : I → VFn) : SF := (retF (andF (isiF "tuple" (varF 0)) (andF (bin2 eqV (callF lenV (consF (varF 0) nilF)) (conF (.int 2))) (andF (bin2 eqV (bin2 idxV (varF 0) (conF (.int 0))) (conF (.str s_hole))) (defF 1 (c .is_word) (consF (bin2 idxV (varF 0) (conF (.int 1))) nilF))))))
/-- slots: 0=thing -/
def b_is_told_hole (c : I → VFn) : SF := (seqF (ifF (orTF (notTF (tstF (isiF "tuple" (varF 0)))) (orTF (tstF (bin2 neV (callF lenV (consF (varF 0) nilF)) (conF (.int 3)))) (notTF (tstF (defF 1 (c .is_word) (consF (bin2 idxV (varF 0) (conF (.int 0))) nilF)))))) (retF (conF (.bl false))) nextF)
  (seqF (ifF (orTF (notTF (tstF (isiF "str" (bin2 idxV (varF 0) (conF (.int 1)))))) (tstF (bin2 notInV (bin2 idxV (varF 0) (conF (.int 1))) (conF (.wt [(.str s_number), (.str s_text), (.str s_truth)]))))) (retF (conF (.bl false))) nextF)
  (retF (orF (bin2 isV (bin2 idxV (varF 0) (conF (.int 2))) (conF .non)) (defF 2 (c .is_worth) (consF (bin2 idxV (varF 0) (conF (.int 1))) (consF (bin2 idxV (varF 0) (conF (.int 2))) nilF)))))))
/-- slots: 0=thing 1=base -/
def b_is_arg (c : I → VFn) : SF := (seqF (ifF (orTF (notTF (tstF (isiF "tuple" (varF 0)))) (orTF (tstF (bin2 neV (callF lenV (consF (varF 0) nilF)) (conF (.int 2)))) (orTF (notTF (tstF (isiF "str" (bin2 idxV (varF 0) (conF (.int 0)))))) (tstF (bin2 notInV (bin2 idxV (varF 0) (conF (.int 0))) (conF (.wt [(.str s_first), (.str s_plus), (.str s_skip)]))))))) (retF (conF (.bl false))) nextF)
  (retF (orF (defF 1 (c .is_hole) (consF (bin2 idxV (varF 0) (conF (.int 1))) nilF)) (callF anyV (consF (compF (itF itemsA (conF (.wt [(.str s_number), (.str s_text), (.str s_truth)]))) (nameG 1) yesT (defF 2 (c .is_worth) (consF (varF 1) (consF (bin2 idxV (varF 0) (conF (.int 1))) nilF))) [1]) nilF)))))
/-- slots: 0=thing 1=part -/
def b_are_args (c : I → VFn) : SF := (retF (andF (isiF "tuple" (varF 0)) (andF (callF allV (consF (compF (itF itemsA (varF 0)) (nameG 1) yesT (defF 1 (c .is_arg) (consF (varF 1) nilF)) [1]) nilF)) (defF 1 (c .rises) (consF (compF (itF itemsA (varF 0)) (nameG 1) yesT (bin2 idxV (varF 1) (conF (.int 0))) [1]) nilF)))))
/-- slots: 0=thing 1=deep -/
def b_is_want (c : I → VFn) : SF := (seqF (ifF (orTF (notTF (tstF (isiF "tuple" (varF 0)))) (orTF (tstF (bin2 eqV (callF lenV (consF (varF 0) nilF)) (conF (.int 0)))) (tstF (bin2 eqV (varF 1) (conF (.int 0)))))) (retF (conF (.bl false))) nextF)
  (seqF (ifF (tstF (bin2 eqV (bin2 idxV (varF 0) (conF (.int 0))) (conF (.str s_piece)))) (retF (andF (bin2 eqV (callF lenV (consF (varF 0) nilF)) (conF (.int 2))) (defF 1 (c .is_word) (consF (bin2 idxV (varF 0) (conF (.int 1))) nilF)))) nextF)
  (seqF (ifF (orTF (tstF (bin2 neV (bin2 idxV (varF 0) (conF (.int 0))) (conF (.str s_field)))) (orTF (tstF (bin2 neV (callF lenV (consF (varF 0) nilF)) (conF (.int 6)))) (orTF (notTF (tstF (defF 1 (c .is_word) (consF (bin2 idxV (varF 0) (conF (.int 1))) nilF)))) (notTF (tstF (defF 1 (c .is_word) (consF (bin2 idxV (varF 0) (conF (.int 2))) nilF))))))) (retF (conF (.bl false))) nextF)
  (seqF (ifF (orTF (notTF (tstF (defF 1 (c .are_args) (consF (bin2 idxV (varF 0) (conF (.int 3))) nilF)))) (notTF (tstF (defF 2 (c .are_wants) (consF (bin2 idxV (varF 0) (conF (.int 4))) (consF (bin2 subV (varF 1) (conF (.int 1))) nilF)))))) (retF (conF (.bl false))) nextF)
  (retF (orF (bin2 isV (bin2 idxV (varF 0) (conF (.int 5))) (conF .non)) (orF (isiF "bool" (bin2 idxV (varF 0) (conF (.int 5)))) (defF 1 (c .is_hole) (consF (bin2 idxV (varF 0) (conF (.int 5))) nilF)))))))))
/-- slots: 0=thing 1=deep 2=part -/
def b_are_wants (c : I → VFn) : SF := (seqF (ifF (orTF (notTF (tstF (isiF "tuple" (varF 0)))) (tstF (bin2 gtV (callF lenV (consF (varF 0) nilF)) (conF (.int 5))))) (retF (conF (.bl false))) nextF)
  (retF (callF allV (consF (compF (itF itemsA (varF 0)) (nameG 2) yesT (defF 2 (c .is_want) (consF (varF 2) (consF (varF 1) nilF))) [2]) nilF))))
/-- slots: 0=thing -/
def b_is_piece (c : I → VFn) : SF := (seqF (ifF (orTF (notTF (tstF (isiF "tuple" (varF 0)))) (orTF (tstF (bin2 neV (callF lenV (consF (varF 0) nilF)) (conF (.int 3)))) (orTF (notTF (tstF (defF 1 (c .is_word) (consF (bin2 idxV (varF 0) (conF (.int 0))) nilF)))) (notTF (tstF (defF 1 (c .is_kind_name) (consF (bin2 idxV (varF 0) (conF (.int 1))) nilF))))))) (retF (conF (.bl false))) nextF)
  (retF (andF (defF 2 (c .are_wants) (consF (bin2 idxV (varF 0) (conF (.int 2))) (consF (conF (.int 5)) nilF))) (bin2 gtV (callF lenV (consF (bin2 idxV (varF 0) (conF (.int 2))) nilF)) (conF (.int 0))))))
/-- slots: 0=thing 1=part -/
def b_is_request (c : I → VFn) : SF := (seqF (ifF (orTF (notTF (tstF (isiF "tuple" (varF 0)))) (orTF (tstF (bin2 neV (callF lenV (consF (varF 0) nilF)) (conF (.int 3)))) (notTF (tstF (isiF "tuple" (bin2 idxV (varF 0) (conF (.int 0)))))))) (retF (conF (.bl false))) nextF)
  (seqF (ifF (orTF (notTF (tstF (callF allV (consF (compF (itF itemsA (bin2 idxV (varF 0) (conF (.int 0)))) (nameG 1) yesT (defF 1 (c .is_told_hole) (consF (varF 1) nilF)) [1]) nilF)))) (notTF (tstF (defF 1 (c .rises) (consF (compF (itF itemsA (bin2 idxV (varF 0) (conF (.int 0)))) (nameG 1) yesT (bin2 idxV (varF 1) (conF (.int 0))) [1]) nilF))))) (retF (conF (.bl false))) nextF)
  (seqF (ifF (orTF (notTF (tstF (defF 2 (c .are_wants) (consF (bin2 idxV (varF 0) (conF (.int 1))) (consF (conF (.int 5)) nilF))))) (tstF (bin2 eqV (callF lenV (consF (bin2 idxV (varF 0) (conF (.int 1))) nilF)) (conF (.int 0))))) (retF (conF (.bl false))) nextF)
  (seqF (ifF (orTF (notTF (tstF (isiF "tuple" (bin2 idxV (varF 0) (conF (.int 2)))))) (tstF (bin2 gtV (callF lenV (consF (bin2 idxV (varF 0) (conF (.int 2))) nilF)) (conF (.int 3))))) (retF (conF (.bl false))) nextF)
  (retF (andF (callF allV (consF (compF (itF itemsA (bin2 idxV (varF 0) (conF (.int 2)))) (nameG 1) yesT (defF 1 (c .is_piece) (consF (varF 1) nilF)) [1]) nilF)) (defF 1 (c .rises) (consF (compF (itF itemsA (bin2 idxV (varF 0) (conF (.int 2)))) (nameG 1) yesT (bin2 idxV (varF 1) (conF (.int 0))) [1]) nilF))))))))
def b__law_inner_l1 (c : I → VFn) : SF := (asgF (bin2 idxV (varF 0) (conF (.int 1))) (nameG 0))
/-- slots: 0=_law_sort_here -/
def b__law_inner (c : I → VFn) : SF := (seqF (whileF (tstF (isiF "tuple" (varF 0))) (b__law_inner_l1 c))
  (retF (varF 0)))
def b__law_args_l1 (c : I → VFn) : SF := (seqF (asgF (bin2 divV (defF 2 (c ._law_drawn) (consF (varF 1) (consF (varF 3) nilF))) (conF (.int 4))) (nameG 5))
  (ifF (tstF (bin2 gtV (bin2 modV (varF 5) (conF (.int 3))) (conF (.int 0)))) (seqF (asgF (bin2 idxV (tupF (consF (conF (.int 0)) (consF (conF (.int 1)) (consF (conF (.int 2)) (consF (conF (.int (-1))) (consF (conF (.int 3)) (consF (conF (.int 5)) (consF (tupF (consF (conF (.str s_hole)) (consF (conF (.str s_n)) nilF))) (consF (tupF (consF (conF (.str s_hole)) (consF (conF (.str s_n)) nilF))) nilF))))))))) (bin2 modV (bin2 divV (varF 5) (conF (.int 4))) (conF (.int 8)))) (nameG 6))
  (asgF (bin2 addV (varF 2) (tupF (consF (tupF (consF (varF 4) (consF (varF 6) nilF))) nilF))) (nameG 2))) nextF))
/-- slots: 0=_law_takes_here 1=_law_number_here 2=_law_found 3=_law_k 4=_law_take 5=_law_drawn_here 6=_law_worth -/
def b__law_args (c : I → VFn) : SF := (seqF (asgF (tupF nilF) (nameG 2))
  (seqF (forF (itA1 enumQ (consF (varF 0) nilF)) (tupG 2 (consG (nameG 3) (consG (nameG 4) nilG))) (b__law_args_l1 c))
  (retF (varF 2))))
def k__law_want_1 (c : I → VFn) : EF := (compF (itF itemsA (varF 4)) (tupG 3 (consG (nameG 8) (consG (nameG 17) (consG (nameG 16) nilG)))) (tstF (bin2 eqV (varF 17) (varF 1))) (varF 8) [8, 17, 16])
def k__law_want_2 (c : I → VFn) : EF := (compF (itF itemsA (bin2 idxV (callF dictV (consF (varF 0) nilF)) (varF 1))) (nameG 18) (orTF (tstF (bin2 gtV (varF 3) (conF (.int 1)))) (tstF (bin2 inV (bin2 idxV (defF 1 (c ._law_inner) (consF (bin2 idxV (varF 18) (conF (.int 1))) nilF)) (conF (.int 0))) (conF (.str s_nt))))) (varF 18) [18])
def k__law_want_3 (c : I → VFn) : EF := (compF (itF itemsA (varF 6)) (nameG 18) (andTF (tstF (bin2 notInV (bin2 idxV (defF 1 (c ._law_inner) (consF (bin2 idxV (varF 18) (conF (.int 1))) nilF)) (conF (.int 0))) (conF (.str s_nt)))) (tstF (bin2 neV (bin2 idxV (varF 18) (conF (.int 0))) (conF (.str s_self))))) (varF 18) [18])
def t__law_want_15 (c : I → VFn) : SF := (retF (tupF (consF (conF (.str s_field)) (consF (varF 13) (consF (varF 8) (consF (varF 12) (consF (varF 16) (consF (varF 14) nilF))))))))
def t__law_want_14 (c : I → VFn) : SF := (seqF (ifF (tstF (bin2 notInV (bin2 idxV (varF 15) (conF (.int 0))) (conF (.str s_nt)))) (asgF (defF 5 (c ._law_wants) (consF (varF 0) (consF (varF 15) (consF (bin2 divV (defF 2 (c ._law_drawn) (consF (varF 2) (consF (conF (.int 5)) nilF))) (conF (.int 4))) (consF (bin2 subV (varF 3) (conF (.int 1))) (consF (varF 4) nilF)))))) (nameG 16)) nextF) (t__law_want_15 c))
def t__law_want_13 (c : I → VFn) : SF := (seqF (asgF (tupF nilF) (nameG 16)) (t__law_want_14 c))
def t__law_want_12 (c : I → VFn) : SF := (seqF (asgF (defF 1 (c ._law_inner) (consF (varF 9) nilF)) (nameG 15)) (t__law_want_13 c))
def t__law_want_11 (c : I → VFn) : SF := (seqF (asgF (bin2 idxV (tupF (consF (conF .non) (consF (conF .non) (consF (conF .non) (consF (conF .non) (consF (conF (.bl true)) (consF (conF (.bl false)) (consF (tupF (consF (conF (.str s_hole)) (consF (conF (.str s_t)) nilF))) (consF (conF .non) nilF))))))))) (bin2 modV (bin2 divV (varF 2) (conF (.int 65536))) (conF (.int 8)))) (nameG 14)) (t__law_want_12 c))
def t__law_want_10 (c : I → VFn) : SF := (seqF (ifF (tstF (bin2 neV (varF 12) (tupF nilF))) (asgF (bin2 addV (bin2 addV (slcF (varF 8) noPF (parF (conF (.int 2)))) (conF (.str s_y))) (bin2 idxV (conF (.str s_abcdefghijklmnopqrstuvw)) (varF 11))) (nameG 13)) nextF) (t__law_want_11 c))
def t__law_want_9 (c : I → VFn) : SF := (seqF (asgF (bin2 idxV (tupF (consF (varF 8) (consF (bin2 addV (slcF (varF 8) noPF (parF (conF (.int 3)))) (conF (.str s_x))) nilF))) (bin2 divV (bin2 modV (bin2 divV (varF 2) (conF (.int 2048))) (conF (.int 3))) (conF (.int 2)))) (nameG 13)) (t__law_want_10 c))
def t__law_want_8 (c : I → VFn) : SF := (seqF (asgF (defF 2 (c ._law_args) (consF (varF 10) (consF (varF 11) nilF))) (nameG 12)) (t__law_want_9 c))
def t__law_want_7 (c : I → VFn) : SF := (seqF (asgF (bin2 modV (bin2 divV (varF 2) (conF (.int 512))) (bin2 idxV (tupF (consF (conF (.int 3)) (consF (conF (.int 23)) nilF))) (bin2 modV (bin2 divV (varF 2) (conF (.int 16384))) (conF (.int 2))))) (nameG 11)) (t__law_want_8 c))
def t__law_want_6 (c : I → VFn) : SF := (seqF (asgF (bin2 idxV (varF 6) (bin2 modV (bin2 divV (varF 2) (conF (.int 64))) (callF lenV (consF (varF 6) nilF)))) (tupG 3 (consG (nameG 8) (consG (nameG 9) (consG (nameG 10) nilG))))) (t__law_want_7 c))
def t__law_want_5 (c : I → VFn) : SF := (seqF (ifF (andTF (tstF (bin2 neV (varF 7) (lstF nilF))) (tstF (bin2 gtV (bin2 modV (bin2 divV (varF 2) (conF (.int 16))) (conF (.int 3))) (conF (.int 0))))) (asgF (varF 7) (nameG 6)) nextF) (t__law_want_6 c))
def t__law_want_4 (c : I → VFn) : SF := (seqF (asgF (k__law_want_3 c) (nameG 7)) (t__law_want_5 c))
def t__law_want_3 (c : I → VFn) : SF := (seqF (asgF (k__law_want_2 c) (nameG 6)) (t__law_want_4 c))
def t__law_want_2 (c : I → VFn) : SF := (seqF (ifF (andTF (tstF (bin2 eqV (bin2 modV (varF 2) (conF (.int 5))) (conF (.int 0)))) (tstF (bin2 neV (varF 5) (lstF nilF)))) (retF (tupF (consF (conF (.str s_piece)) (consF (bin2 idxV (varF 5) (bin2 modV (bin2 divV (varF 2) (conF (.int 8))) (callF lenV (consF (varF 5) nilF)))) nilF)))) nextF) (t__law_want_3 c))
/-- slots: 0=_law_book_here 1=_law_kind 2=_law_number_here 3=_law_deep 4=_law_pieces 5=_law_fitting 6=_law_fields 7=_law_deeper 8=_law_name 9=_law_sort_here 10=_law_takes_here 11=_law_way 12=_law_args_here 13=_law_key 14=_law_when 15=_law_goal 16=_law_wants_here 17=_law_of 18=_law_field -/
def b__law_want (c : I → VFn) : SF := (seqF (asgF (k__law_want_1 c) (nameG 5)) (t__law_want_2 c))
def k__law_wants_1 (c : I → VFn) : EF := (compF (itA range1 (consF (varF 5) nilF)) (nameG 6) yesT (defF 5 (c ._law_want) (consF (varF 0) (consF (varF 1) (consF (bin2 divV (defF 2 (c ._law_drawn) (consF (varF 2) (consF (bin2 addV (conF (.int 30)) (varF 6)) nilF))) (conF (.int 4))) (consF (varF 3) (consF (varF 4) nilF)))))) [6])
/-- slots: 0=_law_book_here 1=_law_kind 2=_law_number_here 3=_law_deep 4=_law_pieces 5=_law_many 6=_law_k -/
def b__law_wants (c : I → VFn) : SF := (seqF (asgF (bin2 addV (conF (.int 1)) (bin2 modV (varF 2) (conF (.int 3)))) (nameG 5))
  (retF (callF tupleV (consF (k__law_wants_1 c) nilF))))
def b__law_ask_l1 (c : I → VFn) : SF := (seqF (asgF (bin2 idxV (bin2 idxV (varF 0) (bin2 modV (bin2 divV (defF 2 (c ._law_drawn) (consF (varF 1) (consF (varF 4) nilF))) (conF (.int 4))) (callF lenV (consF (varF 0) nilF)))) (conF (.int 0))) (nameG 5))
  (seqF (asgF (defF 5 (c ._law_wants) (consF (varF 0) (consF (varF 5) (consF (bin2 divV (defF 2 (c ._law_drawn) (consF (varF 1) (consF (bin2 addV (conF (.int 10)) (varF 4)) nilF))) (conF (.int 4))) (consF (conF (.int 2)) (consF (varF 3) nilF)))))) (nameG 6))
  (asgF (bin2 addV (varF 3) (tupF (consF (tupF (consF (bin2 idxV (tupF (consF (conF (.str s_ab)) (consF (conF (.str s_p)) nilF))) (varF 4)) (consF (varF 5) (consF (varF 6) nilF)))) nilF))) (nameG 3))))
def b__law_ask_l2 (c : I → VFn) : SF := (seqF (asgF (bin2 divV (defF 2 (c ._law_drawn) (consF (varF 1) (consF (bin2 addV (conF (.int 20)) (varF 4)) nilF))) (conF (.int 4))) (nameG 10))
  (asgF (bin2 addV (varF 6) (defF 5 (c ._law_wants) (consF (varF 0) (consF (conF (.str s_Root)) (consF (varF 10) (consF (bin2 addV (conF (.int 2)) (bin2 modV (bin2 divV (varF 1) (conF (.int 256))) (bin2 subV (varF 2) (conF (.int 1))))) (consF (varF 3) nilF))))))) (nameG 6)))
def t__law_ask_10 (c : I → VFn) : SF := (retF (tupF (consF (varF 9) (consF (varF 6) (consF (varF 3) nilF)))))
def t__law_ask_9 (c : I → VFn) : SF := (seqF (asgF (slcF (varF 6) noPF (parF (bin2 addV (conF (.int 2)) (bin2 modV (bin2 divV (varF 1) (conF (.int 4096))) (conF (.int 4)))))) (nameG 6)) (t__law_ask_10 c))
def t__law_ask_8 (c : I → VFn) : SF := (seqF (forF (itA range1 (consF (conF (.int 2)) nilF)) (nameG 4) (b__law_ask_l2 c)) (t__law_ask_9 c))
def t__law_ask_7 (c : I → VFn) : SF := (seqF (asgF (tupF nilF) (nameG 6)) (t__law_ask_8 c))
def t__law_ask_6 (c : I → VFn) : SF := (seqF (ifF (tstF (bin2 eqV (bin2 modV (bin2 divV (varF 1) (conF (.int 64))) (conF (.int 3))) (conF (.int 0)))) (asgF (bin2 addV (varF 9) (tupF (consF (tupF (consF (conF (.str s_u)) (consF (conF (.str s_text)) (consF (conF (.str s_ab)) nilF)))) nilF))) (nameG 9)) nextF) (t__law_ask_7 c))
def t__law_ask_5 (c : I → VFn) : SF := (seqF (asgF (tupF (consF (tupF (consF (conF (.str s_n)) (consF (conF (.str s_number)) (consF (varF 7) nilF)))) (consF (tupF (consF (conF (.str s_t)) (consF (conF (.str s_truth)) (consF (varF 8) nilF)))) nilF))) (nameG 9)) (t__law_ask_6 c))
def t__law_ask_4 (c : I → VFn) : SF := (seqF (asgF (bin2 idxV (tupF (consF (conF .non) (consF (conF (.bl true)) (consF (conF (.bl false)) nilF)))) (bin2 modV (bin2 divV (varF 1) (conF (.int 16))) (conF (.int 3)))) (nameG 8)) (t__law_ask_5 c))
def t__law_ask_3 (c : I → VFn) : SF := (seqF (asgF (bin2 idxV (tupF (consF (conF .non) (consF (conF (.int 2)) (consF (conF (.int 1)) (consF (conF (.int 0)) nilF))))) (bin2 modV (bin2 divV (varF 1) (conF (.int 4))) (conF (.int 4)))) (nameG 7)) (t__law_ask_4 c))
def t__law_ask_2 (c : I → VFn) : SF := (seqF (forF (itA range1 (consF (bin2 modV (varF 1) (conF (.int 3))) nilF)) (nameG 4) (b__law_ask_l1 c)) (t__law_ask_3 c))
/-- slots: 0=_law_book_here 1=_law_number_here 2=_law_deep 3=_law_pieces 4=_law_k 5=_law_kind 6=_law_wants_here 7=_law_first 8=_law_second 9=_law_holes 10=_law_drawn_here -/
def b__law_ask (c : I → VFn) : SF := (seqF (asgF (tupF nilF) (nameG 3)) (t__law_ask_2 c))
/-- slots: 0=_law_thing -/
def b__law_is_hole (c : I → VFn) : SF := (retF (andF (defF 3 (c ._law_is_row) (consF (varF 0) (consF (conF (.int 2)) (consF (conF (.int 2)) nilF)))) (andF (bin2 eqV (bin2 idxV (varF 0) (conF (.int 0))) (conF (.str s_hole))) (defF 1 (c ._law_is_word) (consF (bin2 idxV (varF 0) (conF (.int 1))) nilF)))))
def b__law_are_args_l1 (c : I → VFn) : SF := (seqF (ifF (orTF (notTF (tstF (isiF "str" (varF 1)))) (tstF (bin2 notInV (varF 1) (tupF (consF (conF (.str s_first)) (consF (conF (.str s_plus)) (consF (conF (.str s_skip)) nilF))))))) (retF (conF (.bl false))) nextF)
  (seqF (asgF (compF (itF itemsA (tupF (consF (conF (.str s_number)) (consF (conF (.str s_text)) (consF (conF (.str s_truth)) nilF))))) (nameG 6) (tstF (defF 2 (c ._law_is_worth) (consF (varF 6) (consF (varF 2) nilF)))) (varF 6) [6]) (nameG 3))
  (ifF (andTF (tstF (bin2 eqV (varF 3) (lstF nilF))) (notTF (tstF (defF 1 (c ._law_is_hole) (consF (varF 2) nilF))))) (retF (conF (.bl false))) nextF)))
/-- slots: 0=_law_thing 1=_law_take 2=_law_worth 3=_law_good 4=_law_takes_here 5=_law_part 6=_law_base -/
def b__law_are_args (c : I → VFn) : SF := (seqF (ifF (orTF (notTF (tstF (isiF "tuple" (varF 0)))) (tstF (bin2 neV (compF (itF itemsA (varF 0)) (nameG 5) (notTF (tstF (defF 3 (c ._law_is_row) (consF (varF 5) (consF (conF (.int 2)) (consF (conF (.int 2)) nilF)))))) (varF 5) [5]) (lstF nilF)))) (retF (conF (.bl false))) nextF)
  (seqF (forF (itF itemsA (varF 0)) (tupG 2 (consG (nameG 1) (consG (nameG 2) nilG))) (b__law_are_args_l1 c))
  (seqF (asgF (compF (itF itemsA (varF 0)) (nameG 5) yesT (bin2 idxV (varF 5) (conF (.int 0))) [5]) (nameG 4))
  (retF (bin2 eqV (varF 4) (ssortF (varF 4)))))))
def b__law_are_wants_l1 (c : I → VFn) : SF := (seqF (ifF (orTF (notTF (tstF (isiF "tuple" (varF 2)))) (orTF (tstF (bin2 eqV (varF 2) (tupF nilF))) (notTF (tstF (isiF "str" (bin2 idxV (varF 2) (conF (.int 0)))))))) (retF (conF (.bl false))) nextF)
  (ifF (tstF (bin2 eqV (bin2 idxV (varF 2) (conF (.int 0))) (conF (.str s_piece)))) (ifF (orTF (tstF (bin2 neV (callF lenV (consF (varF 2) nilF)) (conF (.int 2)))) (notTF (tstF (defF 1 (c ._law_is_word) (consF (bin2 idxV (varF 2) (conF (.int 1))) nilF))))) (retF (conF (.bl false))) nextF) (seqF (ifF (orTF (tstF (bin2 neV (bin2 idxV (varF 2) (conF (.int 0))) (conF (.str s_field)))) (orTF (tstF (bin2 neV (callF lenV (consF (varF 2) nilF)) (conF (.int 6)))) (orTF (notTF (tstF (defF 1 (c ._law_is_word) (consF (bin2 idxV (varF 2) (conF (.int 1))) nilF)))) (notTF (tstF (defF 1 (c ._law_is_word) (consF (bin2 idxV (varF 2) (conF (.int 2))) nilF))))))) (retF (conF (.bl false))) nextF)
  (seqF (ifF (orTF (notTF (tstF (defF 1 (c ._law_are_args) (consF (bin2 idxV (varF 2) (conF (.int 3))) nilF)))) (notTF (tstF (defF 2 (c ._law_are_wants) (consF (bin2 idxV (varF 2) (conF (.int 4))) (consF (bin2 subV (varF 1) (conF (.int 1))) nilF)))))) (retF (conF (.bl false))) nextF)
  (ifF (andTF (tstF (bin2 isNotV (bin2 idxV (varF 2) (conF (.int 5))) (conF .non))) (andTF (notTF (tstF (isiF "bool" (bin2 idxV (varF 2) (conF (.int 5)))))) (notTF (tstF (defF 1 (c ._law_is_hole) (consF (bin2 idxV (varF 2) (conF (.int 5))) nilF)))))) (retF (conF (.bl false))) nextF)))))
/-- slots: 0=_law_thing 1=_law_deep 2=_law_want_here -/
def b__law_are_wants (c : I → VFn) : SF := (seqF (ifF (orTF (notTF (tstF (defF 3 (c ._law_is_row) (consF (varF 0) (consF (conF (.int 0)) (consF (conF (.int 5)) nilF)))))) (andTF (tstF (bin2 neV (varF 0) (tupF nilF))) (tstF (bin2 eqV (varF 1) (conF (.int 0)))))) (retF (conF (.bl false))) nextF)
  (seqF (forF (itF itemsA (varF 0)) (nameG 2) (b__law_are_wants_l1 c))
  (retF (conF (.bl true)))))
def b__law_is_ask_l1 (c : I → VFn) : SF := (seqF (ifF (orTF (notTF (tstF (defF 3 (c ._law_is_row) (consF (varF 1) (consF (conF (.int 3)) (consF (conF (.int 3)) nilF)))))) (notTF (tstF (defF 1 (c ._law_is_word) (consF (bin2 idxV (varF 1) (conF (.int 0))) nilF))))) (retF (conF (.bl false))) nextF)
  (seqF (ifF (orTF (notTF (tstF (isiF "str" (bin2 idxV (varF 1) (conF (.int 1)))))) (tstF (bin2 notInV (bin2 idxV (varF 1) (conF (.int 1))) (tupF (consF (conF (.str s_number)) (consF (conF (.str s_text)) (consF (conF (.str s_truth)) nilF))))))) (retF (conF (.bl false))) nextF)
  (ifF (andTF (tstF (bin2 isNotV (bin2 idxV (varF 1) (conF (.int 2))) (conF .non))) (notTF (tstF (defF 2 (c ._law_is_worth) (consF (bin2 idxV (varF 1) (conF (.int 1))) (consF (bin2 idxV (varF 1) (conF (.int 2))) nilF)))))) (retF (conF (.bl false))) nextF)))
def b__law_is_ask_l2 (c : I → VFn) : SF := (seqF (ifF (orTF (notTF (tstF (defF 3 (c ._law_is_row) (consF (varF 2) (consF (conF (.int 3)) (consF (conF (.int 3)) nilF)))))) (orTF (notTF (tstF (defF 1 (c ._law_is_word) (consF (bin2 idxV (varF 2) (conF (.int 0))) nilF)))) (notTF (tstF (defF 1 (c ._law_is_kind) (consF (bin2 idxV (varF 2) (conF (.int 1))) nilF)))))) (retF (conF (.bl false))) nextF)
  (ifF (orTF (notTF (tstF (defF 2 (c ._law_are_wants) (consF (bin2 idxV (varF 2) (conF (.int 2))) (consF (conF (.int 5)) nilF))))) (tstF (bin2 eqV (bin2 idxV (varF 2) (conF (.int 2))) (tupF nilF)))) (retF (conF (.bl false))) nextF))
/-- slots: 0=_law_thing 1=_law_hole 2=_law_piece 3=_law_names 4=_law_row -/
def b__law_is_ask (c : I → VFn) : SF := (seqF (ifF (orTF (notTF (tstF (defF 3 (c ._law_is_row) (consF (varF 0) (consF (conF (.int 3)) (consF (conF (.int 3)) nilF)))))) (orTF (notTF (tstF (isiF "tuple" (bin2 idxV (varF 0) (conF (.int 0)))))) (notTF (tstF (defF 3 (c ._law_is_row) (consF (bin2 idxV (varF 0) (conF (.int 2))) (consF (conF (.int 0)) (consF (conF (.int 3)) nilF)))))))) (retF (conF (.bl false))) nextF)
  (seqF (forF (itF itemsA (bin2 idxV (varF 0) (conF (.int 0)))) (nameG 1) (b__law_is_ask_l1 c))
  (seqF (ifF (orTF (notTF (tstF (defF 2 (c ._law_are_wants) (consF (bin2 idxV (varF 0) (conF (.int 1))) (consF (conF (.int 5)) nilF))))) (tstF (bin2 eqV (bin2 idxV (varF 0) (conF (.int 1))) (tupF nilF)))) (retF (conF (.bl false))) nextF)
  (seqF (forF (itF itemsA (bin2 idxV (varF 0) (conF (.int 2)))) (nameG 2) (b__law_is_ask_l2 c))
  (seqF (asgF (lstF (consF (compF (itF itemsA (bin2 idxV (varF 0) (conF (.int 0)))) (nameG 1) yesT (bin2 idxV (varF 1) (conF (.int 0))) [1]) (consF (compF (itF itemsA (bin2 idxV (varF 0) (conF (.int 2)))) (nameG 2) yesT (bin2 idxV (varF 2) (conF (.int 0))) [2]) nilF))) (nameG 3))
  (retF (bin2 eqV (compF (itF itemsA (varF 3)) (nameG 4) (tstF (bin2 neV (varF 4) (ssortF (varF 4)))) (varF 4) [4]) (lstF nilF))))))))
def b__law_edges_v3_l1 (c : I → VFn) : SF := (asgF (tupF (consF (tupF (consF (conF (.str s_field)) (consF (conF (.str s_a)) (consF (conF (.str s_a)) (consF (tupF nilF) (consF (varF 2) (consF (conF .non) nilF))))))) nilF)) (nameG 2))
def k__law_edges_v3_1 (c : I → VFn) : EF := (compF (itA range1 (consF (bin2 addV (conF (.int 2)) (bin2 modV (bin2 divV (varF 0) (conF (.int 2048))) (conF (.int 3)))) nilF)) (nameG 3) yesT (tupF (consF (bin2 idxV (conF (.str s_abcde)) (varF 3)) (consF (conF (.str s_Root)) (consF (tupF (consF (varF 1) nilF)) nilF)))) [3])
def t__law_edges_v3_12 (c : I → VFn) : SF := (retF (bin2 addV (varF 10) (lstF (consF (tupF (consF (tupF nilF) (consF (tupF nilF) (consF (tupF nilF) nilF)))) (consF (tupF (consF (tupF nilF) (consF (tupF (consF (tupF (consF (conF (.str s_piece)) (consF (bin2 addV (conF (.str s_abcd)) (bin2 mulV (conF (.str s_e)) (bin2 modV (bin2 divV (varF 0) (conF (.int 32768))) (conF (.int 2))))) nilF))) nilF)) (consF (tupF nilF) nilF)))) nilF)))))
def t__law_edges_v3_11 (c : I → VFn) : SF := (seqF (asgF (bin2 addV (varF 10) (lstF (consF (tupF (consF (tupF nilF) (consF (tupF (consF (tupF (consF (conF (.str s_field)) (consF (conF (.str s_v)) (consF (conF (.str s_v)) (consF (tupF nilF) (consF (tupF nilF) (consF (varF 7) nilF))))))) nilF)) (consF (tupF nilF) nilF)))) (consF (tupF (consF (tupF nilF) (consF (tupF (consF (varF 1) nilF)) (consF (varF 8) nilF)))) (consF (tupF (consF (varF 9) (consF (tupF (consF (varF 1) nilF)) (consF (tupF nilF) nilF)))) nilF))))) (nameG 10)) (t__law_edges_v3_12 c))
def t__law_edges_v3_10 (c : I → VFn) : SF := (seqF (asgF (lstF (consF (tupF (consF (tupF nilF) (consF (varF 2) (consF (tupF nilF) nilF)))) (consF (tupF (consF (tupF nilF) (consF (varF 4) (consF (tupF nilF) nilF)))) (consF (tupF (consF (tupF nilF) (consF (tupF (consF (tupF (consF (conF (.str s_field)) (consF (conF (.str s_v)) (consF (conF (.str s_v)) (consF (varF 6) (consF (tupF nilF) (consF (conF .non) nilF))))))) nilF)) (consF (tupF nilF) nilF)))) nilF)))) (nameG 10)) (t__law_edges_v3_11 c))
def t__law_edges_v3_9 (c : I → VFn) : SF := (seqF (asgF (tupF (consF (tupF (consF (conF (.str s_n)) (consF (bin2 idxV (tupF (consF (conF (.str s_number)) (consF (conF (.str s_text)) (consF (conF (.str s_truth)) nilF)))) (bin2 modV (bin2 divV (varF 0) (conF (.int 8192))) (conF (.int 3)))) (consF (varF 5) nilF)))) nilF)) (nameG 9)) (t__law_edges_v3_10 c))
def t__law_edges_v3_8 (c : I → VFn) : SF := (seqF (asgF (callF tupleV (consF (k__law_edges_v3_1 c) nilF)) (nameG 8)) (t__law_edges_v3_9 c))
def t__law_edges_v3_7 (c : I → VFn) : SF := (seqF (asgF (bin2 idxV (tupF (consF (conF (.bl true)) (consF (conF (.bl false)) (consF (conF .non) (consF (conF (.int 1)) (consF (tupF (consF (conF (.str s_hole)) (consF (conF (.str s_t)) nilF))) (consF (conF (.str s_t)) (consF (tupF (consF (conF (.str s_hole)) nilF)) nilF)))))))) (bin2 modV (bin2 divV (varF 0) (conF (.int 256))) (conF (.int 7)))) (nameG 7)) (t__law_edges_v3_8 c))
def t__law_edges_v3_6 (c : I → VFn) : SF := (seqF (asgF (tupF (consF (tupF (consF (bin2 idxV (tupF (consF (conF (.str s_first)) (consF (conF (.str s_plus)) (consF (conF (.str s_skip)) (consF (conF (.str s_more)) (consF (conF (.int 5)) (consF (conF .non) nilF))))))) (bin2 modV (bin2 divV (varF 0) (conF (.int 65536))) (conF (.int 6)))) (consF (varF 5) nilF))) nilF)) (nameG 6)) (t__law_edges_v3_7 c))
def t__law_edges_v3_5 (c : I → VFn) : SF := (seqF (asgF (bin2 idxV (tupF (consF (conF (.int 999)) (consF (conF (.int 1000)) (consF (conF (.str s_abcdef)) (consF (conF (.str s_abcdefg)) (consF (conF (.bl true)) (consF (conF .non) (consF (tupF (consF (conF (.str s_hole)) (consF (conF (.str s_abcd)) nilF))) (consF (tupF (consF (conF (.str s_hole)) (consF (conF (.str s_abcde)) nilF))) (consF (conF (.int (-999))) nilF)))))))))) (bin2 modV (bin2 divV (varF 0) (conF (.int 16))) (conF (.int 9)))) (nameG 5)) (t__law_edges_v3_6 c))
def t__law_edges_v3_4 (c : I → VFn) : SF := (seqF (asgF (bin2 mulV (tupF (consF (varF 1) nilF)) (bin2 addV (conF (.int 4)) (bin2 modV (bin2 divV (varF 0) (conF (.int 4))) (conF (.int 3))))) (nameG 4)) (t__law_edges_v3_5 c))
def t__law_edges_v3_3 (c : I → VFn) : SF := (seqF (forF (itA range1 (consF (bin2 addV (conF (.int 3)) (bin2 modV (varF 0) (conF (.int 3)))) nilF)) (nameG 3) (b__law_edges_v3_l1 c)) (t__law_edges_v3_4 c))
def t__law_edges_v3_2 (c : I → VFn) : SF := (seqF (asgF (tupF (consF (varF 1) nilF)) (nameG 2)) (t__law_edges_v3_3 c))
/-- slots: 0=_law_number_here 1=_law_leaf 2=_law_deep 3=_law_k 4=_law_wide 5=_law_worth 6=_law_args_here 7=_law_when 8=_law_pieces 9=_law_holes 10=_law_found -/
def b__law_edges_v3 (c : I → VFn) : SF := (seqF (asgF (tupF (consF (conF (.str s_field)) (consF (conF (.str s_v)) (consF (conF (.str s_v)) (consF (tupF nilF) (consF (tupF nilF) (consF (conF .non) nilF))))))) (nameG 1)) (t__law_edges_v3_2 c))
def b_law_v3_l1 (c : I → VFn) : SF := (seqF (asgF (defF 1 (c .is_request) (consF (varF 4) nilF)) (nameG 5))
  (ifF (orTF (notTF (tstF (isiF "bool" (varF 5)))) (tstF (bin2 neV (varF 5) (defF 1 (c ._law_is_ask) (consF (varF 4) nilF))))) (retF (conF (.bl false))) nextF))
def t_law_v3_7 (c : I → VFn) : SF := (retF (conF (.bl true)))
def t_law_v3_6 (c : I → VFn) : SF := (seqF (forF (itF itemsA (bin2 addV (defF 1 (c ._law_edges_v3) (consF (defF 2 (c ._law_mixed) (consF (varF 0) (consF (conF (.int 4)) nilF))) nilF)) (lstF (consF (varF 3) nilF)))) (nameG 4) (b_law_v3_l1 c)) (t_law_v3_7 c))
def t_law_v3_5 (c : I → VFn) : SF := (seqF (ifF (tstF (bin2 gtV (bin2 modV (varF 1) (conF (.int 3))) (conF (.int 0)))) (asgF (defF 3 (c ._law_spoilt) (consF (varF 3) (consF (defF 2 (c ._law_mixed) (consF (varF 0) (consF (conF (.int 3)) nilF))) (consF (bin2 modV (bin2 divV (varF 1) (conF (.int 4))) (conF (.int 8))) nilF)))) (nameG 3)) nextF) (t_law_v3_6 c))
def t_law_v3_4 (c : I → VFn) : SF := (seqF (ifF (tstF (bin2 isNotV (defF 1 (c .is_request) (consF (varF 3) nilF)) (conF (.bl true)))) (retF (conF (.bl false))) nextF) (t_law_v3_5 c))
def t_law_v3_3 (c : I → VFn) : SF := (seqF (asgF (defF 3 (c ._law_ask) (consF (varF 2) (consF (defF 2 (c ._law_mixed) (consF (varF 0) (consF (conF (.int 2)) nilF))) (consF (conF (.int 4)) nilF)))) (nameG 3)) (t_law_v3_4 c))
def t_law_v3_2 (c : I → VFn) : SF := (seqF (asgF (defF 1 (c ._law_book) (consF (defF 2 (c ._law_mixed) (consF (varF 0) (consF (conF (.int 1)) nilF))) nilF)) (nameG 2)) (t_law_v3_3 c))
/-- slots: 0=_law_script 1=_law_number_here 2=_law_book_here 3=_law_thing 4=_law_one 5=_law_got -/
def b_law_v3 (c : I → VFn) : SF := (seqF (asgF (defF 2 (c ._law_mixed) (consF (varF 0) (consF (conF (.int 0)) nilF))) (nameG 1)) (t_law_v3_2 c))
def b_inner_l1 (c : I → VFn) : SF := (asgF (bin2 idxV (varF 0) (conF (.int 1))) (nameG 0))
/-- slots: 0=sort -/
def b_inner (c : I → VFn) : SF := (seqF (whileF (tstF (isiF "tuple" (varF 0))) (b_inner_l1 c))
  (retF (varF 0)))
def b_field_of_l1 (c : I → VFn) : SF := (ifF (tstF (bin2 eqV (bin2 idxV (varF 3) (conF (.int 0))) (varF 2))) (retF (varF 3)) nextF)
/-- slots: 0=book 1=kind 2=name 3=field -/
def b_field_of (c : I → VFn) : SF := (seqF (forF (itF itemsA (bin2 idxV (callF dictV (consF (varF 0) nilF)) (varF 1))) (nameG 3) (b_field_of_l1 c))
  (retF (conF .non)))
def k_pieces_of_1 (c : I → VFn) : EF := (compF (itF itemsA (bin2 idxV (varF 0) (conF (.int 2)))) (tupG 3 (consG (nameG 1) (consG (nameG 2) (consG (nameG 3) nilG)))) yesT (tupF (consF (varF 1) (consF (varF 3) nilF))) [1, 2, 3])
/-- slots: 0=request 1=name 2=kind 3=wants -/
def b_pieces_of (c : I → VFn) : SF := (retF (callF dictV (consF (k_pieces_of_1 c) nilF)))
def b_put_in_l1 (c : I → VFn) : SF := (ifF (tstF (bin2 eqV (bin2 idxV (varF 3) (conF (.int 0))) (conF (.str s_piece)))) (asgF (bin2 addV (varF 2) (defF 2 (c .put_in) (consF (bin2 idxV (varF 1) (bin2 idxV (varF 3) (conF (.int 1)))) (consF (varF 1) nilF)))) (nameG 2)) (asgF (bin2 addV (varF 2) (tupF (consF (varF 3) nilF))) (nameG 2)))
/-- slots: 0=wants 1=book 2=found 3=want -/
def b_put_in (c : I → VFn) : SF := (seqF (asgF (tupF nilF) (nameG 2))
  (seqF (forF (itF itemsA (varF 0)) (nameG 3) (b_put_in_l1 c))
  (retF (varF 2))))
def k_inlined_wants_1 (c : I → VFn) : EF := (compF (itF itemsA (defF 2 (c .put_in) (consF (varF 0) (consF (varF 1) nilF)))) (nameG 2) yesT (bin2 addV (bin2 addV (slcF (varF 2) noPF (parF (conF (.int 4)))) (tupF (consF (defF 2 (c .inlined_wants) (consF (bin2 idxV (varF 2) (conF (.int 4))) (consF (varF 1) nilF))) nilF))) (slcF (varF 2) (parF (conF (.int 5))) noPF)) [2])
/-- slots: 0=wants 1=pieces 2=want -/
def b_inlined_wants (c : I → VFn) : SF := (retF (callF tupleV (consF (k_inlined_wants_1 c) nilF)))
/-- slots: 0=request -/
def b_inlined (c : I → VFn) : SF := (retF (tupF (consF (bin2 idxV (varF 0) (conF (.int 0))) (consF (defF 2 (c .inlined_wants) (consF (bin2 idxV (varF 0) (conF (.int 1))) (consF (defF 1 (c .pieces_of) (consF (varF 0) nilF)) nilF))) (consF (tupF nilF) nilF)))))
def k_deep_of_1 (c : I → VFn) : EF := (compF (itF itemsA (varF 0)) (nameG 1) yesT (bin2 addV (conF (.int 1)) (defF 1 (c .deep_of) (consF (bin2 idxV (varF 1) (conF (.int 4))) nilF))) [1])
/-- slots: 0=wants 1=want -/
def b_deep_of (c : I → VFn) : SF := (retF (callF maxV (consF (bin2 addV (lstF (consF (conF (.int 0)) nilF)) (k_deep_of_1 c)) nilF)))
/-- slots: 0=request -/
def b_deepest (c : I → VFn) : SF := (retF (defF 1 (c .deep_of) (consF (bin2 idxV (defF 1 (c .inlined) (consF (varF 0) nilF)) (conF (.int 1))) nilF)))
def b_times_for_l1 (c : I → VFn) : SF := (seqF (ifF (tstF (bin2 eqV (bin2 idxV (varF 0) (conF (.int 0))) (conF (.str s_many)))) (asgF (bin2 mulV (varF 2) (varF 1)) (nameG 2)) nextF)
  (asgF (bin2 idxV (varF 0) (conF (.int 1))) (nameG 0)))
/-- slots: 0=sort 1=many 2=found -/
def b_times_for (c : I → VFn) : SF := (seqF (asgF (conF (.int 1)) (nameG 2))
  (seqF (whileF (tstF (isiF "tuple" (varF 0))) (b_times_for_l1 c))
  (retF (varF 2))))
def b_weight_of_l1 (c : I → VFn) : SF := (seqF (asgF (bin2 idxV (defF 3 (c .field_of) (consF (varF 0) (consF (varF 1) (consF (bin2 idxV (varF 6) (conF (.int 2))) nilF)))) (conF (.int 1))) (nameG 7))
  (seqF (asgF (conF (.int 0)) (nameG 8))
  (seqF (ifF (tstF (bin2 gtV (callF lenV (consF (bin2 idxV (varF 6) (conF (.int 4))) nilF)) (conF (.int 0)))) (asgF (defF 5 (c .weight_of) (consF (varF 0) (consF (defF 1 (c .inner) (consF (varF 7) nilF)) (consF (bin2 idxV (varF 6) (conF (.int 4))) (consF (varF 3) (consF (varF 4) nilF)))))) (nameG 8)) nextF)
  (asgF (bin2 addV (bin2 addV (varF 5) (conF (.int 1))) (bin2 mulV (defF 2 (c .times_for) (consF (varF 7) (consF (varF 4) nilF))) (varF 8))) (nameG 5)))))
/-- slots: 0=book 1=kind 2=wants 3=pieces 4=many 5=found 6=want 7=sort 8=inside -/
def b_weight_of (c : I → VFn) : SF := (seqF (asgF (conF (.int 0)) (nameG 5))
  (seqF (forF (itF itemsA (defF 2 (c .put_in) (consF (varF 2) (consF (varF 3) nilF)))) (nameG 6) (b_weight_of_l1 c))
  (retF (varF 5))))
/-- slots: 0=book 1=request 2=many -/
def b_weight (c : I → VFn) : SF := (retF (defF 5 (c .weight_of) (consF (varF 0) (consF (conF (.str s_Root)) (consF (bin2 idxV (varF 1) (conF (.int 1))) (consF (defF 1 (c .pieces_of) (consF (varF 1) nilF)) (consF (varF 2) nilF)))))))
def k__law_put_1 (c : I → VFn) : EF := (compF (itF itemsA (varF 1)) (nameG 4) (tstF (bin2 eqV (bin2 idxV (varF 4) (conF (.int 0))) (bin2 idxV (varF 3) (conF (.int 1))))) (bin2 idxV (varF 4) (conF (.int 2))) [4])
def b__law_put_l1 (c : I → VFn) : SF := (ifF (tstF (bin2 eqV (bin2 idxV (varF 3) (conF (.int 0))) (conF (.str s_piece)))) (asgF (bin2 addV (varF 2) (defF 2 (c ._law_put) (consF (bin2 idxV (k__law_put_1 c) (conF (.int 0))) (consF (varF 1) nilF)))) (nameG 2)) (asgF (bin2 addV (varF 2) (tupF (consF (varF 3) nilF))) (nameG 2)))
/-- slots: 0=_law_wants_here 1=_law_pieces 2=_law_found 3=_law_want_here 4=_law_row -/
def b__law_put (c : I → VFn) : SF := (seqF (asgF (tupF nilF) (nameG 2))
  (seqF (forF (itF itemsA (varF 0)) (nameG 3) (b__law_put_l1 c))
  (retF (varF 2))))
def k__law_field_1 (c : I → VFn) : EF := (compF (itF itemsA (bin2 idxV (callF dictV (consF (varF 0) nilF)) (varF 1))) (nameG 3) (tstF (bin2 eqV (bin2 idxV (varF 3) (conF (.int 0))) (varF 2))) (varF 3) [3])
/-- slots: 0=_law_book_here 1=_law_kind 2=_law_name 3=_law_field_here -/
def b__law_field (c : I → VFn) : SF := (retF (bin2 idxV (k__law_field_1 c) (conF (.int 0))))
def k__law_deep_1 (c : I → VFn) : EF := (compF (itF itemsA (defF 2 (c ._law_put) (consF (varF 0) (consF (varF 1) nilF)))) (nameG 2) yesT (bin2 addV (conF (.int 1)) (defF 2 (c ._law_deep) (consF (bin2 idxV (varF 2) (conF (.int 4))) (consF (varF 1) nilF)))) [2])
/-- slots: 0=_law_wants_here 1=_law_pieces 2=_law_want_here -/
def b__law_deep (c : I → VFn) : SF := (retF (callF maxV (consF (bin2 addV (lstF (consF (conF (.int 0)) nilF)) (k__law_deep_1 c)) nilF)))
/-- slots: 0=_law_sort_here 1=_law_many -/
def b__law_often (c : I → VFn) : SF := (seqF (ifF (tstF (isiF "str" (varF 0))) (retF (conF (.int 1))) nextF)
  (retF (bin2 mulV (bin2 idxV (tupF (consF (conF (.int 1)) (consF (varF 1) nilF))) (callF intV (consF (bin2 eqV (bin2 idxV (varF 0) (conF (.int 0))) (conF (.str s_many))) nilF))) (defF 2 (c ._law_often) (consF (bin2 idxV (varF 0) (conF (.int 1))) (consF (varF 1) nilF))))))
def b__law_heavy_l1 (c : I → VFn) : SF := (seqF (asgF (bin2 idxV (defF 3 (c ._law_field) (consF (varF 0) (consF (varF 1) (consF (bin2 idxV (varF 6) (conF (.int 2))) nilF)))) (conF (.int 1))) (nameG 7))
  (seqF (asgF (bin2 addV (varF 5) (conF (.int 1))) (nameG 5))
  (ifF (tstF (bin2 neV (bin2 idxV (varF 6) (conF (.int 4))) (tupF nilF))) (asgF (bin2 addV (varF 5) (bin2 mulV (defF 2 (c ._law_often) (consF (varF 7) (consF (varF 4) nilF))) (defF 5 (c ._law_heavy) (consF (varF 0) (consF (defF 1 (c ._law_inner) (consF (varF 7) nilF)) (consF (bin2 idxV (varF 6) (conF (.int 4))) (consF (varF 3) (consF (varF 4) nilF)))))))) (nameG 5)) nextF)))
/-- slots: 0=_law_book_here 1=_law_kind 2=_law_wants_here 3=_law_pieces 4=_law_many 5=_law_found 6=_law_want_here 7=_law_sort_here -/
def b__law_heavy (c : I → VFn) : SF := (seqF (asgF (conF (.int 0)) (nameG 5))
  (seqF (forF (itF itemsA (defF 2 (c ._law_put) (consF (varF 2) (consF (varF 3) nilF)))) (nameG 6) (b__law_heavy_l1 c))
  (retF (varF 5))))
def t_law_v4_5 (c : I → VFn) : SF := (retF (bin2 eqV (defF 3 (c .weight) (consF (varF 1) (consF (varF 2) (consF (varF 3) nilF)))) (defF 5 (c ._law_heavy) (consF (varF 1) (consF (conF (.str s_Root)) (consF (bin2 idxV (varF 2) (conF (.int 1))) (consF (bin2 idxV (varF 2) (conF (.int 2))) (consF (varF 3) nilF))))))))
def t_law_v4_4 (c : I → VFn) : SF := (seqF (ifF (tstF (bin2 neV (defF 1 (c .deepest) (consF (varF 2) nilF)) (defF 2 (c ._law_deep) (consF (bin2 idxV (varF 2) (conF (.int 1))) (consF (bin2 idxV (varF 2) (conF (.int 2))) nilF))))) (retF (conF (.bl false))) nextF) (t_law_v4_5 c))
def t_law_v4_3 (c : I → VFn) : SF := (seqF (asgF (bin2 addV (conF (.int 1)) (bin2 modV (defF 2 (c ._law_mixed) (consF (varF 0) (consF (conF (.int 2)) nilF))) (bin2 idxV (tupF (consF (conF (.int 3)) (consF (conF (.int 20)) nilF))) (bin2 modV (defF 2 (c ._law_mixed) (consF (varF 0) (consF (conF (.int 3)) nilF))) (conF (.int 2)))))) (nameG 3)) (t_law_v4_4 c))
def t_law_v4_2 (c : I → VFn) : SF := (seqF (asgF (defF 3 (c ._law_ask) (consF (varF 1) (consF (defF 2 (c ._law_mixed) (consF (varF 0) (consF (conF (.int 1)) nilF))) (consF (conF (.int 4)) nilF)))) (nameG 2)) (t_law_v4_3 c))
/-- slots: 0=_law_script 1=_law_book_here 2=_law_request 3=_law_many -/
def b_law_v4 (c : I → VFn) : SF := (seqF (asgF (defF 1 (c ._law_book) (consF (defF 2 (c ._law_mixed) (consF (varF 0) (consF (conF (.int 0)) nilF))) nilF)) (nameG 1)) (t_law_v4_2 c))
def tbl (c : I → VFn) : I → VFn
  | .is_word => bodyF 2 (b_is_word c)
  | .is_kind_name => bodyF 2 (b_is_kind_name c)
  | .rises => bodyF 3 (b_rises c)
  | .is_must => bodyF 1 (b_is_must c)
  | .is_many => bodyF 1 (b_is_many c)
  | .bare => bodyF 1 (b_bare c)
  | .is_sort => bodyF 3 (b_is_sort c)
  | .takes_for => bodyF 1 (b_takes_for c)
  | .is_field => bodyF 3 (b_is_field c)
  | .are_fields => bodyF 3 (b_are_fields c)
  | .is_book => bodyF 3 (b_is_book c)
  | ._law_cell_at => bodyF 2 (b__law_cell_at c)
  | ._law_mixed => bodyF 3 (b__law_mixed c)
  | ._law_drawn => bodyF 3 (b__law_drawn c)
  | ._law_takes => bodyF 2 (b__law_takes c)
  | ._law_sort => bodyF 5 (b__law_sort c)
  | ._law_book => bodyF 12 (b__law_book c)
  | ._law_is_word => bodyF 2 (b__law_is_word c)
  | ._law_is_kind => bodyF 1 (b__law_is_kind c)
  | ._law_is_row => bodyF 3 (b__law_is_row c)
  | ._law_is_sort => bodyF 3 (b__law_is_sort c)
  | ._law_is_field => bodyF 4 (b__law_is_field c)
  | ._law_is_book => bodyF 8 (b__law_is_book c)
  | ._law_spoilt => bodyF 6 (b__law_spoilt c)
  | ._law_edges => bodyF 8 (b__law_edges c)
  | .law => bodyF 5 (b_law c)
  | .is_whole => bodyF 3 (b_is_whole c)
  | .is_worth => bodyF 3 (b_is_worth c)
  | .is_bad => bodyF 1 (b_is_bad c)
  | .is_value => bodyF 4 (b_is_value c)
  | .is_place => bodyF 3 (b_is_place c)
  | .are_values => bodyF 5 (b_are_values c)
  | .is_world => bodyF 4 (b_is_world c)
  | ._law_value => bodyF 7 (b__law_value c)
  | ._law_world => bodyF 15 (b__law_world c)
  | ._law_number => bodyF 3 (b__law_number c)
  | ._law_is_worth => bodyF 3 (b__law_is_worth c)
  | ._law_is_value => bodyF 4 (b__law_is_value c)
  | ._law_is_world => bodyF 10 (b__law_is_world c)
  | ._law_edges_v2 => bodyF 8 (b__law_edges_v2 c)
  | .law_v2 => bodyF 7 (b_law_v2 c)
  | .is_hole => bodyF 1 (b_is_hole c)
  | .is_told_hole => bodyF 1 (b_is_told_hole c)
  | .is_arg => bodyF 2 (b_is_arg c)
  | .are_args => bodyF 2 (b_are_args c)
  | .is_want => bodyF 2 (b_is_want c)
  | .are_wants => bodyF 3 (b_are_wants c)
  | .is_piece => bodyF 1 (b_is_piece c)
  | .is_request => bodyF 2 (b_is_request c)
  | ._law_inner => bodyF 1 (b__law_inner c)
  | ._law_args => bodyF 7 (b__law_args c)
  | ._law_want => bodyF 19 (b__law_want c)
  | ._law_wants => bodyF 7 (b__law_wants c)
  | ._law_ask => bodyF 11 (b__law_ask c)
  | ._law_is_hole => bodyF 1 (b__law_is_hole c)
  | ._law_are_args => bodyF 7 (b__law_are_args c)
  | ._law_are_wants => bodyF 3 (b__law_are_wants c)
  | ._law_is_ask => bodyF 5 (b__law_is_ask c)
  | ._law_edges_v3 => bodyF 11 (b__law_edges_v3 c)
  | .law_v3 => bodyF 6 (b_law_v3 c)
  | .inner => bodyF 1 (b_inner c)
  | .field_of => bodyF 4 (b_field_of c)
  | .pieces_of => bodyF 4 (b_pieces_of c)
  | .put_in => bodyF 4 (b_put_in c)
  | .inlined_wants => bodyF 3 (b_inlined_wants c)
  | .inlined => bodyF 1 (b_inlined c)
  | .deep_of => bodyF 2 (b_deep_of c)
  | .deepest => bodyF 1 (b_deepest c)
  | .times_for => bodyF 3 (b_times_for c)
  | .weight_of => bodyF 9 (b_weight_of c)
  | .weight => bodyF 3 (b_weight c)
  | ._law_put => bodyF 5 (b__law_put c)
  | ._law_field => bodyF 4 (b__law_field c)
  | ._law_deep => bodyF 3 (b__law_deep c)
  | ._law_often => bodyF 2 (b__law_often c)
  | ._law_heavy => bodyF 8 (b__law_heavy c)
  | .law_v4 => bodyF 4 (b_law_v4 c)
/-- what a def answers, with so many calls in one another -/
def Fn : Nat → I → VFn
  | 0, _ => fun _ _ => .stuck
  | n + 1, i => tbl (Fn n) i
theorem Fn_is_word (n : Nat) : Fn (n + 1) .is_word = bodyF 2 (b_is_word (Fn n)) := rfl
theorem Fn_is_kind_name (n : Nat) : Fn (n + 1) .is_kind_name = bodyF 2 (b_is_kind_name (Fn n)) := rfl
theorem Fn_rises (n : Nat) : Fn (n + 1) .rises = bodyF 3 (b_rises (Fn n)) := rfl
theorem Fn_is_must (n : Nat) : Fn (n + 1) .is_must = bodyF 1 (b_is_must (Fn n)) := rfl
theorem Fn_is_many (n : Nat) : Fn (n + 1) .is_many = bodyF 1 (b_is_many (Fn n)) := rfl
theorem Fn_bare (n : Nat) : Fn (n + 1) .bare = bodyF 1 (b_bare (Fn n)) := rfl
theorem Fn_is_sort (n : Nat) : Fn (n + 1) .is_sort = bodyF 3 (b_is_sort (Fn n)) := rfl
theorem Fn_takes_for (n : Nat) : Fn (n + 1) .takes_for = bodyF 1 (b_takes_for (Fn n)) := rfl
theorem Fn_is_field (n : Nat) : Fn (n + 1) .is_field = bodyF 3 (b_is_field (Fn n)) := rfl
theorem Fn_are_fields (n : Nat) : Fn (n + 1) .are_fields = bodyF 3 (b_are_fields (Fn n)) := rfl
theorem Fn_is_book (n : Nat) : Fn (n + 1) .is_book = bodyF 3 (b_is_book (Fn n)) := rfl
theorem Fn__law_cell_at (n : Nat) : Fn (n + 1) ._law_cell_at = bodyF 2 (b__law_cell_at (Fn n)) := rfl
theorem Fn__law_mixed (n : Nat) : Fn (n + 1) ._law_mixed = bodyF 3 (b__law_mixed (Fn n)) := rfl
theorem Fn__law_drawn (n : Nat) : Fn (n + 1) ._law_drawn = bodyF 3 (b__law_drawn (Fn n)) := rfl
theorem Fn__law_takes (n : Nat) : Fn (n + 1) ._law_takes = bodyF 2 (b__law_takes (Fn n)) := rfl
theorem Fn__law_sort (n : Nat) : Fn (n + 1) ._law_sort = bodyF 5 (b__law_sort (Fn n)) := rfl
theorem Fn__law_book (n : Nat) : Fn (n + 1) ._law_book = bodyF 12 (b__law_book (Fn n)) := rfl
theorem Fn__law_is_word (n : Nat) : Fn (n + 1) ._law_is_word = bodyF 2 (b__law_is_word (Fn n)) := rfl
theorem Fn__law_is_kind (n : Nat) : Fn (n + 1) ._law_is_kind = bodyF 1 (b__law_is_kind (Fn n)) := rfl
theorem Fn__law_is_row (n : Nat) : Fn (n + 1) ._law_is_row = bodyF 3 (b__law_is_row (Fn n)) := rfl
theorem Fn__law_is_sort (n : Nat) : Fn (n + 1) ._law_is_sort = bodyF 3 (b__law_is_sort (Fn n)) := rfl
theorem Fn__law_is_field (n : Nat) : Fn (n + 1) ._law_is_field = bodyF 4 (b__law_is_field (Fn n)) := rfl
theorem Fn__law_is_book (n : Nat) : Fn (n + 1) ._law_is_book = bodyF 8 (b__law_is_book (Fn n)) := rfl
theorem Fn__law_spoilt (n : Nat) : Fn (n + 1) ._law_spoilt = bodyF 6 (b__law_spoilt (Fn n)) := rfl
theorem Fn__law_edges (n : Nat) : Fn (n + 1) ._law_edges = bodyF 8 (b__law_edges (Fn n)) := rfl
theorem Fn_law (n : Nat) : Fn (n + 1) .law = bodyF 5 (b_law (Fn n)) := rfl
theorem Fn_is_whole (n : Nat) : Fn (n + 1) .is_whole = bodyF 3 (b_is_whole (Fn n)) := rfl
theorem Fn_is_worth (n : Nat) : Fn (n + 1) .is_worth = bodyF 3 (b_is_worth (Fn n)) := rfl
theorem Fn_is_bad (n : Nat) : Fn (n + 1) .is_bad = bodyF 1 (b_is_bad (Fn n)) := rfl
theorem Fn_is_value (n : Nat) : Fn (n + 1) .is_value = bodyF 4 (b_is_value (Fn n)) := rfl
theorem Fn_is_place (n : Nat) : Fn (n + 1) .is_place = bodyF 3 (b_is_place (Fn n)) := rfl
theorem Fn_are_values (n : Nat) : Fn (n + 1) .are_values = bodyF 5 (b_are_values (Fn n)) := rfl
theorem Fn_is_world (n : Nat) : Fn (n + 1) .is_world = bodyF 4 (b_is_world (Fn n)) := rfl
theorem Fn__law_value (n : Nat) : Fn (n + 1) ._law_value = bodyF 7 (b__law_value (Fn n)) := rfl
theorem Fn__law_world (n : Nat) : Fn (n + 1) ._law_world = bodyF 15 (b__law_world (Fn n)) := rfl
theorem Fn__law_number (n : Nat) : Fn (n + 1) ._law_number = bodyF 3 (b__law_number (Fn n)) := rfl
theorem Fn__law_is_worth (n : Nat) : Fn (n + 1) ._law_is_worth = bodyF 3 (b__law_is_worth (Fn n)) := rfl
theorem Fn__law_is_value (n : Nat) : Fn (n + 1) ._law_is_value = bodyF 4 (b__law_is_value (Fn n)) := rfl
theorem Fn__law_is_world (n : Nat) : Fn (n + 1) ._law_is_world = bodyF 10 (b__law_is_world (Fn n)) := rfl
theorem Fn__law_edges_v2 (n : Nat) : Fn (n + 1) ._law_edges_v2 = bodyF 8 (b__law_edges_v2 (Fn n)) := rfl
theorem Fn_law_v2 (n : Nat) : Fn (n + 1) .law_v2 = bodyF 7 (b_law_v2 (Fn n)) := rfl
theorem Fn_is_hole (n : Nat) : Fn (n + 1) .is_hole = bodyF 1 (b_is_hole (Fn n)) := rfl
theorem Fn_is_told_hole (n : Nat) : Fn (n + 1) .is_told_hole = bodyF 1 (b_is_told_hole (Fn n)) := rfl
theorem Fn_is_arg (n : Nat) : Fn (n + 1) .is_arg = bodyF 2 (b_is_arg (Fn n)) := rfl
theorem Fn_are_args (n : Nat) : Fn (n + 1) .are_args = bodyF 2 (b_are_args (Fn n)) := rfl
theorem Fn_is_want (n : Nat) : Fn (n + 1) .is_want = bodyF 2 (b_is_want (Fn n)) := rfl
theorem Fn_are_wants (n : Nat) : Fn (n + 1) .are_wants = bodyF 3 (b_are_wants (Fn n)) := rfl
theorem Fn_is_piece (n : Nat) : Fn (n + 1) .is_piece = bodyF 1 (b_is_piece (Fn n)) := rfl
theorem Fn_is_request (n : Nat) : Fn (n + 1) .is_request = bodyF 2 (b_is_request (Fn n)) := rfl
theorem Fn__law_inner (n : Nat) : Fn (n + 1) ._law_inner = bodyF 1 (b__law_inner (Fn n)) := rfl
theorem Fn__law_args (n : Nat) : Fn (n + 1) ._law_args = bodyF 7 (b__law_args (Fn n)) := rfl
theorem Fn__law_want (n : Nat) : Fn (n + 1) ._law_want = bodyF 19 (b__law_want (Fn n)) := rfl
theorem Fn__law_wants (n : Nat) : Fn (n + 1) ._law_wants = bodyF 7 (b__law_wants (Fn n)) := rfl
theorem Fn__law_ask (n : Nat) : Fn (n + 1) ._law_ask = bodyF 11 (b__law_ask (Fn n)) := rfl
theorem Fn__law_is_hole (n : Nat) : Fn (n + 1) ._law_is_hole = bodyF 1 (b__law_is_hole (Fn n)) := rfl
theorem Fn__law_are_args (n : Nat) : Fn (n + 1) ._law_are_args = bodyF 7 (b__law_are_args (Fn n)) := rfl
theorem Fn__law_are_wants (n : Nat) : Fn (n + 1) ._law_are_wants = bodyF 3 (b__law_are_wants (Fn n)) := rfl
theorem Fn__law_is_ask (n : Nat) : Fn (n + 1) ._law_is_ask = bodyF 5 (b__law_is_ask (Fn n)) := rfl
theorem Fn__law_edges_v3 (n : Nat) : Fn (n + 1) ._law_edges_v3 = bodyF 11 (b__law_edges_v3 (Fn n)) := rfl
theorem Fn_law_v3 (n : Nat) : Fn (n + 1) .law_v3 = bodyF 6 (b_law_v3 (Fn n)) := rfl
theorem Fn_inner (n : Nat) : Fn (n + 1) .inner = bodyF 1 (b_inner (Fn n)) := rfl
theorem Fn_field_of (n : Nat) : Fn (n + 1) .field_of = bodyF 4 (b_field_of (Fn n)) := rfl
theorem Fn_pieces_of (n : Nat) : Fn (n + 1) .pieces_of = bodyF 4 (b_pieces_of (Fn n)) := rfl
theorem Fn_put_in (n : Nat) : Fn (n + 1) .put_in = bodyF 4 (b_put_in (Fn n)) := rfl
theorem Fn_inlined_wants (n : Nat) : Fn (n + 1) .inlined_wants = bodyF 3 (b_inlined_wants (Fn n)) := rfl
theorem Fn_inlined (n : Nat) : Fn (n + 1) .inlined = bodyF 1 (b_inlined (Fn n)) := rfl
theorem Fn_deep_of (n : Nat) : Fn (n + 1) .deep_of = bodyF 2 (b_deep_of (Fn n)) := rfl
theorem Fn_deepest (n : Nat) : Fn (n + 1) .deepest = bodyF 1 (b_deepest (Fn n)) := rfl
theorem Fn_times_for (n : Nat) : Fn (n + 1) .times_for = bodyF 3 (b_times_for (Fn n)) := rfl
theorem Fn_weight_of (n : Nat) : Fn (n + 1) .weight_of = bodyF 9 (b_weight_of (Fn n)) := rfl
theorem Fn_weight (n : Nat) : Fn (n + 1) .weight = bodyF 3 (b_weight (Fn n)) := rfl
theorem Fn__law_put (n : Nat) : Fn (n + 1) ._law_put = bodyF 5 (b__law_put (Fn n)) := rfl
theorem Fn__law_field (n : Nat) : Fn (n + 1) ._law_field = bodyF 4 (b__law_field (Fn n)) := rfl
theorem Fn__law_deep (n : Nat) : Fn (n + 1) ._law_deep = bodyF 3 (b__law_deep (Fn n)) := rfl
theorem Fn__law_often (n : Nat) : Fn (n + 1) ._law_often = bodyF 2 (b__law_often (Fn n)) := rfl
theorem Fn__law_heavy (n : Nat) : Fn (n + 1) ._law_heavy = bodyF 8 (b__law_heavy (Fn n)) := rfl
theorem Fn_law_v4 (n : Nat) : Fn (n + 1) .law_v4 = bodyF 4 (b_law_v4 (Fn n)) := rfl
end LW

-- part L01M1
namespace LW
open G
/-! ### words -/
def letter (c : Nat) : Bool := decide (c ∈ s_abcdefghijklmnopqrstuvwxyz)
def capital (c : Nat) : Bool := decide (c ∈ s_ABCDEFGHIJKLMNOPQRSTUVWXYZ)
def wordS : Val → Bool
  | .str x => decide (1 ≤ x.length) && (decide (x.length ≤ 4) && x.all letter)
  | _ => false
def kindS : Val → Bool
  | .str (c :: r) => decide (r.length ≤ 3) && (capital c && r.all letter)
  | _ => false
theorem letters {x : List Nat} {ρ : Env} {it : IF} {m : Sto} (hi : it ρ m = .ok (x.map fun c => .str [c], none) m) (hl : x.length ≤ 16777216) (h2 : ρ.length = 2) :
    compF it (nameG 1) yesT (bin2 inV (varF 1) (conF (.str s_abcdefghijklmnopqrstuvwxyz))) [1] ρ m = .ok (.lst (x.map fun c => .bl (letter c))) m :=
  comp_map _ _ hi hl fun c _ => by
    match ρ, h2 with
    | [a, b], _ => exact ⟨_, rfl, by simp [wipeE, letter]⟩
theorem is_word_ok (n : Nat) (v : Val) (hv : gd v = true) (m : Sto) : Fn (n + 1) .is_word [v] m = .ok (.bl (wordS v)) m := by
  rw [Fn_is_word, e_body, b_is_word]
  by_cases hs : isStr v = true
  · obtain ⟨x, rfl⟩ := isStr_iff.mp hs
    have hl := gd_len hv
    have hc := letters (x := x) (ρ := [some (.str x), none]) (it := itF itemsA (varF 0)) (m := m) (by simp [itemsA]) hl rfl
    simp [isi_str hv, lenV_str hl, wordS, hc]
    by_cases h1 : 1 ≤ x.length <;> by_cases h2 : x.length ≤ 4 <;> simp [h1, h2]
  · have hs' : isStr v = false := by simpa using hs
    have : wordS v = false := by cases v <;> first | rfl | simp at hs
    simp [isi_str hv, hs', this]
theorem is_kind_ok (n : Nat) (v : Val) (hv : gd v = true) (m : Sto) : Fn (n + 1) .is_kind_name [v] m = .ok (.bl (kindS v)) m := by
  rw [Fn_is_kind_name, e_body, b_is_kind_name]
  by_cases hs : isStr v = true
  · obtain ⟨x, rfl⟩ := isStr_iff.mp hs
    have hl := gd_len hv
    cases x with
    | nil => simp [isi_str hv, lenV_str hl, kindS]
    | cons c r =>
      have hc := letters (x := r) (ρ := [some (.str (c :: r)), none]) (it := itF itemsA (slcF (varF 0) (parF (conF (.int 1))) noPF)) (m := m) (by simp [itemsA, slcV_str hl]) (by simp at hl; omega) rfl
      simp [isi_str hv, lenV_str hl, kindS, idxV_str hl, capital, hc]
      have e1 : (1 : Int) ≤ r.length + 1 := by omega
      have e2 : ((4 : Int) < r.length + 1) ↔ ¬ r.length ≤ 3 := by omega
      by_cases h1 : r.length ≤ 3 <;> by_cases h2 : c ∈ s_ABCDEFGHIJKLMNOPQRSTUVWXYZ <;> simp [e1, e2, h1, h2]
  · have hs' : isStr v = false := by simpa using hs
    have : kindS v = false := by cases v <;> first | rfl | simp at hs
    simp [isi_str hv, hs', this]
/-! ### the law's words -/
theorem letters_not {x : List Nat} {ρ : Env} {it : IF} {m : Sto} (hi : it ρ m = .ok (x.map fun c => .str [c], none) m) (hl : x.length ≤ 16777216) (h2 : ρ.length = 2) :
    compF it (nameG 1) (tstF (bin2 notInV (varF 1) (conF (.str s_abcdefghijklmnopqrstuvwxyz)))) (varF 1) [1] ρ m = .ok (.lst ((x.filter fun c => !letter c).map fun c => .str [c])) m :=
  comp_filter (fun c => .str [c]) (fun c => !letter c) (fun c => .str [c]) hi hl fun c _ => by
    match ρ, h2 with
    | [a, b], _ => exact ⟨_, rfl, by simp [wipeE, letter], fun _ => by simp [wipeE]⟩
theorem lst_nil {vs : List Val} : veq (.lst vs) (.lst []) = decide (vs = []) := by cases vs <;> simp [veq, veqL]
theorem gd_signs {x : List Nat} (h : gd (.str x) = true) (p : Nat → Bool) : gd (.lst ((x.filter p).map fun c => .str [c])) = true := by
  refine gdn_gd (n := 1) (gdn_lst fun v hv => ?_) (by omega)
  obtain ⟨c, hc, rfl⟩ := List.mem_map.mp hv
  rw [gd_str] at h
  rw [gdn_str]
  simp only [Bool.and_eq_true, List.all_eq_true, decide_eq_true_eq] at h ⊢
  exact ⟨fun d hd => by rw [List.mem_singleton.mp hd]; exact h.1 c (List.mem_filter.mp hc).1, by simp⟩
theorem no_other {x : List Nat} : decide ((x.filter fun c => !letter c).map (fun c => Val.str [c]) = []) = x.all letter := by
  rw [Bool.eq_iff_iff]
  simp only [decide_eq_true_eq, List.map_eq_nil_iff, List.filter_eq_nil_iff, List.all_eq_true]
  constructor
  · intro h c hc; simpa using h c hc
  · intro h c hc; simpa using h c hc
theorem signs_eq {x : List Nat} (h : gd (.str x) = true) (m : Sto) : eqV (.lst ((x.filter fun c => !letter c).map fun c => .str [c])) (.lst []) m = .ok (.bl (x.all letter)) m := by
  rw [eqV_gd (gd_signs h _) (by decide), lst_nil, no_other]
theorem not_isStr {v : Val} (h : ¬ isStr v = true) : isStr v = false := by simpa using h
theorem wordS_not {v : Val} (h : ¬ isStr v = true) : wordS v = false := by cases v <;> first | rfl | simp at h
theorem kindS_not {v : Val} (h : ¬ isStr v = true) : kindS v = false := by cases v <;> first | rfl | simp at h
theorem law_is_word_ok (n : Nat) (v : Val) (hv : gd v = true) (m : Sto) : Fn (n + 1) ._law_is_word [v] m = .ok (.bl (wordS v)) m := by
  rw [Fn__law_is_word, e_body, b__law_is_word]
  by_cases hs : isStr v = true
  · obtain ⟨x, rfl⟩ := isStr_iff.mp hs
    have hl := gd_len hv
    have hc := letters_not (x := x) (ρ := [some (.str x), none]) (it := itF itemsA (varF 0)) (m := m) (by simp [itemsA]) hl rfl
    simp [isi_str hv, lenV_str hl, hc, signs_eq hv, wordS]
    grind
  · simp [isi_str hv, not_isStr hs, wordS_not hs]
/-! ### kinds -/
theorem one_lt {a c : Nat} : ([a] < [c]) ↔ a < c := by simp [List.cons_lt_cons_iff]
theorem one_le {a c : Nat} : ([a] ≤ [c]) ↔ a ≤ c := by
  rw [← List.not_lt, one_lt, Nat.not_lt]
theorem capital_iff {c : Nat} (h : c < 128) : capital c = (decide (65 ≤ c) && decide (c ≤ 90)) := by
  have : ∀ c, c < 128 → capital c = (decide (65 ≤ c) && decide (c ≤ 90)) := by decide +kernel
  exact this c h
theorem gd_tail {c : Nat} {r : List Nat} (h : gd (.str (c :: r)) = true) : gd (.str r) = true := by
  rw [gd_str] at h ⊢
  simp only [List.all_cons, List.length_cons, Bool.and_eq_true, decide_eq_true_eq] at h ⊢
  exact ⟨h.1.2, by omega⟩
theorem gd_head {c : Nat} {r : List Nat} (h : gd (.str (c :: r)) = true) : c < 128 := by
  rw [gd_str] at h
  simp only [List.all_cons, Bool.and_eq_true, decide_eq_true_eq] at h
  exact h.1.1
theorem law_is_kind_ok (n : Nat) (v : Val) (hv : gd v = true) (m : Sto) : Fn (n + 2) ._law_is_kind [v] m = .ok (.bl (kindS v)) m := by
  rw [Fn__law_is_kind, e_body, b__law_is_kind]
  by_cases hs : isStr v = true
  · obtain ⟨x, rfl⟩ := isStr_iff.mp hs
    have hl := gd_len hv
    cases x with
    | nil => simp [isi_str hv, lenV_str hl, kindS]
    | cons c r =>
      have hw := law_is_word_ok n (.str r) (gd_tail hv) m
      have hcap := capital_iff (gd_head hv)
      simp [isi_str hv, lenV_str hl, kindS, idxV_str hl, slcV_str hl, hw, hcap, wordS]
      have e1 : (s_A ≤ [c]) ↔ 65 ≤ c := one_le
      have e2 : (s_Z < [c]) ↔ 90 < c := one_lt
      simp only [e1, e2]
      cases r with
      | nil => simp; grind
      | cons d r =>
        generalize (d :: r).all letter = q
        simp only [List.length_cons]
        clear hw hcap hl hv
        grind
  · simp [isi_str hv, not_isStr hs, kindS_not hs]
end LW

-- part L01M2
namespace LW
open G
/-! ### rows that rise -/
theorem zip_rise : ∀ xs : List (List Nat), ((xs.dropLast.zip xs.tail).all fun p => decide (p.1 < p.2)) = riseL xs
  | [] => rfl
  | [_] => rfl
  | a :: b :: r => by
    have ih := zip_rise (b :: r)
    rw [riseL, ← ih]
    cases r <;> simp
theorem zip_strs (xs ys : List (List Nat)) : zipItems (xs.map Val.str) (ys.map Val.str) = (xs.zip ys).map fun p => .wt [.str p.1, .str p.2] := by
  unfold zipItems
  rw [List.zipWith_map, List.zip, List.map_zipWith]
theorem rises_comp {v : Val} {xs : List (List Nat)} {m : Sto} (hl : xs.length ≤ 16777216) (hv : v = .tup (xs.map Val.str) ∨ v = .lst (xs.map Val.str)) :
    compF (itA2 zipLL (consF (slcF (varF 0) noPF (parF (conF (.int (-1))))) (consF (slcF (varF 0) (parF (conF (.int 1))) noPF) nilF))) (tupG 2 (consG (nameG 1) (consG (nameG 2) nilG))) yesT (bin2 ltV (varF 1) (varF 2)) [1, 2] [some v, none, none] m
      = .ok (.lst ((xs.dropLast.zip xs.tail).map fun p => .bl (decide (p.1 < p.2)))) m := by
  refine comp_map (fun p => .wt [.str p.1, .str p.2]) _ ?_ (by simp; omega) fun p _ => ?_
  · rcases hv with rfl | rfl <;> simp [zipLL, ← List.map_tail, ← List.map_dropLast, zip_strs]
  · refine ⟨[some v, some (.str p.1), some (.str p.2)], ?_, ?_⟩
    · simp [tupG, consG, nilG, wipeE]
    · simp
theorem rises_ok (n : Nat) (v : Val) (xs : List (List Nat)) (hl : xs.length ≤ 16777216) (hv : v = .tup (xs.map Val.str) ∨ v = .lst (xs.map Val.str)) (m : Sto) : Fn (n + 1) .rises [v] m = .ok (.bl (riseL xs)) m := by
  rw [Fn_rises, e_body, b_rises]
  simp [rises_comp hl hv, zip_rise]

/-! ### sorts -/
def isMustS : Val → Bool
  | .tup (x :: _) => decide (x = .str s_must)
  | _ => false
def isManyS : Val → Bool
  | .tup (x :: _) => decide (x = .str s_many)
  | _ => false
theorem not_isTup {v : Val} (h : ¬ isTup v = true) : isTup v = false := by simpa using h
theorem isMust_not {v : Val} (h : ¬ isTup v = true) : isMustS v = false := by cases v <;> first | rfl | simp at h
theorem isMany_not {v : Val} (h : ¬ isTup v = true) : isManyS v = false := by cases v <;> first | rfl | simp at h
theorem is_must_ok (n : Nat) (v : Val) (hv : gd v = true) (hn : v ≠ .tup []) (m : Sto) : Fn (n + 1) .is_must [v] m = .ok (.bl (isMustS v)) m := by
  rw [Fn_is_must, e_body, b_is_must]
  by_cases hs : isTup v = true
  · obtain ⟨xs, rfl⟩ := isTup_iff.mp hs
    cases xs with
    | nil => exact absurd rfl hn
    | cons x xs => simp [isi_tup hv, eqV_str (gd_tup_mem hv (x := x) (by simp)), isMustS]
  · simp [isi_tup hv, not_isTup hs, isMust_not hs]
theorem is_many_ok (n : Nat) (v : Val) (hv : gd v = true) (hn : v ≠ .tup []) (m : Sto) : Fn (n + 1) .is_many [v] m = .ok (.bl (isManyS v)) m := by
  rw [Fn_is_many, e_body, b_is_many]
  by_cases hs : isTup v = true
  · obtain ⟨xs, rfl⟩ := isTup_iff.mp hs
    cases xs with
    | nil => exact absurd rfl hn
    | cons x xs => simp [isi_tup hv, eqV_str (gd_tup_mem hv (x := x) (by simp)), isManyS]
  · simp [isi_tup hv, not_isTup hs, isMany_not hs]
def bases : List Val := [.str s_number, .str s_text, .str s_truth]
@[simp] theorem gd_bases : gd (.tup bases) = true := by decide +kernel
def sortS (ns : List Val) : Nat → Val → Bool
  | 0, _ => false
  | d + 1, v => match v with
    | .str x => decide (Val.str x ∈ bases) || decide (Val.str x ∈ ns)
    | .tup [.str t, w] => (decide (t = s_must) || decide (t = s_many)) && (sortS ns d w && (decide (t = s_many) || !isMustS w))
    | _ => false
theorem sortS_ne {ns : List Val} {d : Nat} {v : Val} (h : sortS ns d v = true) : v ≠ .tup [] := by
  rintro rfl
  cases d <;> simp [sortS] at h
theorem must_many : ¬ s_must = s_many := by decide
theorem two_of {xs : List Val} (h : xs.length = 2) : ∃ a b, xs = [a, b] := by
  match xs, h with
  | [a, b], _ => exact ⟨a, b, rfl⟩
theorem is_sort_ok (ns : List Val) (hns : gd (.lst ns) = true) (m : Sto) : ∀ (d n : Nat) (v : Val), gd v = true → Fn (n + d + 2) .is_sort [v, .lst ns, .int d] m = .ok (.bl (sortS ns d v)) m
  | 0, n, v, hv => by
    rw [Fn_is_sort, e_body, b_is_sort]
    simp [sortS]
  | d + 1, n, v, hv => by
    have e : n + (d + 1) + 2 = (n + d + 2) + 1 := by omega
    rw [e, Fn_is_sort, e_body, b_is_sort]
    have hd : ¬ ((d : Int) + 1 = 0) := by omega
    cases v with
    | str x =>
      have h1 := inV_wt (m := m) hv gd_bases
      have h2 := inV_lst (m := m) hv hns
      rw [any_veq_str] at h1 h2
      simp only [bases] at h1
      simp [hd, isi_str hv, h1, h2, sortS, bases]
      clear h1 h2 hv
      grind
    | tup xs =>
      by_cases h2 : xs.length = 2
      · obtain ⟨a, b, rfl⟩ := two_of h2
        have ga := gd_tup_mem hv (x := a) (by simp)
        have gb := gd_tup_mem hv (x := b) (by simp)
        have ih := is_sort_ok ns hns m d n b gb
        have e1 : ((d : Int) + 1 - 1) = d := by omega
        by_cases hs : isStr a = true
        · obtain ⟨t, rfl⟩ := isStr_iff.mp hs
          have h3 := notInV_tup (m := m) (xs := [.str s_must, .str s_many]) ga (by decide +kernel)
          rw [any_veq_str] at h3
          by_cases hso : sortS ns d b = true
          · have h4 := is_must_ok (n + d + 1) b gb (sortS_ne hso) m
            have h5 := eqV_str (m := m) ga gd_s_many
            simp [hd, isi_str hv, isi_tup hv, isi_str ga, h3, e1, ih, sortS, hso, h4, h5]
            clear h3 h4 h5 ih hv ga gb
            grind
          · have hso' : sortS ns d b = false := by simpa using hso
            simp [hd, isi_str hv, isi_tup hv, isi_str ga, h3, e1, ih, sortS, hso']
        · simp [hd, isi_str hv, isi_tup hv, isi_str ga, not_isStr hs]
          cases a <;> first | exact absurd rfl hs | rfl
      · have : sortS ns (d + 1) (.tup xs) = false := by
          match xs, h2 with
          | [], _ => simp [sortS]
          | [_], _ => simp [sortS]
          | [_, _], h => exact absurd rfl h
          | _ :: _ :: _ :: _, _ => simp [sortS]
        simp [hd, isi_str hv, isi_tup hv, h2, this]
    | _ => first | (simp [gd, good] at hv; done) | simp [hd, isi_str hv, isi_tup hv, sortS]
/-! the law's -/
theorem must1 {xs : List Val} : veq (.tup (xs.take 1)) (.tup [.str s_must]) = isMustS (.tup xs) := by
  rw [veq_so (by simp [strOnly, strOnlyL])]
  cases xs <;> simp [isMustS]
theorem gd_take {xs : List Val} (h : gd (.tup xs) = true) (k : Nat) : gd (.tup (xs.take k)) = true := by
  simp only [gd, Bool.and_eq_true, decide_eq_true_eq] at h ⊢
  simp only [good, dep] at h ⊢
  refine ⟨goodL_of fun x hx => gdL_mem h.1 x (List.mem_of_mem_take hx), ?_⟩
  have h2 : depL (xs.take k) ≤ 59 := depL_le fun x hx => by
    have := depL_mem (List.mem_of_mem_take hx)
    omega
  omega
def rowS (a b : Int) : Val → Bool
  | .tup xs => decide (a ≤ xs.length) && decide ((xs.length : Int) ≤ b)
  | _ => false
@[simp] theorem rowS_tup {a b : Int} {xs : List Val} : rowS a b (.tup xs) = (decide (a ≤ xs.length) && decide ((xs.length : Int) ≤ b)) := rfl
theorem rowS_not {a b : Int} {v : Val} (h : ¬ isTup v = true) : rowS a b v = false := by cases v <;> first | exact absurd rfl h | rfl
theorem law_is_row_ok (n : Nat) (v : Val) (hv : gd v = true) (a b : Int) (m : Sto) : Fn (n + 1) ._law_is_row [v, .int a, .int b] m = .ok (.bl (rowS a b v)) m := by
  rw [Fn__law_is_row, e_body, b__law_is_row]
  by_cases hs : isTup v = true
  · obtain ⟨xs, rfl⟩ := isTup_iff.mp hs
    simp [isi_tup hv]
    grind
  · simp [isi_tup hv, not_isTup hs, rowS_not hs]
theorem fin1 (t : List Nat) (q1 q2 : Bool) (m : Sto) : (if t = s_must then if q2 = true then Res.ok (Val.bl false) m else if t = s_must ∨ t = s_many then Res.ok (Val.bl q1) m else Res.ok (Val.bl false) m
    else if t = s_must ∨ t = s_many then Res.ok (Val.bl q1) m else Res.ok (Val.bl false) m) = Res.ok (Val.bl ((decide (t = s_must) || decide (t = s_many)) && (q1 && (decide (t = s_many) || !q2)))) m := by
  have := must_many
  grind
theorem fin2 (t : List Nat) (q : Bool) (m : Sto) : (if t = s_must ∨ t = s_many then Res.ok (Val.bl q) m else Res.ok (Val.bl false) m) = Res.ok (Val.bl ((decide (t = s_must) || decide (t = s_many)) && q)) m := by grind
theorem law_is_sort_ok (ns : List Val) (hns : gd (.lst ns) = true) (m : Sto) : ∀ (d n : Nat) (v : Val), gd v = true → Fn (n + d + 2) ._law_is_sort [v, .lst ns, .int d] m = .ok (.bl (sortS ns d v)) m
  | 0, n, v, hv => by
    rw [Fn__law_is_sort, e_body, b__law_is_sort]
    simp [sortS]
  | d + 1, n, v, hv => by
    have e : n + (d + 1) + 2 = (n + d + 2) + 1 := by omega
    rw [e, Fn__law_is_sort, e_body, b__law_is_sort]
    have hd : ¬ ((d : Int) + 1 = 0) := by omega
    have hrow := law_is_row_ok (n + d + 1) v hv 2 2 m
    cases v with
    | str x =>
      have h1 := inV_tup (m := m) hv gd_bases
      have h2 := inV_lst (m := m) hv hns
      rw [any_veq_str] at h1 h2
      simp only [bases] at h1
      simp [hd, isi_str hv, h1, h2, sortS, bases]
      clear h1 h2 hrow hv
      grind
    | tup xs =>
      by_cases h2 : xs.length = 2
      · obtain ⟨a, b, rfl⟩ := two_of h2
        have ga := gd_tup_mem hv (x := a) (by simp)
        have gb := gd_tup_mem hv (x := b) (by simp)
        have ih := law_is_sort_ok ns hns m d n b gb
        have e1 : ((d : Int) + 1 - 1) = d := by omega
        simp at hrow
        by_cases hs : isStr a = true
        · obtain ⟨t, rfl⟩ := isStr_iff.mp hs
          have h3 := inV_tup (m := m) (xs := [.str s_must, .str s_many]) ga (by decide +kernel)
          rw [any_veq_str] at h3
          have h4 := eqV_str (m := m) ga gd_s_must
          have key : isTup b = true → (slcV b none (some 1) m).bind (fun v m1 => eqV v (.tup [.str s_must]) m1) = .ok (.bl (isMustS b)) m := fun hb => by
            obtain ⟨ys, rfl⟩ := isTup_iff.mp hb
            simp only [slcV_tup, cut_t1, Res.bind_ok]
            rw [eqV_gd (gd_take gb 1) (by decide +kernel), must1]
          by_cases hb : isTup b = true
          · have key := key hb
            simp only [Res.bind] at key
            obtain ⟨ys, rfl⟩ := isTup_iff.mp hb
            simp only [slcV_tup, cut_t1] at key
            simp [hd, isi_str hv, hrow, isi_str ga, isi_tup gb, h3, h4, e1, ih, sortS, key]
            exact fin1 _ _ _ _
          · simp [hd, isi_str hv, hrow, isi_str ga, isi_tup gb, not_isTup hb, isMust_not hb, h3, h4, e1, ih, sortS]
            exact fin2 _ _ _
        · simp [hd, isi_str hv, hrow, isi_str ga, not_isStr hs]
          cases a <;> first | exact absurd rfl hs | rfl
      · have : sortS ns (d + 1) (.tup xs) = false := by
          match xs, h2 with
          | [], _ => simp [sortS]
          | [_], _ => simp [sortS]
          | [_, _], h => exact absurd rfl h
          | _ :: _ :: _ :: _, _ => simp [sortS]
        have h2' : rowS 2 2 (.tup xs) = false := by simp; omega
        rw [h2'] at hrow
        simp [hd, isi_str hv, hrow, this]
    | _ => first | (simp [gd, good] at hv; done) | simp [hd, isi_str hv, hrow, sortS, rowS]
end LW

-- part L01M3
namespace LW
open G
/-! ### takes -/
def bareS : Val → Val
  | .tup [.str t, w] => if t = s_must then w else .tup [.str t, w]
  | v => v
def takesS (s : Val) : List (List Nat) := if isManyS (bareS s) = true then [s_first, s_skip] else if bareS s = .str s_number then [s_plus] else []
/-- the forms of a sort -/
theorem sort_forms {ns : List Val} {d : Nat} {s : Val} (h : sortS ns d s = true) : (∃ x, s = .str x ∧ (Val.str x ∈ bases ∨ Val.str x ∈ ns)) ∨ ∃ t w k, d = k + 1 ∧ s = .tup [.str t, w] ∧ (t = s_must ∨ t = s_many) ∧ sortS ns k w = true := by
  cases d with
  | zero => simp [sortS] at h
  | succ d =>
    match s, h with
    | .str x, h =>
      simp only [sortS] at h
      simp only [Bool.or_eq_true, decide_eq_true_eq] at h
      exact .inl ⟨x, rfl, h⟩
    | .tup [.str t, w], h =>
      simp only [sortS, Bool.and_eq_true, Bool.or_eq_true, decide_eq_true_eq] at h
      exact .inr ⟨t, w, d, rfl, rfl, h.1, h.2.1⟩
    | .tup [], h => simp [sortS] at h
    | .tup [_], h => simp [sortS] at h
    | .tup (_ :: _ :: _ :: _), h => simp [sortS] at h
    | .tup [.non, _], h => simp [sortS] at h
    | .tup [.bl _, _], h => simp [sortS] at h
    | .tup [.int _, _], h => simp [sortS] at h
    | .tup [.tup _, _], h => simp [sortS] at h
    | .tup [.lst _, _], h => simp [sortS] at h
    | .tup [.dct _ _, _], h => simp [sortS] at h
    | .tup [.ref _, _], h => simp [sortS] at h
    | .tup [.scr _, _], h => simp [sortS] at h
    | .tup [.wt _, _], h => simp [sortS] at h
    | .non, h => simp [sortS] at h
    | .bl _, h => simp [sortS] at h
    | .int _, h => simp [sortS] at h
    | .lst _, h => simp [sortS] at h
    | .dct _ _, h => simp [sortS] at h
    | .ref _, h => simp [sortS] at h
    | .scr _, h => simp [sortS] at h
    | .wt _, h => simp [sortS] at h
theorem bare_sort {ns : List Val} {d : Nat} {s : Val} (h : sortS ns d s = true) : ∃ k, sortS ns k (bareS s) = true := by
  rcases sort_forms h with ⟨x, rfl, _⟩ | ⟨t, w, k, rfl, rfl, ht, hw⟩
  · exact ⟨d, h⟩
  · simp only [bareS]
    by_cases e : t = s_must
    · rw [if_pos e]; exact ⟨k, hw⟩
    · rw [if_neg e]; exact ⟨k + 1, h⟩
theorem bare_gd {s : Val} (h : gd s = true) : gd (bareS s) = true := by
  unfold bareS
  split
  · split
    · exact gd_tup_mem h (by simp)
    · exact h
  · exact h
theorem bare_ok (n : Nat) (s : Val) (hs : gd s = true) {ns : List Val} {d : Nat} (h : sortS ns d s = true) (m : Sto) : Fn (n + 2) .bare [s] m = .ok (bareS s) m := by
  rw [Fn_bare, e_body, b_bare]
  have hm := is_must_ok n s hs (sortS_ne h) m
  rcases sort_forms h with ⟨x, rfl, _⟩ | ⟨t, w, k, rfl, rfl, ht, hw⟩
  · simp [hm, isMustS, bareS]
  · simp [hm, isMustS, bareS]
    split <;> rfl
theorem takes_gd (s : Val) : gd (.tup ((takesS s).map Val.str)) = true := by
  unfold takesS
  split
  · decide +kernel
  · split <;> decide +kernel
theorem takes_for_ok (n : Nat) (s : Val) (hs : gd s = true) {ns : List Val} {d : Nat} (h : sortS ns d s = true) (m : Sto) : Fn (n + 3) .takes_for [s] m = .ok (.tup ((takesS s).map Val.str)) m := by
  rw [Fn_takes_for, e_body, b_takes_for]
  obtain ⟨k, hk⟩ := bare_sort h
  have hb := bare_ok n s hs h m
  have hg := bare_gd hs
  have hm := is_many_ok (n + 1) (bareS s) hg (sortS_ne hk) m
  simp [hb, trimR_gd hg, hm, eqV_str hg, takesS]
  split
  · simp
  · split <;> simp
/-! ### fields -/
theorem all_strs : ∀ {ts : List Val}, (∀ t ∈ ts, isStr t = true) → ∃ xs : List (List Nat), ts = xs.map Val.str
  | [], _ => ⟨[], rfl⟩
  | t :: ts, h => by
    obtain ⟨x, rfl⟩ := isStr_iff.mp (h t (by simp))
    obtain ⟨xs, rfl⟩ := all_strs (ts := ts) fun u hu => h u (by simp [hu])
    exact ⟨x :: xs, rfl⟩
def inTakes (s t : Val) : Bool := decide (t ∈ (takesS s).map Val.str)
def fieldS (ns : List Val) : Val → Bool
  | .tup [w, s, .tup ts] => wordS w && (sortS ns 4 s && ((ts.all fun t => inTakes s t) && riseL (strsOf ts)))
  | _ => false
theorem three_of {xs : List Val} (h : xs.length = 3) : ∃ a b c, xs = [a, b, c] := by
  match xs, h with
  | [a, b, c], _ => exact ⟨a, b, c, rfl⟩
theorem fieldS_not3 {ns xs : List Val} (h : ¬ xs.length = 3) : fieldS ns (.tup xs) = false := by
  match xs, h with
  | [], _ => rfl
  | [_], _ => rfl
  | [_, _], _ => rfl
  | [_, _, _], h => exact absurd rfl h
  | _ :: _ :: _ :: _ :: _, _ => simp [fieldS]
theorem fieldS_not {ns : List Val} {v : Val} (h : ¬ isTup v = true) : fieldS ns v = false := by cases v <;> first | exact absurd rfl h | rfl
theorem is_field_ok (ns : List Val) (hns : gd (.lst ns) = true) (n : Nat) (v : Val) (hv : gd v = true) (hz : lens v = true) (m : Sto) : Fn (n + 7) .is_field [v, .lst ns] m = .ok (.bl (fieldS ns v)) m := by
  rw [Fn_is_field, e_body, b_is_field]
  by_cases hs : isTup v = true
  · obtain ⟨xs, rfl⟩ := isTup_iff.mp hs
    by_cases h3 : xs.length = 3
    · obtain ⟨w, s, tv, rfl⟩ := three_of h3
      have gw := gd_tup_mem hv (x := w) (by simp)
      have gs := gd_tup_mem hv (x := s) (by simp)
      have gt := gd_tup_mem hv (x := tv) (by simp)
      have hw := is_word_ok (n + 5) w gw m
      have hso := is_sort_ok ns hns m 4 n s gs
      simp only [show ((4 : Nat) : Int) = 4 from rfl] at hso
      by_cases hws : wordS w = true
      · by_cases hss : sortS ns 4 s = true
        · by_cases ht : isTup tv = true
          · obtain ⟨ts, rfl⟩ := isTup_iff.mp ht
            have hl := lens_len (lens_mem hz (x := .tup ts) (by simp))
            have htk := takes_for_ok (n + 3) s gs hss m
            have hc : compF (itF itemsA (bin2 idxV (varF 0) (conF (.int 2)))) (nameG 2) yesT (andF (isiF "str" (varF 2)) (bin2 inV (varF 2) (defF 1 (Fn (n + 6) .takes_for) (consF (bin2 idxV (varF 0) (conF (.int 1))) nilF)))) [2] [some (.tup [w, s, .tup ts]), some (.lst ns), none] m
                = .ok (.lst (ts.map fun t => .bl (isStr t && inTakes s t))) m := by
              refine comp_map (fun t => t) _ (by simp [itemsA, itemsQ]) (by omega) fun t htm => ⟨_, rfl, ?_⟩
              have gt' := gd_tup_mem gt htm
              have hin : isStr t = true → inV t (.tup ((takesS s).map Val.str)) m = .ok (.bl (inTakes s t)) m := fun hst => by
                obtain ⟨x, rfl⟩ := isStr_iff.mp hst
                rw [inV_tup gt' (takes_gd s), any_veq_str]; rfl
              cases hst : isStr t with
              | true => simp [wipeE, isi_str gt', hst, htk, trimR_gd (takes_gd s), hin hst]
              | false => simp [wipeE, isi_str gt', hst]
            have hall : (ts.all fun t => isStr t && inTakes s t) = (ts.all fun t => inTakes s t) := by
              congr 1
              funext t
              cases h : inTakes s t with
              | true =>
                simp only [inTakes, decide_eq_true_eq] at h
                obtain ⟨x, _, rfl⟩ := List.mem_map.mp h
                simp
              | false => simp
            cases hta : (ts.all fun t => inTakes s t) with
            | false => simp [isi_tup hv, isi_tup gt, hw, hso, hws, hss, hc, hall, hta, fieldS]
            | true =>
              have hr : Fn (n + 6) .rises [.tup ts] m = .ok (.bl (riseL (strsOf ts))) m := by
                obtain ⟨xs, rfl⟩ := all_strs (ts := ts) fun t htm => by
                  have := List.all_eq_true.mp hta t htm
                  simp only [inTakes, decide_eq_true_eq] at this
                  obtain ⟨x, _, rfl⟩ := List.mem_map.mp this
                  rfl
                rw [strsOf_map]
                exact rises_ok (n + 5) _ xs (by simpa using Nat.le_trans hl (by omega)) (.inl rfl) m
              simp [isi_tup hv, isi_tup gt, hw, hso, hws, hss, hc, hall, hta, hr, fieldS]
          · have : fieldS ns (.tup [w, s, tv]) = false := by cases tv <;> first | exact absurd rfl ht | rfl
            simp [isi_tup hv, isi_tup gt, hw, hso, hws, hss, not_isTup ht, this]
        · have hss' : sortS ns 4 s = false := by simpa using hss
          have : fieldS ns (.tup [w, s, tv]) = false := by cases tv <;> simp [fieldS, hss']
          simp [isi_tup hv, hw, hso, hws, hss', this]
      · have hws' : wordS w = false := by simpa using hws
        have : fieldS ns (.tup [w, s, tv]) = false := by cases tv <;> simp [fieldS, hws']
        simp [isi_tup hv, hw, hws', this]
    · simp [isi_tup hv, h3, fieldS_not3 h3]
  · simp [isi_tup hv, not_isTup hs, fieldS_not hs]

/-! the law's -/
def goodL (s : Val) : List Val := if bareS s = .str s_number then [.tup [], .tup [.str s_plus]] else if isManyS (bareS s) = true then [.tup [], .tup [.str s_first], .tup [.str s_skip], .tup [.str s_first, .str s_skip]] else [.tup []]
theorem rise_two : ∀ xs : List (List Nat), (∀ x ∈ xs, x = s_first ∨ x = s_skip) → riseL xs = decide (xs ∈ [[], [s_first], [s_skip], [s_first, s_skip]])
  | [], _ => by decide
  | [a], h => by
    rcases h a (by simp) with rfl | rfl <;> decide
  | [a, b], h => by
    rcases h a (by simp) with rfl | rfl <;> rcases h b (by simp) with rfl | rfl <;> decide
  | a :: b :: c :: r, h => by
    have e : decide (a :: b :: c :: r ∈ [[], [s_first], [s_skip], [s_first, s_skip]]) = false := by simp
    rw [e, riseL, riseL]
    have fs : decide (s_first < s_skip) = true := by decide
    have ff : decide (s_first < s_first) = false := by decide
    have ss : decide (s_skip < s_skip) = false := by decide
    have sf : decide (s_skip < s_first) = false := by decide
    rcases h a (by simp) with rfl | rfl <;> rcases h b (by simp) with rfl | rfl <;> rcases h c (by simp) with rfl | rfl <;> simp only [fs, ff, ss, sf, Bool.false_and, Bool.and_false, Bool.true_and]
theorem rise_one : ∀ xs : List (List Nat), (∀ x ∈ xs, x = s_plus) → riseL xs = decide (xs ∈ [[], [s_plus]])
  | [], _ => by decide
  | [a], h => by
    rcases h a (by simp) with rfl; decide
  | a :: b :: r, h => by
    have e : decide (a :: b :: r ∈ [[], [s_plus]]) = false := by simp
    have pp : decide (s_plus < s_plus) = false := by decide
    rw [e, riseL, h a (by simp), h b (by simp), pp]
    rfl
theorem tup_mem {xs : List (List Nat)} {gs : List (List (List Nat))} : decide (Val.tup (xs.map Val.str) ∈ gs.map fun g => Val.tup (g.map Val.str)) = decide (xs ∈ gs) := by
  rw [decide_eq_decide, List.mem_map]
  constructor
  · rintro ⟨g, hg, e⟩
    rw [Val.tup.injEq, map_str_inj] at e
    exact e ▸ hg
  · intro h; exact ⟨xs, h, rfl⟩
theorem good_takes (s : Val) (ts : List Val) : decide (Val.tup ts ∈ goodL s) = ((ts.all fun t => inTakes s t) && riseL (strsOf ts)) := by
  -- the good rows, as texts
  obtain ⟨gs, e, hin, hr⟩ : ∃ gs : List (List (List Nat)), goodL s = gs.map (fun g => Val.tup (g.map Val.str)) ∧ (∀ g ∈ gs, ∀ x ∈ g, x ∈ takesS s) ∧ ∀ xs : List (List Nat), (∀ x ∈ xs, x ∈ takesS s) → riseL xs = decide (xs ∈ gs) := by
    unfold goodL takesS
    by_cases h1 : bareS s = .str s_number
    · have h2 : isManyS (bareS s) = false := by rw [h1]; rfl
      rw [if_pos h1, if_neg (by rw [h2]; decide), if_pos h1]
      exact ⟨[[], [s_plus]], rfl, by simp, fun xs h => rise_one xs fun x hx => by simpa using h x hx⟩
    · rw [if_neg h1]
      by_cases h2 : isManyS (bareS s) = true
      · rw [if_pos h2, if_pos h2]
        exact ⟨[[], [s_first], [s_skip], [s_first, s_skip]], rfl, by simp, fun xs h => rise_two xs fun x hx => by simpa using h x hx⟩
      · rw [if_neg h2, if_neg h2, if_neg h1]
        refine ⟨[[]], rfl, by simp, fun xs h => ?_⟩
        cases xs with
        | nil => decide
        | cons x xs => exact absurd (h x (by simp)) (by simp)
  rw [e]
  cases ha : (ts.all fun t => inTakes s t) with
  | true =>
    have hs : ∀ t ∈ ts, ∃ x ∈ takesS s, t = .str x := fun t ht => by
      have := List.all_eq_true.mp ha t ht
      simp only [inTakes, decide_eq_true_eq] at this
      obtain ⟨x, hx, rfl⟩ := List.mem_map.mp this
      exact ⟨x, hx, rfl⟩
    obtain ⟨xs, rfl⟩ := all_strs (ts := ts) fun t ht => by obtain ⟨x, _, rfl⟩ := hs t ht; rfl
    rw [tup_mem, strsOf_map, hr xs fun x hx => by
      obtain ⟨y, hy, e⟩ := hs (.str x) (List.mem_map.mpr ⟨x, hx, rfl⟩)
      cases e
      exact hy, Bool.true_and]
  | false =>
    rw [Bool.false_and, decide_eq_false_iff_not]
    intro hm
    obtain ⟨g, hg, e⟩ := List.mem_map.mp hm
    cases e
    have : (g.map Val.str).all (fun t => inTakes s t) = true := by
      rw [List.all_eq_true]
      intro t ht
      obtain ⟨x, hx, rfl⟩ := List.mem_map.mp ht
      simp only [inTakes, decide_eq_true_eq]
      exact List.mem_map.mpr ⟨x, hin g hg x hx, rfl⟩
    rw [this] at ha
    cases ha
theorem good_gd (s : Val) : gd (.lst (goodL s)) = true := by
  unfold goodL
  split
  · decide +kernel
  · split <;> decide +kernel
theorem good_so (s : Val) : strOnlyL (goodL s) = true := by
  unfold goodL
  split
  · simp [strOnlyL, strOnly]
  · split <;> simp [strOnlyL, strOnly]
theorem any_so {xs : List Val} (h : strOnlyL xs = true) (v : Val) : (xs.any fun z => veq z v) = decide (v ∈ xs) := by
  induction xs with
  | nil => simp
  | cons y ys ih =>
    simp only [strOnlyL, Bool.and_eq_true] at h
    rw [List.any_cons, ih h.2, veq_so' h.1]
    simp
/-- the head of a sort -/
theorem sort_head {ns : List Val} (hne : ∀ x, Val.str x ∈ ns → x ≠ []) {d : Nat} {s : Val} (h : sortS ns d s = true) (hs : gd s = true) (m : Sto) :
    ∃ t, idxV s (.int 0) m = .ok (.str t) m ∧ gd (.str t) = true ∧ decide (t = s_must) = isMustS s ∧ decide (t = s_many) = isManyS s := by
  rcases sort_forms h with ⟨x, rfl, hx⟩ | ⟨t, w, k, rfl, rfl, ht, hw⟩
  · have hx0 : x ≠ [] := by
      rcases hx with hx | hx
      · simp [bases] at hx
        rcases hx with rfl | rfl | rfl <;> decide
      · exact hne x hx
    obtain ⟨c, r, rfl⟩ := List.exists_cons_of_ne_nil hx0
    refine ⟨[c], by simp [idxV_str (gd_len hs)], ?_, ?_, ?_⟩
    · have := gd_head hs
      rw [gd_str]
      simp [this]
    · simp [isMustS, s_must]
    · simp [isManyS, s_many]
  · exact ⟨t, by simp, gd_tup_mem hs (by simp), by simp [isMustS], by simp [isManyS]⟩
theorem bare_lens {s : Val} (h : gd s = true) : gd (bareS s) = true := bare_gd h
theorem law_is_field_ok (ns : List Val) (hns : gd (.lst ns) = true) (hne : ∀ x, Val.str x ∈ ns → x ≠ []) (n : Nat) (v : Val) (hv : gd v = true) (m : Sto) : Fn (n + 7) ._law_is_field [v, .lst ns] m = .ok (.bl (fieldS ns v)) m := by
  rw [Fn__law_is_field, e_body, b__law_is_field]
  have hrow := law_is_row_ok (n + 5) v hv 3 3 m
  by_cases hs : isTup v = true
  · obtain ⟨xs, rfl⟩ := isTup_iff.mp hs
    by_cases h3 : xs.length = 3
    · obtain ⟨w, s, tv, rfl⟩ := three_of h3
      have gw := gd_tup_mem hv (x := w) (by simp)
      have gs := gd_tup_mem hv (x := s) (by simp)
      have gt := gd_tup_mem hv (x := tv) (by simp)
      have hw := law_is_word_ok (n + 5) w gw m
      have hso := law_is_sort_ok ns hns m 4 n s gs
      simp only [show ((4 : Nat) : Int) = 4 from rfl] at hso
      simp at hrow
      by_cases hws : wordS w = true
      · by_cases hss : sortS ns 4 s = true
        · by_cases ht : isTup tv = true
          · obtain ⟨ts, rfl⟩ := isTup_iff.mp ht
            obtain ⟨t1, i1, g1, e1, e2⟩ := sort_head hne hss gs m
            obtain ⟨k, hk⟩ := bare_sort hss
            have gb := bare_gd gs
            obtain ⟨t2, i2, g2, e3, e4⟩ := sort_head hne hk gb m
            have hin := inV_lst (m := m) gt (good_gd s)
            rw [any_so (good_so s), good_takes] at hin
            have hfs : fieldS ns (.tup [w, s, .tup ts]) = ((ts.all fun t => inTakes s t) && riseL (strsOf ts)) := by simp [fieldS, hws, hss]
            have next : ∀ b : Val, b = bareS s → endR (seqR (.nx [some (.tup [w, s, .tup ts]), some (.lst ns), some b, none] m) (seqF (asgF (lstF (consF (tupF nilF) nilF)) (nameG 3))
              (seqF (ifF (tstF (bin2 eqV (bin2 idxV (varF 2) (conF (.int 0))) (conF (.str s_many)))) (asgF (lstF (consF (tupF nilF) (consF (tupF (consF (conF (.str s_first)) nilF)) (consF (tupF (consF (conF (.str s_skip)) nilF)) (consF (tupF (consF (conF (.str s_first)) (consF (conF (.str s_skip)) nilF))) nilF))))) (nameG 3)) nextF)
              (seqF (ifF (tstF (bin2 eqV (varF 2) (conF (.str s_number)))) (asgF (lstF (consF (tupF nilF) (consF (tupF (consF (conF (.str s_plus)) nilF)) nilF))) (nameG 3)) nextF)
              (retF (bin2 inV (bin2 idxV (varF 0) (conF (.int 2))) (varF 3))))))) = .ok (.bl (fieldS ns (.tup [w, s, .tup ts]))) m := by
              rintro b rfl
              rw [hfs]
              simp [i2, eqV_str g2, eqV_str gb]
              by_cases b2 : bareS s = .str s_number
              · simp only [goodL, b2, if_true] at hin
                simp [b2, hin]
              · by_cases b1 : t2 = s_many
                · have b3 : isManyS (bareS s) = true := by rw [← e4, decide_eq_true b1]
                  simp only [goodL, b2, b3, if_true, if_false] at hin
                  simp [b2, b1, hin]
                · have b3 : isManyS (bareS s) = false := by rw [← e4, decide_eq_false b1]
                  simp only [goodL, b2, b3, Bool.false_eq_true, if_false] at hin
                  simp [b2, b1, hin]
            by_cases b1 : t1 = s_must
            · have b3 : isMustS s = true := by rw [← e1, decide_eq_true b1]
              obtain ⟨w', hw', hb'⟩ : ∃ w', idxV s (.int 1) m = .ok w' m ∧ w' = bareS s := by
                rcases sort_forms hss with ⟨x, rfl, _⟩ | ⟨t, w', k, _, rfl, ht, _⟩
                · simp [isMustS] at b3
                · simp [isMustS] at b3
                  exact ⟨w', by simp, by simp [bareS, b3]⟩
              have nx := next w' hb'
              rw [seqR_nx] at nx
              have q1 : eqV (.str t1) (.str s_must) m = .ok (.bl true) m := by rw [eqV_str g1 gd_s_must]; simp [b1]
              simp [hrow, isi_tup gt, hw, hso, hws, hss, i1, q1, hw']
              simpa using nx
            · have b3 : isMustS s = false := by rw [← e1, decide_eq_false b1]
              have hb' : s = bareS s := by
                rcases sort_forms hss with ⟨x, rfl, _⟩ | ⟨t, w', k, _, rfl, ht, _⟩
                · rfl
                · simp [isMustS] at b3
                  simp [bareS, b3]
              have nx := next s hb'
              rw [seqR_nx] at nx
              have q1 : eqV (.str t1) (.str s_must) m = .ok (.bl false) m := by rw [eqV_str g1 gd_s_must]; simp [b1]
              simp [hrow, isi_tup gt, hw, hso, hws, hss, i1, q1]
              simpa [i1] using nx
          · have : fieldS ns (.tup [w, s, tv]) = false := by cases tv <;> first | exact absurd rfl ht | rfl
            simp [hrow, isi_tup gt, hw, hso, hws, hss, not_isTup ht, this]
        · have hss' : sortS ns 4 s = false := by simpa using hss
          have : fieldS ns (.tup [w, s, tv]) = false := by cases tv <;> simp [fieldS, hss']
          simp [hrow, hw, hso, hws, hss', this]
      · have hws' : wordS w = false := by simpa using hws
        have : fieldS ns (.tup [w, s, tv]) = false := by cases tv <;> simp [fieldS, hws']
        simp [hrow, hw, hws', this]
    · have : rowS 3 3 (.tup xs) = false := by simp; omega
      rw [this] at hrow
      simp [hrow, fieldS_not3 h3]
  · rw [rowS_not hs] at hrow
    simp [hrow, fieldS_not hs]
end LW

-- part L01M4
namespace LW
open G
/-! ### rows of fields -/
/-- the text at a row's head -/
def name0 : Val → List Nat
  | .tup (.str x :: _) => x
  | _ => []
def fieldsS (ns : List Val) : Val → Bool
  | .tup fs => decide (1 ≤ fs.length) && (decide (fs.length ≤ 5) && ((fs.all fun f => fieldS ns f) && riseL (fs.map name0)))
  | _ => false
theorem wordS_str {v : Val} (h : wordS v = true) : ∃ x, v = .str x := by cases v <;> first | exact ⟨_, rfl⟩ | simp [wordS] at h
theorem kindS_str {v : Val} (h : kindS v = true) : ∃ x, v = .str x ∧ x ≠ [] := by
  cases v with
  | str x => cases x with
    | nil => simp [kindS] at h
    | cons c r => exact ⟨_, rfl, by simp⟩
  | _ => simp [kindS] at h
theorem fieldS_form {ns : List Val} {f : Val} (h : fieldS ns f = true) : ∃ x s ts, f = .tup [.str x, s, .tup ts] := by
  unfold fieldS at h
  split at h
  · rename_i w s ts
    simp only [Bool.and_eq_true] at h
    obtain ⟨x, rfl⟩ := wordS_str h.1
    exact ⟨x, s, ts, rfl⟩
  · cases h
theorem fields_not {ns : List Val} {v : Val} (h : ¬ isTup v = true) : fieldsS ns v = false := by cases v <;> first | exact absurd rfl h | rfl
/-- the names of rows, walked -/
theorem names_comp {fs : List Val} {ρ : Env} {it : IF} {m : Sto} {i : Nat} (hi : it ρ m = .ok (fs, none) m) (hl : fs.length ≤ 1000) (h : ∀ f ∈ fs, ∃ x r, f = .tup (.str x :: r)) (hr : i < ρ.length) :
    compF it (nameG i) yesT (bin2 idxV (varF i) (conF (.int 0))) [i] ρ m = .ok (.lst ((fs.map name0).map Val.str)) m := by
  rw [List.map_map]
  refine comp_map (fun f => f) _ (by simpa using hi) (by omega) fun f hf => ⟨_, rfl, ?_⟩
  obtain ⟨x, r, rfl⟩ := h f hf
  simp [wipeE, hr, name0]
theorem are_fields_ok (ns : List Val) (hns : gd (.lst ns) = true) (n : Nat) (v : Val) (hv : gd v = true) (hz : lens v = true) (m : Sto) : Fn (n + 8) .are_fields [v, .lst ns] m = .ok (.bl (fieldsS ns v)) m := by
  rw [Fn_are_fields, e_body, b_are_fields]
  by_cases hs : isTup v = true
  · obtain ⟨fs, rfl⟩ := isTup_iff.mp hs
    have hl := lens_len hz
    have hc : compF (itF itemsA (varF 0)) (nameG 2) yesT (defF 2 (Fn (n + 7) .is_field) (consF (varF 2) (consF (varF 1) nilF))) [2] [some (.tup fs), some (.lst ns), none] m = .ok (.lst (fs.map fun f => .bl (fieldS ns f))) m := by
      refine comp_map (fun f => f) _ (by simp [itemsA, itemsQ]) (by omega) fun f hf => ⟨_, rfl, ?_⟩
      have := is_field_ok ns hns n f (gd_tup_mem hv hf) (lens_mem hz hf) m
      simp [wipeE, this]
    by_cases h1 : 1 ≤ fs.length
    · by_cases h2 : fs.length ≤ 5
      · cases hall : (fs.all fun f => fieldS ns f) with
        | false => simp [isi_tup hv, h1, h2, hc, hall, fieldsS]
        | true =>
          have hn := names_comp (fs := fs) (ρ := [some (.tup fs), some (.lst ns), none]) (it := itF itemsA (varF 0)) (m := m) (i := 2) (by simp [itemsA, itemsQ]) hl (fun f hf => by
            obtain ⟨x, s, ts, rfl⟩ := fieldS_form (List.all_eq_true.mp hall f hf)
            exact ⟨x, _, rfl⟩) (by simp)
          have hr := rises_ok (n + 6) _ (fs.map name0) (by simp; omega) (.inr rfl) m
          simp [isi_tup hv, h1, h2, hc, hall, fieldsS, hn, hr, -List.map_map]
      · simp [isi_tup hv, h1, h2, fieldsS]
    · simp [isi_tup hv, h1, fieldsS]
  · simp [isi_tup hv, not_isTup hs, fields_not hs]
/-! ### books -/
def kindRow : Val → Bool
  | .tup [k, _] => kindS k
  | _ => false
def second : Val → Val
  | .tup [_, f] => f
  | _ => .non
def bookS : Val → Bool
  | .tup ks => decide (1 ≤ ks.length) && (decide (ks.length ≤ 4) && ((ks.all kindRow) && (riseL (ks.map name0) && (decide (s_Root ∈ ks.map name0) && ks.all fun k => fieldsS ((ks.map name0).map Val.str) (second k)))))
  | _ => false
theorem kindRow_form {k : Val} (h : kindRow k = true) : ∃ x f, k = .tup [.str x, f] ∧ x ≠ [] := by
  unfold kindRow at h
  split at h
  · rename_i k f
    obtain ⟨x, rfl, hx⟩ := kindS_str h
    exact ⟨x, f, rfl, hx⟩
  · cases h
theorem book_not {v : Val} (h : ¬ isTup v = true) : bookS v = false := by cases v <;> first | exact absurd rfl h | rfl
theorem gd_names {ks : List Val} (hk : gd (.tup ks) = true) (h : ∀ k ∈ ks, ∃ x f, k = .tup (.str x :: f)) : gd (.lst ((ks.map name0).map Val.str)) = true := by
  refine gdn_gd (n := 1) (gdn_lst fun v hv => ?_) (by omega)
  obtain ⟨x, hx, rfl⟩ := List.mem_map.mp hv
  obtain ⟨k, hk2, rfl⟩ := List.mem_map.mp hx
  obtain ⟨x, f, rfl⟩ := h k hk2
  have := gd_tup_mem (gd_tup_mem hk hk2) (x := .str x) (by simp)
  rw [gd_str] at this
  rw [gdn_str]
  exact this
theorem second_gd {ks : List Val} (hk : gd (.tup ks) = true) {k : Val} (h : k ∈ ks) {x f : Val} (e : k = .tup [x, f]) : gd f = true := by
  subst e
  exact gd_tup_mem (gd_tup_mem hk h) (by simp)
theorem is_book_ok (n : Nat) (v : Val) (hv : gd v = true) (hz : lens v = true) (m : Sto) : Fn (n + 10) .is_book [v] m = .ok (.bl (bookS v)) m := by
  rw [Fn_is_book, e_body, b_is_book]
  by_cases hs : isTup v = true
  · obtain ⟨ks, rfl⟩ := isTup_iff.mp hs
    have hl := lens_len hz
    have hc : compF (itF itemsA (varF 0)) (nameG 2) yesT (andF (isiF "tuple" (varF 2)) (andF (bin2 eqV (callF lenV (consF (varF 2) nilF)) (conF (.int 2))) (defF 1 (Fn (n + 9) .is_kind_name) (consF (bin2 idxV (varF 2) (conF (.int 0))) nilF)))) [2] [some (.tup ks), none, none] m
        = .ok (.lst (ks.map fun k => .bl (kindRow k))) m := by
      refine comp_map (fun k => k) _ (by simp [itemsA, itemsQ]) (by omega) fun k hk => ⟨_, rfl, ?_⟩
      have gk := gd_tup_mem hv hk
      by_cases ht : isTup k = true
      · obtain ⟨xs, rfl⟩ := isTup_iff.mp ht
        by_cases h2 : xs.length = 2
        · obtain ⟨a, b, rfl⟩ := two_of h2
          have := is_kind_ok (n + 8) a (gd_tup_mem gk (by simp)) m
          simp [wipeE, isi_tup gk, this, kindRow]
        · have : kindRow (.tup xs) = false := by
            match xs, h2 with
            | [], _ => rfl
            | [_], _ => rfl
            | [_, _], h => exact absurd rfl h
            | _ :: _ :: _ :: _, _ => rfl
          simp [wipeE, isi_tup gk, h2, this]
      · have : kindRow k = false := by cases k <;> first | exact absurd rfl ht | rfl
        simp [wipeE, isi_tup gk, not_isTup ht, this]
    by_cases h1 : 1 ≤ ks.length
    · by_cases h2 : ks.length ≤ 4
      · cases hall : (ks.all kindRow) with
        | false => simp [isi_tup hv, h1, h2, hc, hall, bookS]
        | true =>
          have form : ∀ k ∈ ks, ∃ x f, k = .tup [.str x, f] ∧ x ≠ [] := fun k hk => kindRow_form (List.all_eq_true.mp hall k hk)
          have form' : ∀ k ∈ ks, ∃ x r, k = .tup (.str x :: r) := fun k hk => by obtain ⟨x, f, e, _⟩ := form k hk; exact ⟨x, _, e⟩
          have hn := names_comp (fs := ks) (ρ := [some (.tup ks), none, none]) (it := itF itemsA (varF 0)) (m := m) (i := 2) (by simp [itemsA, itemsQ]) hl form' (by simp)
          have hr := rises_ok (n + 8) _ (ks.map name0) (by simp; omega) (.inr rfl) m
          have gn := gd_names hv form'
          have hin := inV_lst (m := m) gd_s_Root gn
          rw [any_strs] at hin
          have hc2 : compF (itF itemsA (varF 0)) (nameG 2) yesT (defF 2 (Fn (n + 9) .are_fields) (consF (bin2 idxV (varF 2) (conF (.int 1))) (consF (varF 1) nilF))) [2] [some (.tup ks), some (.lst ((ks.map name0).map Val.str)), none] m
              = .ok (.lst (ks.map fun k => .bl (fieldsS ((ks.map name0).map Val.str) (second k)))) m := by
            refine comp_map (fun k => k) _ (by simp [itemsA, itemsQ]) (by omega) fun k hk => ⟨_, rfl, ?_⟩
            obtain ⟨x, f, rfl, _⟩ := form k hk
            have lf := lens_mem (lens_mem hz hk) (x := f) (by simp)
            have := are_fields_ok _ gn (n + 1) f (second_gd hv hk rfl) lf m
            simp [wipeE, this, second, -List.map_map]
          simp [isi_tup hv, h1, h2, hc, hall, bookS, hn, hr, hin, hc2, -List.map_map, -List.mem_map]
          cases riseL (ks.map name0) <;> by_cases hm : s_Root ∈ ks.map name0 <;> simp [hm, -List.map_map, -List.mem_map]
      · simp [isi_tup hv, h1, h2, bookS]
    · simp [isi_tup hv, h1, bookS]
  · simp [isi_tup hv, not_isTup hs, book_not hs]
/-! the law's -/
theorem gd_filter {xs : List Val} (h : gd (.tup xs) = true) (p : Val → Bool) : gd (.lst ((xs.filter p).map fun x => x)) = true := by
  simp only [gd, Bool.and_eq_true, decide_eq_true_eq] at h ⊢
  simp only [good, dep] at h ⊢
  rw [List.map_id'']
  · refine ⟨goodL_of fun x hx => gdL_mem h.1 x (List.mem_filter.mp hx).1, ?_⟩
    have h2 : depL (xs.filter p) ≤ 59 := depL_le fun x hx => by
      have := depL_mem (List.mem_filter.mp hx).1
      omega
    omega
  · intro x; rfl
theorem ne_nil_filter {xs : List Val} (h : gd (.tup xs) = true) (p : Val → Bool) (m : Sto) : neV (.lst ((xs.filter fun x => !p x).map fun x => x)) (.lst []) m = .ok (.bl (!xs.all p)) m := by
  rw [neV_gd (gd_filter h _) (by decide), lst_nil]
  congr 2
  congr 1
  rw [Bool.eq_iff_iff]
  simp only [decide_eq_true_eq, List.map_eq_nil_iff, List.filter_eq_nil_iff, List.all_eq_true]
  constructor
  · intro h c hc; simpa using h c hc
  · intro h c hc; simpa using h c hc
theorem law_fields_step (ns : List Val) (hns : gd (.lst ns) = true) (hne : ∀ x, Val.str x ∈ ns → x ≠ []) (n : Nat) (t f k : Val) (c : Option Val) (hf : gd f = true) (hz : lens f = true) (m : Sto) :
    (fieldsS ns f = true ∧ ∃ c', (seqF (ifF (orTF (notTF (tstF (defF 3 (Fn (n + 9) ._law_is_row) (consF (varF 3) (consF (conF (.int 1)) (consF (conF (.int 5)) nilF)))))) (tstF (bin2 neV (compF (itF itemsA (varF 3)) (nameG 6) (notTF (tstF (defF 2 (Fn (n + 9) ._law_is_field) (consF (varF 6) (consF (varF 1) nilF))))) (varF 6) [6]) (lstF nilF)))) (retF (conF (.bl false))) nextF)
      (seqF (asgF (compF (itF itemsA (varF 3)) (nameG 7) yesT (bin2 idxV (varF 7) (conF (.int 0))) [7]) (nameG 4))
      (ifF (tstF (bin2 neV (varF 4) (ssortF (varF 4)))) (retF (conF (.bl false))) nextF))) [some t, some (.lst ns), some k, some f, c, none, none, none] m = .nx [some t, some (.lst ns), some k, some f, c', none, none, none] m) ∨
    (fieldsS ns f = false ∧ (seqF (ifF (orTF (notTF (tstF (defF 3 (Fn (n + 9) ._law_is_row) (consF (varF 3) (consF (conF (.int 1)) (consF (conF (.int 5)) nilF)))))) (tstF (bin2 neV (compF (itF itemsA (varF 3)) (nameG 6) (notTF (tstF (defF 2 (Fn (n + 9) ._law_is_field) (consF (varF 6) (consF (varF 1) nilF))))) (varF 6) [6]) (lstF nilF)))) (retF (conF (.bl false))) nextF)
      (seqF (asgF (compF (itF itemsA (varF 3)) (nameG 7) yesT (bin2 idxV (varF 7) (conF (.int 0))) [7]) (nameG 4))
      (ifF (tstF (bin2 neV (varF 4) (ssortF (varF 4)))) (retF (conF (.bl false))) nextF))) [some t, some (.lst ns), some k, some f, c, none, none, none] m = .rt (.bl false) m) := by
  have hrow := law_is_row_ok (n + 8) f hf 1 5 m
  by_cases hs : isTup f = true
  · obtain ⟨fs, rfl⟩ := isTup_iff.mp hs
    have hl := lens_len hz
    by_cases h12 : 1 ≤ fs.length ∧ fs.length ≤ 5
    · obtain ⟨h1, h2⟩ := h12
      have hrt : rowS 1 5 (.tup fs) = true := by simp; omega
      rw [hrt] at hrow
      have hc : compF (itF itemsA (varF 3)) (nameG 6) (notTF (tstF (defF 2 (Fn (n + 9) ._law_is_field) (consF (varF 6) (consF (varF 1) nilF))))) (varF 6) [6] [some t, some (.lst ns), some k, some (.tup fs), c, none, none, none] m
          = .ok (.lst ((fs.filter fun k => !fieldS ns k).map fun k => k)) m := by
        refine comp_filter (fun k => k) (fun k => !fieldS ns k) (fun k => k) (by simp [itemsA, itemsQ]) (by omega) fun g hg => ⟨_, rfl, ?_, fun _ => by simp [wipeE]⟩
        have := law_is_field_ok ns hns hne (n + 2) g (gd_tup_mem hf hg) m
        simp [wipeE, this]
      have hnn := ne_nil_filter hf (fieldS ns) m
      cases hall : (fs.all (fieldS ns)) with
      | false =>
        rw [hall] at hnn
        right
        simp [hrow, hc, hnn, fieldsS, h1, h2, hall, -List.map_id_fun']
      | true =>
        rw [hall] at hnn
        have form' : ∀ k ∈ fs, ∃ x r, k = .tup (.str x :: r) := fun k hk => by
          obtain ⟨x, s, ts, rfl⟩ := fieldS_form (List.all_eq_true.mp hall k hk)
          exact ⟨x, _, rfl⟩
        have hn := names_comp (fs := fs) (ρ := [some t, some (.lst ns), some k, some (.tup fs), c, none, none, none]) (it := itF itemsA (varF 3)) (m := m) (i := 7) (by simp [itemsA, itemsQ]) hl form' (by simp)
        have gn := gd_names hf form'
        have hss := ssort_strs (f := varF 4) (ρ := [some t, some (.lst ns), some k, some (.tup fs), some (.lst ((fs.map name0).map Val.str)), none, none, none]) (m := m) (xs := fs.map name0) (by simp) (by simp; omega)
        have hne2 := ne_ssort (m := m) gn
        cases hrise : riseL (fs.map name0) with
        | false =>
          rw [hrise] at hne2
          right
          simp [hrow, hc, hnn, fieldsS, h1, h2, hall, hn, hss, hne2, hrise, -List.map_map, -List.map_id_fun']
        | true =>
          rw [hrise] at hne2
          left
          refine ⟨by simp [fieldsS, h1, h2, hall, hrise], some (.lst ((fs.map name0).map Val.str)), ?_⟩
          simp [hrow, hc, hnn, hn, hss, hne2, -List.map_map, -List.map_id_fun']
    · have hrt : rowS 1 5 (.tup fs) = false := by simp; omega
      rw [hrt] at hrow
      right
      refine ⟨?_, by simp [hrow]⟩
      simp only [fieldsS]
      grind
  · rw [rowS_not hs] at hrow
    right
    exact ⟨fields_not hs, by simp [hrow]⟩
theorem law_is_book_ok (n : Nat) (v : Val) (hv : gd v = true) (hz : lens v = true) (m : Sto) : Fn (n + 10) ._law_is_book [v] m = .ok (.bl (bookS v)) m := by
  rw [Fn__law_is_book, e_body, b__law_is_book, b__law_is_book_l1]
  have hrow := law_is_row_ok (n + 8) v hv 1 4 m
  by_cases hs : isTup v = true
  · obtain ⟨ks, rfl⟩ := isTup_iff.mp hs
    have hl := lens_len hz
    have hc : compF (itF itemsA (varF 0)) (nameG 5) (orTF (notTF (tstF (defF 3 (Fn (n + 9) ._law_is_row) (consF (varF 5) (consF (conF (.int 2)) (consF (conF (.int 2)) nilF)))))) (notTF (tstF (defF 1 (Fn (n + 9) ._law_is_kind) (consF (bin2 idxV (varF 5) (conF (.int 0))) nilF))))) (varF 5) [5] [some (.tup ks), none, none, none, none, none, none, none] m
        = .ok (.lst ((ks.filter fun k => !kindRow k).map fun k => k)) m := by
      refine comp_filter (fun k => k) (fun k => !kindRow k) (fun k => k) (by simp [itemsA, itemsQ]) (by omega) fun k hk => ⟨_, rfl, ?_, fun _ => by simp [wipeE]⟩
      have gk := gd_tup_mem hv hk
      have hr2 := law_is_row_ok (n + 8) k gk 2 2 m
      by_cases ht : isTup k = true
      · obtain ⟨xs, rfl⟩ := isTup_iff.mp ht
        by_cases h2 : xs.length = 2
        · obtain ⟨a, b, rfl⟩ := two_of h2
          have := law_is_kind_ok (n + 7) a (gd_tup_mem gk (by simp)) m
          simp at hr2
          simp [wipeE, hr2, this, kindRow]
        · have : kindRow (.tup xs) = false := by
            match xs, h2 with
            | [], _ => rfl
            | [_], _ => rfl
            | [_, _], h => exact absurd rfl h
            | _ :: _ :: _ :: _, _ => rfl
          have h2' : rowS 2 2 (.tup xs) = false := by simp; omega
          rw [h2'] at hr2
          simp [wipeE, hr2, this]
      · have : kindRow k = false := by cases k <;> first | exact absurd rfl ht | rfl
        rw [rowS_not ht] at hr2
        simp [wipeE, hr2, this]
    by_cases h12 : 1 ≤ ks.length ∧ ks.length ≤ 4
    · obtain ⟨h1, h2⟩ := h12
      have hrt : rowS 1 4 (.tup ks) = true := by simp; omega
      rw [hrt] at hrow
      have hne := ne_nil_filter hv kindRow m
      cases hall : (ks.all kindRow) with
      | false =>
        rw [hall] at hne
        simp [hrow, hc, hne, bookS, h1, h2, hall, -List.map_id_fun']
      | true =>
        rw [hall] at hne
        have form : ∀ k ∈ ks, ∃ x f, k = .tup [.str x, f] ∧ x ≠ [] := fun k hk => kindRow_form (List.all_eq_true.mp hall k hk)
        have form' : ∀ k ∈ ks, ∃ x r, k = .tup (.str x :: r) := fun k hk => by obtain ⟨x, f, e, _⟩ := form k hk; exact ⟨x, _, e⟩
        have hn := names_comp (fs := ks) (ρ := [some (.tup ks), none, none, none, none, none, none, none]) (it := itF itemsA (varF 0)) (m := m) (i := 5) (by simp [itemsA, itemsQ]) hl form' (by simp)
        have gn := gd_names hv form'
        have hin := notInV_lst (m := m) gd_s_Root gn
        rw [any_strs] at hin
        have hss := ssort_strs (f := varF 1) (ρ := [some (.tup ks), some (.lst ((ks.map name0).map Val.str)), none, none, none, none, none, none]) (m := m) (xs := ks.map name0) (by simp) (by simp; omega)
        have hnn := ne_ssort (m := m) gn
        have hne' : ∀ x, Val.str x ∈ (ks.map name0).map Val.str → x ≠ [] := fun x hx => by
          obtain ⟨y, hy, e⟩ := List.mem_map.mp hx
          cases e
          obtain ⟨k, hk, rfl⟩ := List.mem_map.mp hy
          obtain ⟨x, f, rfl, hx2⟩ := form k hk
          exact hx2
        simp [hrow, hc, hne, hn, hss, hnn, hin, bookS, h1, h2, hall, -List.map_map, -List.mem_map, -List.map_id_fun']
        have loop := for_check (g := tupG 2 (consG (nameG 2) (consG (nameG 3) nilG))) (b := (seqF (ifF (orTF (notTF (tstF (defF 3 (Fn (n + 9) ._law_is_row) (consF (varF 3) (consF (conF (.int 1)) (consF (conF (.int 5)) nilF)))))) (tstF (bin2 neV (compF (itF itemsA (varF 3)) (nameG 6) (notTF (tstF (defF 2 (Fn (n + 9) ._law_is_field) (consF (varF 6) (consF (varF 1) nilF))))) (varF 6) [6]) (lstF nilF)))) (retF (conF (.bl false))) nextF)
            (seqF (asgF (compF (itF itemsA (varF 3)) (nameG 7) yesT (bin2 idxV (varF 7) (conF (.int 0))) [7]) (nameG 4))
            (ifF (tstF (bin2 neV (varF 4) (ssortF (varF 4)))) (retF (conF (.bl false))) nextF)))) (m := m) (r := .bl false)
          (fun ρ => ∃ a b c, ρ = [some (.tup ks), some (.lst ((ks.map name0).map Val.str)), a, b, c, none, none, none]) (fun k => fieldsS ((ks.map name0).map Val.str) (second k))
          (vs := ks) (ρ := [some (.tup ks), some (.lst ((ks.map name0).map Val.str)), none, none, none, none, none, none]) ⟨_, _, _, rfl⟩ (fun k hk ρ ⟨a, b, c, e⟩ => by
            subst e
            obtain ⟨x, f, rfl, hx⟩ := form k hk
            refine ⟨[some (.tup ks), some (.lst ((ks.map name0).map Val.str)), some (.str x), some f, c, none, none, none], by simp [tupG, consG, nilG, -List.map_map], ?_⟩
            rcases law_fields_step _ gn hne' n (.tup ks) f (.str x) c (second_gd hv hk rfl) (lens_mem (lens_mem hz hk) (by simp)) m with ⟨h1, c', h2⟩ | ⟨h1, h2⟩
            · exact .inl ⟨h1, _, ⟨_, _, _, rfl⟩, h2⟩
            · exact .inr ⟨h1, h2⟩)
        rcases loop with ⟨hp, ρ2, ⟨a, b, c, rfl⟩, hlp⟩ | ⟨hp, hlp⟩
        · simp [e_for, itemsA, itemsQ, hlp, hp, -List.map_map, -List.mem_map]
          cases riseL (ks.map name0) <;> by_cases hm : s_Root ∈ ks.map name0 <;> simp [hm, -List.map_map, -List.mem_map]
        · simp [e_for, itemsA, itemsQ, hlp, hp, -List.map_map, -List.mem_map]
          done
    · have hrt : rowS 1 4 (.tup ks) = false := by simp; omega
      rw [hrt] at hrow
      have : bookS (.tup ks) = false := by
        simp only [bookS]
        grind
      simp [hrow, this]
  · rw [rowS_not hs] at hrow
    simp [hrow, book_not hs]
end LW

-- part L01M5
namespace LW
open G
open PySem (Builtin.Int.intBits)
/-! ### drawn numbers -/
theorem cell_at_ok (n : Nat) (ns : List Int) (k : Nat) (m : Sto) : Fn (n + 1) ._law_cell_at [.scr ns, .int k] m = .ok (.int (ns.getD k 0)) m := by
  rw [Fn__law_cell_at, e_body, b__law_cell_at]
  by_cases h : k < ns.length
  · have e : ((k : Int) < ns.length) := by omega
    simp [e, atI_nat, h]
  · have e : ¬ ((k : Int) < ns.length) := by omega
    simp [e, h]
theorem getD_bits {ns : List Int} (h : ∀ z ∈ ns, PySem.Builtin.Int.intBits z ≤ 1048576) (k : Nat) : PySem.Builtin.Int.intBits (ns.getD k 0) ≤ 1048576 := by
  rw [List.getD_eq_getElem?_getD]
  cases e : ns[k]? with
  | none => simp [PySem.Builtin.Int.intBits]
  | some z => exact h z (List.mem_of_getElem? e)
theorem mixed_ok (n : Nat) (ns : List Int) (h : ∀ z ∈ ns, PySem.Builtin.Int.intBits z ≤ 1048576) (k : Nat) (hk : k < 100) : ∃ N, Drw N ∧ ∀ m, Fn (n + 2) ._law_mixed [.scr ns, .int k] m = .ok (.int N) m := by
  have hb := getD_bits h k
  have hd := drw_mod (a := (ns.getD k 0 + 7919 * k + 1) * 48271) 2147483647 (by omega) (by omega)
  generalize hD : (ns.getD k 0 + 7919 * k + 1) * 48271 % 2147483647 = D at hd
  obtain ⟨d1, d2⟩ := hd
  refine ⟨(D * D + 7 * D + k) % 2147483629, drw_mod _ (by omega) (by omega), fun m => ?_⟩
  rw [Fn__law_mixed, e_body, b__law_mixed]
  have hc := cell_at_ok n ns k m
  have m1 : mulOk 7919 k := mulOk_small (by omega) (by omega) (by omega) (by omega)
  have m2 : mulOk (ns.getD k 0 + (7919 * k + 1)) 48271 := mulOk_big hb (by omega) (by omega) (by omega) (by omega)
  rw [← Int.add_assoc] at m2
  have m3 : mulOk D D := mulOk_small (by omega) (by omega) (by omega) (by omega)
  have m4 : mulOk 7 D := mulOk_small (by omega) (by omega) (by omega) (by omega)
  simp only [e_seq, e_asg, e_bin2, e_def, e_cons, e_nil, e_var, e_con, e_ret, List.map_cons, List.map_nil, List.length_cons, List.length_nil, List.cons_append, List.nil_append, List.replicate, List.getElem?_cons_zero, List.getElem?_cons_succ, Res.bind_ok, if_true, hc, trimR_int, mulV_int m1, addV_int, mulV_int m2, modV_int (show (0 : Int) < 2147483647 by omega), sbind_ok, e_name, asgR_some, seqR_nx, hD]
  simp [mulV_int m3, mulV_int m4, modV_int (show (0 : Int) < 2147483629 by omega)]
theorem drawn_ok (n : Nat) (a : Int) (ha : Drw a) (k : Nat) (hk : k < 1000) : ∃ N, Drw N ∧ ∀ m, Fn (n + 1) ._law_drawn [.int a, .int k] m = .ok (.int N) m := by
  have hd := drw_mod (a := (a + 104729 * k + 17) * 69621) 2147483647 (by omega) (by omega)
  obtain ⟨a1, a2⟩ := ha
  generalize hD : (a + 104729 * k + 17) * 69621 % 2147483647 = D at hd
  obtain ⟨d1, d2⟩ := hd
  refine ⟨(D * D + 3 * D + k) % 2147483629, drw_mod _ (by omega) (by omega), fun m => ?_⟩
  rw [Fn__law_drawn, e_body, b__law_drawn]
  have m1 : mulOk 104729 k := mulOk_small (by omega) (by omega) (by omega) (by omega)
  have m2 : mulOk (a + 104729 * k + 17) 69621 := mulOk_small (by omega) (by omega) (by omega) (by omega)
  have m3 : mulOk D D := mulOk_small (by omega) (by omega) (by omega) (by omega)
  have m4 : mulOk 3 D := mulOk_small (by omega) (by omega) (by omega) (by omega)
  simp only [e_seq, e_asg, e_bin2, e_var, e_con, e_ret, List.map_cons, List.map_nil, List.length_cons, List.length_nil, List.cons_append, List.nil_append, List.replicate, List.getElem?_cons_zero, List.getElem?_cons_succ, Res.bind_ok, mulV_int m1, addV_int, mulV_int m2, modV_int (show (0 : Int) < 2147483647 by omega), sbind_ok, e_name, asgR_some, seqR_nx, hD]
  simp [mulV_int m3, mulV_int m4, modV_int (show (0 : Int) < 2147483629 by omega)]
end LW

-- part L01M6
namespace LW
open G
/-! ### takes and sorts that are drawn -/
theorem takes_tail (b : Val) (hb : gd b = true) {t : List Nat} (m : Sto) (hi : idxV b (.int 0) m = .ok (.str t) m) (ht : gd (.str t) = true) (hm : decide (t = s_many) = isManyS b) (N : Int) (hN : Drw N) (s : Val) (e : bareS s = b) :
    ∃ tv, tv ∈ goodL s ∧ endR (seqF (ifF (tstF (bin2 eqV (bin2 idxV (varF 0) (conF (.int 0))) (conF (.str s_many)))) (retF (bin2 idxV (tupF (consF (tupF (consF (conF (.str s_first)) (consF (conF (.str s_skip)) nilF))) (consF (tupF (consF (conF (.str s_first)) nilF)) (consF (tupF (consF (conF (.str s_skip)) nilF)) (consF (tupF nilF) nilF))))) (bin2 modV (varF 1) (conF (.int 4))))) nextF)
      (retF (bin2 mulV (bin2 idxV (tupF (consF (tupF (consF (conF (.str s_plus)) nilF)) (consF (tupF nilF) nilF))) (bin2 modV (varF 1) (conF (.int 2)))) (callF intV (consF (bin2 eqV (varF 0) (conF (.str s_number))) nilF)))) [some b, some (.int N)] m) = .ok tv m := by
  subst e
  by_cases hm1 : isManyS (bareS s) = true
  · have q : eqV (.str t) (.str s_many) m = .ok (.bl true) m := by rw [eqV_str ht gd_s_many]; simp; simpa [hm1] using hm
    obtain ⟨tv, h1, h2⟩ := atI_mod (xs := [Val.tup [.str s_first, .str s_skip], .tup [.str s_first], .tup [.str s_skip], .tup []]) (i := N) (k := 4) rfl (by omega)
    have hnn : ¬ bareS s = .str s_number := by rintro e; rw [e] at hm1; simp [isManyS] at hm1
    refine ⟨tv, ?_, by simp [hi, q, modV_int, h1]⟩
    unfold goodL
    rw [if_neg hnn, if_pos hm1]
    simp at h2 ⊢
    rcases h2 with h | h | h | h <;> simp [h]
  · have q : eqV (.str t) (.str s_many) m = .ok (.bl false) m := by
      rw [eqV_str ht gd_s_many]; simp
      have := hm.trans (by simpa using hm1)
      simpa using this
    obtain ⟨tv, h1, h2⟩ := atI_mod (xs := [Val.tup [.str s_plus], .tup []]) (i := N) (k := 2) rfl (by omega)
    by_cases hnn : bareS s = .str s_number
    · refine ⟨tv, ?_, ?_⟩
      · unfold goodL
        rw [if_pos hnn]
        simp at h2 ⊢
        rcases h2 with h | h <;> simp [h]
      · rw [hnn] at hi hb ⊢
        simp [hi, q, modV_int, h1, eqV_str hb, intV]
        simp at h2
        rcases h2 with h | h <;> simp [h, mulV]
    · refine ⟨.tup [], ?_, ?_⟩
      · unfold goodL
        rw [if_neg hnn, if_neg hm1]
        simp
      · simp [hi, q, modV_int, h1, eqV_str hb, intV, hnn]
        simp at h2
        rcases h2 with h | h <;> simp [h, mulV]
theorem takes_ok {ns : List Val} (hne : ∀ x, Val.str x ∈ ns → x ≠ []) {d : Nat} {s : Val} (h : sortS ns d s = true) (hs : gd s = true) (n : Nat) (N : Int) (hN : Drw N) (m : Sto) : ∃ tv, tv ∈ goodL s ∧ Fn (n + 1) ._law_takes [s, .int N] m = .ok tv m := by
  obtain ⟨t1, i1, g1, e1, e2⟩ := sort_head hne h hs m
  obtain ⟨k, hk⟩ := bare_sort h
  have gb := bare_gd hs
  obtain ⟨t2, i2, g2, e3, e4⟩ := sort_head hne hk gb m
  obtain ⟨tv, h1, h2⟩ := takes_tail (bareS s) gb m i2 g2 e4 N hN s rfl
  refine ⟨tv, h1, ?_⟩
  rw [Fn__law_takes, e_body, b__law_takes]
  by_cases b1 : t1 = s_must
  · have b3 : isMustS s = true := by rw [← e1, decide_eq_true b1]
    have hw' : idxV s (.int 1) m = .ok (bareS s) m := by
      rcases sort_forms h with ⟨x, rfl, _⟩ | ⟨t, w', k, _, rfl, ht, _⟩
      · simp [isMustS] at b3
      · simp [isMustS] at b3
        simp [bareS, b3]
    have q1 : eqV (.str t1) (.str s_must) m = .ok (.bl true) m := by rw [eqV_str g1 gd_s_must]; simp [b1]
    rw [e_seq]
    simp [i1, q1, hw']
    simpa [i2] using h2
  · have b3 : isMustS s = false := by rw [← e1, decide_eq_false b1]
    have hb' : bareS s = s := by
      rcases sort_forms h with ⟨x, rfl, _⟩ | ⟨t, w', k, _, rfl, ht, _⟩
      · rfl
      · simp [isMustS] at b3
        simp [bareS, b3]
    rw [hb'] at h2
    have q1 : eqV (.str t1) (.str s_must) m = .ok (.bl false) m := by rw [eqV_str g1 gd_s_must]; simp [b1]
    rw [e_seq]
    simp [i1, q1]
    simpa [i1] using h2

theorem len_flat2 (xs : List Val) : (List.replicate 2 xs).flatten = xs ++ xs := by simp [List.replicate]
theorem some_ok {ks : List (List Nat)} (m : Sto) (hg : gd (.lst (ks.map Val.str)) = true) (hl : ks.length ≤ 1000) (ρ : Env) (N : Int) (h0 : ρ = [some (.int N), some (.lst (ks.map Val.str)), none, none, none]) :
    ∃ xs : List (List Nat), (bin2 addV (bin2 addV (lstF (consF (conF (.str s_number)) (consF (conF (.str s_text)) (consF (conF (.str s_truth)) nilF)))) (bin2 mulV (callF listV (consF (varF 1) nilF)) (conF (.int 2)))) (bin2 mulV (lstF (consF (conF (.str s_A)) nilF)) (callF intV (consF (bin2 inV (conF (.str s_A)) (varF 1)) nilF)))) ρ m = .ok (.lst (xs.map Val.str)) m ∧
      0 < xs.length ∧ xs.length ≤ 3000 ∧ ∀ x ∈ xs, Val.str x ∈ bases ∨ x ∈ ks := by
  subst h0
  have hin := inV_lst (m := m) gd_s_A hg
  rw [any_strs] at hin
  have hmul : mulV (.lst (ks.map Val.str)) (.int 2) m = .ok (.lst (ks.map Val.str ++ ks.map Val.str)) m := by
    simp [mulV, asL]
    omega
  by_cases hA : s_A ∈ ks
  · refine ⟨[s_number, s_text, s_truth] ++ (ks ++ ks) ++ [s_A], ?_, by simp, by simp; omega, ?_⟩
    · have a1 : addV (.lst [.str s_number, .str s_text, .str s_truth]) (.lst (ks.map Val.str ++ ks.map Val.str)) m = .ok (.lst ([.str s_number, .str s_text, .str s_truth] ++ (ks.map Val.str ++ ks.map Val.str))) m := addV_lst (by simp; omega)
      have a2 : mulV (.lst [.str s_A]) (.int 1) m = .ok (.lst [.str s_A]) m := by simp [mulV, asL]
      have a3 : addV (.lst ([.str s_number, .str s_text, .str s_truth] ++ (ks.map Val.str ++ ks.map Val.str))) (.lst [.str s_A]) m = .ok (.lst (([.str s_number, .str s_text, .str s_truth] ++ (ks.map Val.str ++ ks.map Val.str)) ++ [.str s_A])) m := addV_lst (by simp; omega)
      simp at a1 a3
      simp [listV, tlOf, asL, hmul, hin, hA, intV, a1, a2, a3]
    · intro x hx
      simp [bases] at hx ⊢
      rcases hx with h | h | h | h | rfl <;> simp [*]
  · refine ⟨[s_number, s_text, s_truth] ++ (ks ++ ks), ?_, by simp, by simp; omega, ?_⟩
    · have a1 : addV (.lst [.str s_number, .str s_text, .str s_truth]) (.lst (ks.map Val.str ++ ks.map Val.str)) m = .ok (.lst ([.str s_number, .str s_text, .str s_truth] ++ (ks.map Val.str ++ ks.map Val.str))) m := addV_lst (by simp; omega)
      have a2 : mulV (.lst [.str s_A]) (.int 0) m = .ok (.lst []) m := by simp [mulV, asL]
      have a3 : addV (.lst ([.str s_number, .str s_text, .str s_truth] ++ (ks.map Val.str ++ ks.map Val.str))) (.lst []) m = .ok (.lst (([.str s_number, .str s_text, .str s_truth] ++ (ks.map Val.str ++ ks.map Val.str)) ++ [])) m := addV_lst (by simp; omega)
      simp at a1 a3
      simp [listV, tlOf, asL, hmul, hin, hA, intV, a1, a2, a3]
    · intro x hx
      simp [bases] at hx ⊢
      rcases hx with h | h | h | h <;> simp [*]
theorem sort_base {ks : List (List Nat)} {x : List Nat} (hx : Val.str x ∈ bases ∨ x ∈ ks) (d : Nat) : sortS (ks.map Val.str) (d + 1) (.str x) = true := by
  have : Val.str x ∈ bases ∨ Val.str x ∈ ks.map Val.str := hx.imp id fun h => List.mem_map.mpr ⟨x, h, rfl⟩
  simp only [sortS, Bool.or_eq_true, decide_eq_true_eq]
  exact this
theorem sort_many {ns : List Val} {d : Nat} {s : Val} (h : sortS ns d s = true) : sortS ns (d + 1) (.tup [.str s_many, s]) = true := by simp [sortS, h]
theorem sort_must {ns : List Val} {d : Nat} {s : Val} (h : sortS ns d s = true) (hm : isMustS s = false) : sortS ns (d + 1) (.tup [.str s_must, s]) = true := by simp [sortS, h, hm]
theorem law_sort_ok {ks : List (List Nat)} (m : Sto) (hg : gd (.lst (ks.map Val.str)) = true) (hl : ks.length ≤ 1000) (n : Nat) (N : Int) (hN : Drw N) :
    ∃ s, sortS (ks.map Val.str) 4 s = true ∧ gdn 3 s = true ∧ lens s = true ∧ Fn (n + 1) ._law_sort [.int N, .lst (ks.map Val.str)] m = .ok s m := by
  rw [Fn__law_sort, e_body, b__law_sort]
  obtain ⟨xs, e1, e2, e3, e4⟩ := some_ok m hg hl _ N rfl
  have hat := atI_mod (xs := xs) (i := N) (k := (xs.length : Int)) rfl (by omega)
  obtain ⟨x, h1, h2⟩ := hat
  have hx := e4 x h2
  have gx : gd (.str x) = true := by
    rcases hx with h | h
    · exact gd_tup_mem gd_bases h
    · exact gd_lst_mem hg (List.mem_map.mpr ⟨x, h, rfl⟩)
  have gx' : ∀ k, gdn k (.str x) = true := fun k => by rw [gdn_str, ← gd_str]; exact gx
  have hmap : L2.atI (xs.map Val.str) (N % (xs.length : Int)) = some (.str x) := by
    obtain ⟨k1, k2⟩ := mod_lt (a := N) (j := (xs.length : Int)) (by omega)
    rw [atI_int k1] at h1 ⊢
    rw [List.getElem?_map, h1]
    rfl
  have hk := mod_lt (a := N / 64) (j := 8) (by omega)
  generalize hK : N / 64 % 8 = K at hk
  obtain ⟨k1, k2⟩ := hk
  -- the three ways
  have fin : ∀ s : Val, s ∈ [Val.str x, .tup [.str s_must, .str x], .tup [.str s_many, .str x], .tup [.str s_many, .tup [.str s_must, .str x]], .tup [.str s_must, .tup [.str s_many, .str x]], .tup [.str s_must, .tup [.str s_many, .tup [.str s_must, .str x]]], .tup [.str s_many, .tup [.str s_many, .str x]]] →
      sortS (ks.map Val.str) 4 s = true ∧ gdn 3 s = true ∧ lens s = true := fun s hs => by
    have b1 := fun d => sort_base (ks := ks) hx d
    have mm : isMustS (.str x) = false := rfl
    have nm : ∀ s, isMustS (.tup [.str s_many, s]) = false := fun s => by simp [isMustS]; decide
    have g1 := gdn_str0 (n := 60) (k := 60) (x := s_must) (by decide +kernel)
    have g2 : ∀ k, gdn k (.str s_must) = true := fun k => by rw [gdn_str]; decide +kernel
    have g3 : ∀ k, gdn k (.str s_many) = true := fun k => by rw [gdn_str]; decide +kernel
    have t2 : ∀ (k : Nat) (a b : Val), gdn k a = true → gdn k b = true → gdn (k + 1) (.tup [a, b]) = true := fun k a b ha hb => gdn_tup (by simp [ha, hb])
    have l2 : ∀ (a b : Val), lens a = true → lens b = true → lens (.tup [a, b]) = true := fun a b ha hb => lens_tup (by simp) (by simp [ha, hb])
    simp only [List.mem_cons, List.not_mem_nil, or_false] at hs
    rcases hs with rfl | rfl | rfl | rfl | rfl | rfl | rfl
    · exact ⟨b1 3, gx' 3, by simp⟩
    · exact ⟨sort_must (b1 2) mm, t2 _ _ _ (g2 _) (gx' _), l2 _ _ (by simp) (by simp)⟩
    · exact ⟨sort_many (b1 2), t2 _ _ _ (g3 _) (gx' _), l2 _ _ (by simp) (by simp)⟩
    · exact ⟨sort_many (sort_must (b1 1) mm), t2 _ _ _ (g3 _) (t2 _ _ _ (g2 _) (gx' _)), l2 _ _ (by simp) (l2 _ _ (by simp) (by simp))⟩
    · exact ⟨sort_must (sort_many (b1 1)) (nm _), t2 _ _ _ (g2 _) (t2 _ _ _ (g3 _) (gx' _)), l2 _ _ (by simp) (l2 _ _ (by simp) (by simp))⟩
    · exact ⟨sort_must (sort_many (sort_must (b1 0) mm)) (nm _), t2 _ _ _ (g2 _) (t2 _ _ _ (g3 _) (t2 _ _ _ (g2 _) (gx' _))), l2 _ _ (by simp) (l2 _ _ (by simp) (l2 _ _ (by simp) (by simp)))⟩
    · exact ⟨sort_many (sort_many (b1 1)), t2 _ _ _ (g3 _) (t2 _ _ _ (g3 _) (gx' _)), l2 _ _ (by simp) (l2 _ _ (by simp) (by simp))⟩
  rw [e_seq, e_asg]
  simp only [List.map_cons, List.map_nil, List.length_cons, List.length_nil, List.cons_append, List.nil_append, List.replicate] at e1 ⊢
  rw [e1]
  by_cases q1 : K < 3
  · obtain ⟨s, h3, h4⟩ := atI_in (xs := [Val.str x, .tup [.str s_must, .str x], .tup [.str s_many, .str x]]) (i := K) k1 (by simpa using q1)
    refine ⟨s, ?_⟩
    obtain ⟨f1, f2, f3⟩ := fin s (by simp at h4 ⊢; rcases h4 with h | h | h <;> simp [h])
    refine ⟨f1, f2, f3, ?_⟩
    simp [modV_int (show (0 : Int) < xs.length by omega), hmap, divV_int, modV_int, hK, q1, h3]
  · by_cases q2 : K < 5
    · obtain ⟨s, h3, h4⟩ := atI_in (xs := [Val.tup [.str s_many, .tup [.str s_must, .str x]], .tup [.str s_must, .tup [.str s_many, .str x]]]) (i := K - 3) (by omega) (by simp; omega)
      refine ⟨s, ?_⟩
      obtain ⟨f1, f2, f3⟩ := fin s (by simp at h4 ⊢; rcases h4 with h | h <;> simp [h])
      refine ⟨f1, f2, f3, ?_⟩
      simp [modV_int (show (0 : Int) < xs.length by omega), hmap, divV_int, modV_int, hK, q1, q2, h3]
    · obtain ⟨s, h3, h4⟩ := atI_in (xs := [Val.str x, .tup [.str s_must, .tup [.str s_many, .tup [.str s_must, .str x]]], .tup [.str s_many, .tup [.str s_many, .str x]]]) (i := K - 5) (by omega) (by simp; omega)
      refine ⟨s, ?_⟩
      obtain ⟨f1, f2, f3⟩ := fin s (by simp at h4 ⊢; rcases h4 with h | h | h <;> simp [h])
      refine ⟨f1, f2, f3, ?_⟩
      simp [modV_int (show (0 : Int) < xs.length by omega), hmap, divV_int, modV_int, hK, q1, q2, h3]
end LW

-- part L01M7
namespace LW
open G
/-! ### the dict of fields -/
/-- an entry -/
def Ent (ns : List Val) (p : Val × Val) : Prop := ∃ x s ts, p = (.str x, .tup [s, .tup ts]) ∧ wordS (.str x) = true ∧ sortS ns 4 s = true ∧ Val.tup ts ∈ goodL s ∧ gdn 3 s = true ∧ lens s = true
structure DW (ns : List Val) (kvs : List (Val × Val)) : Prop where
  ent : ∀ p ∈ kvs, Ent ns p
  nd : (kvs.map (·.1)).Nodup
  pos : 1 ≤ kvs.length
theorem DW.put {ns : List Val} {kvs : List (Val × Val)} (h : DW ns kvs) {x : List Nat} {v : Val} (e : Ent ns (.str x, v)) : DW ns (dputV kvs (.str x) v) :=
  ⟨fun p hp => by
    rcases dput_mem hp with hp | rfl
    · exact h.ent p hp
    · exact e, dput_nodup h.nd, dput_len.2.1⟩
theorem DW.keys {ns : List Val} {kvs : List (Val × Val)} (h : DW ns kvs) : ∃ xs : List (List Nat), kvs.map (·.1) = xs.map Val.str ∧ xs.Nodup ∧ xs.length = kvs.length := by
  obtain ⟨xs, e⟩ := all_strs (ts := kvs.map (·.1)) fun t ht => by
    obtain ⟨p, hp, rfl⟩ := List.mem_map.mp ht
    obtain ⟨x, s, ts, rfl, _⟩ := h.ent p hp
    rfl
  refine ⟨xs, e, ?_, ?_⟩
  · have := h.nd
    rw [e] at this
    exact (List.pairwise_map.mp this).imp fun h1 h2 => h1 (by rw [h2])
  · have := congrArg List.length e
    simpa using this.symm
theorem DW.drop {ns : List Val} {kvs : List (Val × Val)} (h : DW ns kvs) {x : List Nat} (hx : Val.str x ∈ kvs.map (·.1)) (h2 : 2 ≤ kvs.length) : DW ns (dropV kvs (.str x)) ∧ (dropV kvs (.str x)).length + 1 = kvs.length :=
  ⟨⟨fun p hp => h.ent p (drop_mem hp), drop_nodup h.nd, by have := drop_len h.nd hx; omega⟩, drop_len h.nd hx⟩
def names8 : List (List Nat) := [s_age, s_k, s_name, s_of, s_self, s_tags, s_v, s_w]
def names6 : List (List Nat) := [s_age, s_k, s_name, s_of, s_tags, s_w]
/-- the fields that stay -/
structure Kp (x : List Nat) (kvs : List (Val × Val)) : Prop where
  sub : ∀ p ∈ kvs, ∃ y ∈ names8, p.1 = .str y
  v : ∃ ts, (Val.str s_v, Val.tup [.str s_number, .tup ts]) ∈ kvs
  self : x = s_Root → (Val.str s_self, Val.tup [.str s_Root, .tup []]) ∈ kvs
theorem dput_keep {kvs : List (Val × Val)} {y : List Nat} {v : Val} {p : Val × Val} (h : p ∈ kvs) (hp : p.1 ≠ .str y) : p ∈ dputV kvs (.str y) v := by
  unfold dputV
  split
  · refine List.mem_map.mpr ⟨p, h, ?_⟩
    rw [if_neg (by rw [veq_str]; simpa using hp)]
  · exact List.mem_append_left _ h
theorem Kp.put {x y : List Nat} {kvs : List (Val × Val)} {v : Val} (h : Kp x kvs) (hy : y ∈ names6) : Kp x (dputV kvs (.str y) v) := by
  have n1 : ∀ y ∈ names6, y ∈ names8 ∧ s_v ≠ y ∧ s_self ≠ y := by decide +kernel
  obtain ⟨a1, a2, a3⟩ := n1 y hy
  refine ⟨fun p hp => ?_, ?_, fun e => dput_keep (h.self e) fun z => a3 (Val.str.inj z)⟩
  · rcases dput_mem hp with hp | rfl
    · exact h.sub p hp
    · exact ⟨y, a1, rfl⟩
  · obtain ⟨ts, ht⟩ := h.v
    exact ⟨ts, dput_keep ht fun z => a2 (Val.str.inj z)⟩
theorem Kp.drop {x y : List Nat} {kvs : List (Val × Val)} (h : Kp x kvs) (hy : y ∈ [s_age, s_k, s_name]) : Kp x (dropV kvs (.str y)) := by
  have n1 : ∀ y ∈ [s_age, s_k, s_name], s_v ≠ y ∧ s_self ≠ y := by decide +kernel
  obtain ⟨a2, a3⟩ := n1 y hy
  have keep : ∀ {p : Val × Val}, p ∈ kvs → p.1 ≠ .str y → p ∈ dropV kvs (.str y) := fun h hp => List.mem_filter.mpr ⟨h, by rw [veq_str]; simpa using hp⟩
  refine ⟨fun p hp => h.sub p (drop_mem hp), ?_, fun e => keep (h.self e) fun z => a3 (Val.str.inj z)⟩
  obtain ⟨ts, ht⟩ := h.v
  exact ⟨ts, keep ht fun z => a2 (Val.str.inj z)⟩
theorem nodup_le {α : Type} [DecidableEq α] : ∀ {l D : List α}, l.Nodup → (∀ x ∈ l, x ∈ D) → l.length ≤ D.length
  | [], _, _, _ => Nat.zero_le _
  | a :: l, D, hn, h => by
    rw [List.nodup_cons] at hn
    have ha := h a (by simp)
    have := nodup_le (D := D.erase a) hn.2 fun x hx => (List.mem_erase_of_ne (by rintro rfl; exact hn.1 hx)).mpr (h x (by simp [hx]))
    rw [List.length_erase_of_mem ha] at this
    have := List.length_pos_of_mem ha
    simp only [List.length_cons]
    omega
theorem first_name {x : List Nat} {xs : List (List Nat)} (hn : xs.Nodup) (hs : ∀ y ∈ xs, y ∈ names8) (hl : 5 < xs.length) (hx : (G.sortS xs)[0]? = some x) : x ∈ [s_age, s_k, s_name] := by
  have hall : ∀ y ∈ names8, y ∉ [s_age, s_k, s_name] → (names8.filter fun z => decide (y ≤ z)).length ≤ 5 := by decide +kernel
  have hxm : x ∈ xs := sortS_mem.mp (List.mem_of_getElem? hx)
  by_cases h : x ∈ [s_age, s_k, s_name]
  · exact h
  · have h5 := hall x (hs x hxm) h
    have hle : ∀ z ∈ xs, x ≤ z := fun z hz => by
      have pw := sortS_pw xs
      have hz' := sortS_mem.mpr hz
      cases hq : G.sortS xs with
      | nil => rw [hq] at hz'; cases hz'
      | cons a r =>
        rw [hq] at hx hz' pw
        simp only [List.getElem?_cons_zero, Option.some.injEq] at hx
        subst hx
        rcases List.mem_cons.mp hz' with rfl | hz'
        · exact List.le_refl _
        · exact (List.pairwise_cons.mp pw).1 z hz'
    have := nodup_le hn (D := names8.filter fun z => decide (x ≤ z)) fun z hz => List.mem_filter.mpr ⟨hs z hz, by simpa using hle z hz⟩
    omega
/-! the loop that takes fields out -/
theorem pop_step {ns : List Val} {xk : List Nat} {pre : Sto} {kvs : List (Val × Val)} (h : DW ns kvs) (hk : Kp xk kvs) (hl : 5 < kvs.length) (hu : kvs.length < 64) {ρ : Env} (h7 : ρ[7]? = some (some (.ref pre.length))) (c : I → VFn) :
    ∃ kvs', DW ns kvs' ∧ Kp xk kvs' ∧ kvs'.length + 1 = kvs.length ∧ b__law_book_l3 c ρ (pre ++ [.dct .k kvs]) = .nx ρ (pre ++ [.dct .k kvs']) := by
  obtain ⟨xs, e, nd, hlen⟩ := h.keys
  have hs := sortedA_dct (m := pre ++ [.dct .k kvs]) (j := pre.length) last_get e (by omega)
  have hne : 0 < (G.sortS xs).length := by rw [sortS_len]; omega
  obtain ⟨y, hy⟩ : ∃ y, (G.sortS xs)[0]? = some y := ⟨_, List.getElem?_eq_getElem hne⟩
  have hym : y ∈ xs := sortS_mem.mp (List.mem_of_getElem? hy)
  have hyk : Val.str y ∈ kvs.map (·.1) := by rw [e]; exact List.mem_map.mpr ⟨y, hym, rfl⟩
  obtain ⟨d1, d2⟩ := h.drop hyk (by omega)
  obtain ⟨v, g1, g2⟩ := dget_in hyk
  have hy3 := first_name nd (fun z hz => by
    have : Val.str z ∈ kvs.map (·.1) := by rw [e]; exact List.mem_map.mpr ⟨z, hz, rfl⟩
    obtain ⟨p, hp, e1⟩ := List.mem_map.mp this
    obtain ⟨w, hw, e2⟩ := hk.sub p hp
    rw [e2] at e1
    cases e1
    exact hw) (by omega) hy
  refine ⟨dropV kvs (.str y), d1, hk.drop hy3, d2, ?_⟩
  unfold b__law_book_l3
  simp [dpopF, h7, hs, hy, g1, kfit1]
theorem pop_loop {ns : List Val} {xk : List Nat} {pre : Sto} {kvs : List (Val × Val)} (h : DW ns kvs) (hk : Kp xk kvs) (hu : kvs.length < 64) {ρ : Env} (h7 : ρ[7]? = some (some (.ref pre.length))) (c : I → VFn) :
    ∃ kvs', DW ns kvs' ∧ Kp xk kvs' ∧ kvs'.length ≤ 5 ∧ whileF (tstF (bin2 gtV (callF lenV (consF (varF 7) nilF)) (conF (.int 5)))) (b__law_book_l3 c) ρ (pre ++ [.dct .k kvs]) = .nx ρ (pre ++ [.dct .k kvs']) := by
  have hc : ∀ kvs : List (Val × Val), tstF (bin2 gtV (callF lenV (consF (varF 7) nilF)) (conF (.int 5))) ρ (pre ++ [.dct .k kvs]) = .ok (decide (5 < kvs.length)) (pre ++ [.dct .k kvs]) := fun kvs => by
    simp [h7, lenV, seqOf, asL, asD]
  obtain ⟨k', ρ', m', h1, ⟨kvs', e1, e2, e3, ek, e4, _⟩, h3⟩ := while_run (c := tstF (bin2 gtV (callF lenV (consF (varF 7) nilF)) (conF (.int 5)))) (b := b__law_book_l3 c)
    (fun k ρ' m' => ∃ kvs', ρ' = ρ ∧ m' = pre ++ [.dct .k kvs'] ∧ DW ns kvs' ∧ Kp xk kvs' ∧ kvs'.length = k ∧ k < 64) turnsMost kvs.length (ρ := ρ) (m := pre ++ [.dct .k kvs]) ⟨kvs, rfl, rfl, h, hk, rfl, hu⟩ (by unfold turnsMost; omega) (by
      rintro k ρ' m' ⟨kvs', rfl, rfl, hd, hkp, rfl, hk⟩
      refine ⟨_, hc kvs', fun ht => ?_⟩
      rw [decide_eq_true_eq] at ht
      obtain ⟨kvs2, d1, dk, d2, d3⟩ := pop_step hd hkp ht hk h7 c
      exact ⟨kvs2.length, _, _, by omega, d3, kvs2, rfl, rfl, d1, dk, rfl, by omega⟩)
  subst e1 e2
  rw [hc] at h3
  refine ⟨kvs', e3, ek, ?_, h1⟩
  simpa using h3

/-! the loop that puts fields in -/
theorem keys6 (N : Int) (m : Sto) (ρ : Env) {i : Nat} (hi : ρ[i]? = some (some (.int N))) : ∃ x, x ∈ names6 ∧ wordS (.str x) = true ∧ bin2 idxV (tupF (consF (conF (.str s_age)) (consF (conF (.str s_k)) (consF (conF (.str s_name)) (consF (conF (.str s_of)) (consF (conF (.str s_tags)) (consF (conF (.str s_w)) nilF))))))) (bin2 modV (varF i) (conF (.int 6))) ρ m = .ok (.str x) m := by
  obtain ⟨v, h1, h2⟩ := atI_mod (xs := [Val.str s_age, .str s_k, .str s_name, .str s_of, .str s_tags, .str s_w]) (i := N) (k := 6) rfl (by omega)
  have hw : ∀ v ∈ [Val.str s_age, .str s_k, .str s_name, .str s_of, .str s_tags, .str s_w], wordS v = true := by decide +kernel
  have hv := hw v h2
  obtain ⟨x, rfl⟩ := wordS_str hv
  have h6 : x ∈ names6 := by
    have : Val.str x ∈ names6.map Val.str := h2
    obtain ⟨y, hy, e⟩ := List.mem_map.mp this
    cases e
    exact hy
  exact ⟨x, h6, hv, by simp [hi, modV_int, h1]⟩
theorem good_form {s : Val} {tv : Val} (h : tv ∈ goodL s) : ∃ ts, tv = .tup ts := by
  unfold goodL at h
  split at h
  · simp at h; rcases h with rfl | rfl <;> exact ⟨_, rfl⟩
  · split at h
    · simp at h; rcases h with rfl | rfl | rfl | rfl <;> exact ⟨_, rfl⟩
    · simp at h; exact ⟨_, h⟩
structure Here (ks nm : List (List Nat)) (j : Nat) (pre : Sto) : Prop where
  at' : pre[j]? = some (.lst (nm.map Val.str))
  srt : G.sortS nm = ks
  gdn : ∀ x ∈ nm, gd (.str x) = true
  few : nm.length ≤ 4
  ne : ∀ x ∈ nm, x ≠ []
theorem Here.gdk {ks nm : List (List Nat)} {j : Nat} {pre : Sto} (h : Here ks nm j pre) : gd (.lst (ks.map Val.str)) = true := by
  refine gdn_gd (n := 1) (gdn_lst fun v hv => ?_) (by omega)
  obtain ⟨x, hx, rfl⟩ := List.mem_map.mp hv
  rw [← h.srt] at hx
  have := h.gdn x (sortS_mem.mp hx)
  rw [gd_str] at this
  rw [gdn_str]
  exact this
theorem Here.nek {ks nm : List (List Nat)} {j : Nat} {pre : Sto} (h : Here ks nm j pre) : ∀ x, Val.str x ∈ ks.map Val.str → x ≠ [] := fun x hx => by
  obtain ⟨y, hy, e⟩ := List.mem_map.mp hx
  cases e
  rw [← h.srt] at hy
  exact h.ne x (sortS_mem.mp hy)
theorem Here.len {ks nm : List (List Nat)} {j : Nat} {pre : Sto} (h : Here ks nm j pre) : ks.length ≤ 4 := by rw [← h.srt, sortS_len]; exact h.few
theorem Here.sorted {ks nm : List (List Nat)} {j : Nat} {pre : Sto} (h : Here ks nm j pre) : ∀ c : Cell, sortedA [.ref j] (pre ++ [c]) = .ok (.lst (ks.map Val.str)) (pre ++ [c]) := fun c => by
  rw [sortedA_cell (pre_get h.at') h.gdn (by have := h.few; omega), h.srt]
theorem put_step {ks nm : List (List Nat)} {xk : List Nat} {j : Nat} {pre : Sto} (hh : Here ks nm j pre) {kvs : List (Val × Val)} (h : DW (ks.map Val.str) kvs) (hk : Kp xk kvs) (hl : kvs.length < 60) (n : Nat) {a0 a2 a3 a4 a5 a9 a10 a11 : Option Val} {d : Int} (hd : Drw d) {i : Nat} (hi : i < 100) :
    ∃ kvs' b9 b10, DW (ks.map Val.str) kvs' ∧ Kp xk kvs' ∧ kvs'.length ≤ kvs.length + 1 ∧ b__law_book_l2 (Fn (n + 1)) [a0, some (.ref j), a2, a3, a4, a5, some (.int d), some (.ref pre.length), some (.int i), a9, a10, a11] (pre ++ [.dct .k kvs])
      = .nx [a0, some (.ref j), a2, a3, a4, a5, some (.int d), some (.ref pre.length), some (.int i), b9, b10, a11] (pre ++ [.dct .k kvs']) := by
  obtain ⟨N, hN, hdr⟩ := drawn_ok n d hd (10 + i) (by omega)
  have hN4 := drw_div hN (show (0 : Int) < 4 by omega)
  generalize hM : N / 4 = M at hN4
  have hM16 := drw_div hN4 (show (0 : Int) < 16 by omega)
  have hM65 := drw_div hN4 (show (0 : Int) < 65536 by omega)
  obtain ⟨s, f1, f2, f3, f4⟩ := law_sort_ok (pre ++ [.dct .k kvs]) hh.gdk (by have := hh.len; omega) n (M / 16) hM16
  obtain ⟨tv, t1, t2⟩ := takes_ok hh.nek f1 (gdn_gd f2 (by omega)) n (M / 65536) hM65 (pre ++ [.dct .k kvs])
  obtain ⟨ts, rfl⟩ := good_form t1
  obtain ⟨x, hx6, hx, hkey⟩ := keys6 M (pre ++ [.dct .k kvs]) [a0, some (.ref j), a2, a3, a4, a5, some (.int d), some (.ref pre.length), some (.int i), some (.int M), some s, a11] (i := 9) rfl
  have gs := gdn_gd f2 (by omega)
  have gt : gd (.tup ts) = true := gd_lst_mem (good_gd s) t1
  have hent : Ent (ks.map Val.str) (.str x, .tup [s, .tup ts]) := ⟨x, s, ts, rfl, hx, f1, t1, f2, f3⟩
  refine ⟨dputV kvs (.str x) (.tup [s, .tup ts]), some (.int M), some s, h.put hent, hk.put hx6, dput_len.1, ?_⟩
  have e1 : ((10 : Int) + (i : Nat)) = ((10 + i : Nat) : Int) := by omega
  have hsrt := hh.sorted (.dct .k kvs)
  unfold b__law_book_l2
  simp only [e_seq, e_asg, e_bin2, e_def, e_cons, e_nil, e_var, e_con, e_call, List.getElem?_cons_zero, List.getElem?_cons_succ, Res.bind_ok, addV_int, e1, List.length_cons, List.length_nil, if_true, hdr, trimR_int, divV_int (show (0 : Int) < 4 by omega) (by omega), hM, sbind_ok, e_name, asgR_some, seqR_nx, List.set_cons_succ, List.set_cons_zero, divV_int (show (0 : Int) < 16 by omega) (by omega), hsrt, f4, trimR_gd gs]
  unfold dputF
  simp only [e_tup, e_cons, e_def, e_bin2, e_nil, e_var, e_con, List.getElem?_cons_zero, List.getElem?_cons_succ, Res.bind_ok, divV_int (show (0 : Int) < 65536 by omega) (by omega), List.length_cons, List.length_nil, if_true, t2, trimR_gd gt, sz_eq]
  simp only [e_tup, e_cons, e_def, e_bin2, e_nil, e_var, e_con, List.getElem?_cons_zero, List.getElem?_cons_succ, Res.bind_ok, sz_eq] at hkey
  have hlt : kvs.length < 16777216 := by omega
  simp at hkey ⊢
  simp [hkey, kfit, kfit1, hlt]
theorem put_loop {ks nm : List (List Nat)} {xk : List Nat} {j : Nat} {pre : Sto} (hh : Here ks nm j pre) {kvs : List (Val × Val)} (h : DW (ks.map Val.str) kvs) (hk : Kp xk kvs) (hl : kvs.length ≤ 10) (n : Nat) {a0 a2 a3 a4 a8 a9 a10 a11 : Option Val} {d : Int} (hd : Drw d) {x : List Nat} (gx : gd (.str x) = true) :
    ∃ kvs' b8 b9 b10, DW (ks.map Val.str) kvs' ∧ Kp xk kvs' ∧ kvs'.length ≤ 20 ∧ forF (itA range1 (consF (bin2 addV (bin2 modV (varF 6) (conF (.int 3))) (bin2 mulV (callF intV (consF (bin2 eqV (varF 5) (conF (.str s_Root))) nilF)) (conF (.int 2)))) nilF)) (nameG 8) (b__law_book_l2 (Fn (n + 1)))
      [a0, some (.ref j), a2, a3, a4, some (.str x), some (.int d), some (.ref pre.length), a8, a9, a10, a11] (pre ++ [.dct .k kvs])
      = .nx [a0, some (.ref j), a2, a3, a4, some (.str x), some (.int d), some (.ref pre.length), b8, b9, b10, a11] (pre ++ [.dct .k kvs']) := by
  obtain ⟨c, hc1, hc2⟩ : ∃ c : Nat, c ≤ 4 ∧ (itA range1 (consF (bin2 addV (bin2 modV (varF 6) (conF (.int 3))) (bin2 mulV (callF intV (consF (bin2 eqV (varF 5) (conF (.str s_Root))) nilF)) (conF (.int 2)))) nilF)) [a0, some (.ref j), a2, a3, a4, some (.str x), some (.int d), some (.ref pre.length), a8, a9, a10, a11] (pre ++ [.dct .k kvs]) = .ok (rangeV 0 c, none) (pre ++ [.dct .k kvs]) := by
    obtain ⟨k1, k2⟩ := mod_lt (a := d) (j := 3) (by omega)
    by_cases hr : x = s_Root
    · subst hr
      refine ⟨(d % 3 + 2).toNat, by omega, ?_⟩
      have m1 : mulOk 1 2 := mulOk_small (by omega) (by omega) (by omega) (by omega)
      have q : -(2 ^ 62) ≤ d % 3 + 2 ∧ d % 3 + 2 < 2 ^ 62 := by omega
      simp [modV_int, eqV_str gd_s_Root, intV, mulV_int m1, range1]
      omega
    · refine ⟨(d % 3).toNat, by omega, ?_⟩
      have m1 : mulOk 0 2 := mulOk_small (by omega) (by omega) (by omega) (by omega)
      simp [modV_int, eqV_str gx, hr, intV, mulV_int m1, range1]
      omega
  obtain ⟨ρ', m', h1, ⟨kvs', b8, b9, b10, e1, e2, e3, ek, e4⟩⟩ := for_run (g := nameG 8) (b := b__law_book_l2 (Fn (n + 1)))
    (fun i ρ m => ∃ kvs' b8 b9 b10, ρ = [a0, some (.ref j), a2, a3, a4, some (.str x), some (.int d), some (.ref pre.length), b8, b9, b10, a11] ∧ m = pre ++ [.dct .k kvs'] ∧ DW (ks.map Val.str) kvs' ∧ Kp xk kvs' ∧ kvs'.length ≤ kvs.length + i)
    (vs := rangeV 0 c) (ρ := [a0, some (.ref j), a2, a3, a4, some (.str x), some (.int d), some (.ref pre.length), a8, a9, a10, a11]) (m := pre ++ [.dct .k kvs]) (k := 0) ⟨kvs, _, _, _, rfl, rfl, h, hk, by omega⟩ (by
      rintro i v hv ρ m ⟨kvs', b8, b9, b10, rfl, rfl, hd', hk', hl'⟩
      obtain ⟨hi', rfl⟩ := rangeV_at hv
      obtain ⟨kvs2, c9, c10, p1, pk, p2, p3⟩ := put_step (a0 := a0) (a2 := a2) (a3 := a3) (a4 := a4) (a5 := some (.str x)) (a9 := b9) (a10 := b10) (a11 := a11) hh hd' hk' (by omega) n hd (i := i) (by omega)
      refine ⟨_, rfl, _, _, ?_, kvs2, some (.int i), c9, c10, rfl, rfl, p1, pk, by omega⟩
      simpa using p3)
  subst e1 e2
  have hlen : (rangeV 0 c).length = c := by simp [rangeV]
  refine ⟨kvs', b8, b9, b10, e3, ek, by omega, ?_⟩
  rw [e_for, hc2, sbind_ok]
  exact h1
/-! rows -/
def rowV (kvs : List (Val × Val)) (y : List Nat) : Val := match dget kvs (.str y) with
  | some (.tup r) => .tup (.str y :: r)
  | _ => .non
theorem row_ent {ns : List Val} {kvs : List (Val × Val)} (h : DW ns kvs) {y : List Nat} (hy : Val.str y ∈ kvs.map (·.1)) : ∃ s ts, dget kvs (.str y) = some (.tup [s, .tup ts]) ∧ rowV kvs y = .tup [.str y, s, .tup ts] ∧ fieldS ns (.tup [.str y, s, .tup ts]) = true ∧ gdn 4 (.tup [.str y, s, .tup ts]) = true ∧ lens (.tup [.str y, s, .tup ts]) = true := by
  obtain ⟨v, g1, g2⟩ := dget_in hy
  obtain ⟨x, s, ts, e, h1, h2, h3, h4, h5⟩ := h.ent _ g2
  cases e
  have gt := gd_lst_mem (good_gd s) h3
  have hf := good_takes s ts
  rw [decide_eq_true h3] at hf
  refine ⟨s, ts, g1, by simp [rowV, g1], by simp [fieldS, h1, h2, ← hf], ?_, ?_⟩
  · refine gdn_tup fun v hv => ?_
    simp only [List.mem_cons, List.not_mem_nil, or_false] at hv
    rcases hv with rfl | rfl | rfl
    · simp only [wordS, Bool.and_eq_true, decide_eq_true_eq, List.all_eq_true] at h1
      rw [gdn_str]
      simp only [Bool.and_eq_true, decide_eq_true_eq, List.all_eq_true]
      refine ⟨fun c hc => ?_, by omega⟩
      have hc2 := h1.2.2 c hc
      have : ∀ c, c ∈ s_abcdefghijklmnopqrstuvwxyz → c < 128 := by decide
      exact this c (by simpa [letter] using hc2)
    · exact h4
    · have : ∀ v ∈ goodL s, gdn 2 v = true := by
        unfold goodL
        split
        · decide +kernel
        · split <;> decide +kernel
      exact gdn_mono (this _ h3) (by omega)
  · refine lens_tup (by simp) fun v hv => ?_
    simp only [List.mem_cons, List.not_mem_nil, or_false] at hv
    rcases hv with rfl | rfl | rfl
    · simp
    · exact h5
    · have : ∀ v ∈ goodL s, lens v = true := by
        unfold goodL
        split
        · decide +kernel
        · split <;> decide +kernel
      exact this _ h3
/-- what stands in each kind -/
structure Rw (x : List Nat) (rs : List Val) : Prop where
  sub : ∀ f ∈ rs, name0 f ∈ names8
  v : ∃ ts, Val.tup [.str s_v, .str s_number, .tup ts] ∈ rs
  self : x = s_Root → Val.tup [.str s_self, .str s_Root, .tup []] ∈ rs
theorem dget_mem : ∀ {kvs : List (Val × Val)} {x : List Nat} {v : Val}, (kvs.map (·.1)).Nodup → (Val.str x, v) ∈ kvs → dget kvs (.str x) = some v
  | [], _, _, _, h => by cases h
  | (k, w) :: kvs, x, v, hn, h => by
    rw [List.map_cons, List.nodup_cons] at hn
    unfold dget
    rw [List.find?_cons, veq_str]
    rcases List.mem_cons.mp h with e | h'
    · cases e
      simp
    · have hne : ¬ k = .str x := fun e => hn.1 (List.mem_map.mpr ⟨(Val.str x, v), h', e.symm⟩)
      rw [decide_eq_false hne]
      exact dget_mem hn.2 h'
theorem rows_ok {ns : List Val} {xk : List Nat} {pre : Sto} {kvs : List (Val × Val)} (h : DW ns kvs) (hk : Kp xk kvs) (hl : kvs.length ≤ 5) {a0 a1 a2 a3 a4 a5 a6 a8 a9 a10 a11 : Option Val} :
    ∃ rs, Rw xk rs ∧ fieldsS ns (.tup rs) = true ∧ gdn 5 (.tup rs) = true ∧ lens (.tup rs) = true ∧ callF tupleV (consF (compF (itF itemsA (callF sortedA (consF (varF 7) nilF))) (nameG 3) yesT (bin2 addV (tupF (consF (varF 3) nilF)) (bin2 idxV (varF 7) (varF 3))) [3]) nilF)
      [a0, a1, a2, a3, a4, a5, a6, some (.ref pre.length), a8, a9, a10, a11] (pre ++ [.dct .k kvs]) = .ok (.tup rs) (pre ++ [.dct .k kvs]) := by
  obtain ⟨xs, e, nd, hlen⟩ := h.keys
  have hs := sortedA_dct (m := pre ++ [.dct .k kvs]) (j := pre.length) last_get e (by omega)
  have hmem : ∀ y ∈ G.sortS xs, Val.str y ∈ kvs.map (·.1) := fun y hy => by rw [e]; exact List.mem_map.mpr ⟨y, sortS_mem.mp hy, rfl⟩
  have hsl := sortS_len xs
  have hpos := h.pos
  have there : ∀ {y : List Nat} {s : Val} {ts : List Val}, (Val.str y, Val.tup [s, .tup ts]) ∈ kvs → Val.tup [.str y, s, .tup ts] ∈ (G.sortS xs).map (rowV kvs) := fun {y s ts} hy => by
    have hyx : y ∈ G.sortS xs := sortS_mem.mpr (by
      have : Val.str y ∈ kvs.map (·.1) := List.mem_map.mpr ⟨_, hy, rfl⟩
      rw [e] at this
      obtain ⟨z, hz, e1⟩ := List.mem_map.mp this
      cases e1
      exact hz)
    exact List.mem_map.mpr ⟨y, hyx, by simp [rowV, dget_mem h.nd hy]⟩
  refine ⟨(G.sortS xs).map (rowV kvs), ⟨fun f hf => ?_, ?_, fun e => there (hk.self e)⟩, ?_, ?_, ?_, ?_⟩
  · obtain ⟨y, hy, rfl⟩ := List.mem_map.mp hf
    obtain ⟨s, ts, _, e2, _⟩ := row_ent h (hmem y hy)
    rw [e2]
    obtain ⟨p, hp, e1⟩ := List.mem_map.mp (hmem y hy)
    obtain ⟨w, hw, e3⟩ := hk.sub p hp
    rw [e3] at e1
    cases e1
    exact hw
  · obtain ⟨ts, ht⟩ := hk.v
    exact ⟨ts, there ht⟩
  · have hn : ((G.sortS xs).map (rowV kvs)).map name0 = G.sortS xs := by
      rw [List.map_map]
      conv => rhs; rw [← List.map_id (G.sortS xs)]
      apply List.map_congr_left
      intro y hy
      obtain ⟨s, ts, _, e2, _⟩ := row_ent h (hmem y hy)
      simp [e2, name0]
    simp only [fieldsS, hn, sortS_rise nd, Bool.and_true, List.length_map, Bool.and_eq_true, decide_eq_true_eq, List.all_eq_true]
    refine ⟨by omega, by omega, fun f hf => ?_⟩
    obtain ⟨y, hy, rfl⟩ := List.mem_map.mp hf
    obtain ⟨s, ts, _, e2, e3, _⟩ := row_ent h (hmem y hy)
    rw [e2]; exact e3
  · refine gdn_tup fun f hf => ?_
    obtain ⟨y, hy, rfl⟩ := List.mem_map.mp hf
    obtain ⟨s, ts, _, e2, _, e4, _⟩ := row_ent h (hmem y hy)
    rw [e2]; exact e4
  · refine lens_tup (by simp; omega) fun f hf => ?_
    obtain ⟨y, hy, rfl⟩ := List.mem_map.mp hf
    obtain ⟨s, ts, _, e2, _, _, e5⟩ := row_ent h (hmem y hy)
    rw [e2]; exact e5
  · have hc : compF (itF itemsA (callF sortedA (consF (varF 7) nilF))) (nameG 3) yesT (bin2 addV (tupF (consF (varF 3) nilF)) (bin2 idxV (varF 7) (varF 3))) [3] [a0, a1, a2, a3, a4, a5, a6, some (.ref pre.length), a8, a9, a10, a11] (pre ++ [.dct .k kvs])
        = .ok (.lst ((G.sortS xs).map (rowV kvs))) (pre ++ [.dct .k kvs]) := by
      refine comp_map Val.str _ (by simp [hs, itemsA, itemsQ, itemsV]) (by omega) fun y hy => ⟨_, rfl, ?_⟩
      obtain ⟨s, ts, e1, e2, _⟩ := row_ent h (hmem y hy)
      have hx : idxV (.ref pre.length) (.str y) (pre ++ [.dct .k kvs]) = .ok (.tup [s, .tup ts]) (pre ++ [.dct .k kvs]) := by
        simp [idxV, asD, kfit, kfit1, e1]
      simp [wipeE, hx, e2, addV]
    simp [hc, tupleV, tlOf, asL]
end LW

-- part L01M8
namespace LW
open G
/-! ### a kind -/
theorem kind_step {ks nm : List (List Nat)} {j : Nat} {pre : Sto} (hh : Here ks nm j pre) (n : Nat) {N : Int} (hN : Drw N) {i : Nat} (hi : i < 100) {x : List Nat} (gx : gd (.str x) = true) (hx : x ∈ ks) {fs : List Val} (hf : fs.length ≤ 100) {a3 a6 a7 a8 a9 a10 a11 : Option Val} :
    ∃ rs b3 b6 b7 b8 b9 b10 b11 pre', Rw x rs ∧ fieldsS (ks.map Val.str) (.tup rs) = true ∧ gdn 5 (.tup rs) = true ∧ lens (.tup rs) = true ∧ Here ks nm j pre' ∧ pre'.take pre.length = pre ∧
      b__law_book_l4 (Fn (n + 1)) [some (.int N), some (.ref j), some (.int i), a3, some (.tup fs), some (.str x), a6, a7, a8, a9, a10, a11] pre
        = .nx [some (.int N), some (.ref j), some (.int i), b3, some (.tup (fs ++ [.tup [.str x, .tup rs]])), some (.str x), b6, b7, b8, b9, b10, b11] pre' := by
  obtain ⟨D, hD, hdr⟩ := drawn_ok n N hN i (by omega)
  have hd4 := drw_div hD (show (0 : Int) < 4 by omega)
  generalize hd : D / 4 = d at hd4
  obtain ⟨tv, p1, p2⟩ := atI_mod (xs := [Val.tup [.str s_plus], .tup []]) (i := d / 32) (k := 2) rfl (by omega)
  -- the first fields
  have ent0 : Ent (ks.map Val.str) (.str s_v, .tup [.str s_number, tv]) := by
    obtain ⟨ts, rfl⟩ : ∃ ts, tv = .tup ts := by simp at p2; rcases p2 with rfl | rfl <;> exact ⟨_, rfl⟩
    refine ⟨s_v, .str s_number, ts, rfl, by decide +kernel, sort_base (.inl (by simp [bases])) 3, ?_, by rw [gdn_str]; decide +kernel, by simp⟩
    simp at p2
    rcases p2 with h | h <;> simp [goodL, bareS, h]
  have dw0 : DW (ks.map Val.str) [(.str s_v, .tup [.str s_number, tv])] := ⟨fun p hp => by rw [List.mem_singleton.mp hp]; exact ent0, by simp, by simp⟩
  obtain ⟨ts0, rfl⟩ : ∃ ts, tv = .tup ts := by simp at p2; rcases p2 with rfl | rfl <;> exact ⟨_, rfl⟩
  obtain ⟨kvs1, dw1, kp1, hl1, e1⟩ : ∃ kvs1, DW (ks.map Val.str) kvs1 ∧ Kp x kvs1 ∧ kvs1.length ≤ 2 ∧ (ifF (tstF (bin2 eqV (varF 5) (conF (.str s_Root)))) (dputF (tupF (consF (conF (.str s_Root)) (consF (tupF nilF) nilF))) (varF 7) (conF (.str s_self))) nextF)
      [some (.int N), some (.ref j), some (.int i), a3, some (.tup fs), some (.str x), some (.int d), some (.ref pre.length), a8, a9, a10, a11] (pre ++ [.dct .k [(.str s_v, .tup [.str s_number, .tup ts0])]])
      = .nx [some (.int N), some (.ref j), some (.int i), a3, some (.tup fs), some (.str x), some (.int d), some (.ref pre.length), a8, a9, a10, a11] (pre ++ [.dct .k kvs1]) := by
    by_cases hr : x = s_Root
    · subst hr
      have hk := hx
      have ent1 : Ent (ks.map Val.str) (.str s_self, .tup [.str s_Root, .tup []]) := by
        refine ⟨s_self, .str s_Root, [], rfl, by decide +kernel, sort_base (.inr hk) 3, ?_, by rw [gdn_str]; decide +kernel, by simp⟩
        have : ¬ s_Root = s_number := by decide
        simp [goodL, bareS, isManyS, this]
      have kp : Kp s_Root (dputV [(.str s_v, .tup [.str s_number, .tup ts0])] (.str s_self) (.tup [.str s_Root, .tup []])) := by
        have hv : ¬ s_v = s_self := by decide
        have h8 : s_v ∈ names8 ∧ s_self ∈ names8 := by decide +kernel
        simp only [dputV, List.any_cons, List.any_nil, veq_str, Val.str.injEq, hv, decide_false, Bool.or_self, Bool.false_eq_true, if_false, List.cons_append, List.nil_append]
        exact ⟨fun p hp => by
          simp only [List.mem_cons, List.not_mem_nil, or_false] at hp
          rcases hp with rfl | rfl
          · exact ⟨_, h8.1, rfl⟩
          · exact ⟨_, h8.2, rfl⟩, ⟨ts0, by simp⟩, fun _ => by simp⟩
      refine ⟨_, dw0.put ent1, kp, dput_len.1, ?_⟩
      simp [eqV_str gd_s_Root, dputF, kfit, kfit1]
    · have kp : Kp x [(.str s_v, .tup [.str s_number, .tup ts0])] := by
        have h8 : s_v ∈ names8 := by decide +kernel
        exact ⟨fun p hp => by rw [List.mem_singleton.mp hp]; exact ⟨_, h8, rfl⟩, ⟨ts0, by simp⟩, fun e => absurd e hr⟩
      refine ⟨_, dw0, kp, by simp, ?_⟩
      simp [eqV_str gx, hr]
  obtain ⟨kvs2, b8, b9, b10, dw2, kp2, hl2, e2⟩ := put_loop (a0 := some (.int N)) (a2 := some (.int i)) (a3 := a3) (a4 := some (.tup fs)) (a8 := a8) (a9 := a9) (a10 := a10) (a11 := a11) hh dw1 kp1 (by omega) n hd4 gx
  obtain ⟨kvs3, dw3, kp3, hl3, e3⟩ := pop_loop dw2 kp2 (by omega) (ρ := [some (.int N), some (.ref j), some (.int i), a3, some (.tup fs), some (.str x), some (.int d), some (.ref pre.length), b8, b9, b10, a11]) rfl (Fn (n + 1))
  obtain ⟨rs, f0, f1, f2, f3, e4⟩ := rows_ok (pre := pre) dw3 kp3 hl3 (a0 := some (.int N)) (a1 := some (.ref j)) (a2 := some (.int i)) (a3 := a3) (a4 := some (.tup fs)) (a5 := some (.str x)) (a6 := some (.int d)) (a8 := b8) (a9 := b9) (a10 := b10) (a11 := a11)
  refine ⟨rs, a3, some (.int d), some (.ref pre.length), b8, b9, b10, some (.tup rs), pre ++ [.dct .k kvs3], f0, f1, f2, f3, ⟨pre_get hh.at', hh.srt, hh.gdn, hh.few, hh.ne⟩, by simp, ?_⟩
  unfold b__law_book_l4
  simp only [e_seq, e_asg, e_bin2, e_def, e_cons, e_nil, e_var, e_con, List.getElem?_cons_zero, List.getElem?_cons_succ, Res.bind_ok, List.length_cons, List.length_nil, if_true, hdr, trimR_int, divV_int (show (0 : Int) < 4 by omega) (by omega), hd, sbind_ok, e_name, asgR_some, seqR_nx, List.set_cons_succ, List.set_cons_zero]
  have hdisp : dispF (consPr (conF (.str s_v)) (tupF (consF (conF (.str s_number)) (consF (bin2 idxV (tupF (consF (tupF (consF (conF (.str s_plus)) nilF)) (consF (tupF nilF) nilF))) (bin2 modV (bin2 divV (varF 6) (conF (.int 32))) (conF (.int 2)))) nilF))) nilPr)
      [some (.int N), some (.ref j), some (.int i), a3, some (.tup fs), some (.str x), some (.int d), a7, a8, a9, a10, a11] pre = .ok (.ref pre.length) (pre ++ [.dct .k [(.str s_v, .tup [.str s_number, .tup ts0])]]) := by
    simp [dispF, consPr, nilPr, divV_int, modV_int, p1, kfit1, mergeV, dputV]
  rw [hdisp]
  simp only [sbind_ok, e_name, asgR_some, seqR_nx, List.set_cons_succ, List.set_cons_zero, e_seq, e1, e2, e3]
  rw [e_asg, e4]
  have hfl : fs.length + 1 ≤ 16777216 := by omega
  simp [addV, hfl]

/-! ### the names -/
def all4 : List (List Nat) := [s_Root, s_A, s_Bc, s_Zed]
theorem trimR_cut {m m' : Sto} {v : Val} (h : m'.take m.length = m) (hv : refsLt m.length v = true) : trimR m (.ok v m') = .ok v m := by
  unfold trimR
  simp [h, hv]
theorem names_loop (c : I → VFn) (N : Int) (m : Sto) : ∃ (nm : List (List Nat)) (b2 b3 : Option Val), nm.Sublist all4 ∧ s_Root ∈ nm ∧ forF (itA1 enumQ (consF (tupF (consF (conF (.str s_A)) (consF (conF (.str s_Bc)) (consF (conF (.str s_Zed)) nilF)))) nilF)) (tupG 2 (consG (nameG 2) (consG (nameG 3) nilG))) (b__law_book_l1 c)
    [some (.int N), some (.ref m.length), none, none, none, none, none, none, none, none, none, none] (m ++ [.lst [.str s_Root]])
    = .nx [some (.int N), some (.ref m.length), b2, b3, none, none, none, none, none, none, none, none] (m ++ [.lst (nm.map Val.str)]) := by
  obtain ⟨ρ', m', h1, ⟨nm, b2, b3, e1, e2, e3, e4⟩⟩ := for_run (g := tupG 2 (consG (nameG 2) (consG (nameG 3) nilG))) (b := b__law_book_l1 c)
    (fun i ρ S => ∃ (nm : List (List Nat)) (b2 b3 : Option Val), ρ = [some (.int N), some (.ref m.length), b2, b3, none, none, none, none, none, none, none, none] ∧ S = m ++ [.lst (nm.map Val.str)] ∧ nm.Sublist (all4.take (i + 1)) ∧ s_Root ∈ nm)
    (vs := numb [.str s_A, .str s_Bc, .str s_Zed]) (ρ := [some (.int N), some (.ref m.length), none, none, none, none, none, none, none, none, none, none]) (m := m ++ [.lst [.str s_Root]]) (k := 0) ⟨[s_Root], none, none, rfl, rfl, by simp [all4], by simp⟩ (by
      rintro i v hv ρ S ⟨nm, b2, b3, rfl, rfl, hs, hr⟩
      obtain ⟨xv, hxv, rfl⟩ := numb_at hv
      have hi3 : i < 3 := by have := (List.getElem?_eq_some_iff.mp hxv).1; simpa using this
      obtain ⟨x, hx1, hx2⟩ : ∃ x, xv = .str x ∧ all4.take (0 + i + 1 + 1) = all4.take (0 + i + 1) ++ [x] := by
        match i, hi3, hxv with
        | 0, _, h => exact ⟨s_A, by simpa using h.symm, rfl⟩
        | 1, _, h => exact ⟨s_Bc, by simpa using h.symm, rfl⟩
        | 2, _, h => exact ⟨s_Zed, by simpa using h.symm, rfl⟩
      subst hx1
      have hl : nm.length ≤ 4 := by
        have := hs.length_le
        have h2 : (all4.take (0 + i + 1)).length ≤ 4 := by simp [all4]; omega
        omega
      obtain ⟨dv, hd1, hd2⟩ : ∃ dv : Int, 0 < dv ∧ dv < 1073741824 ∧ [Val.int 3, .int 7, .int 19][i]? = some (.int dv) := by
        match i, hi3 with
        | 0, _ => exact ⟨3, by omega, by omega, rfl⟩
        | 1, _ => exact ⟨7, by omega, by omega, rfl⟩
        | 2, _ => exact ⟨19, by omega, by omega, rfl⟩
      refine ⟨[some (.int N), some (.ref m.length), some (.int i), some (.str x), none, none, none, none, none, none, none, none], by simp [tupG, consG, nilG], ?_⟩
      unfold b__law_book_l1
      by_cases hq : 0 < N / dv % 3
      · refine ⟨_, _, ?_, nm ++ [x], some (.int i), some (.str x), rfl, rfl, ?_, by simp [hr]⟩
        · simp [atI_nat, hd2.2, divV_int hd1 hd2.1, modV_int, hq, appF, asL]
          omega
        · rw [hx2]
          exact hs.append (List.Sublist.refl _)
      · refine ⟨_, _, ?_, nm, some (.int i), some (.str x), rfl, rfl, ?_, hr⟩
        · simp [atI_nat, hd2.2, divV_int hd1 hd2.1, modV_int, hq]
        · rw [hx2]
          exact hs.trans (List.sublist_append_left _ _))
  subst e1 e2
  refine ⟨nm, b2, b3, by simpa [numb_len, all4] using e3, e4, ?_⟩
  rw [e_for]
  simpa [enumQ, itemsQ] using h1
theorem all4_facts : ∀ x ∈ all4, gd (.str x) = true ∧ x ≠ [] ∧ kindS (.str x) = true := by decide +kernel
theorem all4_nodup : all4.Nodup := by decide +kernel
/-- a drawn book -/
structure DBook (v : Val) : Prop where
  book : bookS v = true
  rows : ∃ fs, v = .tup fs ∧ ∀ f ∈ fs, ∃ y rs, f = .tup [.str y, .tup rs] ∧ y ∈ all4 ∧ Rw y rs
  gd : gdn 7 v = true
  len : lens v = true
theorem law_book_ok (n : Nat) (N : Int) (hN : Drw N) (m : Sto) : ∃ v m', DBook v ∧ m'.take m.length = m ∧ Fn (n + 2) ._law_book [.int N] m = .ok v m' := by
  suffices h : ∃ v m', bookS v = true ∧ (∃ fs, v = .tup fs ∧ ∀ f ∈ fs, ∃ y rs, f = .tup [.str y, .tup rs] ∧ y ∈ all4 ∧ Rw y rs) ∧ gdn 7 v = true ∧ lens v = true ∧ m'.take m.length = m ∧ Fn (n + 2) ._law_book [.int N] m = .ok v m' by
    obtain ⟨v, m', h1, h2, h3, h4, h5, h6⟩ := h
    exact ⟨v, m', ⟨h1, h2, h3, h4⟩, h5, h6⟩
  rw [Fn__law_book, e_body, b__law_book]
  obtain ⟨nm, b2, b3, hs, hr, h1⟩ := names_loop (Fn (n + 1)) N m
  have hmem : ∀ x ∈ nm, x ∈ all4 := fun x hx => hs.subset hx
  have hnd : nm.Nodup := all4_nodup.sublist hs
  have hl4 : nm.length ≤ 4 := hs.length_le
  have hh : Here (G.sortS nm) nm m.length (m ++ [.lst (nm.map Val.str)]) := ⟨last_get, rfl, fun x hx => (all4_facts x (hmem x hx)).1, hl4, fun x hx => (all4_facts x (hmem x hx)).2.1⟩
  generalize hks : G.sortS nm = ks at hh
  have hkm : ∀ x ∈ ks, x ∈ all4 := fun x hx => by rw [← hks] at hx; exact hmem x (sortS_mem.mp hx)
  have hkl : ks.length = nm.length := by rw [← hks, sortS_len]
  obtain ⟨ρ', m', h2, ⟨fs, c2, c3, c5, c6, c7, c8, c9, c10, c11, e1, e2, e3, e4, e5⟩⟩ := for_run (g := tupG 2 (consG (nameG 2) (consG (nameG 5) nilG))) (b := b__law_book_l4 (Fn (n + 1)))
    (fun i ρ S => ∃ (fs : List Val) (c2 c3 c5 c6 c7 c8 c9 c10 c11 : Option Val), ρ = [some (.int N), some (.ref m.length), c2, c3, some (.tup fs), c5, c6, c7, c8, c9, c10, c11] ∧ Here ks nm m.length S ∧ S.take m.length = m ∧ fs.map name0 = ks.take i ∧
      ∀ f ∈ fs, ∃ y rs, f = .tup [.str y, .tup rs] ∧ y ∈ ks ∧ Rw y rs ∧ fieldsS (ks.map Val.str) (.tup rs) = true ∧ gdn 5 (.tup rs) = true ∧ lens (.tup rs) = true)
    (vs := numb (ks.map Val.str)) (ρ := [some (.int N), some (.ref m.length), b2, b3, some (.tup []), none, none, none, none, none, none, none]) (m := m ++ [.lst (nm.map Val.str)]) (k := 0)
    ⟨[], _, _, _, _, _, _, _, _, _, rfl, hh, by simp, by simp, by simp⟩ (by
      rintro i v hv ρ S ⟨fs, c2, c3, c5, c6, c7, c8, c9, c10, c11, rfl, hS, ht, hn, hf⟩
      obtain ⟨xv, hxv, rfl⟩ := numb_at hv
      have hik : i < ks.length := by have := (List.getElem?_eq_some_iff.mp hxv).1; simpa using this
      rw [List.getElem?_map, List.getElem?_eq_getElem hik] at hxv
      obtain rfl : Val.str ks[i] = xv := Option.some.inj hxv
      have hxk : ks[i] ∈ ks := List.getElem_mem hik
      have hfl : fs.length ≤ 100 := by
        have := congrArg List.length hn
        rw [List.length_map, List.length_take] at this
        omega
      obtain ⟨rs, d3, d6, d7, d8, d9, d10, d11, pre', r0, r1, r2, r3, r4, r5, r6⟩ := kind_step hS n hN (i := i) (by omega) (all4_facts _ (hkm _ hxk)).1 hxk hfl (a3 := c3) (a6 := c6) (a7 := c7) (a8 := c8) (a9 := c9) (a10 := c10) (a11 := c11)
      refine ⟨[some (.int N), some (.ref m.length), some (.int i), c3, some (.tup fs), some (.str ks[i]), c6, c7, c8, c9, c10, c11], by simp [tupG, consG, nilG], _, _, r6, fs ++ [.tup [.str ks[i], .tup rs]], _, _, _, _, _, _, _, _, _, rfl, r4, ?_, ?_, ?_⟩
      · have hml : m.length ≤ S.length := by
          have := congrArg List.length ht
          rw [List.length_take] at this
          omega
        have e := congrArg (List.take m.length) r5
        rw [List.take_take, Nat.min_eq_left hml, ht] at e
        exact e
      · rw [List.map_append, hn, Nat.zero_add, List.take_add_one, List.getElem?_eq_getElem hik]
        rfl
      · intro f hfm
        rcases List.mem_append.mp hfm with h | h
        · exact hf f h
        · rw [List.mem_singleton.mp h]
          exact ⟨_, rs, rfl, hxk, r0, r1, r2, r3⟩)
  subst e1
  have hlen : fs.length = ks.length := by
    have := congrArg List.length e4
    rw [List.length_map, List.length_take, Nat.zero_add, numb_len, List.length_map] at this
    omega
  have hnames : fs.map name0 = ks := by
    rw [e4, Nat.zero_add, numb_len, List.length_map, List.take_length]
  refine ⟨.tup fs, m', ?_, ⟨fs, rfl, fun f hf => ?_⟩, ?_, ?_, e3, ?_⟩
  · have hpos : 1 ≤ nm.length := List.length_pos_of_mem hr
    simp only [bookS, hnames, Bool.and_eq_true, decide_eq_true_eq, List.all_eq_true]
    refine ⟨by omega, by omega, fun f hf => ?_, ?_, ?_, fun f hf => ?_⟩
    · obtain ⟨y, rs, rfl, hy, _⟩ := e5 f hf
      exact (all4_facts y (hkm y hy)).2.2
    · rw [← hks]; exact sortS_rise hnd
    · rw [← hks]; exact sortS_mem.mpr hr
    · obtain ⟨y, rs, rfl, hy, _, h3, _⟩ := e5 f hf
      exact h3
  · obtain ⟨y, rs, rfl, hy, h0, _⟩ := e5 f hf
    exact ⟨y, rs, rfl, hkm y hy, h0⟩
  · refine gdn_tup (n := 6) fun f hf => ?_
    obtain ⟨y, rs, rfl, hy, _, h3, h4, _⟩ := e5 f hf
    refine gdn_tup (n := 5) fun v hv => ?_
    simp only [List.mem_cons, List.not_mem_nil, or_false] at hv
    rcases hv with rfl | rfl
    · have := (all4_facts y (hkm y hy)).1
      rw [gd_str] at this
      rw [gdn_str]; exact this
    · exact h4
  · refine lens_tup (by omega) fun f hf => ?_
    obtain ⟨y, rs, rfl, hy, _, h3, _, h5⟩ := e5 f hf
    exact lens_tup (by simp) fun v hv => by
      simp only [List.mem_cons, List.not_mem_nil, or_false] at hv
      rcases hv with rfl | rfl
      · simp
      · exact h5
  · have hsrt : sortedA [.ref m.length] (m ++ [.lst (nm.map Val.str)]) = .ok (.lst (ks.map Val.str)) (m ++ [.lst (nm.map Val.str)]) := by
      rw [sortedA_cell last_get (fun x hx => (all4_facts x (hmem x hx)).1) (by omega), hks]
    have h3 : forF (itA1 enumQ (consF (callF sortedA (consF (varF 1) nilF)) nilF)) (tupG 2 (consG (nameG 2) (consG (nameG 5) nilG))) (b__law_book_l4 (Fn (n + 1))) [some (.int N), some (.ref m.length), b2, b3, some (.tup []), none, none, none, none, none, none, none] (m ++ [.lst (nm.map Val.str)])
        = .nx [some (.int N), some (.ref m.length), c2, c3, some (.tup fs), c5, c6, c7, c8, c9, c10, c11] m' := by
      rw [e_for]
      simp [hsrt, enumQ, itemsQ, itemsV]
      exact h2
    simp [h1, h3]
end LW

-- part LB1
namespace LW
open G
/-! ### a book, looked up -/
def rowsOf : Val → List Val
  | .tup ks => ks
  | _ => []
def namesOf (b : Val) : List (List Nat) := (rowsOf b).map name0
def pairsOf (b : Val) : List (Val × Val) := (rowsOf b).map fun k => (.str (name0 k), second k)
def fieldsOf (b : Val) (x : List Nat) : List Val := match dget (pairsOf b) (.str x) with
  | some (.tup fs) => fs
  | _ => []
theorem pairsV_rows : ∀ {ks : List Val}, (∀ k ∈ ks, ∃ x f, k = .tup [.str x, f]) → pairsV ks = some (ks.map fun k => (.str (name0 k), second k))
  | [], _ => rfl
  | k :: ks, h => by
    obtain ⟨x, f, rfl⟩ := h k (by simp)
    have ih := pairsV_rows (ks := ks) fun k hk => h k (by simp [hk])
    simp [pairsV, kfit1, ih, name0, second]
theorem dput_new {kvs : List (Val × Val)} {x : List Nat} {v : Val} (h : Val.str x ∉ kvs.map (·.1)) : dputV kvs (.str x) v = kvs ++ [(.str x, v)] := by
  unfold dputV
  have e : (kvs.any fun p => veq p.1 (.str x)) = false := by
    rw [List.any_eq_false]
    intro p hp
    rw [veq_str, decide_eq_true_eq]
    exact fun e => h (List.mem_map.mpr ⟨p, hp, e⟩)
  rw [e, if_neg Bool.false_ne_true]
theorem merge_new : ∀ {kvs acc : List (Val × Val)}, (∀ p ∈ kvs, ∃ x, p.1 = .str x) → ((acc ++ kvs).map (·.1)).Nodup → mergeV acc kvs = acc ++ kvs
  | [], acc, _, _ => by simp [mergeV]
  | (k, v) :: kvs, acc, h, hn => by
    obtain ⟨x, e⟩ := h (k, v) (by simp)
    simp only at e
    subst e
    have hx : Val.str x ∉ acc.map (·.1) := fun hm => by
      rw [List.map_append, List.nodup_append] at hn
      exact hn.2.2 _ hm _ (by simp) rfl
    have ih := merge_new (kvs := kvs) (acc := acc ++ [(.str x, v)]) (fun p hp => h p (by simp [hp])) (by simpa using hn)
    have : mergeV acc ((.str x, v) :: kvs) = mergeV (dputV acc (.str x) v) kvs := rfl
    rw [this, dput_new hx, ih]
    simp
theorem merge_id {kvs : List (Val × Val)} (h : ∀ p ∈ kvs, ∃ x, p.1 = .str x) (hn : (kvs.map (·.1)).Nodup) : mergeV [] kvs = kvs := by
  have := merge_new (kvs := kvs) (acc := []) h (by simpa using hn)
  simpa using this
theorem rise_nodup {xs : List (List Nat)} (h : riseL xs = true) : xs.Nodup := by
  rw [rise_pw] at h
  exact h.imp fun {a b} h e => by subst e; exact List.lt_irrefl _ h
theorem nodup_strs {xs : List (List Nat)} (h : xs.Nodup) : (xs.map Val.str).Nodup := by
  rw [List.Nodup, List.pairwise_map]
  exact h.imp fun h e => h (Val.str.inj e)
structure BookF (b : Val) (ks : List Val) : Prop where
  eq : b = .tup ks
  form : ∀ k ∈ ks, ∃ x f, k = .tup [.str x, f] ∧ x ≠ []
  rise : riseL (ks.map name0) = true
  root : s_Root ∈ ks.map name0
  fields : ∀ k ∈ ks, fieldsS ((ks.map name0).map Val.str) (second k) = true
  few : ks.length ≤ 4
  some : 1 ≤ ks.length
theorem bookF {b : Val} (h : bookS b = true) : ∃ ks, BookF b ks := by
  unfold bookS at h
  split at h
  · rename_i ks
    simp only [Bool.and_eq_true, decide_eq_true_eq, List.all_eq_true] at h
    obtain ⟨h1, h2, h3, h4, h5, h6⟩ := h
    exact ⟨ks, rfl, fun k hk => kindRow_form (h3 k hk), h4, h5, h6, h2, h1⟩
  · cases h
theorem BookF.pairs {b : Val} {ks : List Val} (h : BookF b ks) : pairsOf b = ks.map fun k => (.str (name0 k), second k) := by rw [h.eq]; rfl
theorem BookF.names {b : Val} {ks : List Val} (h : BookF b ks) : namesOf b = ks.map name0 := by rw [h.eq]; rfl
theorem BookF.keys {b : Val} {ks : List Val} (h : BookF b ks) : (pairsOf b).map (·.1) = (namesOf b).map Val.str := by
  rw [h.pairs, h.names, List.map_map, List.map_map]; rfl
theorem BookF.nd {b : Val} {ks : List Val} (h : BookF b ks) : ((pairsOf b).map (·.1)).Nodup := by
  rw [h.keys, h.names]
  exact nodup_strs (rise_nodup h.rise)
/-- dict(book) -/
theorem dict_ok {b : Val} (hb : bookS b = true) (m : Sto) : dictV [b] m = .ok (.dct .k (pairsOf b)) m := by
  obtain ⟨ks, h⟩ := bookF hb
  have e := merge_id (kvs := pairsOf b) (fun p hp => by
    rw [h.pairs] at hp
    obtain ⟨k, _, rfl⟩ := List.mem_map.mp hp
    exact ⟨_, rfl⟩) h.nd
  have e2 := pairsV_rows (ks := ks) fun k hk => let ⟨x, f, e, _⟩ := h.form k hk; ⟨x, f, e⟩
  rw [← h.pairs] at e2
  rw [h.eq]
  simp only [dictV, tlOf]
  rw [e2]
  simp only []
  rw [← h.eq, e]
/-- the fields of a kind that is there -/
theorem fields_get {b : Val} (hb : bookS b = true) {x : List Nat} (hx : x ∈ namesOf b) : dget (pairsOf b) (.str x) = some (.tup (fieldsOf b x)) ∧ fieldsS ((namesOf b).map Val.str) (.tup (fieldsOf b x)) = true := by
  obtain ⟨ks, h⟩ := bookF hb
  rw [h.names] at hx
  obtain ⟨k, hk, rfl⟩ := List.mem_map.mp hx
  have hm : (Val.str (name0 k), second k) ∈ pairsOf b := by rw [h.pairs]; exact List.mem_map.mpr ⟨k, hk, rfl⟩
  have hf := h.fields k hk
  have hg := dget_mem h.nd hm
  obtain ⟨fs, e⟩ : ∃ fs, second k = .tup fs := by
    by_cases hs : isTup (second k) = true
    · exact isTup_iff.mp hs
    · rw [fields_not hs] at hf; cases hf
  rw [e] at hg hf
  have e2 : fieldsOf b (name0 k) = fs := by unfold fieldsOf; rw [hg]
  rw [e2, hg, h.names]
  exact ⟨rfl, hf⟩
theorem idx_dct {kvs : List (Val × Val)} {x : List Nat} {v : Val} (h : dget kvs (.str x) = some v) (m : Sto) : idxV (.dct .k kvs) (.str x) m = .ok v m := by
  simp [idxV, asD, kfit, kfit1, h]
theorem fields_at {b : Val} (hb : bookS b = true) {x : List Nat} (hx : x ∈ namesOf b) (m : Sto) : idxV (.dct .k (pairsOf b)) (.str x) m = .ok (.tup (fieldsOf b x)) m := idx_dct (fields_get hb hx).1 m
theorem root_in {b : Val} (hb : bookS b = true) : s_Root ∈ namesOf b := by
  obtain ⟨ks, h⟩ := bookF hb
  rw [h.names]; exact h.root
/-- a field of a book -/
structure FieldF (ns : List Val) (f : Val) (n : List Nat) (s : Val) (ts : List Val) : Prop where
  eq : f = .tup [.str n, s, .tup ts]
  word : wordS (.str n) = true
  sort : sortS ns 4 s = true
  good : Val.tup ts ∈ goodL s
theorem fieldF {ns : List Val} {f : Val} (h : fieldS ns f = true) : ∃ n s ts, FieldF ns f n s ts := by
  unfold fieldS at h
  split at h
  · rename_i w s ts
    rw [← good_takes] at h
    simp only [Bool.and_eq_true, decide_eq_true_eq] at h
    obtain ⟨n, rfl⟩ := wordS_str h.1
    exact ⟨n, s, ts, rfl, h.1, h.2.1, h.2.2⟩
  · cases h
theorem fields_all {ns : List Val} {fs : List Val} (h : fieldsS ns (.tup fs) = true) : (∀ f ∈ fs, fieldS ns f = true) ∧ 1 ≤ fs.length ∧ fs.length ≤ 5 ∧ riseL (fs.map name0) = true := by
  simp only [fieldsS, Bool.and_eq_true, decide_eq_true_eq, List.all_eq_true] at h
  exact ⟨h.2.2.1, h.1, h.2.1, h.2.2.2⟩
/-- the fields of a drawn book -/
theorem DBook.row {b : Val} (h : DBook b) {x : List Nat} (hx : x ∈ namesOf b) : x ∈ all4 ∧ Rw x (fieldsOf b x) := by
  obtain ⟨fs, e, hr⟩ := h.rows
  obtain ⟨ks, hF⟩ := bookF h.book
  have e' := hF.eq
  rw [e] at e'
  cases e'
  have hx' := hx
  rw [hF.names] at hx'
  obtain ⟨k, hk, rfl⟩ := List.mem_map.mp hx'
  obtain ⟨y, rs, rfl, hy, hw⟩ := hr k hk
  have hm : (Val.str y, Val.tup rs) ∈ pairsOf b := by rw [hF.pairs]; exact List.mem_map.mpr ⟨_, hk, rfl⟩
  have hg := dget_mem hF.nd hm
  have e2 : fieldsOf b y = rs := by unfold fieldsOf; rw [hg]
  simp only [name0]
  rw [e2]
  exact ⟨hy, hw⟩
/-! ### what a sort is of -/
def innerS : Val → Val
  | .tup [.str _, w] => innerS w
  | v => v
theorem inner_str {ns : List Val} : ∀ {d : Nat} {s : Val}, sortS ns d s = true → ∃ x, innerS s = .str x ∧ (Val.str x ∈ bases ∨ Val.str x ∈ ns) := by
  intro d
  induction d with
  | zero => intro s h; simp [sortS] at h
  | succ d ih =>
    intro s h
    rcases sort_forms h with ⟨x, rfl, hx⟩ | ⟨t, w, k, hk, rfl, ht, hw⟩
    · exact ⟨x, by simp [innerS], hx⟩
    · have : k = d := by omega
      subst this
      simp only [innerS]
      exact ih hw
theorem law_inner_ok {ns : List Val} {s : Val} {d : Nat} (hd0 : d ≤ 100) (h : sortS ns d s = true) (hg : gd s = true) (n : Nat) (m : Sto) : Fn (n + 1) ._law_inner [s] m = .ok (innerS s) m := by
  rw [Fn__law_inner, e_body, b__law_inner]
  obtain ⟨x, hx, _⟩ := inner_str h
  have hd : d < turnsMost := by unfold turnsMost; omega
  obtain ⟨k', ρ', m', h1, ⟨s', d', e1, e2, e3, e4, e5, e6⟩, h3⟩ := while_run (c := tstF (isiF "tuple" (varF 0))) (b := b__law_inner_l1 (Fn n))
    (fun k ρ' m' => ∃ s' d', ρ' = [some s'] ∧ m' = m ∧ sortS ns d' s' = true ∧ gd s' = true ∧ innerS s' = innerS s ∧ d' = k) turnsMost d (ρ := [some s]) (m := m) ⟨s, d, rfl, rfl, h, hg, rfl, rfl⟩ hd (by
      rintro k ρ' m' ⟨s', d', rfl, rfl, hs, hg, hi, rfl⟩
      refine ⟨isTup s', by simp [isi_tup hg], fun ht => ?_⟩
      rcases sort_forms hs with ⟨x, rfl, hx⟩ | ⟨t, w, k, rfl, rfl, ht, hw⟩
      · cases ht
      · exact ⟨k, _, _, by omega, by simp [b__law_inner_l1], w, k, rfl, rfl, hw, gd_tup_mem hg (by simp), by rw [← hi]; simp [innerS], rfl⟩)
  subst e1 e2
  simp only [e_tst, e_isi, e_var, List.getElem?_cons_zero, Res.bind_ok, isi_tup e4, asT_bl, Res.ok.injEq, and_true] at h3
  have : innerS s' = s' := by
    rcases sort_forms e3 with ⟨x, rfl, hx⟩ | ⟨t, w, k, rfl, rfl, ht, hw⟩
    · simp [innerS]
    · cases h3
  have hw : whileF (tstF (isiF "tuple" (varF 0))) (b__law_inner_l1 (Fn n)) [some s] m' = .nx [some s'] m' := h1
  simp [hw, ← e5, this]
end LW

-- part L03M1
namespace LW
open G
/-! ### worths -/
def wholeS (lo hi : Int) : Val → Bool
  | .int i => decide (lo ≤ i) && decide (i ≤ hi)
  | _ => false
theorem is_whole_ok (n : Nat) (v : Val) (hv : gd v = true) (lo hi : Int) (m : Sto) : Fn (n + 1) .is_whole [v, .int lo, .int hi] m = .ok (.bl (wholeS lo hi v)) m := by
  rw [Fn_is_whole, e_body, b_is_whole]
  cases v with
  | int i => by_cases h : lo ≤ i <;> simp [isi_int, isi_bool, isBool, wholeS, h]
  | bl b => simp [isi_int, isi_bool, isBool, wholeS]
  | _ => first | (simp [gd, good] at hv; done) | simp [isi_int hv, wholeS]
theorem law_number_ok (n : Nat) (v : Val) (hv : gd v = true) (lo hi : Int) (m : Sto) : Fn (n + 1) ._law_number [v, .int lo, .int hi] m = .ok (.bl (wholeS lo hi v)) m := by
  rw [Fn__law_number, e_body, b__law_number]
  cases v with
  | int i => by_cases h : lo ≤ i <;> simp [isi_int, isi_bool, isBool, wholeS, h]
  | bl b => simp [isi_int, isi_bool, isBool, wholeS]
  | _ => first | (simp [gd, good] at hv; done) | simp [isi_int hv, wholeS]
def textS : Val → Bool
  | .str x => decide (x.length ≤ 6) && x.all letter
  | _ => false
theorem textS_not {v : Val} (h : ¬ isStr v = true) : textS v = false := by cases v <;> first | rfl | simp at h
def worthS (b : Val) (v : Val) : Bool := if b = .str s_number then wholeS (-999) 999 v else if b = .str s_truth then isBool v else textS v
theorem letters3 {x : List Nat} {ρ : Env} {it : IF} {m : Sto} (hi : it ρ m = .ok (x.map fun c => .str [c], none) m) (hl : x.length ≤ 16777216) (h2 : ρ.length = 3) :
    compF it (nameG 2) yesT (bin2 inV (varF 2) (conF (.str s_abcdefghijklmnopqrstuvwxyz))) [2] ρ m = .ok (.lst (x.map fun c => .bl (letter c))) m :=
  comp_map _ _ hi hl fun c _ => by
    match ρ, h2 with
    | [a, b, d], _ => exact ⟨_, rfl, by simp [wipeE, letter]⟩
theorem letters3_not {x : List Nat} {ρ : Env} {it : IF} {m : Sto} (hi : it ρ m = .ok (x.map fun c => .str [c], none) m) (hl : x.length ≤ 16777216) (h2 : ρ.length = 3) :
    compF it (nameG 2) (tstF (bin2 notInV (varF 2) (conF (.str s_abcdefghijklmnopqrstuvwxyz)))) (varF 2) [2] ρ m = .ok (.lst ((x.filter fun c => !letter c).map fun c => .str [c])) m :=
  comp_filter (fun c => .str [c]) (fun c => !letter c) (fun c => .str [c]) hi hl fun c _ => by
    match ρ, h2 with
    | [a, b, d], _ => exact ⟨_, rfl, by simp [wipeE, letter], fun _ => by simp [wipeE]⟩
theorem is_worth_ok (n : Nat) (x : List Nat) (hb : gd (.str x) = true) (v : Val) (hv : gd v = true) (m : Sto) : Fn (n + 2) .is_worth [.str x, v] m = .ok (.bl (worthS (.str x) v)) m := by
  rw [Fn_is_worth, e_body, b_is_worth]
  have e1 := eqV_str (m := m) hb gd_s_number
  have e2 := eqV_str (m := m) hb gd_s_truth
  have hw := is_whole_ok n v hv (-999) 999 m
  simp only [Val.str.injEq] at e1 e2
  by_cases h1 : x = s_number
  · subst h1
    simp [e1, negV, hw, worthS]
  · by_cases h2 : x = s_truth
    · subst h2
      simp [e1, h1, e2, worthS, isi_bool hv]
    · by_cases hs : isStr v = true
      · obtain ⟨y, rfl⟩ := isStr_iff.mp hs
        have hl := gd_len hv
        have hc := letters3 (x := y) (ρ := [some (.str x), some (.str y), none]) (it := itF itemsA (varF 1)) (m := m) (by simp [itemsA]) hl rfl
        simp [e1, h1, e2, h2, worthS, isi_str hv, lenV_str hl, hc, textS]
        by_cases h3 : y.length ≤ 6 <;> simp [h3]
      · simp [e1, h1, e2, h2, worthS, isi_str hv, not_isStr hs, textS_not hs]
theorem law_is_worth_ok (n : Nat) (x : List Nat) (hb : gd (.str x) = true) (v : Val) (hv : gd v = true) (m : Sto) : Fn (n + 2) ._law_is_worth [.str x, v] m = .ok (.bl (worthS (.str x) v)) m := by
  rw [Fn__law_is_worth, e_body, b__law_is_worth]
  have e1 := eqV_str (m := m) hb gd_s_number
  have e2 := eqV_str (m := m) hb gd_s_truth
  have hw := law_number_ok n v hv (-999) 999 m
  simp only [Val.str.injEq] at e1 e2
  by_cases h1 : x = s_number
  · subst h1
    simp [e1, hw, worthS]
  · by_cases h2 : x = s_truth
    · subst h2
      simp [e1, h1, e2, worthS, isi_bool hv]
    · by_cases hs : isStr v = true
      · obtain ⟨y, rfl⟩ := isStr_iff.mp hs
        have hl := gd_len hv
        have hc := letters3_not (x := y) (ρ := [some (.str x), some (.str y), none]) (it := itF itemsA (varF 1)) (m := m) (by simp [itemsA]) hl rfl
        simp [e1, h1, e2, h2, worthS, isi_str hv, lenV_str hl, hc, textS, signs_eq hv]
        by_cases h3 : y.length ≤ 6
        · have h3' : ¬ 6 < y.length := by omega
          simp [h3, h3']
        · have h3' : 6 < y.length := by omega
          simp [h3, h3']
      · simp [e1, h1, e2, h2, worthS, isi_str hv, not_isStr hs, textS_not hs]
/-! ### holes -/
def holeS : Val → Bool
  | .tup [.str t, w] => decide (t = s_hole) && wordS w
  | _ => false
theorem holeS_not {v : Val} (h : ¬ isTup v = true) : holeS v = false := by cases v <;> first | exact absurd rfl h | rfl
theorem holeS_not2 {xs : List Val} (h : ¬ xs.length = 2) : holeS (.tup xs) = false := by
  match xs, h with
  | [], _ => rfl
  | [_], _ => simp [holeS]
  | [_, _], h => exact absurd rfl h
  | _ :: _ :: _ :: _, _ => simp [holeS]
theorem holeS_two {a w : Val} : holeS (.tup [a, w]) = (decide (a = .str s_hole) && wordS w) := by
  cases a <;> simp [holeS]
theorem is_hole_ok (n : Nat) (v : Val) (hv : gd v = true) (m : Sto) : Fn (n + 2) .is_hole [v] m = .ok (.bl (holeS v)) m := by
  rw [Fn_is_hole, e_body, b_is_hole]
  by_cases hs : isTup v = true
  · obtain ⟨xs, rfl⟩ := isTup_iff.mp hs
    by_cases h2 : xs.length = 2
    · obtain ⟨a, w, rfl⟩ := two_of h2
      have ga := gd_tup_mem hv (x := a) (by simp)
      have gw := gd_tup_mem hv (x := w) (by simp)
      have hw := is_word_ok n w gw m
      have e1 := eqV_str (m := m) ga gd_s_hole
      have hS := holeS_two (a := a) (w := w)
      generalize decide (a = .str s_hole) = q at e1 hS
      cases q <;> simp [isi_tup hv, e1, hw, hS]
    · simp [isi_tup hv, h2, holeS_not2 h2]
  · simp [isi_tup hv, not_isTup hs, holeS_not hs]
theorem law_is_hole_ok (n : Nat) (v : Val) (hv : gd v = true) (m : Sto) : Fn (n + 2) ._law_is_hole [v] m = .ok (.bl (holeS v)) m := by
  rw [Fn__law_is_hole, e_body, b__law_is_hole]
  have hrow := law_is_row_ok n v hv 2 2 m
  by_cases hs : isTup v = true
  · obtain ⟨xs, rfl⟩ := isTup_iff.mp hs
    by_cases h2 : xs.length = 2
    · obtain ⟨a, w, rfl⟩ := two_of h2
      have ga := gd_tup_mem hv (x := a) (by simp)
      have gw := gd_tup_mem hv (x := w) (by simp)
      have hw := law_is_word_ok n w gw m
      have e1 := eqV_str (m := m) ga gd_s_hole
      simp at hrow
      have hS := holeS_two (a := a) (w := w)
      generalize decide (a = .str s_hole) = q at e1 hS
      cases q <;> simp [hrow, e1, hw, hS]
    · have h2' : rowS 2 2 (.tup xs) = false := by simp; omega
      rw [h2'] at hrow
      simp [hrow, holeS_not2 h2]
  · rw [rowS_not hs] at hrow
    simp [hrow, holeS_not hs]
def toldS : Val → Bool
  | .tup [w, b, d] => wordS w && (decide (b ∈ bases) && (decide (d = .non) || worthS b d))
  | _ => false
theorem toldS_not {v : Val} (h : ¬ isTup v = true) : toldS v = false := by cases v <;> first | exact absurd rfl h | rfl
theorem toldS_not3 {xs : List Val} (h : ¬ xs.length = 3) : toldS (.tup xs) = false := by
  match xs, h with
  | [], _ => rfl
  | [_], _ => rfl
  | [_, _], _ => rfl
  | [_, _, _], h => exact absurd rfl h
  | _ :: _ :: _ :: _ :: _, _ => simp [toldS]
theorem bases_str {v : Val} (h : v ∈ bases) : ∃ x, v = .str x := by
  simp only [bases, List.mem_cons, List.not_mem_nil, or_false] at h
  rcases h with rfl | rfl | rfl <;> exact ⟨_, rfl⟩
theorem isV_non {v : Val} (m : Sto) (hv : gd v = true) : isV v .non m = .ok (.bl (decide (v = .non))) m := by
  cases v <;> first | (simp [gd, good] at hv; done) | simp [isV, isNone]
theorem isNotV_non {v : Val} (m : Sto) (hv : gd v = true) : isNotV v .non m = .ok (.bl (!decide (v = .non))) m := by
  cases v <;> first | (simp [gd, good] at hv; done) | simp [isNotV, isNone]
end LW

-- part L03M2
namespace LW
open G
theorem toldS_three {w b d : Val} : toldS (.tup [w, b, d]) = (wordS w && (decide (b ∈ bases) && (decide (d = .non) || worthS b d))) := rfl
theorem is_told_hole_ok (n : Nat) (v : Val) (hv : gd v = true) (m : Sto) : Fn (n + 3) .is_told_hole [v] m = .ok (.bl (toldS v)) m := by
  rw [Fn_is_told_hole, e_body, b_is_told_hole]
  by_cases hs : isTup v = true
  · obtain ⟨xs, rfl⟩ := isTup_iff.mp hs
    by_cases h3 : xs.length = 3
    · obtain ⟨w, b, d, rfl⟩ := three_of h3
      have gw := gd_tup_mem hv (x := w) (by simp)
      have gb := gd_tup_mem hv (x := b) (by simp)
      have gD := gd_tup_mem hv (x := d) (by simp)
      have hw := is_word_ok (n + 1) w gw m
      have hN := isV_non m gD
      have hS := toldS_three (w := w) (b := b) (d := d)
      by_cases hb : isStr b = true
      · obtain ⟨x, rfl⟩ := isStr_iff.mp hb
        have h1 : notInV (.str x) (.wt [.str s_number, .str s_text, .str s_truth]) m = .ok (.bl (!decide (Val.str x ∈ bases))) m := (notInV_wt (m := m) gb gd_bases).trans (by rw [any_veq_str])
        have h2 := is_worth_ok n x gb d gD m
        generalize decide (d = .non) = q2 at hN hS
        generalize decide (Val.str x ∈ bases) = q1 at h1 hS
        generalize wordS w = q0 at hw hS
        cases q0 <;> cases q1 <;> cases q2 <;> simp [isi_tup hv, hw, isi_str gb, h1, h2, hN, hS]
      · have hm : ¬ b ∈ bases := fun h => hb (by obtain ⟨x, rfl⟩ := bases_str h; rfl)
        rw [decide_eq_false hm] at hS
        generalize wordS w = q0 at hw hS
        cases q0 <;> simp [isi_tup hv, hw, isi_str gb, not_isStr hb, hS]
    · simp [isi_tup hv, h3, toldS_not3 h3]
  · simp [isi_tup hv, not_isTup hs, toldS_not hs]
/-! ### args -/
def takesAll : List Val := [.str s_first, .str s_plus, .str s_skip]
@[simp] theorem gd_takesAll : gd (.tup takesAll) = true := by decide +kernel
def anyS (w : Val) : Bool := bases.any fun b => worthS b w
def argS : Val → Bool
  | .tup [t, w] => decide (t ∈ takesAll) && (holeS w || anyS w)
  | _ => false
theorem argS_two {t w : Val} : argS (.tup [t, w]) = (decide (t ∈ takesAll) && (holeS w || anyS w)) := rfl
theorem argS_not {v : Val} (h : ¬ isTup v = true) : argS v = false := by cases v <;> first | exact absurd rfl h | rfl
theorem argS_not2 {xs : List Val} (h : ¬ xs.length = 2) : argS (.tup xs) = false := by
  match xs, h with
  | [], _ => rfl
  | [_], _ => rfl
  | [_, _], h => exact absurd rfl h
  | _ :: _ :: _ :: _, _ => simp [argS]
theorem takesAll_str {v : Val} (h : v ∈ takesAll) : ∃ x, v = .str x := by
  simp only [takesAll, List.mem_cons, List.not_mem_nil, or_false] at h
  rcases h with rfl | rfl | rfl <;> exact ⟨_, rfl⟩
theorem bases_gd {b : Val} (h : b ∈ bases) : gd b = true := gd_tup_mem gd_bases h
theorem is_arg_ok (n : Nat) (v : Val) (hv : gd v = true) (m : Sto) : Fn (n + 3) .is_arg [v] m = .ok (.bl (argS v)) m := by
  rw [Fn_is_arg, e_body, b_is_arg]
  by_cases hs : isTup v = true
  · obtain ⟨xs, rfl⟩ := isTup_iff.mp hs
    by_cases h2 : xs.length = 2
    · obtain ⟨t, w, rfl⟩ := two_of h2
      have gt := gd_tup_mem hv (x := t) (by simp)
      have gw := gd_tup_mem hv (x := w) (by simp)
      have hh := is_hole_ok n w gw m
      have hS := argS_two (t := t) (w := w)
      have hc : compF (itF itemsA (conF (.wt [.str s_number, .str s_text, .str s_truth]))) (nameG 1) yesT (defF 2 (Fn (n + 2) .is_worth) (consF (varF 1) (consF (bin2 idxV (varF 0) (conF (.int 1))) nilF))) [1] [some (.tup [t, w]), none] m
          = .ok (.lst (bases.map fun b => .bl (worthS b w))) m := by
        refine comp_map (fun b => b) _ (by simp [itemsA, itemsQ, bases]) (by decide) fun b hb => ⟨_, rfl, ?_⟩
        obtain ⟨x, rfl⟩ := bases_str hb
        have := is_worth_ok n x (bases_gd hb) w gw m
        simp [wipeE, this]
      by_cases ht : isStr t = true
      · obtain ⟨x, rfl⟩ := isStr_iff.mp ht
        have h1 : notInV (.str x) (.wt [.str s_first, .str s_plus, .str s_skip]) m = .ok (.bl (!decide (Val.str x ∈ takesAll))) m := (notInV_wt (m := m) gt gd_takesAll).trans (by rw [any_veq_str])
        generalize decide (Val.str x ∈ takesAll) = q1 at h1 hS
        generalize holeS w = q2 at hh hS
        cases q1 <;> cases q2 <;> simp [isi_tup hv, isi_str gt, h1, hh, hc, hS, anyS]
      · have hm : ¬ t ∈ takesAll := fun h => ht (by obtain ⟨x, rfl⟩ := takesAll_str h; rfl)
        rw [decide_eq_false hm] at hS
        simp [isi_tup hv, isi_str gt, not_isStr ht, hS]
    · simp [isi_tup hv, h2, argS_not2 h2]
  · simp [isi_tup hv, not_isTup hs, argS_not hs]
theorem argS_form {v : Val} (h : argS v = true) : ∃ x w, v = .tup [.str x, w] ∧ Val.str x ∈ takesAll := by
  unfold argS at h
  split at h
  · rename_i t w
    simp only [Bool.and_eq_true, decide_eq_true_eq] at h
    obtain ⟨x, rfl⟩ := takesAll_str h.1
    exact ⟨x, w, rfl, h.1⟩
  · cases h
def argsS : Val → Bool
  | .tup ts => ts.all argS && riseL (ts.map name0)
  | _ => false
theorem argsS_not {v : Val} (h : ¬ isTup v = true) : argsS v = false := by cases v <;> first | exact absurd rfl h | rfl
theorem are_args_ok (n : Nat) (v : Val) (hv : gd v = true) (hz : lens v = true) (m : Sto) : Fn (n + 4) .are_args [v] m = .ok (.bl (argsS v)) m := by
  rw [Fn_are_args, e_body, b_are_args]
  by_cases hs : isTup v = true
  · obtain ⟨ts, rfl⟩ := isTup_iff.mp hs
    have hl := lens_len hz
    have hc : compF (itF itemsA (varF 0)) (nameG 1) yesT (defF 1 (Fn (n + 3) .is_arg) (consF (varF 1) nilF)) [1] [some (.tup ts), none] m = .ok (.lst (ts.map fun t => .bl (argS t))) m := by
      refine comp_map (fun t => t) _ (by simp [itemsA, itemsQ]) (by omega) fun t ht => ⟨_, rfl, ?_⟩
      simp [wipeE, is_arg_ok n t (gd_tup_mem hv ht) m]
    cases ha : ts.all argS with
    | false => simp [isi_tup hv, hc, ha, argsS]
    | true =>
      have hn := names_comp (fs := ts) (ρ := [some (.tup ts), none]) (it := itF itemsA (varF 0)) (m := m) (i := 1) (by simp [itemsA, itemsQ]) hl (fun t ht => by
        obtain ⟨x, w, e, _⟩ := argS_form (List.all_eq_true.mp ha t ht)
        exact ⟨x, _, e⟩) (by simp)
      have hr := rises_ok (n + 2) _ (ts.map name0) (by simp; omega) (.inr rfl) m
      simp [isi_tup hv, hc, ha, hn, hr, argsS, -List.map_map]
  · simp [isi_tup hv, not_isTup hs, argsS_not hs]
/-! ### wants -/
mutual
def wantS : Nat → Val → Bool
  | 0, _ => false
  | d + 1, v => match v with
    | .tup [x, w] => decide (x = .str s_piece) && wordS w
    | .tup [x, k, n, a, ws, h] => decide (x = .str s_field) && (wordS k && (wordS n && (argsS a && (wantsS d ws && (decide (h = .non) || (isBool h || holeS h))))))
    | _ => false
def wantsS : Nat → Val → Bool
  | d, .tup ws => decide (ws.length ≤ 5) && ws.all fun w => wantS d w
  | _, _ => false
end
end LW

-- part L03M3
namespace LW
open G
theorem wantS_nil {d : Nat} : wantS d (.tup []) = false := by cases d <;> simp [wantS]
theorem wantS_not {d : Nat} {v : Val} (h : ¬ isTup v = true) : wantS d v = false := by
  cases d with
  | zero => simp [wantS]
  | succ d => cases v <;> first | exact absurd rfl h | simp [wantS]
theorem wantsS_not {d : Nat} {v : Val} (h : ¬ isTup v = true) : wantsS d v = false := by cases v <;> first | exact absurd rfl h | simp [wantsS]
theorem wantsS_tup {d : Nat} {ws : List Val} : wantsS d (.tup ws) = (decide (ws.length ≤ 5) && ws.all fun w => wantS d w) := by simp [wantsS]
theorem piece_field : ¬ (Val.str s_piece = Val.str s_field) := by decide
theorem wantS_piece {d : Nat} {w : Val} : wantS (d + 1) (.tup [.str s_piece, w]) = wordS w := by simp [wantS]
theorem wantS_piece_not {d : Nat} {r : List Val} (h : ¬ r.length = 1) : wantS (d + 1) (.tup (.str s_piece :: r)) = false := by
  have h2 : ¬ s_piece = s_field := by decide
  unfold wantS
  split
  · simp_all
  · rename_i hh
    simp only [Val.tup.injEq, List.cons.injEq] at hh
    obtain ⟨rfl, -⟩ := hh
    simp [h2]
  · rfl
theorem wantS_field {d : Nat} {k n a ws h : Val} : wantS (d + 1) (.tup [.str s_field, k, n, a, ws, h]) = (wordS k && (wordS n && (argsS a && (wantsS d ws && (decide (h = .non) || (isBool h || holeS h)))))) := by simp [wantS]
theorem wantS_field_not {d : Nat} {r : List Val} (h : ¬ r.length = 5) : wantS (d + 1) (.tup (.str s_field :: r)) = false := by
  have h2 : ¬ s_field = s_piece := by decide
  unfold wantS
  split
  · rename_i hh
    simp only [Val.tup.injEq, List.cons.injEq] at hh
    obtain ⟨rfl, -⟩ := hh
    simp [h2]
  · simp_all
  · rfl
theorem wantS_other {d : Nat} {x : Val} {r : List Val} (h : x ≠ .str s_piece) (h2 : x ≠ .str s_field) : wantS (d + 1) (.tup (x :: r)) = false := by
  unfold wantS
  split <;> simp_all
theorem one_of {xs : List Val} (h : xs.length = 1) : ∃ a, xs = [a] := by
  match xs, h with
  | [a], _ => exact ⟨a, rfl⟩
theorem five_of {xs : List Val} (h : xs.length = 5) : ∃ a b c d e, xs = [a, b, c, d, e] := by
  match xs, h with
  | [a, b, c, d, e], _ => exact ⟨a, b, c, d, e, rfl⟩
theorem is_want_0 (n : Nat) (v : Val) (hv : gd v = true) (m : Sto) : Fn (n + 1) .is_want [v, .int 0] m = .ok (.bl (wantS 0 v)) m := by
  rw [Fn_is_want, e_body, b_is_want]
  by_cases hs : isTup v = true
  · obtain ⟨xs, rfl⟩ := isTup_iff.mp hs
    by_cases h : xs.length = 0 <;> simp [isi_tup hv, h, wantS]
  · simp [isi_tup hv, not_isTup hs, wantS]
theorem is_want_step (d n : Nat) (m : Sto) (ih : ∀ v, gd v = true → lens v = true → Fn (n + 2 * d + 6) .are_wants [v, .int d] m = .ok (.bl (wantsS d v)) m) (v : Val) (hv : gd v = true) (hz : lens v = true) :
    Fn (n + 2 * d + 7) .is_want [v, .int ((d : Int) + 1)] m = .ok (.bl (wantS (d + 1) v)) m := by
  rw [Fn_is_want, e_body, b_is_want]
  have hd : ¬ ((d : Int) + 1 = 0) := by omega
  have hd1 : (d : Int) + 1 - 1 = d := by omega
  by_cases hs : isTup v = true
  · obtain ⟨xs, rfl⟩ := isTup_iff.mp hs
    cases xs with
    | nil => simp [isi_tup hv, wantS_nil]
    | cons x r =>
      have gx := gd_tup_mem hv (x := x) (by simp)
      have e1 := eqV_str (m := m) gx gd_s_piece
      have e2 := neV_str (m := m) gx gd_s_field
      have hlen : ¬ ((r.length : Int) + 1 = 0) := by omega
      by_cases hp : x = .str s_piece
      · rw [decide_eq_true hp] at e1
        subst hp
        by_cases h1 : r.length = 1
        · obtain ⟨w, rfl⟩ := one_of h1
          have hw := is_word_ok (n + 2 * d + 5) w (gd_tup_mem hv (by simp)) m
          simp [isi_tup hv, hd, e1, hw, wantS_piece]
        · have h1' : ¬ ((r.length : Int) + 1 = 2) := by omega
          simp [isi_tup hv, hd, hlen, e1, h1', wantS_piece_not h1]
      · rw [decide_eq_false hp] at e1
        by_cases hf : x = .str s_field
        · rw [decide_eq_true hf] at e2
          subst hf
          by_cases h5 : r.length = 5
          · obtain ⟨k, nm, a, ws, h, rfl⟩ := five_of h5
            have gk := gd_tup_mem hv (x := k) (by simp)
            have gn := gd_tup_mem hv (x := nm) (by simp)
            have ga := gd_tup_mem hv (x := a) (by simp)
            have gw := gd_tup_mem hv (x := ws) (by simp)
            have gh := gd_tup_mem hv (x := h) (by simp)
            have hk := is_word_ok (n + 2 * d + 5) k gk m
            have hn := is_word_ok (n + 2 * d + 5) nm gn m
            have ha := are_args_ok (n + 2 * d + 2) a ga (lens_mem hz (by simp)) m
            have hw := ih ws gw (lens_mem hz (by simp))
            have hN := isV_non m gh
            have hh := is_hole_ok (n + 2 * d + 4) h gh m
            have hS := wantS_field (d := d) (k := k) (n := nm) (a := a) (ws := ws) (h := h)
            generalize wordS k = q1 at hk hS
            generalize wordS nm = q2 at hn hS
            generalize argsS a = q3 at ha hS
            generalize wantsS d ws = q4 at hw hS
            generalize decide (h = .non) = q5 at hN hS
            generalize holeS h = q6 at hh hS
            rw [hS]
            cases q1
            · simp [isi_tup hv, hd, e1, e2, hk]
            cases q2
            · simp [isi_tup hv, hd, e1, e2, hk, hn]
            cases q3
            · simp [isi_tup hv, hd, e1, e2, hk, hn, ha]
            cases q4
            · simp [isi_tup hv, hd, hd1, e1, e2, hk, hn, ha, hw]
            cases q5
            · have hb := isi_bool (m := m) gh
              generalize isBool h = q7 at hb
              cases q7 <;> simp [isi_tup hv, hd, hd1, e1, e2, hk, hn, ha, hw, hN, hb, hh]
            · simp [isi_tup hv, hd, hd1, e1, e2, hk, hn, ha, hw, hN]
          · have h5' : ¬ ((r.length : Int) + 1 = 6) := by omega
            simp [isi_tup hv, hd, hlen, e1, e2, h5', wantS_field_not h5]
        · rw [decide_eq_false hf] at e2
          simp [isi_tup hv, hd, hlen, e1, e2, wantS_other hp hf]
  · simp [isi_tup hv, not_isTup hs, wantS_not hs]
theorem are_wants_ok (m : Sto) : ∀ (d n : Nat) (v : Val), gd v = true → lens v = true → Fn (n + 2 * d + 6) .are_wants [v, .int d] m = .ok (.bl (wantsS d v)) m := by
  intro d
  induction d with
  | zero =>
    intro n v hv hz
    rw [Fn_are_wants, e_body, b_are_wants]
    by_cases hs : isTup v = true
    · obtain ⟨ws, rfl⟩ := isTup_iff.mp hs
      have hc : compF (itF itemsA (varF 0)) (nameG 2) yesT (defF 2 (Fn (n + 2 * 0 + 5)  .is_want) (consF (varF 2) (consF (varF 1) nilF))) [2] [some (.tup ws), some (.int 0), none] m = .ok (.lst (ws.map fun w => .bl (wantS 0 w))) m := by
        refine comp_map (fun w => w) _ (by simp [itemsA, itemsQ]) (by have := lens_len hz; omega) fun w hw => ⟨_, rfl, ?_⟩
        simp [wipeE, is_want_0 (n + 4) w (gd_tup_mem hv hw) m]
      simp only [Nat.mul_zero, Nat.add_zero] at hc
      by_cases h5 : ws.length ≤ 5
      · have h5' : ¬ (5 : Int) < ws.length := by omega
        simp [isi_tup hv, h5', hc, wantsS_tup, h5]
      · have h5' : (5 : Int) < ws.length := by omega
        simp [isi_tup hv, h5', wantsS_tup, h5]
    · simp [isi_tup hv, not_isTup hs, wantsS_not hs]
  | succ d ih =>
    intro n v hv hz
    rw [show n + 2 * (d + 1) + 6 = (n + 2 * d + 7) + 1 by omega, Fn_are_wants, e_body, b_are_wants]
    by_cases hs : isTup v = true
    · obtain ⟨ws, rfl⟩ := isTup_iff.mp hs
      have hc : compF (itF itemsA (varF 0)) (nameG 2) yesT (defF 2 (Fn (n + 2 * d + 7)  .is_want) (consF (varF 2) (consF (varF 1) nilF))) [2] [some (.tup ws), some (.int ((d : Int) + 1)), none] m = .ok (.lst (ws.map fun w => .bl (wantS (d + 1) w))) m := by
        refine comp_map (fun w => w) _ (by simp [itemsA, itemsQ]) (by have := lens_len hz; omega) fun w hw => ⟨_, rfl, ?_⟩
        simp [wipeE, is_want_step d n m (fun v => ih n v) w (gd_tup_mem hv hw) (lens_mem hz hw)]
      by_cases h5 : ws.length ≤ 5
      · have h5' : ¬ (5 : Int) < ws.length := by omega
        simp [isi_tup hv, h5', hc, wantsS_tup, h5]
      · have h5' : (5 : Int) < ws.length := by omega
        simp [isi_tup hv, h5', wantsS_tup, h5]
    · simp [isi_tup hv, not_isTup hs, wantsS_not hs]
/-! ### pieces, requests -/
def pieceS : Val → Bool
  | .tup [w, k, ws] => wordS w && (kindS k && (wantsS 5 ws && !decide (ws = .tup [])))
  | _ => false
theorem pieceS_three {w k ws : Val} : pieceS (.tup [w, k, ws]) = (wordS w && (kindS k && (wantsS 5 ws && !decide (ws = .tup [])))) := rfl
theorem pieceS_not {v : Val} (h : ¬ isTup v = true) : pieceS v = false := by cases v <;> first | exact absurd rfl h | rfl
theorem pieceS_not3 {xs : List Val} (h : ¬ xs.length = 3) : pieceS (.tup xs) = false := by
  match xs, h with
  | [], _ => rfl
  | [_], _ => rfl
  | [_, _], _ => rfl
  | [_, _, _], h => exact absurd rfl h
  | _ :: _ :: _ :: _ :: _, _ => simp [pieceS]
theorem wantsS_isTup {d : Nat} {v : Val} (h : wantsS d v = true) : ∃ ws, v = .tup ws := by
  by_cases hs : isTup v = true
  · exact isTup_iff.mp hs
  · rw [wantsS_not hs] at h; cases h
theorem is_piece_ok (n : Nat) (v : Val) (hv : gd v = true) (hz : lens v = true) (m : Sto) : Fn (n + 17) .is_piece [v] m = .ok (.bl (pieceS v)) m := by
  rw [Fn_is_piece, e_body, b_is_piece]
  by_cases hs : isTup v = true
  · obtain ⟨xs, rfl⟩ := isTup_iff.mp hs
    by_cases h3 : xs.length = 3
    · obtain ⟨w, k, ws, rfl⟩ := three_of h3
      have gw := gd_tup_mem hv (x := w) (by simp)
      have gk := gd_tup_mem hv (x := k) (by simp)
      have gs := gd_tup_mem hv (x := ws) (by simp)
      have hw := is_word_ok (n + 15) w gw m
      have hk := is_kind_ok (n + 15) k gk m
      have hs := are_wants_ok m 5 n ws gs (lens_mem hz (by simp))
      simp only [show ((5 : Nat) : Int) = 5 from rfl] at hs
      have hS := pieceS_three (w := w) (k := k) (ws := ws)
      generalize wordS w = q1 at hw hS
      generalize kindS k = q2 at hk hS
      rw [hS]
      cases q1
      · simp [isi_tup hv, hw]
      cases q2
      · simp [isi_tup hv, hw, hk]
      cases hq : wantsS 5 ws with
      | false => rw [hq] at hs; simp [isi_tup hv, hw, hk, hs]
      | true =>
        rw [hq] at hs
        obtain ⟨us, rfl⟩ := wantsS_isTup hq
        cases us with
        | nil => simp [isi_tup hv, hw, hk, hs]
        | cons u us =>
          have : (0 : Int) < us.length + 1 := by omega
          simp [isi_tup hv, hw, hk, hs, this]
    · simp [isi_tup hv, h3, pieceS_not3 h3]
  · simp [isi_tup hv, not_isTup hs, pieceS_not hs]
theorem toldS_form {v : Val} (h : toldS v = true) : ∃ x r, v = .tup (.str x :: r) := by
  unfold toldS at h
  split at h
  · rename_i w b d
    simp only [Bool.and_eq_true] at h
    obtain ⟨x, rfl⟩ := wordS_str h.1
    exact ⟨x, _, rfl⟩
  · cases h
theorem pieceS_form {v : Val} (h : pieceS v = true) : ∃ x r, v = .tup (.str x :: r) := by
  unfold pieceS at h
  split at h
  · rename_i w b d
    simp only [Bool.and_eq_true] at h
    obtain ⟨x, rfl⟩ := wordS_str h.1
    exact ⟨x, _, rfl⟩
  · cases h
def holesS : Val → Bool
  | .tup hs => hs.all toldS && riseL (hs.map name0)
  | _ => false
def piecesS : Val → Bool
  | .tup ps => decide (ps.length ≤ 3) && (ps.all pieceS && riseL (ps.map name0))
  | _ => false
def reqS : Val → Bool
  | .tup [h, ws, ps] => holesS h && (wantsS 5 ws && (!decide (ws = .tup []) && piecesS ps))
  | _ => false
theorem reqS_three {h ws ps : Val} : reqS (.tup [h, ws, ps]) = (holesS h && (wantsS 5 ws && (!decide (ws = .tup []) && piecesS ps))) := rfl
theorem reqS_not {v : Val} (h : ¬ isTup v = true) : reqS v = false := by cases v <;> first | exact absurd rfl h | rfl
theorem reqS_not3 {xs : List Val} (h : ¬ xs.length = 3) : reqS (.tup xs) = false := by
  match xs, h with
  | [], _ => rfl
  | [_], _ => rfl
  | [_, _], _ => rfl
  | [_, _, _], h => exact absurd rfl h
  | _ :: _ :: _ :: _ :: _, _ => simp [reqS]
theorem holesS_not {v : Val} (h : ¬ isTup v = true) : holesS v = false := by cases v <;> first | exact absurd rfl h | rfl
theorem piecesS_not {v : Val} (h : ¬ isTup v = true) : piecesS v = false := by cases v <;> first | exact absurd rfl h | rfl
theorem is_request_ok (n : Nat) (v : Val) (hv : gd v = true) (hz : lens v = true) (m : Sto) : Fn (n + 18) .is_request [v] m = .ok (.bl (reqS v)) m := by
  rw [Fn_is_request, e_body, b_is_request]
  by_cases hst : isTup v = true
  · obtain ⟨xs, rfl⟩ := isTup_iff.mp hst
    by_cases h3 : xs.length = 3
    · obtain ⟨h, ws, ps, rfl⟩ := three_of h3
      have gh := gd_tup_mem hv (x := h) (by simp)
      have gw := gd_tup_mem hv (x := ws) (by simp)
      have gp := gd_tup_mem hv (x := ps) (by simp)
      have lp := lens_mem hz (x := ps) (by simp)
      have hw := are_wants_ok m 5 (n + 1) ws gw (lens_mem hz (by simp))
      simp only [show ((5 : Nat) : Int) = 5 from rfl, show n + 1 + 2 * 5 + 6 = n + 17 by omega] at hw
      rw [reqS_three]
      by_cases ht : isTup h = true
      · obtain ⟨hs, rfl⟩ := isTup_iff.mp ht
        have hl := lens_len (lens_mem hz (x := .tup hs) (by simp))
        have hc : compF (itF itemsA (bin2 idxV (varF 0) (conF (.int 0)))) (nameG 1) yesT (defF 1 (Fn (n + 17) .is_told_hole) (consF (varF 1) nilF)) [1] [some (.tup [.tup hs, ws, ps]), none] m = .ok (.lst (hs.map fun t => .bl (toldS t))) m := by
          refine comp_map (fun t => t) _ (by simp [itemsA, itemsQ]) (by omega) fun t ht => ⟨_, rfl, ?_⟩
          simp [wipeE, is_told_hole_ok (n + 14) t (gd_tup_mem gh ht) m]
        cases ha : hs.all toldS with
        | false => simp [isi_tup hv, isi_tup gh, hc, ha, holesS]
        | true =>
          have hn := names_comp (fs := hs) (ρ := [some (.tup [.tup hs, ws, ps]), none]) (it := itF itemsA (bin2 idxV (varF 0) (conF (.int 0)))) (m := m) (i := 1) (by simp [itemsA, itemsQ]) hl (fun t ht => toldS_form (List.all_eq_true.mp ha t ht)) (by simp)
          have hr := rises_ok (n + 16) _ (hs.map name0) (by simp; omega) (.inr rfl) m
          have hS : holesS (.tup hs) = riseL (hs.map name0) := by simp [holesS, ha]
          rw [hS]
          generalize riseL (hs.map name0) = q1 at hr
          cases q1
          · simp [isi_tup hv, isi_tup gh, hc, ha, hn, hr, -List.map_map]
          cases hq : wantsS 5 ws with
          | false => rw [hq] at hw; simp [isi_tup hv, isi_tup gh, hc, ha, hn, hr, hw, -List.map_map]
          | true =>
            rw [hq] at hw
            obtain ⟨us, rfl⟩ := wantsS_isTup hq
            cases us with
            | nil => simp [isi_tup hv, isi_tup gh, hc, ha, hn, hr, hw, -List.map_map]
            | cons u us =>
              have hu : ¬ ((us.length : Int) + 1 = 0) := by omega
              by_cases htp : isTup ps = true
              · obtain ⟨ps, rfl⟩ := isTup_iff.mp htp
                have hlp := lens_len lp
                by_cases h3 : ps.length ≤ 3
                · have h3' : ¬ (3 : Int) < ps.length := by omega
                  have hcp : compF (itF itemsA (bin2 idxV (varF 0) (conF (.int 2)))) (nameG 1) yesT (defF 1 (Fn (n + 17) .is_piece) (consF (varF 1) nilF)) [1] [some (.tup [.tup hs, .tup (u :: us), .tup ps]), none] m = .ok (.lst (ps.map fun t => .bl (pieceS t))) m := by
                    refine comp_map (fun t => t) _ (by simp [itemsA, itemsQ]) (by omega) fun t ht => ⟨_, rfl, ?_⟩
                    simp [wipeE, is_piece_ok n t (gd_tup_mem gp ht) (lens_mem lp ht) m]
                  cases hpa : ps.all pieceS with
                  | false => simp [isi_tup hv, isi_tup gh, isi_tup gp, hc, ha, hn, hr, hw, hu, h3, h3', hcp, hpa, piecesS, -List.map_map]
                  | true =>
                    have hnp := names_comp (fs := ps) (ρ := [some (.tup [.tup hs, .tup (u :: us), .tup ps]), none]) (it := itF itemsA (bin2 idxV (varF 0) (conF (.int 2)))) (m := m) (i := 1) (by simp [itemsA, itemsQ]) hlp (fun t ht => pieceS_form (List.all_eq_true.mp hpa t ht)) (by simp)
                    have hrp := rises_ok (n + 16) _ (ps.map name0) (by simp; omega) (.inr rfl) m
                    simp [isi_tup hv, isi_tup gh, isi_tup gp, hc, ha, hn, hr, hw, hu, h3, h3', hcp, hpa, hnp, hrp, piecesS, -List.map_map]
                · have h3' : (3 : Int) < ps.length := by omega
                  simp [isi_tup hv, isi_tup gh, isi_tup gp, hc, ha, hn, hr, hw, hu, h3, h3', piecesS, -List.map_map]
              · simp [isi_tup hv, isi_tup gh, isi_tup gp, hc, ha, hn, hr, hw, hu, not_isTup htp, piecesS_not htp, -List.map_map]
      · simp [isi_tup hv, isi_tup gh, not_isTup ht, holesS_not ht]
    · simp [isi_tup hv, h3, reqS_not3 h3]
  · simp [isi_tup hv, not_isTup hst, reqS_not hst]
end LW

-- part LB2
namespace LW
open G
/-! ### tame data: small numbers, short texts, short tuples -/
mutual
def tmi : Val → Bool
  | .non | .bl _ => true
  | .int i => decide (-999 ≤ i) && decide (i ≤ 999)
  | .str x => x.all (· < 128) && decide (x.length ≤ 10)
  | .tup xs => decide (xs.length ≤ 16) && tmiL xs
  | _ => false
def tmiL : List Val → Bool
  | [] => true
  | x :: xs => tmi x && tmiL xs
end
theorem tmiL_iff : ∀ {xs : List Val}, tmiL xs = true ↔ ∀ x ∈ xs, tmi x = true
  | [] => by simp [tmiL]
  | y :: ys => by simp [tmiL, tmiL_iff (xs := ys)]
theorem tmi_tup {xs : List Val} : tmi (.tup xs) = true ↔ xs.length ≤ 16 ∧ ∀ x ∈ xs, tmi x = true := by
  simp only [tmi, Bool.and_eq_true, decide_eq_true_eq, tmiL_iff]
theorem tmi_str {x : List Nat} : tmi (.str x) = true ↔ (∀ c ∈ x, c < 128) ∧ x.length ≤ 10 := by
  simp only [tmi, Bool.and_eq_true, decide_eq_true_eq, List.all_eq_true]
theorem tmi_int {i : Int} : tmi (.int i) = true ↔ -999 ≤ i ∧ i ≤ 999 := by
  simp only [tmi, Bool.and_eq_true, decide_eq_true_eq]
@[simp] theorem tmi_non : tmi .non = true := by simp [tmi]
@[simp] theorem tmi_bl {b : Bool} : tmi (.bl b) = true := by simp [tmi]
theorem tmi_tmb : ∀ {v : Val}, tmi v = true → tmb 16 10 v = true
  | .non, _ => by simp
  | .bl _, _ => by simp
  | .int _, _ => by simp
  | .str x, h => by rw [tmi_str] at h; rw [tmb_str]; exact h
  | .tup xs, h => by
    rw [tmi_tup] at h; rw [tmb_tup]
    exact ⟨h.1, fun x hx => tmi_tmb (h.2 x hx)⟩
  | .lst xs, h => by simp [tmi] at h
  | .dct _ _, h => by simp [tmi] at h
  | .ref _, h => by simp [tmi] at h
  | .scr _, h => by simp [tmi] at h
  | .wt _, h => by simp [tmi] at h
theorem tms_tmi : ∀ {v : Val}, tms 10 10 v = true → tmi v = true
  | .str x, h => by rw [tms_str] at h; rw [tmi_str]; exact h
  | .tup xs, h => by
    rw [tms_tup] at h; rw [tmi_tup]
    exact ⟨Nat.le_trans h.1 (by omega), fun x hx => tms_tmi (h.2 x hx)⟩
  | .non, h => by simp [tms] at h
  | .bl _, h => by simp [tms] at h
  | .int _, h => by simp [tms] at h
  | .lst xs, h => by simp [tms] at h
  | .dct _ _, h => by simp [tms] at h
  | .ref _, h => by simp [tms] at h
  | .scr _, h => by simp [tms] at h
  | .wt _, h => by simp [tms] at h
/-- tame, and so deep at the most -/
def Ti (d : Nat) (v : Val) : Prop := tmi v = true ∧ dep v ≤ d
theorem Ti.mono {d e : Nat} {v : Val} (h : Ti d v) (hd : d ≤ e) : Ti e v := ⟨h.1, by have := h.2; omega⟩
theorem Ti.tup {d : Nat} {xs : List Val} (hl : xs.length ≤ 16) (h : ∀ x ∈ xs, Ti d x) : Ti (d + 1) (.tup xs) := ⟨tmi_tup.mpr ⟨hl, fun x hx => (h x hx).1⟩, dep_tup.mpr fun x hx => (h x hx).2⟩
theorem Ti.of {d : Nat} {v : Val} (h : (tmi v && decide (dep v ≤ d)) = true) : Ti d v := by simpa [Ti] using h
theorem Ti.gd {d : Nat} {v : Val} (h : Ti d v) (hd : d ≤ 60) : gd v = true := tmb_gd (L := 16) (S := 10) (by omega) (tmi_tmb h.1) (by have := h.2; omega)
theorem Ti.gdn {d : Nat} {v : Val} (h : Ti d v) : gdn d v = true := by
  simp only [G.gdn, Bool.and_eq_true, decide_eq_true_eq]
  exact ⟨tmb_good (L := 16) (S := 10) (by omega) (tmi_tmb h.1), h.2⟩
theorem Ti.lens {d : Nat} {v : Val} (h : Ti d v) : lens v = true := tmb_lens (L := 16) (S := 10) (by omega) (tmi_tmb h.1)
theorem Ti.str {d : Nat} {x : List Nat} (h : tmi (.str x) = true) : Ti d (.str x) := ⟨h, by simp⟩
theorem word_tmi {x : List Nat} (h : wordS (.str x) = true) : tmi (.str x) = true := tms_tmi (by
  have : ∀ {v : Val}, wordS v = true → tms 10 10 v = true := fun {v} h => by
    obtain ⟨x, rfl⟩ := wordS_str h
    simp only [wordS, Bool.and_eq_true, decide_eq_true_eq, List.all_eq_true] at h
    rw [tms_str]
    refine ⟨fun c hc => ?_, by omega⟩
    have hc2 := h.2.2 c hc
    have : ∀ c, c ∈ s_abcdefghijklmnopqrstuvwxyz → c < 128 := by decide
    exact this c (by simpa [letter] using hc2)
  exact this h)
/-! ### drawn args -/
def menu8 : List Val := [.int 0, .int 1, .int 2, .int (-1), .int 3, .int 5, .tup [.str s_hole, .str s_n], .tup [.str s_hole, .str s_n]]
structure ArgsF (ts as : List Val) : Prop where
  sub : (as.map name0).Sublist (strsOf ts)
  each : ∀ a ∈ as, ∃ t w, a = .tup [.str t, w] ∧ Val.str t ∈ ts ∧ w ∈ menu8
theorem takes_forms {s : Val} {ts : List Val} (h : Val.tup ts ∈ goodL s) : ts ∈ [[], [.str s_plus], [.str s_first], [.str s_skip], [.str s_first, .str s_skip]] := by
  unfold goodL at h
  split at h
  · simp only [List.mem_cons, List.not_mem_nil, or_false, Val.tup.injEq] at h
    rcases h with rfl | rfl <;> simp
  · split at h
    · simp only [List.mem_cons, List.not_mem_nil, or_false, Val.tup.injEq] at h
      rcases h with rfl | rfl | rfl | rfl <;> simp
    · simp only [List.mem_cons, List.not_mem_nil, or_false, Val.tup.injEq] at h
      subst h; simp
theorem takes_facts : ∀ ts ∈ [[], [.str s_plus], [.str s_first], [.str s_skip], [Val.str s_first, .str s_skip]], ts.length ≤ 2 ∧ riseL (strsOf ts) = true ∧ (∀ t ∈ ts, t ∈ takesAll) ∧ Ti 1 (.tup ts) := by
  have : ∀ ts ∈ [[], [.str s_plus], [.str s_first], [.str s_skip], [Val.str s_first, .str s_skip]], ts.length ≤ 2 ∧ riseL (strsOf ts) = true ∧ (∀ t ∈ ts, t ∈ takesAll) ∧ (tmi (.tup ts) && decide (dep (.tup ts) ≤ 1)) = true := by decide +kernel
  intro ts h
  obtain ⟨a, b, c, d⟩ := this ts h
  exact ⟨a, b, c, Ti.of d⟩
theorem menu8_facts : ∀ w ∈ menu8, (holeS w || anyS w) = true ∧ (tmi w && decide (dep w ≤ 1)) = true := by decide +kernel
theorem ArgsF.ok {s : Val} {ts as : List Val} (hg : Val.tup ts ∈ goodL s) (h : ArgsF ts as) : argsS (.tup as) = true ∧ as.length ≤ 2 ∧ Ti 3 (.tup as) := by
  obtain ⟨f1, f2, f3, f4⟩ := takes_facts ts (takes_forms hg)
  have hl : as.length ≤ 2 := by
    have := h.sub.length_le
    rw [List.length_map] at this
    have h2 : ∀ ts : List Val, (strsOf ts).length ≤ ts.length := by
      intro ts
      induction ts with
      | nil => simp [strsOf]
      | cons t ts ih => cases t <;> simp [strsOf] <;> omega
    have := h2 ts
    omega
  refine ⟨?_, hl, Ti.tup (by omega) fun a ha => ?_⟩
  · simp only [argsS, Bool.and_eq_true, List.all_eq_true]
    refine ⟨fun a ha => ?_, ?_⟩
    · obtain ⟨t, w, rfl, ht, hw⟩ := h.each a ha
      rw [argS_two, Bool.and_eq_true, decide_eq_true_eq]
      exact ⟨f3 _ ht, (menu8_facts w hw).1⟩
    · rw [rise_pw] at f2 ⊢
      exact f2.sublist h.sub
  · obtain ⟨t, w, rfl, ht, hw⟩ := h.each a ha
    refine Ti.tup (by simp) fun x hx => ?_
    simp only [List.mem_cons, List.not_mem_nil, or_false] at hx
    rcases hx with rfl | rfl
    · obtain ⟨g1, g2⟩ := f4
      exact ⟨(tmi_tup.mp g1).2 _ ht, by simp⟩
    · exact (Ti.of (menu8_facts x hw).2).mono (by omega)
def argsAt (ts : List Val) (W : Int) (as : List Val) : Prop := ∀ n m, Fn (n + 2) ._law_args [.tup ts, .int W] m = .ok (.tup as) m
/-- the drawn number -/
def drawnN (a : Int) (k : Nat) : Int := (((a + 104729 * k + 17) * 69621 % 2147483647) * ((a + 104729 * k + 17) * 69621 % 2147483647) + 3 * ((a + 104729 * k + 17) * 69621 % 2147483647) + k) % 2147483629
theorem drawnN_drw (a : Int) (k : Nat) : Drw (drawnN a k) := drw_mod _ (by omega) (by omega)
theorem drawn_at {a : Int} (ha : Drw a) {k : Nat} (hk : k < 1000) (n : Nat) (m : Sto) : Fn (n + 1) ._law_drawn [.int a, .int k] m = .ok (.int (drawnN a k)) m := by
  have hd := drw_mod (a := (a + 104729 * k + 17) * 69621) 2147483647 (by omega) (by omega)
  obtain ⟨a1, a2⟩ := ha
  unfold drawnN
  generalize hD : (a + 104729 * k + 17) * 69621 % 2147483647 = D at hd ⊢
  obtain ⟨d1, d2⟩ := hd
  rw [Fn__law_drawn, e_body, b__law_drawn]
  have m1 : mulOk 104729 k := mulOk_small (by omega) (by omega) (by omega) (by omega)
  have m2 : mulOk (a + 104729 * k + 17) 69621 := mulOk_small (by omega) (by omega) (by omega) (by omega)
  have m3 : mulOk D D := mulOk_small (by omega) (by omega) (by omega) (by omega)
  have m4 : mulOk 3 D := mulOk_small (by omega) (by omega) (by omega) (by omega)
  simp only [e_seq, e_asg, e_bin2, e_var, e_con, e_ret, List.map_cons, List.map_nil, List.length_cons, List.length_nil, List.cons_append, List.nil_append, List.replicate, List.getElem?_cons_zero, List.getElem?_cons_succ, Res.bind_ok, mulV_int m1, addV_int, mulV_int m2, modV_int (show (0 : Int) < 2147483647 by omega), sbind_ok, e_name, asgR_some, seqR_nx, hD]
  simp [mulV_int m3, mulV_int m4, modV_int (show (0 : Int) < 2147483629 by omega)]
/-- the args that are drawn -/
def argsD (W : Int) : Nat → List Val → List Val
  | _, [] => []
  | i, t :: ts => (if 0 < drawnN W i / 4 % 3 then [.tup [t, menu8.getD (drawnN W i / 4 / 4 % 8).toNat .non]] else []) ++ argsD W (i + 1) ts
theorem menu8_at (N : Int) : L2.atI menu8 (N % 8) = some (menu8.getD (N % 8).toNat .non) ∧ menu8.getD (N % 8).toNat .non ∈ menu8 := by
  obtain ⟨h1, h2⟩ := mod_lt (a := N) (show (0 : Int) < 8 by omega)
  obtain ⟨k, hk⟩ : ∃ k : Nat, N % 8 = k := ⟨(N % 8).toNat, by omega⟩
  rw [hk, atI_nat, Int.toNat_natCast]
  have hl : k < menu8.length := by
    have : menu8.length = 8 := rfl
    omega
  rw [List.getElem?_eq_getElem hl]
  simp only [List.getD, List.getElem?_eq_getElem hl, Option.getD_some]
  exact ⟨trivial, List.getElem_mem hl⟩
theorem args_sub (W : Int) : ∀ (i : Nat) (xs : List (List Nat)), ((argsD W i (xs.map Val.str)).map name0).Sublist xs
  | _, [] => by simp [argsD]
  | i, x :: xs => by
    rw [List.map_cons, argsD, List.map_append]
    split
    · simp only [List.map_cons, List.map_nil, name0, List.cons_append, List.nil_append]
      exact (args_sub W (i + 1) xs).cons_cons x
    · exact (args_sub W (i + 1) xs).cons x
theorem args_each (W : Int) : ∀ (i : Nat) (ts : List Val), ∀ a ∈ argsD W i ts, ∃ t w, a = .tup [t, w] ∧ t ∈ ts ∧ w ∈ menu8
  | _, [], a, h => by simp [argsD] at h
  | i, t :: ts, a, h => by
    rw [argsD] at h
    rcases List.mem_append.mp h with h | h
    · split at h
      · rw [List.mem_singleton.mp h]
        exact ⟨t, _, rfl, by simp, (menu8_at _).2⟩
      · cases h
    · obtain ⟨t', w, e, h1, h2⟩ := args_each W (i + 1) ts a h
      exact ⟨t', w, e, by simp [h1], h2⟩
theorem args_loop {W : Int} (hW : Drw W) (tv : Val) (n : Nat) (m : Sto) : ∀ (xs : List (List Nat)) (i : Nat) (as : List Val) (b3 b4 b5 b6 : Option Val), i + xs.length ≤ 100 → as.length + xs.length ≤ 1000 →
    ∃ c3 c4 c5 c6, forGo none (tupG 2 (consG (nameG 3) (consG (nameG 4) nilG))) (b__law_args_l1 (Fn (n + 1))) ((xs.map Val.str).mapIdx fun j x => .wt [.int ((i + j : Nat) : Int), x]) [some tv, some (.int W), some (.tup as), b3, b4, b5, b6] m
      = .nx [some tv, some (.int W), some (.tup (as ++ argsD W i (xs.map Val.str))), c3, c4, c5, c6] m
  | [], i, as, b3, b4, b5, b6, _, _ => ⟨b3, b4, b5, b6, by simp [forGo, argsD]⟩
  | x :: xs, i, as, b3, b4, b5, b6, hi, hl => by
    simp only [List.length_cons] at hi hl
    have hdr := drawn_at hW (k := i) (by omega) n m
    have hd := drw_div (drawnN_drw W i) (show (0 : Int) < 4 by omega)
    obtain ⟨w1, w2⟩ := menu8_at (drawnN W i / 4 / 4)
    have hb : ∃ c5 c6, b__law_args_l1 (Fn (n + 1)) [some tv, some (.int W), some (.tup as), some (.int (i : Nat)), some (.str x), b5, b6] m
        = .nx [some tv, some (.int W), some (.tup (as ++ (if 0 < drawnN W i / 4 % 3 then [.tup [.str x, menu8.getD (drawnN W i / 4 / 4 % 8).toNat .non]] else []))), some (.int (i : Nat)), some (.str x), c5, c6] m := by
      have hlen : as.length + 1 ≤ 16777216 := by omega
      unfold menu8 at w1
      unfold b__law_args_l1 menu8
      by_cases hq : 0 < drawnN W i / 4 % 3
      · exact ⟨some (.int (drawnN W i / 4)), some ([Val.int 0, .int 1, .int 2, .int (-1), .int 3, .int 5, .tup [.str s_hole, .str s_n], .tup [.str s_hole, .str s_n]].getD (drawnN W i / 4 / 4 % 8).toNat .non), by
          simp only [e_seq, e_asg, e_bin2, e_def, e_cons, e_nil, e_var, e_con, e_if, e_tst, List.getElem?_cons_zero, List.getElem?_cons_succ, Res.bind_ok, List.length_cons, List.length_nil, if_true, hdr, trimR_int, divV_int (show (0 : Int) < 4 by omega) (show (4 : Int) < 1073741824 by omega), sbind_ok, e_name, asgR_some, seqR_nx, List.set_cons_succ, List.set_cons_zero, modV_int (show (0 : Int) < 3 by omega), gtV_int, hq, decide_true, asT_bl, e_tup]
          simp [modV_int, w1, addV, hlen]⟩
      · refine ⟨some (.int (drawnN W i / 4)), b6, ?_⟩
        simp only [e_seq, e_asg, e_bin2, e_def, e_cons, e_nil, e_var, e_con, e_if, e_tst, List.getElem?_cons_zero, List.getElem?_cons_succ, Res.bind_ok, List.length_cons, List.length_nil, if_true, hdr, trimR_int, divV_int (show (0 : Int) < 4 by omega) (show (4 : Int) < 1073741824 by omega), sbind_ok, e_name, asgR_some, seqR_nx, List.set_cons_succ, List.set_cons_zero, modV_int (show (0 : Int) < 3 by omega), gtV_int, hq, decide_false, asT_bl]
        simp
    obtain ⟨c5, c6, hb⟩ := hb
    obtain ⟨d3, d4, d5, d6, ih⟩ := args_loop hW tv n m xs (i + 1) (as ++ (if 0 < drawnN W i / 4 % 3 then [.tup [.str x, menu8.getD (drawnN W i / 4 / 4 % 8).toNat .non]] else [])) (some (.int (i : Nat))) (some (.str x)) c5 c6 (by omega) (by
      rw [List.length_append]
      have : (if 0 < drawnN W i / 4 % 3 then [Val.tup [.str x, menu8.getD (drawnN W i / 4 / 4 % 8).toNat .non]] else []).length ≤ 1 := by split <;> simp
      omega)
    refine ⟨d3, d4, d5, d6, ?_⟩
    have e : (xs.map Val.str).mapIdx (fun j y => Val.wt [.int ((i + (j + 1) : Nat) : Int), y]) = (xs.map Val.str).mapIdx fun j y => Val.wt [.int ((i + 1 + j : Nat) : Int), y] := by
      congr 1; funext j y; rw [show i + (j + 1) = i + 1 + j by omega]
    rw [List.map_cons, List.mapIdx_cons, forGo, if_pos (by trivial)]
    simp only [Nat.add_zero, tupG, consG, nilG, nameG, List.length_cons, List.length_nil, Nat.zero_add, Nat.reduceAdd, if_true, Option.bind_some, List.set_cons_succ, List.set_cons_zero]
    rw [hb]
    simp only []
    rw [e, ih, argsD, List.append_assoc]
def argsOf (ts : List Val) (W : Int) : List Val := argsD W 0 ts
theorem numb_mapIdx (xs : List Val) : numb xs = xs.mapIdx fun j x => .wt [.int ((0 + j : Nat) : Int), x] := by
  apply List.ext_getElem?
  intro i
  unfold numb
  simp [List.getElem?_map, List.getElem?_zipIdx]
  cases xs[i]? <;> rfl
theorem law_args_ok {s : Val} {ts : List Val} (hg : Val.tup ts ∈ goodL s) {W : Int} (hW : Drw W) : argsAt ts W (argsOf ts W) ∧ ArgsF ts (argsOf ts W) := by
  have hf := takes_forms hg
  obtain ⟨xs, hxs⟩ : ∃ xs : List (List Nat), ts = xs.map Val.str := all_strs fun t ht => by
    obtain ⟨_, _, h, _⟩ := takes_facts ts hf
    obtain ⟨x, rfl⟩ := takesAll_str (h t ht)
    rfl
  have hl : xs.length ≤ 2 := by
    obtain ⟨h, _⟩ := takes_facts ts hf
    rw [hxs, List.length_map] at h
    exact h
  subst hxs
  refine ⟨fun n m => ?_, ⟨?_, fun a ha => ?_⟩⟩
  · rw [Fn__law_args, e_body, b__law_args]
    obtain ⟨c3, c4, c5, c6, h⟩ := args_loop hW (.tup (xs.map Val.str)) n m xs 0 [] none none none none (by omega) (by simp; omega)
    rw [← numb_mapIdx] at h
    simp only [e_seq, e_asg, e_tup, e_nil, Res.bind_ok, List.length_nil, List.map_cons, List.map_nil, List.length_cons, List.cons_append, List.nil_append, List.replicate, sbind_ok, e_name, asgR_some, seqR_nx, List.set_cons_succ, List.set_cons_zero]
    simp [e_for, enumQ, itemsQ, -List.map_map]
    rw [h]
    simp [argsOf]
  · rw [strsOf_map]; exact args_sub W 0 xs
  · obtain ⟨t, w, e, h1, h2⟩ := args_each W 0 _ a ha
    obtain ⟨x, _, rfl⟩ := List.mem_map.mp h1
    exact ⟨x, w, e, h1, h2⟩
end LW

-- part LB3
namespace LW
open G
/-! ### drawn wants -/
def whens : List Val := [.non, .non, .non, .non, .bl true, .bl false, .tup [.str s_hole, .str s_t], .non]
def KeyF (nm : List Nat) (as : List Val) (W : Int) (key : List Nat) : Prop :=
  (as = [] ∧ (key = nm ∨ key = nm.take 3 ++ s_x)) ∨ (as ≠ [] ∧ ∃ c, L2.atI s_abcdefghijklmnopqrstuvw W = some c ∧ key = nm.take 2 ++ s_y ++ [c])
def baseN (g : List Nat) : Bool := decide (g.headD 0 ∈ s_nt)
def WantD (b : Val) (P : List (List Nat × List Nat)) : Nat → List Nat → Val → Prop
  | 0, _, _ => False
  | D + 1, x, v => (∃ p, v = .tup [.str s_piece, .str p] ∧ (p, x) ∈ P) ∨
    ∃ key nm as ws wh f s ts W g, v = .tup [.str s_field, .str key, .str nm, .tup as, .tup ws, wh] ∧ f ∈ fieldsOf b x ∧ FieldF ((namesOf b).map Val.str) f nm s ts ∧ as = argsOf ts W ∧ Drw W ∧ W < 23 ∧ KeyF nm as W key ∧ wh ∈ whens ∧ innerS s = .str g ∧
      ((baseN g = true ∧ ws = []) ∨ (baseN g = false ∧ g ∈ namesOf b ∧ 1 ≤ ws.length ∧ ws.length ≤ 3 ∧ ∀ w ∈ ws, WantD b P D g w))
theorem whens_facts : ∀ w ∈ whens, (decide (w = .non) || (isBool w || holeS w)) = true ∧ (tmi w && decide (dep w ≤ 1)) = true := by decide +kernel
theorem letters_w : ∀ c ∈ s_abcdefghijklmnopqrstuvw, letter c = true := by decide +kernel
theorem KeyF.word {nm key : List Nat} {as : List Val} {W : Int} (h : KeyF nm as W key) (hw : wordS (.str nm) = true) : wordS (.str key) = true := by
  simp only [wordS, Bool.and_eq_true, decide_eq_true_eq, List.all_eq_true] at hw ⊢
  obtain ⟨h1, h2, h3⟩ := hw
  have hx : ∀ c ∈ s_x, letter c = true := by decide +kernel
  have hy : ∀ c ∈ s_y, letter c = true := by decide +kernel
  have lx : s_x.length = 1 := rfl
  have ly : s_y.length = 1 := rfl
  rcases h with ⟨_, rfl | rfl⟩ | ⟨_, c, hc, rfl⟩
  · exact ⟨h1, h2, h3⟩
  · refine ⟨by simp [lx], by simp [lx]; omega, fun c hc => ?_⟩
    rcases List.mem_append.mp hc with hc | hc
    · exact h3 c (List.mem_of_mem_take hc)
    · exact hx c hc
  · refine ⟨by simp [ly], by simp [ly]; omega, fun d hd => ?_⟩
    rcases List.mem_append.mp hd with hd | hd
    · rcases List.mem_append.mp hd with hd | hd
      · exact h3 d (List.mem_of_mem_take hd)
      · exact hy d hd
    · rw [List.mem_singleton.mp hd]
      unfold L2.atI at hc
      rw [Option.bind_eq_some_iff] at hc
      obtain ⟨j, _, hc⟩ := hc
      exact letters_w c (List.mem_of_getElem? hc)
theorem WantD.ok {b : Val} {P : List (List Nat × List Nat)} (hP : ∀ p ∈ P, wordS (.str p.1) = true) : ∀ {D : Nat} {x : List Nat} {v : Val}, WantD b P D x v → wantS D v = true ∧ Ti (2 * D + 4) v
  | 0, _, _, h => h.elim
  | D + 1, x, v, h => by
    rcases h with ⟨p, rfl, hp⟩ | ⟨key, nm, as, ws, wh, f, s, ts, W, g, rfl, hf, hF, rfl, hW, _, hk, hwh, hg, hc⟩
    · have hw := hP _ hp
      refine ⟨by rw [wantS_piece]; exact hw, Ti.mono (d := 1) (Ti.tup (by simp) fun y hy => ?_) (by omega)⟩
      simp only [List.mem_cons, List.not_mem_nil, or_false] at hy
      rcases hy with rfl | rfl
      · exact Ti.of (by decide +kernel)
      · exact Ti.str (word_tmi hw)
    · obtain ⟨a1, a2, a3⟩ := (law_args_ok hF.good hW).2.ok hF.good
      have kw := hk.word hF.word
      obtain ⟨w1, w2⟩ := whens_facts wh hwh
      have hws : wantsS D (.tup ws) = true ∧ Ti (2 * D + 5) (.tup ws) := by
        rcases hc with ⟨_, rfl⟩ | ⟨_, _, h1, h2, h3⟩
        · exact ⟨by simp [wantsS_tup], Ti.mono (d := 1) (Ti.tup (by simp) fun y hy => by cases hy) (by omega)⟩
        · refine ⟨?_, Ti.tup (by omega) fun w hw => (WantD.ok hP (h3 w hw)).2⟩
          rw [wantsS_tup, Bool.and_eq_true, decide_eq_true_eq, List.all_eq_true]
          exact ⟨by omega, fun w hw => (WantD.ok hP (h3 w hw)).1⟩
      refine ⟨by rw [wantS_field, kw, hF.word, a1, hws.1, w1]; rfl, ?_⟩
      refine Ti.mono (d := 2 * D + 6) (Ti.tup (by simp) fun y hy => ?_) (by omega)
      simp only [List.mem_cons, List.not_mem_nil, or_false] at hy
      rcases hy with rfl | rfl | rfl | rfl | rfl | rfl
      · exact (Ti.of (d := 0) (by decide +kernel)).mono (by omega)
      · exact Ti.str (word_tmi kw)
      · exact Ti.str (word_tmi hF.word)
      · exact a3.mono (by omega)
      · exact hws.2
      · exact (Ti.of w2).mono (by omega)
/-! ### the drawing -/
theorem field_gdn {b : Val} (hB : DBook b) {x : List Nat} (hx : x ∈ namesOf b) {f : Val} (hf : f ∈ fieldsOf b x) : gdn 4 f = true := by
  obtain ⟨ks, hF⟩ := bookF hB.book
  have hg := (fields_get hB.book hx).1
  have hm : (Val.str x, Val.tup (fieldsOf b x)) ∈ pairsOf b := by
    unfold dget at hg
    rw [Option.map_eq_some_iff] at hg
    obtain ⟨p, h1, h2⟩ := hg
    have h3 := List.find?_some h1
    rw [veq_str, decide_eq_true_eq] at h3
    have h4 := List.mem_of_find?_eq_some h1
    obtain ⟨p1, p2⟩ := p
    simp only at h2 h3
    rw [← h3, ← h2]
    exact h4
  rw [hF.pairs] at hm
  obtain ⟨k, hk, e⟩ := List.mem_map.mp hm
  obtain ⟨y, f', rfl, _⟩ := hF.form k hk
  simp only [second, name0, Prod.mk.injEq] at e
  obtain ⟨-, rfl⟩ := e
  have h7 := hB.gd
  rw [hF.eq] at h7
  have h6 := gdn_mem (n := 6) h7 hk
  have h5 := gdn_mem (n := 5) h6 (x := .tup (fieldsOf b x)) (by simp)
  exact gdn_mem (n := 4) h5 hf
theorem names_all4 {b : Val} (hB : DBook b) {x : List Nat} (hx : x ∈ namesOf b) : x ∈ all4 := (hB.row hx).1
theorem base_all4 : ∀ g ∈ all4, baseN g = false ∧ g ≠ [] ∧ gd (.str g) = true := by decide +kernel
theorem base_bases : ∀ v ∈ bases, ∀ g, v = .str g → baseN g = true ∧ g ≠ [] ∧ gd (.str g) = true := by
  intro v hv g e
  subst e
  simp only [bases, List.mem_cons, List.not_mem_nil, or_false, Val.str.injEq] at hv
  rcases hv with rfl | rfl | rfl <;> decide +kernel
/-- what a field leads to -/
theorem inner_kind {b : Val} (hB : DBook b) {f : Val} {nm : List Nat} {s : Val} {ts : List Val} (hF : FieldF ((namesOf b).map Val.str) f nm s ts) : ∃ g, innerS s = .str g ∧ g ≠ [] ∧ gd (.str g) = true ∧ (baseN g = true ∨ (baseN g = false ∧ g ∈ namesOf b)) := by
  obtain ⟨g, h1, h2⟩ := inner_str hF.sort
  rcases h2 with h2 | h2
  · obtain ⟨a, b, c⟩ := base_bases _ h2 g rfl
    exact ⟨g, h1, b, c, .inl a⟩
  · obtain ⟨g', hg, e⟩ := List.mem_map.mp h2
    cases e
    obtain ⟨a, b, c⟩ := base_all4 g (names_all4 hB hg)
    exact ⟨g, h1, b, c, .inr ⟨a, hg⟩⟩
theorem head_in {g : List Nat} (hg : g ≠ []) (hl : gd (.str g) = true) (m : Sto) : ∃ c, idxV (.str g) (.int 0) m = .ok (.str [c]) m ∧ inV (.str [c]) (.str s_nt) m = .ok (.bl (baseN g)) m ∧ notInV (.str [c]) (.str s_nt) m = .ok (.bl (!baseN g)) m := by
  cases g with
  | nil => exact absurd rfl hg
  | cons c r =>
    refine ⟨c, ?_, ?_, ?_⟩
    · rw [idxV_str (gd_len hl)]; simp
    · simp [baseN]
    · simp [baseN]
structure Pcs (P : List (List Nat × List Nat)) (ps : List Val) : Prop where
  eq : ∀ p ∈ ps, ∃ a k ws, p = .tup [.str a, .str k, .tup ws] ∧ (a, k) ∈ P ∧ wordS (.str a) = true ∧ gd (.str k) = true ∧ gdn 50 (.tup ws) = true
  word : ∀ p ∈ P, wordS (.str p.1) = true
  few : ps.length ≤ 3
theorem whens_at (N : Int) : ∃ wh, L2.atI whens (N % 8) = some wh ∧ wh ∈ whens := atI_mod (xs := whens) (i := N) (k := 8) rfl (by omega)
section
variable {b : Val} (hB : DBook b) {x : List Nat} (hx : x ∈ namesOf b) {N : Int} (hN : Drw N) {P : List (List Nat × List Nat)} {ps : List Val} (hP : Pcs P ps) {D : Nat}
/-- what a want needs of the wants within -/
def Within (b : Val) (P : List (List Nat × List Nat)) (ps : List Val) (D k : Nat) : Prop := 0 < D → ∀ g ∈ namesOf b, ∀ N, Drw N → ∃ ws, (1 ≤ ws.length ∧ ws.length ≤ 3 ∧ ∀ w ∈ ws, WantD b P D g w) ∧ ∀ m, Fn k ._law_wants [b, .str g, .int N, .int (D : Int), .tup ps] m = .ok (.tup ws) m
include hB hx hN
theorem want_t14 (hD10 : D ≤ 10) (n : Nat) (hW : Within b P ps D (n + 6)) (hPw : ∀ p ∈ P, wordS (.str p.1) = true) {g : List Nat} (hg : g ≠ []) (gg : gd (.str g) = true) (hb : baseN g = true ∨ (baseN g = false ∧ g ∈ namesOf b ∧ 0 < D)) :
    ∃ ws, ((baseN g = true ∧ ws = []) ∨ (baseN g = false ∧ g ∈ namesOf b ∧ 1 ≤ ws.length ∧ ws.length ≤ 3 ∧ ∀ w ∈ ws, WantD b P D g w)) ∧ ∀ (m : Sto) (a5 a6 a7 a9 a10 a11 a17 a18 : Option Val) (nm as key wh : Val),
      t__law_want_14 (Fn (n + 6)) [some b, some (.str x), some (.int N), some (.int ((D : Int) + 1)), some (.tup ps), a5, a6, a7, some nm, a9, a10, a11, some as, some key, some wh, some (.str g), some (.tup []), a17, a18] m
        = .rt (.tup [.str s_field, key, nm, as, .tup ws, wh]) m := by
  have hd := drawn_at hN (k := 5) (by omega) (n + 5)
  have hd4 := drw_div (drawnN_drw N 5) (show (0 : Int) < 4 by omega)
  simp only [show ((5 : Nat) : Int) = 5 from rfl] at hd
  rcases hb with h | ⟨h, hgn, hD⟩
  · refine ⟨[], .inl ⟨h, rfl⟩, fun m a5 a6 a7 a9 a10 a11 a17 a18 nm as key wh => ?_⟩
    obtain ⟨c, h1, h2, h3⟩ := head_in hg gg m
    rw [h] at h3
    unfold t__law_want_14 t__law_want_15
    simp [h1, h3]
  · obtain ⟨ws, h1, h2⟩ := hW hD g hgn _ hd4
    refine ⟨ws, .inr ⟨h, hgn, h1⟩, fun m a5 a6 a7 a9 a10 a11 a17 a18 nm as key wh => ?_⟩
    obtain ⟨c, i1, i2, i3⟩ := head_in hg gg m
    rw [h] at i3
    have e : (D : Int) + 1 - 1 = D := by omega
    have hws : gd (.tup ws) = true := by
      refine gdn_gd (n := 2 * D + 5 + 1) (gdn_tup fun w hw => ?_) (by omega)
      exact gdn_mono (WantD.ok hPw (h1.2.2 w hw)).2.gdn (by omega)
    unfold t__law_want_14 t__law_want_15
    simp [i1, i3, hd, divV_int, e, h2, trimR_gd hws]
/-- the key of a field -/
theorem key_ok {nm : List Nat} (hn : wordS (.str nm) = true) {W : Int} (hW0 : 0 ≤ W) (hW : W < 23) (as : List Val) : ∃ key, KeyF nm as W key ∧ ∀ (c : I → VFn) (m : Sto) (a5 a6 a7 a9 a10 a13 a14 a15 a16 a17 a18 : Option Val), gd (.tup as) = true →
    t__law_want_9 c [some b, some (.str x), some (.int N), some (.int ((D : Int) + 1)), some (.tup ps), a5, a6, a7, some (.str nm), a9, a10, some (.int W), some (.tup as), a13, a14, a15, a16, a17, a18] m
      = t__law_want_11 c [some b, some (.str x), some (.int N), some (.int ((D : Int) + 1)), some (.tup ps), a5, a6, a7, some (.str nm), a9, a10, some (.int W), some (.tup as), some (.str key), a14, a15, a16, a17, a18] m := by
  have hl : nm.length ≤ 4 := by
    simp only [wordS, Bool.and_eq_true, decide_eq_true_eq] at hn
    exact hn.2.1
  have lx : s_x.length = 1 := rfl
  have ly : s_y.length = 1 := rfl
  have hl1 : nm.length ≤ 16777216 := by omega
  have hl2 : (nm.take 3).length + s_x.length ≤ 16777216 := by rw [List.length_take, lx]; omega
  have hl3 : (nm.take 2).length + s_y.length ≤ 16777216 := by rw [List.length_take, ly]; omega
  have hl4 : ∀ c : Nat, (nm.take 2 ++ s_y).length + [c].length ≤ 16777216 := fun c => by simp [ly]; omega
  obtain ⟨k, hk, hk2⟩ : ∃ k : List Nat, L2.atI [Val.str nm, .str (nm.take 3 ++ s_x)] (N / 2048 % 3 / 2) = some (.str k) ∧ (k = nm ∨ k = nm.take 3 ++ s_x) := by
    obtain ⟨h1, h2⟩ := mod_lt (a := N / 2048) (show (0 : Int) < 3 by omega)
    rcases (show N / 2048 % 3 / 2 = 0 ∨ N / 2048 % 3 / 2 = 1 by omega) with h | h <;> rw [h]
    · exact ⟨nm, by simp, .inl rfl⟩
    · exact ⟨_, by simp, .inr rfl⟩
  obtain ⟨c, hc⟩ : ∃ c, L2.atI s_abcdefghijklmnopqrstuvw W = some c := by
    obtain ⟨c, h, _⟩ := atI_in (xs := s_abcdefghijklmnopqrstuvw) hW0 (by
      have : s_abcdefghijklmnopqrstuvw.length = 23 := by decide +kernel
      omega)
    exact ⟨c, h⟩
  have hs23 : s_abcdefghijklmnopqrstuvw.length ≤ 16777216 := by decide
  by_cases ha : as = []
  · subst ha
    refine ⟨k, .inl ⟨rfl, hk2⟩, fun c m a5 a6 a7 a9 a10 a13 a14 a15 a16 a17 a18 hg => ?_⟩
    unfold t__law_want_9 t__law_want_10
    have hne : neV (.tup []) (.tup []) m = .ok (.bl false) m := by rw [neV_gd hg hg]; rfl
    simp [slcV_str hl1, addV_str hl2, divV_int, modV_int, hk, hne]
  · refine ⟨nm.take 2 ++ s_y ++ [c], .inr ⟨ha, c, hc, rfl⟩, fun c' m a5 a6 a7 a9 a10 a13 a14 a15 a16 a17 a18 hg => ?_⟩
    unfold t__law_want_9 t__law_want_10
    have hne : neV (.tup as) (.tup []) m = .ok (.bl true) m := by
      rw [neV_gd hg (by decide), veq_nil]
      simp [ha]
    simp only [e_seq, e_asg, e_bin2, e_tup, e_cons, e_nil, e_var, e_con, e_slc, e_noP, e_par, e_if, e_tst, List.getElem?_cons_zero, List.getElem?_cons_succ, Res.bind_ok, slcV_str hl1, cut_t3, cut_t2, addV_str hl2, addV_str hl3, idxV_str hs23, hc, Option.map_some, getR_some, addV_str (hl4 c), List.length_cons, List.length_nil, sbind_ok, divV_int (show (0 : Int) < 2048 by omega) (show (2048 : Int) < 1073741824 by omega), modV_int (show (0 : Int) < 3 by omega), divV_int (show (0 : Int) < 2 by omega) (show (2 : Int) < 1073741824 by omega), e_name, asgR_some, seqR_nx, List.set_cons_succ, List.set_cons_zero, hne, asT_bl, if_true, idxV_tup, hk, sz_eq, Nat.zero_add, Nat.reduceAdd, Nat.reduceLeDiff, Nat.zero_le]
theorem want_t6 (hD10 : D ≤ 10) (n : Nat) (hW : Within b P ps D (n + 6)) (hPw : ∀ p ∈ P, wordS (.str p.1) = true) {fl : List Val} (hfl : fl ≠ []) (hfl2 : fl.length ≤ 1000) (hf : ∀ f ∈ fl, f ∈ fieldsOf b x ∧ (D = 0 → ∀ nm s ts, f = .tup [.str nm, s, .tup ts] → ∀ g, innerS s = .str g → baseN g = true)) :
    ∃ w, WantD b P (D + 1) x w ∧ ∀ (m : Sto) (a5 a7 a8 a9 a10 a11 a12 a13 a14 a15 a16 a17 a18 : Option Val),
      t__law_want_6 (Fn (n + 6)) [some b, some (.str x), some (.int N), some (.int ((D : Int) + 1)), some (.tup ps), a5, some (.lst fl), a7, a8, a9, a10, a11, a12, a13, a14, a15, a16, a17, a18] m = .rt w m := by
  have hpos : (0 : Int) < fl.length := by
    have := List.length_pos_iff.mpr hfl
    omega
  obtain ⟨f, f1, f2⟩ := atI_mod (xs := fl) (i := N / 64) (k := fl.length) rfl hpos
  obtain ⟨hfb, hf0⟩ := hf f f2
  obtain ⟨hall, _⟩ := fields_all (fields_get hB.book hx).2
  obtain ⟨nm, s, ts, hF⟩ := fieldF (hall f hfb)
  obtain ⟨g, g1, g2, g3, g4⟩ := inner_kind hB hF
  have gf := field_gdn hB hx hfb
  rw [hF.eq] at gf
  have gs : gd s = true := gdn_gd (gdn_mem (n := 3) gf (by simp)) (by omega)
  have gt : gd (.tup ts) = true := gdn_gd (gdn_mem (n := 3) gf (by simp)) (by omega)
  have hb : baseN g = true ∨ (baseN g = false ∧ g ∈ namesOf b ∧ 0 < D) := by
    rcases g4 with h | ⟨h1, h2⟩
    · exact .inl h
    · refine .inr ⟨h1, h2, ?_⟩
      rcases Nat.eq_zero_or_pos D with h | h
      · rw [hf0 h nm s ts hF.eq g g1] at h1; cases h1
      · exact h
  obtain ⟨ws, w1, w2⟩ := want_t14 hB hx hN hD10 n hW hPw g2 g3 hb
  -- the way
  obtain ⟨j, j1, j2⟩ : ∃ j : Int, (j = 3 ∨ j = 23) ∧ L2.atI [Val.int 3, .int 23] (N / 16384 % 2) = some (.int j) := by
    obtain ⟨h1, h2⟩ := mod_lt (a := N / 16384) (show (0 : Int) < 2 by omega)
    rcases (show N / 16384 % 2 = 0 ∨ N / 16384 % 2 = 1 by omega) with h | h <;> rw [h]
    · exact ⟨3, .inl rfl, by simp⟩
    · exact ⟨23, .inr rfl, by simp⟩
  obtain ⟨k1, k2⟩ := mod_lt (a := N / 512) (show (0 : Int) < j by omega)
  have hWd : Drw (N / 512 % j) := ⟨k1, by omega⟩
  have hW23 : N / 512 % j < 23 := by omega
  generalize hWg : N / 512 % j = W at hWd hW23
  obtain ⟨ar1, ar2⟩ := law_args_ok hF.good hWd
  obtain ⟨b1, b2, b3⟩ := ar2.ok hF.good
  have ga := b3.gd (by omega)
  obtain ⟨key, y1, y2⟩ := key_ok (b := b) (x := x) (N := N) (ps := ps) (D := D) hB hx hN hF.word hWd.1 hW23 (argsOf ts W)
  obtain ⟨wh, z1, z2⟩ := whens_at (N / 65536)
  refine ⟨.tup [.str s_field, .str key, .str nm, .tup (argsOf ts W), .tup ws, wh], .inr ⟨key, nm, _, ws, wh, f, s, ts, W, g, rfl, hfb, hF, rfl, hWd, hW23, y1, z2, g1, w1⟩, fun m a5 a7 a8 a9 a10 a11 a12 a13 a14 a15 a16 a17 a18 => ?_⟩
  have hin := law_inner_ok (by omega) hF.sort gs (n + 5) m
  rw [g1] at hin
  have hpos' : ¬ (fl.length : Int) = 0 := by omega
  have har := ar1 (n + 4) m
  unfold t__law_want_6
  simp only [e_seq, e_asg, e_bin2, e_call, e_cons, e_nil, e_var, e_con, List.getElem?_cons_zero, List.getElem?_cons_succ, Res.bind_ok, lenV_lst, divV_int (show (0 : Int) < 64 by omega) (show (64 : Int) < 1073741824 by omega), modV_int hpos, idxV_lst, f1, getR_some, sbind_ok, hF.eq, tupG, consG, nilG, nameG, List.length_cons, List.length_nil, Nat.zero_add, Nat.reduceAdd, if_true, Option.bind_some, List.set_cons_succ, List.set_cons_zero, asgR_some, seqR_nx]
  unfold t__law_want_7
  simp only [e_seq, e_asg, e_bin2, e_tup, e_cons, e_nil, e_var, e_con, List.getElem?_cons_zero, List.getElem?_cons_succ, Res.bind_ok, List.length_cons, List.length_nil, divV_int (show (0 : Int) < 512 by omega) (show (512 : Int) < 1073741824 by omega), divV_int (show (0 : Int) < 16384 by omega) (show (16384 : Int) < 1073741824 by omega), modV_int (show (0 : Int) < 2 by omega), idxV_tup, j2, getR_some, modV_int (show (0 : Int) < j by omega), hWg, sbind_ok, e_name, asgR_some, seqR_nx, List.set_cons_succ, List.set_cons_zero, sz_eq, Nat.zero_add, Nat.reduceAdd, Nat.reduceLeDiff, if_true]
  unfold t__law_want_8
  simp only [e_seq, e_asg, e_def, e_cons, e_nil, e_var, List.getElem?_cons_zero, List.getElem?_cons_succ, Res.bind_ok, List.length_cons, List.length_nil, har, trimR_gd ga, sbind_ok, e_name, asgR_some, seqR_nx, List.set_cons_succ, List.set_cons_zero, Nat.zero_add, Nat.reduceAdd, if_true]
  rw [y2 _ _ _ _ _ _ _ _ _ _ _ _ _ ga]
  unfold t__law_want_11
  have z1' : L2.atI [Val.non, .non, .non, .non, .bl true, .bl false, .tup [.str s_hole, .str s_t], .non] (N / 65536 % 8) = some wh := z1
  simp only [e_seq, e_asg, e_bin2, e_tup, e_cons, e_nil, e_var, e_con, List.getElem?_cons_zero, List.getElem?_cons_succ, Res.bind_ok, List.length_cons, List.length_nil, divV_int (show (0 : Int) < 65536 by omega) (show (65536 : Int) < 1073741824 by omega), modV_int (show (0 : Int) < 8 by omega), idxV_tup, z1', getR_some, sbind_ok, e_name, asgR_some, seqR_nx, List.set_cons_succ, List.set_cons_zero, sz_eq, Nat.zero_add, Nat.reduceAdd, Nat.reduceLeDiff, if_true]
  unfold t__law_want_12
  simp only [e_seq, e_asg, e_def, e_cons, e_nil, e_var, List.getElem?_cons_zero, List.getElem?_cons_succ, Res.bind_ok, List.length_cons, List.length_nil, hin, trimR_str, sbind_ok, e_name, asgR_some, seqR_nx, List.set_cons_succ, List.set_cons_zero, Nat.zero_add, Nat.reduceAdd, if_true]
  unfold t__law_want_13
  simp only [e_seq, e_asg, e_tup, e_nil, Res.bind_ok, List.length_nil, sz_eq, Nat.zero_le, if_true, sbind_ok, e_name, asgR_some, seqR_nx, List.set_cons_succ, List.set_cons_zero]
  rw [w2]
end
end LW

-- part LSP
namespace LW
open G
theorem strInt_short {i : Int} (h1 : -999 ≤ i) (h2 : i ≤ 999) : (∀ c ∈ strInt i, c < 128) ∧ (strInt i).length ≤ 11 := by
  have : ∀ k : Nat, k < 1999 → ((strInt ((k : Int) - 999)).all (· < 128) && decide ((strInt ((k : Int) - 999)).length ≤ 11)) = true := by decide +kernel
  have h := this (i + 999).toNat (by omega)
  rw [show (((i + 999).toNat : Nat) : Int) - 999 = i by omega] at h
  simpa using h
/-! ### the spoiling -/
def spR : SF := (seqF (ifF (andTF (tstF (isiF "tuple" (varF 0))) (andTF (tstF (bin2 gtV (callF lenV (consF (varF 0) nilF)) (conF (.int 0)))) (tstF (bin2 eqV (bin2 modV (bin2 divV (varF 1) (conF (.int 6))) (conF (.int 2))) (conF (.int 0)))))) (retF (bin2 idxV (lstF (consF (callF listV (consF (varF 0) nilF)) (consF (slcF (varF 0) noPF (parF (conF (.int (-1))))) (consF (bin2 addV (varF 0) (slcF (varF 0) (parF (conF (.int (-1)))) noPF)) (consF (slcF (varF 0) (parF (conF (.int 1))) noPF) (consF (m0F revV (varF 0)) (consF (tupF nilF) nilF))))))) (bin2 modV (bin2 divV (varF 1) (conF (.int 12))) (conF (.int 6))))) nextF)
  (seqF (ifF (andTF (tstF (isiF "str" (varF 0))) (tstF (bin2 eqV (bin2 modV (bin2 divV (varF 1) (conF (.int 6))) (conF (.int 2))) (conF (.int 0))))) (retF (bin2 idxV (lstF (consF (bin2 addV (varF 0) (conF (.str s_a))) (consF (slcF (varF 0) (parF (conF (.int 1))) noPF) (consF (bin2 addV (varF 0) (conF (.str s_1))) (consF (conF (.str s_number)) (consF (m0F upV (varF 0)) (consF (conF (.str s_must)) nilF))))))) (bin2 modV (bin2 divV (varF 1) (conF (.int 12))) (conF (.int 6))))) nextF)
  (seqF (ifF (andTF (tstF (isiF "int" (varF 0))) (tstF (bin2 eqV (bin2 modV (bin2 divV (varF 1) (conF (.int 6))) (conF (.int 2))) (conF (.int 0))))) (retF (bin2 idxV (lstF (consF (callF strV (consF (varF 0) nilF)) (consF (bin2 subV (conF (.int 0)) (varF 0)) (consF (bin2 addV (varF 0) (conF (.int 1))) (consF (bin2 eqV (varF 0) (conF (.int 1))) (consF (bin2 subV (varF 0) (conF (.int 1))) (consF (bin2 addV (varF 0) (conF (.int 999))) nilF))))))) (bin2 modV (bin2 divV (varF 1) (conF (.int 12))) (conF (.int 6))))) nextF)
  (seqF (asgF (lstF (consF (conF .non) (consF (conF (.bl true)) (consF (conF (.bl false)) (consF (conF (.int 0)) (consF (conF (.int 1)) (consF (conF (.int 20)) (consF (conF (.int 21)) (consF (conF (.int (-1))) (consF (conF (.int 1000)) (consF (conF (.str s_nil)) (consF (conF (.str s_a)) (consF (conF (.str s_Root)) (consF (conF (.str s_piece)) (consF (tupF nilF) (consF (tupF (consF (conF (.int 0)) (consF (conF (.int 1)) nilF))) (consF (lstF nilF) nilF))))))))))))))))) (nameG 5))
  (retF (bin2 idxV (bin2 addV (varF 5) (lstF (consF (tupF (consF (conF (.str s_x21)) (consF (conF (.str s_a)) nilF))) (consF (tupF (consF (conF (.str s_hole)) (consF (conF (.str s_n)) nilF))) nilF)))) (bin2 modV (bin2 divV (varF 1) (conF (.int 6))) (conF (.int 18)))))))))
theorem in_tmb' {L S : Nat} {xs : List Val} (h : tmbL L S xs = true) {x : Val} (hx : x ∈ xs) : tmb L S x = true := tmbL_iff.mp h x hx
theorem tup_tmi {xs ys : List Val} (h : tmi (.tup xs) = true) (hl : ys.length ≤ 17) (hs : ∀ y ∈ ys, y ∈ xs) : tmb 17 11 (.tup ys) = true := by
  rw [tmi_tup] at h
  rw [tmb_tup]
  exact ⟨hl, fun y hy => tmb_mono (by omega) (by omega) (tmi_tmb (h.2 y (hs y hy)))⟩
theorem tup_dep' {xs ys : List Val} (hs : ∀ y ∈ ys, y ∈ xs) : dep (.tup ys) ≤ dep (.tup xs) := by
  have h : dep (.tup xs) ≤ depL xs + 1 := by simp [dep]
  rw [dep_tup] at h
  have h' : dep (.tup ys) ≤ depL xs + 1 := dep_tup.mpr fun y hy => h y (hs y hy)
  simp only [dep] at h' ⊢
  omega
theorem leafi_ok {v : Val} (hv : tmi v = true) (hd : dep v ≤ 50) (N : Int) (k : Int) :
    ∃ w, tmb 17 11 w = true ∧ dep w ≤ dep v + 1 ∧ ∀ m, spR [some v, some (.int N), some (.int k), none, none, none] m = .rt w m := by
  have hg : gd v = true := tmb_gd (L := 16) (S := 10) (by omega) (tmi_tmb hv) (by omega)
  obtain ⟨w1, a1, a2⟩ := atI_mod (xs := [Val.non, .bl true, .bl false, .int 0, .int 1, .int 20, .int 21, .int (-1), .int 1000, .str s_nil, .str s_a, .str s_Root, .str s_piece, .tup [], .tup [.int 0, .int 1], .lst [], .tup [.str s_x21, .str s_a], .tup [.str s_hole, .str s_n]]) (i := N / 6) (k := 18) rfl (by omega)
  have w1t : tmb 17 11 w1 = true := in_tmb' (by decide +kernel) a2
  have w1d : dep w1 ≤ 1 := by
    have : ∀ w ∈ [Val.non, .bl true, .bl false, .int 0, .int 1, .int 20, .int 21, .int (-1), .int 1000, .str s_nil, .str s_a, .str s_Root, .str s_piece, .tup [], .tup [.int 0, .int 1], .lst [], .tup [.str s_x21, .str s_a], .tup [.str s_hole, .str s_n]], dep w ≤ 1 := by decide +kernel
    exact this _ a2
  have hsome : ∀ m, tstF (isiF "tuple" (varF 0)) [some v, some (.int N), some (.int k), none, none, none] m = .ok (isTup v) m := fun m => by simp [isi_tup hg]
  by_cases hs : isTup v = true
  · obtain ⟨xs, rfl⟩ := isTup_iff.mp hs
    by_cases hc : 0 < xs.length ∧ N / 6 % 2 = 0
    · obtain ⟨h1, h2⟩ := hc
      have hl : xs.length ≤ 16 := (tmi_tup.mp hv).1
      obtain ⟨w, p1, p2⟩ := atI_mod (xs := [Val.lst xs, .tup xs.dropLast, .tup (xs ++ xs.drop (xs.length - 1)), .tup (xs.drop 1), .tup xs.reverse, .tup []]) (i := N / 12) (k := 6) rfl (by omega)
      refine ⟨w, ?_, ?_, fun m => ?_⟩
      · simp only [List.mem_cons, List.not_mem_nil, or_false] at p2
        rcases p2 with rfl | rfl | rfl | rfl | rfl | rfl
        · have := tup_tmi hv (ys := xs) (by omega) (fun y h => h)
          rw [tmb_tup] at this; rw [tmb_lst]; exact this
        · exact tup_tmi hv (by simp; omega) (fun y h => List.dropLast_subset _ h)
        · exact tup_tmi hv (by simp; omega) (fun y h => by rcases List.mem_append.mp h with h | h; exact h; exact List.mem_of_mem_drop h)
        · exact tup_tmi hv (by simp; omega) (fun y h => List.mem_of_mem_drop h)
        · exact tup_tmi hv (by simp; omega) (fun y h => by simpa using h)
        · decide +kernel
      · simp only [List.mem_cons, List.not_mem_nil, or_false] at p2
        rcases p2 with rfl | rfl | rfl | rfl | rfl | rfl
        · simp [dep]
        · exact Nat.le_succ_of_le (tup_dep' (fun y h => List.dropLast_subset _ h))
        · exact Nat.le_succ_of_le (tup_dep' (fun y h => by rcases List.mem_append.mp h with h | h; exact h; exact List.mem_of_mem_drop h))
        · exact Nat.le_succ_of_le (tup_dep' (fun y h => List.mem_of_mem_drop h))
        · exact Nat.le_succ_of_le (tup_dep' (fun y h => by simpa using h))
        · simp [dep, depL]
      · have hl2 : xs.length + (xs.length - (xs.length - 1)) ≤ 16777216 := by omega
        unfold spR
        have hlt : (0 : Int) < xs.length := by omega
        simp [isi_tup hg, hlt, h2, divV_int, modV_int, listV, tlOf, asL, hl2, addV, revV, p1, h1, -List.drop_one]
    · refine ⟨w1, w1t, by omega, fun m => ?_⟩
      unfold spR
      by_cases h1 : 0 < xs.length
      · have h2 : ¬ N / 6 % 2 = 0 := fun h => hc ⟨h1, h⟩
        have hlt : (0 : Int) < xs.length := by omega
        simp [isi_tup hg, isi_str hg, isi_int hg, hlt, h2, divV_int, modV_int, addV_lst, a1, h1]
      · have hlt : ¬ (0 : Int) < xs.length := by omega
        simp [isi_tup hg, isi_str hg, isi_int hg, hlt, divV_int, modV_int, addV_lst, a1, h1]
  · by_cases hst : isStr v = true
    · obtain ⟨x, rfl⟩ := isStr_iff.mp hst
      have hx := tmi_str.mp hv
      by_cases h2 : N / 6 % 2 = 0
      · obtain ⟨w, p1, p2⟩ := atI_mod (xs := [Val.str (x ++ s_a), .str (x.drop 1), .str (x ++ s_1), .str s_number, .str (x.map PyProof.Rows.up1), .str s_must]) (i := N / 12) (k := 6) rfl (by omega)
        have hla : s_a.length = 1 := by decide +kernel
        have hl1 : s_1.length = 1 := by decide +kernel
        have ha : ∀ c ∈ s_a, c < 128 := by decide +kernel
        have h1 : ∀ c ∈ s_1, c < 128 := by decide +kernel
        have hup : ∀ c < 128, PyProof.Rows.up1 c < 128 := by decide +kernel
        refine ⟨w, ?_, ?_, fun m => ?_⟩
        · simp only [List.mem_cons, List.not_mem_nil, or_false] at p2
          rcases p2 with rfl | rfl | rfl | rfl | rfl | rfl
          · rw [tmb_str]; exact ⟨fun c hc => by rcases List.mem_append.mp hc with h | h; exact hx.1 c h; exact ha c h, by simp; omega⟩
          · rw [tmb_str]; exact ⟨fun c hc => hx.1 c (List.mem_of_mem_drop hc), by simp; omega⟩
          · rw [tmb_str]; exact ⟨fun c hc => by rcases List.mem_append.mp hc with h | h; exact hx.1 c h; exact h1 c h, by simp; omega⟩
          · decide +kernel
          · rw [tmb_str]; exact ⟨fun c hc => by obtain ⟨d, hd, rfl⟩ := List.mem_map.mp hc; exact hup d (hx.1 d hd), by simp; omega⟩
          · decide +kernel
        · simp only [List.mem_cons, List.not_mem_nil, or_false] at p2
          rcases p2 with rfl | rfl | rfl | rfl | rfl | rfl <;> simp
        · have hxl : x.length ≤ 16777216 := by omega
          have hxl2 : x.length + 1 ≤ 16777216 := by omega
          have hxl3 : x.length ≤ 5592405 := by omega
          have hall : x.all (· < 128) = true := by simpa using hx.1
          unfold spR
          simp [isi_tup hg, isi_str hg, isi_int hg, h2, divV_int, modV_int, addV, hla, hl1, hxl2, slcV_str hxl, upV, hxl3, p1, -List.drop_one]
          exact hx.1
      · refine ⟨w1, w1t, by omega, fun m => ?_⟩
        unfold spR
        simp [isi_tup hg, isi_str hg, isi_int hg, h2, divV_int, modV_int, addV_lst, a1]
    · by_cases hin : isInt v = true
      · by_cases h2 : N / 6 % 2 = 0
        · obtain ⟨j, hj1, hj2, hlist⟩ : ∃ j : Int, -999 ≤ j ∧ j ≤ 999 ∧ ∃ t : List Nat, (∀ c ∈ t, c < 128) ∧ t.length ≤ 11 ∧ ∀ m : Sto, strV [v] m = .ok (.str t) m ∧ subV (.int 0) v m = .ok (.int (0 - j)) m ∧ addV v (.int 1) m = .ok (.int (j + 1)) m ∧ eqV v (.int 1) m = .ok (.bl (decide (j = 1))) m ∧ subV v (.int 1) m = .ok (.int (j - 1)) m ∧ addV v (.int 999) m = .ok (.int (j + 999)) m := by
            cases v with
            | int i =>
              obtain ⟨i1, i2⟩ := tmi_int.mp hv
              obtain ⟨s1, s2⟩ := strInt_short i1 i2
              have hlog : i.natAbs.log2 < 1920 := by
                have : i.natAbs.log2 ≤ i.natAbs := Nat.log2_le_self _
                omega
              exact ⟨i, i1, i2, strInt i, s1, s2, fun m => by simp [strV, hlog]⟩
            | bl q =>
              refine ⟨if q = true then 1 else 0, by split <;> omega, by split <;> omega, strB q, ?_, ?_, fun m => ?_⟩
              · cases q <;> decide
              · cases q <;> decide
              · rw [eqV_gd gd_bl gd_int]
                cases q <;> simp [strV, subV, addV, veq]
            | _ => cases hin
          obtain ⟨t, t1, t2, hl⟩ := hlist
          obtain ⟨w, p1, p2⟩ := atI_mod (xs := [Val.str t, .int (0 - j), .int (j + 1), .bl (decide (j = 1)), .int (j - 1), .int (j + 999)]) (i := N / 12) (k := 6) rfl (by omega)
          refine ⟨w, ?_, ?_, fun m => ?_⟩
          · simp only [List.mem_cons, List.not_mem_nil, or_false] at p2
            rcases p2 with rfl | rfl | rfl | rfl | rfl | rfl
            · rw [tmb_str]; exact ⟨t1, t2⟩
            all_goals simp
          · simp only [List.mem_cons, List.not_mem_nil, or_false] at p2
            rcases p2 with rfl | rfl | rfl | rfl | rfl | rfl <;> simp
          · obtain ⟨l1, l2, l3, l4, l5, l6⟩ := hl m
            have n1 : isTup v = false := by cases v <;> first | rfl | cases hin
            have n2 : isStr v = false := by cases v <;> first | rfl | cases hin
            unfold spR
            simp only [e_seq, e_if, e_andT, e_tst, e_isi, e_var, List.getElem?_cons_zero, List.getElem?_cons_succ, Res.bind_ok, isi_tup hg, isi_str hg, isi_int hg, n1, n2, hin, asT_bl, Bool.false_eq_true, if_false, sbind_ok, e_next, seqR_nx, if_true, e_bin2, e_con, divV_int (show (0 : Int) < 6 by omega) (show (6 : Int) < 1073741824 by omega), modV_int (show (0 : Int) < 2 by omega), h2, eqV_int, decide_true, e_ret, e_lst, e_cons, e_nil, e_call, l1, l2, l3, l4, l5, l6, List.length_cons, List.length_nil, sz_eq, Nat.zero_add, Nat.reduceAdd, Nat.reduceLeDiff, divV_int (show (0 : Int) < 12 by omega) (show (12 : Int) < 1073741824 by omega), modV_int (show (0 : Int) < 6 by omega), idxV_lst, p1, getR_some, seqR_rt]
        · refine ⟨w1, w1t, by omega, fun m => ?_⟩
          have n1 : isTup v = false := by cases v <;> first | rfl | cases hin
          have n2 : isStr v = false := by cases v <;> first | rfl | cases hin
          unfold spR
          simp [isi_tup hg, isi_str hg, isi_int hg, n1, n2, hin, h2, divV_int, modV_int, addV_lst, a1]
      · refine ⟨w1, w1t, by omega, fun m => ?_⟩
        have n1 : isTup v = false := by simpa using hs
        have n2 : isStr v = false := by simpa using hst
        have n3 : isInt v = false := by simpa using hin
        unfold spR
        simp [isi_tup hg, isi_str hg, isi_int hg, n1, n2, n3, divV_int, modV_int, addV_lst, a1]
theorem spoilti_ok : ∀ (k n : Nat) (v : Val) (N : Int) (D : Nat), k ≤ 50 → tmi v = true → dep v ≤ D → D ≤ 50 → Drw N →
    ∃ w, tmb 17 11 w = true ∧ dep w ≤ D + 1 ∧ ∀ m, Fn (n + k + 2) ._law_spoilt [v, .int N, .int k] m = .ok w m := by
  intro k
  induction k with
  | zero =>
    intro n v N D _ hv hd hD hN
    obtain ⟨w, h1, h2, h3⟩ := leafi_ok hv (by omega) N 0
    refine ⟨w, h1, by omega, fun m => ?_⟩
    rw [Fn__law_spoilt, e_body]
    have : b__law_spoilt (Fn (n + 0 + 1)) = seqF (ifF (andTF (tstF (bin2 gtV (varF 2) (conF (.int 0)))) _) _ nextF) spR := rfl
    rw [this]
    simp [h3]
  | succ k ih =>
    intro n v N D hk hv hd hD hN
    have hg : gd v = true := tmb_gd (L := 16) (S := 10) (by omega) (tmi_tmb hv) (by omega)
    obtain ⟨K, hK, hk0, hk1⟩ : ∃ K : Int, ((k + 1 : Nat) : Int) = K ∧ 0 < K ∧ K - 1 = (k : Int) := ⟨_, rfl, by omega, by omega⟩
    rw [hK]
    have hsp : b__law_spoilt (Fn (n + (k + 1) + 1)) = seqF (ifF (andTF (tstF (bin2 gtV (varF 2) (conF (.int 0)))) (andTF (tstF (isiF "tuple" (varF 0))) (andTF (tstF (bin2 gtV (callF lenV (consF (varF 0) nilF)) (conF (.int 0)))) (tstF (bin2 gtV (bin2 modV (varF 1) (conF (.int 6))) (conF (.int 0))))))) _ nextF) spR := rfl
    by_cases hc : ∃ xs, v = .tup xs ∧ 0 < xs.length ∧ 0 < N % 6
    · obtain ⟨xs, rfl, c1, c2⟩ := hc
      have hv' := tmi_tup.mp hv
      have hN6 := drw_div hN (show (0 : Int) < 6 by omega)
      obtain ⟨i1, i2⟩ := mod_lt (a := N / 6) (show (0 : Int) < xs.length by omega)
      obtain ⟨i, hi⟩ : ∃ i : Nat, N / 6 % xs.length = i := ⟨(N / 6 % xs.length).toNat, by omega⟩
      have hil : i < xs.length := by omega
      obtain ⟨x, x1⟩ : ∃ x, xs[i]? = some x := ⟨xs[i], by simp [hil]⟩
      have xm : x ∈ xs := List.mem_of_getElem? x1
      obtain ⟨D0, rfl⟩ : ∃ D0, D = D0 + 1 := ⟨D - 1, by have := dep_pos hd xm; omega⟩
      have hdx := dep_tup.mp hd
      obtain ⟨N2, hN2, hdr⟩ := drawn_ok (n + k + 1) N hN (k + 1) (by omega)
      rw [hK] at hdr
      obtain ⟨w, w1, w2, w3⟩ := ih n x (N2 / 4) D0 (by omega) (hv'.2 x xm) (hdx x xm) (by omega) (drw_div hN2 (by omega))
      refine ⟨.tup (xs.take i ++ [w] ++ xs.drop (i + 1)), ?_, ?_, fun m => ?_⟩
      · rw [tmb_tup]
        refine ⟨by simp; omega, fun y hy => ?_⟩
        simp only [List.mem_append, List.mem_singleton] at hy
        rcases hy with (h | rfl) | h
        · exact tmb_mono (by omega) (by omega) (tmi_tmb (hv'.2 y (List.mem_of_mem_take h)))
        · exact w1
        · exact tmb_mono (by omega) (by omega) (tmi_tmb (hv'.2 y (List.mem_of_mem_drop h)))
      · rw [dep_tup]
        intro y hy
        simp only [List.mem_append, List.mem_singleton] at hy
        rcases hy with (h | rfl) | h
        · have := hdx y (List.mem_of_mem_take h); omega
        · omega
        · have := hdx y (List.mem_of_mem_drop h); omega
      · have hgw : gd w = true := tmb_gd (L := 17) (S := 11) (by omega) w1 (by omega)
        have hl1 : i + 1 ≤ 16777216 := by omega
        have hl2 : i + 1 + (xs.length - (i + 1)) ≤ 16777216 := by omega
        have hmin : min i xs.length = i := by omega
        have e2 : L2.atI xs (i : Int) = some x := by rw [atI_nat, x1]
        have hxl : (0 : Int) < xs.length := by omega
        have hi1 : ((i : Int) + 1) = ((i + 1 : Nat) : Int) := by omega
        have w3' := w3 m
        rw [show n + (k + 1) + 2 = (n + k + 2) + 1 by omega, Fn__law_spoilt, e_body]
        rw [show n + (k + 1) + 1 = n + k + 1 + 1 by omega] at hsp
        unfold b__law_spoilt
        simp only [e_seq, e_if, e_andT, e_tst, e_isi, e_bin2, e_var, e_con, e_call, e_cons, e_nil, List.map_cons, List.map_nil, List.cons_append, List.nil_append, List.getElem?_cons_zero, List.getElem?_cons_succ, Res.bind_ok, gtV_int, asT_bl, hk0, decide_true, if_true, isi_tup hg, isTup_tup, lenV_tup, hxl, modV_int (show (0 : Int) < 6 by omega), c2, sbind_ok, e_asg, divV_int (show (0 : Int) < 6 by omega) (show (6 : Int) < 1073741824 by omega), modV_int hxl, hi, e_name, asgR_some, seqR_nx, List.set_cons_succ, List.set_cons_zero, List.length_cons, List.length_nil, List.replicate, Nat.reduceSub, Nat.reduceAdd,
          e_def, idxV_tup, e2, getR_some, hdr, trimR_int, divV_int (show (0 : Int) < 4 by omega) (show (4 : Int) < 1073741824 by omega), subV_int, hk1, w3', trimR_gd hgw, e_ret, e_slc, e_noP, e_par, slcV_tup, addV_int, hi1, cut_to, cut_from, e_tup]
        have hsz : 1 ≤ PySem.sizeLine := by decide
        rw [if_pos hsz]
        simp only [Res.bind_ok]
        rw [addV_tup (by simp; omega)]
        simp only [Res.bind_ok]
        rw [addV_tup (by simp; omega)]
        rfl
    · obtain ⟨w, h1, h2, h3⟩ := leafi_ok hv (by omega) N K
      refine ⟨w, h1, by omega, fun m => ?_⟩
      rw [show n + (k + 1) + 2 = (n + (k + 1) + 1) + 1 by omega, Fn__law_spoilt, e_body, hsp]
      by_cases hs : isTup v = true
      · obtain ⟨xs, rfl⟩ := isTup_iff.mp hs
        by_cases c1 : 0 < xs.length
        · have c2 : ¬ 0 < N % 6 := fun h => hc ⟨xs, rfl, c1, h⟩
          have c1' : (0 : Int) < xs.length := by omega
          simp [isi_tup hg, c1', c1, c2, modV_int, h3, hk0]
        · have c1' : ¬ (0 : Int) < xs.length := by omega
          simp [isi_tup hg, c1', c1, h3, hk0]
      · simp [isi_tup hg, hs, h3, hk0]
end LW

-- part L02M1
namespace LW
open G
/-! ### faults and values -/
def badS : Val → Bool
  | .tup [.str t, w] => decide (t = s_x21) && wordS w
  | _ => false
theorem badS_not {v : Val} (h : ¬ isTup v = true) : badS v = false := by cases v <;> first | exact absurd rfl h | rfl
theorem badS_not2 {xs : List Val} (h : ¬ xs.length = 2) : badS (.tup xs) = false := by
  match xs, h with
  | [], _ => rfl
  | [_], _ => simp [badS]
  | [_, _], h => exact absurd rfl h
  | _ :: _ :: _ :: _, _ => simp [badS]
theorem badS_two {a w : Val} : badS (.tup [a, w]) = (decide (a = .str s_x21) && wordS w) := by cases a <;> simp [badS]
theorem gd_x21 : gd (.str s_x21) = true := by decide
theorem is_bad_ok (n : Nat) (v : Val) (hv : gd v = true) (m : Sto) : Fn (n + 2) .is_bad [v] m = .ok (.bl (badS v)) m := by
  rw [Fn_is_bad, e_body, b_is_bad]
  by_cases hs : isTup v = true
  · obtain ⟨xs, rfl⟩ := isTup_iff.mp hs
    by_cases h2 : xs.length = 2
    · obtain ⟨a, w, rfl⟩ := two_of h2
      have ga := gd_tup_mem hv (x := a) (by simp)
      have gw := gd_tup_mem hv (x := w) (by simp)
      have hw := is_word_ok n w gw m
      have e1 := eqV_str (m := m) ga gd_x21
      have hS := badS_two (a := a) (w := w)
      generalize decide (a = .str s_x21) = q at e1 hS
      cases q <;> simp [isi_tup hv, e1, hw, hS]
    · simp [isi_tup hv, h2, badS_not2 h2]
  · simp [isi_tup hv, not_isTup hs, badS_not hs]
/-- a value of a sort, of things at the places pl -/
def valueS (pl : List Val) : Val → Val → Bool
  | .str x, v => (decide (v = .non) || badS v) || (if Val.str x ∈ bases then worthS (.str x) v else wholeS 0 20 v && pl.any fun z => veq z (.tup [.str x, v]))
  | .tup [.str t, w], v => (decide (v = .non) || badS v) || (if t = s_must then valueS pl w v else match v with
    | .tup vs => decide (vs.length ≤ 4) && vs.all (valueS pl w)
    | _ => false)
  | _, _ => false
theorem valueS_str {pl : List Val} {x : List Nat} {v : Val} : valueS pl (.str x) v = ((decide (v = .non) || badS v) || (if Val.str x ∈ bases then worthS (.str x) v else wholeS 0 20 v && pl.any fun z => veq z (.tup [.str x, v]))) := by rw [valueS]
theorem valueS_must {pl : List Val} {w v : Val} : valueS pl (.tup [.str s_must, w]) v = ((decide (v = .non) || badS v) || valueS pl w v) := by cases v <;> simp [valueS]
theorem many_must : ¬ s_many = s_must := by decide
theorem valueS_many {pl : List Val} {w : Val} {vs : List Val} : valueS pl (.tup [.str s_many, w]) (.tup vs) = (badS (.tup vs) || (decide (vs.length ≤ 4) && vs.all (valueS pl w))) := by rw [valueS, if_neg many_must]; simp
theorem valueS_many_not {pl : List Val} {w v : Val} (h : ¬ isTup v = true) : valueS pl (.tup [.str s_many, w]) v = decide (v = .non) := by
  cases v <;> first | exact absurd rfl h | simp [valueS, many_must, badS]
theorem eqV_must {m : Sto} {t : List Nat} (ht : t = s_must ∨ t = s_many) : eqV (.str t) (.str s_must) m = .ok (.bl (decide (t = s_must))) m := by
  rcases ht with rfl | rfl
  · rw [eqV_str (by decide) (by decide)]; congr 2
  · rw [eqV_str (by decide) (by decide)]; congr 2
theorem whole_int {lo hi : Int} {v : Val} (h : wholeS lo hi v = true) : ∃ i, v = .int i := by
  cases v <;> first | exact ⟨_, rfl⟩ | simp [wholeS] at h
theorem gd_pair {x : List Nat} {i : Int} (h : gd (.str x) = true) : gd (.tup [.str x, .int i]) = true := by
  refine gdn_gd (n := 1) (gdn_tup fun v hv => ?_) (by omega)
  simp only [List.mem_cons, List.not_mem_nil, or_false] at hv
  rcases hv with rfl | rfl
  · rw [gd_str] at h; rw [gdn_str]; exact h
  · simp
theorem is_value_ok {ns pl : List Val} (hp : gd (.lst pl) = true) (m : Sto) : ∀ (d n : Nat) {s v : Val}, sortS ns d s = true → gd s = true → gd v = true → lens v = true → Fn (n + d + 3) .is_value [s, v, .lst pl] m = .ok (.bl (valueS pl s v)) m := by
  intro d
  induction d with
  | zero => intro n s v h; simp [sortS] at h
  | succ d ih =>
    intro n s v hs gs hv hz
    rw [show n + (d + 1) + 3 = (n + d + 3) + 1 by omega, Fn_is_value, e_body, b_is_value]
    have hN := isV_non m hv
    have hb := is_bad_ok (n + d + 1) v hv m
    rcases sort_forms hs with ⟨x, rfl, hx⟩ | ⟨t, w, k, hk, rfl, ht, hw⟩
    · rw [valueS_str]
      have h1 : inV (.str x) (.wt [.str s_number, .str s_text, .str s_truth]) m = .ok (.bl (decide (Val.str x ∈ bases))) m := (inV_wt (m := m) gs gd_bases).trans (by rw [any_veq_str])
      have h2 := is_worth_ok (n + d + 1) x gs v hv m
      have h3 := is_whole_ok (n + d + 2) v hv 0 20 m
      have h4 : wholeS 0 20 v = true → inV (.tup [.str x, v]) (.lst pl) m = .ok (.bl (pl.any fun z => veq z (.tup [.str x, v]))) m := fun h => by
        obtain ⟨i, rfl⟩ := whole_int h
        exact inV_lst (gd_pair gs) hp
      generalize decide (v = .non) = q1 at hN ⊢
      generalize badS v = q2 at hb ⊢
      cases q1
      · cases q2
        · unfold t_is_value_2
          by_cases hxb : Val.str x ∈ bases
          · simp [hN, hb, isi_str gs, h1, hxb, h2]
          · simp only [hxb, decide_false] at h1
            generalize wholeS 0 20 v = q3 at h3 h4 ⊢
            cases q3
            · simp [hN, hb, isi_str gs, h1, hxb, h3]
            · simp [hN, hb, isi_str gs, h1, hxb, h3, h4 rfl]
        · simp [hN, hb]
      · simp [hN]
    · have : k = d := by omega
      subst this
      have gw := gd_tup_mem gs (x := w) (by simp)
      have hrec := fun (u : Val) (gu : gd u = true) (zu : lens u = true) => ih n hw gw gu zu
      have hq := eqV_must (m := m) ht
      rcases ht with rfl | rfl
      · rw [valueS_must]
        have hr := hrec v hv hz
        generalize decide (v = .non) = q1 at hN ⊢
        generalize badS v = q2 at hb ⊢
        cases q1
        · cases q2
          · unfold t_is_value_2 t_is_value_3
            simp [hN, hb, isi_str gs, hq, hr]
          · simp [hN, hb]
        · simp [hN]
      · have hmm : decide (s_many = s_must) = false := decide_eq_false many_must
        rw [hmm] at hq
        by_cases hst : isTup v = true
        · obtain ⟨vs, rfl⟩ := isTup_iff.mp hst
          rw [valueS_many]
          have hc : k_is_value_1 (Fn (n + k + 3)) [some (.tup [.str s_many, w]), some (.tup vs), some (.lst pl), none] m = .ok (.lst (vs.map fun u => .bl (valueS pl w u))) m := by
            unfold k_is_value_1
            refine comp_map (fun u => u) _ (by simp [itemsA, itemsQ]) (by have := lens_len hz; omega) fun u hu => ⟨_, rfl, ?_⟩
            simp [wipeE, hrec u (gd_tup_mem hv hu) (lens_mem hz hu)]
          have hNN : decide (Val.tup vs = .non) = false := by simp
          rw [hNN] at hN
          generalize badS (.tup vs) = q2 at hb ⊢
          cases q2
          · unfold t_is_value_2 t_is_value_3 t_is_value_4 t_is_value_5
            by_cases h4 : vs.length ≤ 4
            · have h4' : ¬ (4 : Int) < vs.length := by omega
              simp [hN, hb, isi_str gs, hq, isi_tup hv, h4', h4, hc]
            · have h4' : (4 : Int) < vs.length := by omega
              simp [hN, hb, isi_str gs, hq, isi_tup hv, h4', h4]
          · simp [hN, hb]
        · rw [valueS_many_not hst]
          rw [badS_not hst] at hb
          generalize decide (v = .non) = q1 at hN ⊢
          cases q1
          · unfold t_is_value_2 t_is_value_3 t_is_value_4
            simp [hN, hb, isi_str gs, hq, isi_tup hv, not_isTup hst]
          · simp [hN]
end LW

-- part L02M2
namespace LW
open G
theorem eq_nil_filter {xs : List Val} (h : gd (.tup xs) = true) (p : Val → Bool) (m : Sto) : eqV (.lst (xs.filter fun x => !p x)) (.lst []) m = .ok (.bl (xs.all p)) m := by
  have hg := gd_filter h fun x => !p x
  simp only [List.map_id'] at hg
  rw [eqV_gd hg (by decide), lst_nil]
  congr 2
  rw [Bool.eq_iff_iff]
  simp only [decide_eq_true_eq, List.filter_eq_nil_iff, List.all_eq_true]
  constructor
  · intro h c hc; simpa using h c hc
  · intro h c hc; simpa using h c hc
theorem eqV_many' {m : Sto} {t : List Nat} (ht : t = s_must ∨ t = s_many) : eqV (.str t) (.str s_many) m = .ok (.bl (decide (t = s_many))) m := by
  rcases ht with rfl | rfl
  · rw [eqV_str (by decide) (by decide)]; congr 2
  · rw [eqV_str (by decide) (by decide)]; congr 2
/-- the first sign of a text sort -/
theorem head_sort {g : List Nat} (hg : g ≠ []) (hl : gd (.str g) = true) (m : Sto) : ∃ c, idxV (.str g) (.int 0) m = .ok (.str [c]) m ∧ inV (.str [c]) (.str s_nt) m = .ok (.bl (baseN g)) m ∧ eqV (.str [c]) (.str s_must) m = .ok (.bl false) m ∧ eqV (.str [c]) (.str s_many) m = .ok (.bl false) m := by
  cases g with
  | nil => exact absurd rfl hg
  | cons c r =>
    have gc : gd (.str [c]) = true := by
      rw [gd_str] at hl ⊢
      simp only [Bool.and_eq_true, List.all_cons] at hl
      simp [hl.1.1]
    refine ⟨c, ?_, ?_, ?_, ?_⟩
    · rw [idxV_str (gd_len hl)]; simp
    · simp [baseN]
    · rw [eqV_str gc (by decide)]; congr 2; refine decide_eq_false fun e => ?_; cases e
    · rw [eqV_str gc (by decide)]; congr 2; refine decide_eq_false fun e => ?_; cases e
def badT (c : I → VFn) : TF := orTF (tstF (bin2 isV (varF 1) (conF .non))) (andTF (tstF (defF 3 (c ._law_is_row) (consF (varF 1) (consF (conF (.int 2)) (consF (conF (.int 2)) nilF))))) (andTF (tstF (bin2 eqV (bin2 idxV (varF 1) (conF (.int 0))) (conF (.str s_x21)))) (tstF (defF 1 (c ._law_is_word) (consF (bin2 idxV (varF 1) (conF (.int 1))) nilF)))))
theorem b_law_is_value (c : I → VFn) : b__law_is_value c = seqF (ifF (badT c) (retF (conF (.bl true))) nextF) (t__law_is_value_2 c) := rfl
theorem law_is_value_ok {ns pl : List Val} (hns : ∀ v ∈ ns, ∃ y ∈ all4, v = .str y) (hp : gd (.lst pl) = true) (m : Sto) : ∀ (d n : Nat) {s v : Val}, sortS ns d s = true → gd s = true → gd v = true → lens v = true → Fn (n + d + 3) ._law_is_value [s, v, .lst pl] m = .ok (.bl (valueS pl s v)) m := by
  intro d
  induction d with
  | zero => intro n s v h; simp [sortS] at h
  | succ d ih =>
    intro n s v hs gs hv hz
    rw [show n + (d + 1) + 3 = (n + d + 3) + 1 by omega, Fn__law_is_value, e_body, b_law_is_value]
    have hN := isV_non m hv
    -- the first test
    have hbad : ∀ (x2 : Option Val), badT (Fn (n + d + 3)) [some s, some v, some (.lst pl), x2] m = .ok (decide (v = .non) || badS v) m := by
      intro x2
      unfold badT
      have hrow := law_is_row_ok (n + d + 2) v hv 2 2 m
      by_cases hst : isTup v = true
      · obtain ⟨xs, rfl⟩ := isTup_iff.mp hst
        have hNN : decide (Val.tup xs = .non) = false := by simp
        rw [hNN] at hN
        by_cases h2 : xs.length = 2
        · obtain ⟨a, w, rfl⟩ := two_of h2
          have ga := gd_tup_mem hv (x := a) (by simp)
          have gw := gd_tup_mem hv (x := w) (by simp)
          have hw := law_is_word_ok (n + d + 2) w gw m
          have e1 := eqV_str (m := m) ga gd_x21
          simp at hrow
          rw [badS_two]
          generalize decide (a = .str s_x21) = q at e1 ⊢
          cases q <;> simp [hN, hrow, e1, hw]
        · have h2' : rowS 2 2 (.tup xs) = false := by simp; omega
          rw [h2'] at hrow
          simp [hN, hrow, badS_not2 h2]
      · rw [rowS_not hst] at hrow
        rw [badS_not hst]
        generalize decide (v = .non) = q1 at hN ⊢
        cases q1 <;> simp [hN, hrow]
    simp only [List.map_cons, List.map_nil, List.length_cons, List.length_nil, List.cons_append, List.nil_append, List.replicate, Nat.reduceSub, Nat.reduceAdd, Nat.zero_add]
    rcases sort_forms hs with ⟨x, rfl, hx⟩ | ⟨t, w, k, hk, rfl, ht, hw⟩
    · rw [valueS_str]
      have hb : (Val.str x ∈ bases ∧ baseN x = true ∧ x ≠ []) ∨ (¬ Val.str x ∈ bases ∧ baseN x = false ∧ x ≠ []) := by
        by_cases hxb : Val.str x ∈ bases
        · obtain ⟨a, b, _⟩ := base_bases _ hxb x rfl
          exact .inl ⟨hxb, a, b⟩
        · rcases hx with hx | hx
          · exact absurd hx hxb
          · obtain ⟨y, hy, e⟩ := hns _ hx
            cases e
            obtain ⟨a, b, _⟩ := base_all4 x hy
            exact .inr ⟨hxb, a, b⟩
      have hne : x ≠ [] := by rcases hb with h | h <;> exact h.2.2
      obtain ⟨c, i1, i2, i3, i4⟩ := head_sort hne gs m
      have h2 := law_is_worth_ok (n + d + 1) x gs v hv m
      have h3 := law_number_ok (n + d + 2) v hv 0 20 m
      have h4 : wholeS 0 20 v = true → inV (.tup [.str x, v]) (.lst pl) m = .ok (.bl (pl.any fun z => veq z (.tup [.str x, v]))) m := fun h => by
        obtain ⟨i, rfl⟩ := whole_int h
        exact inV_lst (gd_pair gs) hp
      have hb2 := hbad none
      generalize (decide (v = .non) || badS v) = q at hb2 ⊢
      cases q
      · unfold t__law_is_value_2 t__law_is_value_3 t__law_is_value_4 t__law_is_value_5
        rcases hb with ⟨hxb, hbn, _⟩ | ⟨hxb, hbn, _⟩
        · simp [hb2, i1, i2, i3, i4, hbn, hxb, h2]
        · generalize wholeS 0 20 v = q3 at h3 h4 ⊢
          cases q3
          · simp [hb2, i1, i2, i3, i4, hbn, hxb, h3]
          · simp [hb2, i1, i2, i3, i4, hbn, hxb, h3, h4 rfl]
      · simp [hb2]
    · have : k = d := by omega
      subst this
      have gw := gd_tup_mem gs (x := w) (by simp)
      have hrec := fun (u : Val) (gu : gd u = true) (zu : lens u = true) => ih n hw gw gu zu
      have hq := eqV_must (m := m) ht
      have hq2 := eqV_many' (m := m) ht
      have hb2 := hbad none
      rcases ht with rfl | rfl
      · rw [valueS_must]
        have hr := hrec v hv hz
        generalize (decide (v = .non) || badS v) = q at hb2 ⊢
        cases q
        · unfold t__law_is_value_2
          simp [hb2, hq, hr]
        · simp [hb2]
      · have hmm : decide (s_many = s_must) = false := decide_eq_false many_must
        rw [hmm] at hq
        have hrow := law_is_row_ok (n + k + 2) v hv 0 4 m
        by_cases hst : isTup v = true
        · obtain ⟨vs, rfl⟩ := isTup_iff.mp hst
          rw [valueS_many]
          have hc : k__law_is_value_1 (Fn (n + k + 3)) [some (.tup [.str s_many, w]), some (.tup vs), some (.lst pl), none] m = .ok (.lst ((vs.filter fun u => !valueS pl w u).map fun u => u)) m := by
            unfold k__law_is_value_1
            refine comp_filter (fun u => u) _ (fun u => u) (by simp [itemsA, itemsQ]) (by have := lens_len hz; omega) fun u hu => ?_
            exact ⟨_, rfl, by simp [wipeE, hrec u (gd_tup_mem hv hu) (lens_mem hz hu)], fun _ => by simp [wipeE]⟩
          have he := eq_nil_filter hv (valueS pl w) m
          have hNN : decide (Val.tup vs = .non) = false := by simp
          rw [hNN, Bool.false_or] at hb2
          simp only [rowS_tup] at hrow
          generalize badS (.tup vs) = q2 at hb2 ⊢
          cases q2
          · unfold t__law_is_value_2 t__law_is_value_3
            by_cases h4 : vs.length ≤ 4
            · have h4' : ((vs.length : Int) ≤ 4) = True := by simp; omega
              simp [h4'] at hrow
              simp [hb2, hq, hq2, hrow, hc, he, h4]
            · have h4' : ((vs.length : Int) ≤ 4) = False := by simp; omega
              simp [h4'] at hrow
              simp [hb2, hq, hq2, hrow, h4]
          · simp [hb2]
        · rw [valueS_many_not hst]
          rw [badS_not hst, Bool.or_false] at hb2
          rw [rowS_not hst] at hrow
          generalize decide (v = .non) = q1 at hb2 ⊢
          cases q1
          · unfold t__law_is_value_2 t__law_is_value_3
            simp [hb2, hq, hq2, hrow]
          · simp [hb2]
end LW

-- part L02M3
namespace LW
open G
/-! ### pairs in order -/
def ltT (a b : TI) : Bool := decide (a.1 < b.1) || (decide (a.1 = b.1) && decide (a.2 < b.2))
def riseT : List TI → Bool
  | a :: b :: r => ltT a b && riseT (b :: r)
  | _ => true
theorem ltV_ti {a b : TI} (ha : gd (tiVal a) = true) (hb : gd (tiVal b) = true) (m : Sto) : ltV (tiVal a) (tiVal b) m = .ok (.bl (ltT a b)) m := by
  obtain ⟨x, i⟩ := a
  obtain ⟨y, j⟩ := b
  have hal : PySem.W.alike (toPy (.tup [.str x, .int i])) (toPy (.tup [.str y, .int j])) = true := by simp [toPy, toPyL, PySem.W.alike, PySem.W.alikeAll]
  show ltV (.tup [.str x, .int i]) (.tup [.str y, .int j]) m = _
  have e : ltV (.tup [.str x, .int i]) (.tup [.str y, .int j]) m = if gd (.tup [.str x, .int i]) = true ∧ gd (.tup [.str y, .int j]) = true ∧ PySem.W.alike (toPy (.tup [.str x, .int i])) (toPy (.tup [.str y, .int j])) = true then .ok (.bl (PySem.W.dataLt (toPy (.tup [.str x, .int i])) (toPy (.tup [.str y, .int j])))) m else .stuck := rfl
  rw [e, if_pos ⟨ha, hb, hal⟩]
  congr 2
  show PySem.W.dataLt (toPy (.tup [.str x, .int i])) (toPy (.tup [.str y, .int j])) = (decide (x < y) || (decide (x = y) && decide (i < j)))
  simp only [toPy, toPyL]
  rw [PySem.W.dataLt_pair (by simp [PySem.W.alike]) (by simp [PySem.W.alike]), PySem.W.dataLt_int, PySem.W.dataLt_str]
  simp only [PySem.PyData.eqv, beq_iff_eq]
  by_cases h : x = y
  · subst h
    have h0 : ¬ x < x := List.lt_irrefl x
    by_cases h2 : i = j
    · subst h2; simp [h0]
    · simp [h2, h0]
  · have hne : ¬ (⟨x.toArray⟩ : PySem.Str) = ⟨y.toArray⟩ := fun e => h (by
      have := congrArg (fun s : PySem.Str => s.cps.toList) e
      simpa using this)
    simp [h, hne]
theorem ltT_trans {a b c : TI} (h1 : ltT a b = true) (h2 : ltT b c = true) : ltT a c = true := by
  unfold ltT at *
  simp only [Bool.or_eq_true, Bool.and_eq_true, decide_eq_true_eq] at *
  rcases h1 with h1 | ⟨e1, h1⟩ <;> rcases h2 with h2 | ⟨e2, h2⟩
  · exact .inl (List.lt_trans h1 h2)
  · exact .inl (by rw [← e2]; exact h1)
  · exact .inl (by rw [e1]; exact h2)
  · exact .inr ⟨e1.trans e2, by omega⟩
theorem ltT_irr (a : TI) : ¬ ltT a a = true := by
  unfold ltT
  have := List.lt_irrefl a.1
  simp [this]
theorem riseT_pw : ∀ {ps : List TI}, riseT ps = true ↔ ps.Pairwise fun a b => ltT a b = true
  | [] => by simp [riseT]
  | [a] => by simp [riseT]
  | a :: b :: r => by
    rw [riseT, Bool.and_eq_true, riseT_pw (ps := b :: r)]
    constructor
    · rintro ⟨h1, h2⟩
      refine List.pairwise_cons.mpr ⟨fun c hc => ?_, h2⟩
      rcases List.mem_cons.mp hc with rfl | hc
      · exact h1
      · exact ltT_trans h1 ((List.pairwise_cons.mp h2).1 c hc)
    · intro h
      obtain ⟨h1, h2⟩ := List.pairwise_cons.mp h
      exact ⟨h1 b (by simp), h2⟩
theorem leT_of_lt {a b : TI} (h : ltT a b = true) : leT a b = true := by
  unfold ltT at h
  unfold leT
  simp only [Bool.or_eq_true, Bool.and_eq_true, decide_eq_true_eq] at *
  rcases h with h | ⟨e, h⟩
  · exact .inl h
  · exact .inr ⟨e, by omega⟩
theorem ltT_of_le {a b : TI} (h : leT a b = true) (hn : a ≠ b) : ltT a b = true := by
  unfold leT at h
  unfold ltT
  simp only [Bool.or_eq_true, Bool.and_eq_true, decide_eq_true_eq] at *
  rcases h with h | ⟨e, h⟩
  · exact .inl h
  · refine .inr ⟨e, ?_⟩
    by_cases h2 : a.2 = b.2
    · exact absurd (Prod.ext e h2) hn
    · omega
theorem dedT_id {ps : List TI} (h : ps.Nodup) : dedT ps = ps := by
  have : ∀ (ps acc : List TI), (acc ++ ps).Nodup → ps.foldl (fun acc p => if p ∈ acc then acc else acc ++ [p]) acc = acc ++ ps := by
    intro ps
    induction ps with
    | nil => intro acc _; simp
    | cons p ps ih =>
      intro acc hn
      have hp : p ∉ acc := fun hm => by
        rw [List.nodup_append] at hn
        exact hn.2.2 p hm p (by simp) rfl
      rw [List.foldl_cons, if_neg hp, ih _ (by simpa using hn)]
      simp
  exact this ps [] (by simpa using h)
theorem sort_dedT {ps : List TI} : sortT (dedT ps) = ps ↔ riseT ps = true := by
  rw [riseT_pw]
  constructor
  · intro h
    have h1 := sortT_pw (dedT ps)
    have h2 : (sortT (dedT ps)).Nodup := (List.mergeSort_perm ..).nodup_iff.mpr (dedT_nodup ps)
    rw [h] at h1 h2
    exact (List.pairwise_and_iff.mpr ⟨h1, h2⟩).imp fun h => ltT_of_le h.1 h.2
  · intro h
    have hn : ps.Nodup := h.imp fun {a b} h e => by subst e; exact ltT_irr _ h
    rw [dedT_id hn]
    exact (sortT_unique (List.Perm.refl _) (h.imp leT_of_lt)).symm
theorem veq_ti {a b : TI} : veq (tiVal a) (tiVal b) = decide (a = b) := by
  obtain ⟨x, i⟩ := a
  obtain ⟨y, j⟩ := b
  simp [tiVal, veq, veqL]
  rw [Bool.eq_iff_iff]
  simp
theorem veqL_ti : ∀ {ps qs : List TI}, veqL (ps.map tiVal) (qs.map tiVal) = decide (ps = qs)
  | [], [] => by simp [veqL]
  | [], _ :: _ => by simp [veqL]
  | _ :: _, [] => by simp [veqL]
  | p :: ps, q :: qs => by
    rw [List.map_cons, List.map_cons, veqL, veq_ti, veqL_ti]
    by_cases h1 : p = q <;> by_cases h2 : ps = qs <;> simp [h1, h2]
theorem pairsT_map : ∀ ps : List TI, pairsT (ps.map tiVal) = some ps
  | [] => rfl
  | p :: ps => by rw [List.map_cons, tiVal, pairsT, pairsT_map ps]; rfl
theorem ti_gd {p : TI} (h : gd (.str p.1) = true) : gd (tiVal p) = true := gd_pair h
theorem tis_gd {ps : List TI} (h : ∀ p ∈ ps, gd (.str p.1) = true) : gd (.lst (ps.map tiVal)) = true := by
  refine gdn_gd (n := 1 + 1) (gdn_lst fun v hv => ?_) (by omega)
  obtain ⟨p, hp, rfl⟩ := List.mem_map.mp hv
  have := h p hp
  refine gdn_tup fun u hu => ?_
  simp only [List.mem_cons, List.not_mem_nil, or_false] at hu
  rcases hu with rfl | rfl
  · rw [gd_str] at this; rw [gdn_str]; exact this
  · simp
theorem ne_ssortT {ps : List TI} (h : ∀ p ∈ ps, gd (.str p.1) = true) (m : Sto) : neV (.lst (ps.map tiVal)) (.lst ((sortT (dedT ps)).map tiVal)) m = .ok (.bl (!riseT ps)) m := by
  have h2 : ∀ p ∈ sortT (dedT ps), gd (.str p.1) = true := fun p hp => h p ((dedT_mem ps p).mp ((List.mergeSort_perm ..).mem_iff.mp hp))
  rw [neV_gd (tis_gd h) (tis_gd h2), veq, veqL_ti]
  congr 2
  congr 1
  rw [Bool.eq_iff_iff, decide_eq_true_eq, ← sort_dedT]
  exact eq_comm
theorem ssort_ti {f : EF} {ρ : Env} {m : Sto} {ps : List TI} (h : f ρ m = .ok (.lst (ps.map tiVal)) m) (hl : ps.length < 64) : ssortT f ρ m = .ok (.lst ((sortT (dedT ps)).map tiVal)) m := by
  unfold ssortT
  rw [h, Res.bind_ok]
  simp only [asL, pairsT_map]
  rw [if_pos hl]
theorem zip_riseT : ∀ ps : List TI, ((ps.dropLast.zip ps.tail).all fun p => ltT p.1 p.2) = riseT ps
  | [] => rfl
  | [_] => rfl
  | a :: b :: r => by
    have ih := zip_riseT (b :: r)
    rw [riseT, ← ih]
    cases r <;> simp
theorem zip_tis (xs ys : List TI) : zipItems (xs.map tiVal) (ys.map tiVal) = (xs.zip ys).map fun p => .wt [tiVal p.1, tiVal p.2] := by
  unfold zipItems
  rw [List.zipWith_map, List.zip, List.map_zipWith]
theorem rises_ti (n : Nat) {ps : List TI} (hl : ps.length ≤ 1000) (h : ∀ p ∈ ps, gd (.str p.1) = true) (m : Sto) : Fn (n + 1) .rises [.lst (ps.map tiVal)] m = .ok (.bl (riseT ps)) m := by
  rw [Fn_rises, e_body, b_rises]
  have hc : compF (itA2 zipLL (consF (slcF (varF 0) noPF (parF (conF (.int (-1))))) (consF (slcF (varF 0) (parF (conF (.int 1))) noPF) nilF))) (tupG 2 (consG (nameG 1) (consG (nameG 2) nilG))) yesT (bin2 ltV (varF 1) (varF 2)) [1, 2] [some (.lst (ps.map tiVal)), none, none] m
      = .ok (.lst ((ps.dropLast.zip ps.tail).map fun p => .bl (ltT p.1 p.2))) m := by
    refine comp_map (fun p => .wt [tiVal p.1, tiVal p.2]) _ ?_ (by simp; omega) fun p hp => ?_
    · simp [zipLL, ← List.map_tail, ← List.map_dropLast, zip_tis]
    · have h1 := h p.1 (List.dropLast_subset _ (List.of_mem_zip hp).1)
      have h2 := h p.2 (List.mem_of_mem_tail (List.of_mem_zip hp).2)
      have hlt := ltV_ti (m := m) (ti_gd h1) (ti_gd h2)
      refine ⟨[some (.lst (ps.map tiVal)), some (tiVal p.1), some (tiVal p.2)], ?_, ?_⟩
      · simp [tupG, consG, nilG, wipeE]
      · simp [hlt]
  simp [hc, zip_riseT]
end LW

-- part L02M4
namespace LW
open G
/-! ### places, values of things -/
def placeS (b : Val) : Val → Bool
  | .tup [.str k, i, .tup ps] => decide (k ∈ namesOf b) && (wholeS 0 20 i && ps.all (rowS 2 2))
  | _ => false
def sortF : Val → Val
  | .tup [_, s, _] => s
  | v => v
def pairS (pl : List Val) (f p : Val) : Bool := match p with
  | .tup [a, v] => decide (a = .str (name0 f)) && valueS pl (sortF f) v
  | _ => false
def valsS (pl : List Val) (fs ps : List Val) : Bool := decide (fs.length = ps.length) && (fs.zip ps).all fun q => pairS pl q.1 q.2
theorem word_gd' {x : List Nat} (h : wordS (.str x) = true) : gd (.str x) = true := (Ti.str (d := 0) (word_tmi h)).gd (by omega)
/-- a book whose kinds are known ones -/
structure WB (b : Val) : Prop where
  book : bookS b = true
  gd : gd b = true
  known : ∀ x ∈ namesOf b, x ∈ all4
theorem WB.ns {b : Val} (h : WB b) : ∀ v ∈ (namesOf b).map Val.str, ∃ y ∈ all4, v = .str y := fun v hv => by
  obtain ⟨x, hx, rfl⟩ := List.mem_map.mp hv
  exact ⟨x, h.known x hx, rfl⟩
theorem dget_in {b : Val} (h : bookS b = true) (k : List Nat) : (dget (pairsOf b) (.str k)).isSome = decide (k ∈ namesOf b) := by
  by_cases hk : k ∈ namesOf b
  · rw [(fields_get h hk).1]; simp [hk]
  · have : dget (pairsOf b) (.str k) = none := by
      unfold dget
      rw [Option.map_eq_none_iff, List.find?_eq_none]
      intro p hp hv
      unfold pairsOf at hp
      obtain ⟨r, hr, rfl⟩ := List.mem_map.mp hp
      simp only [veq_str, decide_eq_true_eq, Val.str.injEq] at hv
      exact hk (List.mem_map.mpr ⟨r, hr, hv⟩)
    rw [this]; simp [hk]
theorem notIn_book {b : Val} (h : bookS b = true) (k : List Nat) (m : Sto) : notInV (.str k) (.dct .k (pairsOf b)) m = .ok (.bl (!decide (k ∈ namesOf b))) m := by
  simp [notInV, inB, asD, kfit, kfit1, dget_in h k]
theorem field_gd {b : Val} (h : WB b) {x : List Nat} (hx : x ∈ namesOf b) : ∀ f ∈ fieldsOf b x, G.gd f = true := by
  obtain ⟨ks, hF⟩ := bookF h.book
  have hx' := hx
  rw [hF.names] at hx'
  obtain ⟨k, hk, rfl⟩ := List.mem_map.mp hx'
  intro f hf
  have hg := (fields_get h.book hx).1
  have hm : (Val.str (name0 k), second k) ∈ pairsOf b := by rw [hF.pairs]; exact List.mem_map.mpr ⟨_, hk, rfl⟩
  have hg2 := dget_mem hF.nd hm
  rw [hg] at hg2
  have e : second k = .tup (fieldsOf b (name0 k)) := (Option.some.inj hg2).symm
  have gb := h.gd
  rw [hF.eq] at gb
  have gk := gd_tup_mem gb hk
  obtain ⟨y, g, rfl, _⟩ := hF.form k hk
  simp only [second] at e
  rw [e] at gk
  exact gd_tup_mem (gd_tup_mem gk (x := .tup _) (by simp)) hf
theorem row2_two {v : Val} (h : rowS 2 2 v = true) : ∃ a w, v = .tup [a, w] := by
  cases v with
  | tup xs =>
    simp only [rowS_tup, Bool.and_eq_true, decide_eq_true_eq] at h
    obtain ⟨a, w, rfl⟩ := two_of (xs := xs) (by omega)
    exact ⟨a, w, rfl⟩
  | _ => simp [rowS] at h
theorem placeS_not {b v : Val} (h : ¬ isTup v = true) : placeS b v = false := by cases v <;> first | exact absurd rfl h | rfl
theorem placeS_not3 {b : Val} {xs : List Val} (h : ¬ xs.length = 3) : placeS b (.tup xs) = false := by
  match xs, h with
  | [], _ => rfl
  | [_], _ => simp [placeS]
  | [_, _], _ => simp [placeS]
  | [_, _, _], h => exact absurd rfl h
  | _ :: _ :: _ :: _ :: _, _ => simp [placeS]
theorem placeS_str {b a i w : Val} (h : ¬ isStr a = true) : placeS b (.tup [a, i, w]) = false := by cases a <;> first | exact absurd rfl h | simp [placeS]
theorem placeS_tup {b i w : Val} {k : List Nat} (h : ¬ isTup w = true) : placeS b (.tup [.str k, i, w]) = false := by cases w <;> first | exact absurd rfl h | simp [placeS]
theorem is_place_ok {b : Val} (h : WB b) (n : Nat) {v : Val} (hv : gd v = true) (hz : lens v = true) (m : Sto) : Fn (n + 2) .is_place [b, v] m = .ok (.bl (placeS b v)) m := by
  rw [Fn_is_place, e_body, b_is_place]
  by_cases hs : isTup v = true
  · obtain ⟨xs, rfl⟩ := isTup_iff.mp hs
    by_cases h3 : xs.length = 3
    · obtain ⟨a, i, w, rfl⟩ := three_of h3
      have ga := gd_tup_mem hv (x := a) (by simp)
      have gi := gd_tup_mem hv (x := i) (by simp)
      have gw := gd_tup_mem hv (x := w) (by simp)
      by_cases ha : isStr a = true
      · obtain ⟨k, rfl⟩ := isStr_iff.mp ha
        have h1 := notIn_book h.book k m
        have h2 := is_whole_ok n i gi 0 20 m
        by_cases hw : isTup w = true
        · obtain ⟨ps, rfl⟩ := isTup_iff.mp hw
          have lw : lens (.tup ps) = true := lens_mem hz (by simp)
          have hc : k_is_place_1 (Fn (n + 1)) [some b, some (.tup [.str k, i, .tup ps]), none] m = .ok (.lst (ps.map fun p => .bl (rowS 2 2 p))) m := by
            unfold k_is_place_1
            refine comp_map (fun p => p) _ (by simp [itemsA, itemsQ]) (by have := lens_len lw; omega) fun p hp => ⟨_, rfl, ?_⟩
            have gp := gd_tup_mem gw hp
            by_cases hpt : isTup p = true
            · obtain ⟨ys, rfl⟩ := isTup_iff.mp hpt
              by_cases h2 : ys.length = 2
              · simp [wipeE, isi_tup gp, h2]
              · have h2' : ¬ ((ys.length : Int) = 2) := by omega
                have h2'' : (decide ((2 : Int) ≤ ys.length) && decide ((ys.length : Int) ≤ 2)) = false := by simp; omega
                simp [wipeE, isi_tup gp, h2, rowS_tup]
                omega
            · simp [wipeE, isi_tup gp, not_isTup hpt, rowS_not hpt]
          rw [show placeS b (.tup [.str k, i, .tup ps]) = (decide (k ∈ namesOf b) && (wholeS 0 20 i && ps.all (rowS 2 2))) from rfl]
          generalize decide (k ∈ namesOf b) = q1 at h1 ⊢
          generalize wholeS 0 20 i = q2 at h2 ⊢
          cases q1
          · simp [isi_tup hv, isi_str ga, dict_ok h.book, h1]
          · cases q2
            · simp [isi_tup hv, isi_str ga, dict_ok h.book, h1, h2]
            · simp [isi_tup hv, isi_str ga, dict_ok h.book, h1, h2, isi_tup gw, hc]
        · rw [placeS_tup hw]
          generalize decide (k ∈ namesOf b) = q1 at h1 ⊢
          generalize wholeS 0 20 i = q2 at h2 ⊢
          cases q1
          · simp [isi_tup hv, isi_str ga, dict_ok h.book, h1]
          · cases q2
            · simp [isi_tup hv, isi_str ga, dict_ok h.book, h1, h2]
            · simp [isi_tup hv, isi_str ga, dict_ok h.book, h1, h2, isi_tup gw, not_isTup hw]
      · rw [placeS_str ha]
        simp [isi_tup hv, isi_str ga, not_isStr ha]
    · have h3' : ¬ ((xs.length : Int) = 3) := by omega
      rw [placeS_not3 h3]
      simp [isi_tup hv, h3, h3']
  · simp [isi_tup hv, not_isTup hs, placeS_not hs]
theorem placeS_form {b v : Val} (h : placeS b v = true) : ∃ k i ps, v = .tup [.str k, .int i, .tup ps] ∧ k ∈ namesOf b ∧ ∀ p ∈ ps, ∃ a w, p = .tup [a, w] := by
  unfold placeS at h
  split at h
  · rename_i k i ps
    simp only [Bool.and_eq_true, decide_eq_true_eq, List.all_eq_true] at h
    obtain ⟨j, rfl⟩ := whole_int h.2.1
    exact ⟨k, j, ps, rfl, h.1, fun p hp => row2_two (h.2.2 p hp)⟩
  · cases h
theorem zip_items (fs ps : List Val) : zipItems fs ps = (fs.zip ps).map fun q => .wt [q.1, q.2] := by
  unfold zipItems
  rw [List.zip, List.map_zipWith]
/-- the values of a thing, by the program -/
theorem are_values_ok {b : Val} (h : WB b) {x : List Nat} (hx : x ∈ namesOf b) {pl : List Val} (hp : gd (.lst pl) = true) (n : Nat) {ps : List Val} (hv : gd (.tup ps) = true) (hz : lens (.tup ps) = true) (h2 : ∀ p ∈ ps, ∃ a w, p = .tup [a, w]) (m : Sto) :
    Fn (n + 8) .are_values [.tup (fieldsOf b x), .tup ps, .lst pl] m = .ok (.bl (valsS pl (fieldsOf b x) ps)) m := by
  rw [Fn_are_values, e_body, b_are_values]
  obtain ⟨hall, hl1, hl5, _⟩ := fields_all (fields_get h.book hx).2
  have gf := field_gd h hx
  generalize fieldsOf b x = fs at hall hl1 hl5 gf ⊢
  unfold valsS
  by_cases hl : fs.length = ps.length
  · have hl' : ((fs.length : Int) = ps.length) := by omega
    have loop := for_check (g := tupG 2 (consG (nameG 3) (consG (nameG 4) nilG))) (b := b_are_values_l1 (Fn (n + 7))) (m := m) (r := .bl false) (fun ρ => ∃ a3 a4, ρ = [some (.tup fs), some (.tup ps), some (.lst pl), a3, a4])
      (fun q => match q with | .wt [f, p] => pairS pl f p | _ => false) (vs := zipItems fs ps) (ρ := [some (.tup fs), some (.tup ps), some (.lst pl), none, none]) ⟨_, _, rfl⟩ (by
        intro q hq ρ ⟨a3, a4, e⟩
        subst e
        obtain ⟨f, p, hfp, rfl⟩ : ∃ f p, (f, p) ∈ fs.zip ps ∧ q = .wt [f, p] := by
          rw [zip_items] at hq
          obtain ⟨⟨f, p⟩, h1, h2⟩ := List.mem_map.mp hq
          exact ⟨f, p, h1, h2.symm⟩
        have hf := (List.of_mem_zip hfp).1
        have hpm := (List.of_mem_zip hfp).2
        obtain ⟨a, v, rfl⟩ := h2 p hpm
        obtain ⟨nm, s, ts, hF⟩ := fieldF (hall f hf)
        have hg := gf f hf
        have he := hF.eq
        subst he
        have gs := gd_tup_mem hg (x := s) (by simp)
        have gp := gd_tup_mem hv hpm
        have ga := gd_tup_mem gp (x := a) (by simp)
        have gv := gd_tup_mem gp (x := v) (by simp)
        have lv : lens v = true := lens_mem (lens_mem hz hpm) (by simp)
        have hval := is_value_ok (ns := (namesOf b).map Val.str) hp m 4 n hF.sort gs gv lv
        rw [show n + 4 + 3 = n + 7 by omega] at hval
        have hne := neV_str (m := m) ga (word_gd' hF.word)
        refine ⟨[some (.tup fs), some (.tup ps), some (.lst pl), some (.tup [.str nm, s, .tup ts]), some (.tup [a, v])], by simp [tupG, consG, nilG], ?_⟩
        have e0 : pairS pl (.tup [.str nm, s, .tup ts]) (.tup [a, v]) = (decide (a = .str nm) && valueS pl s v) := rfl
        simp only [e0]
        unfold b_are_values_l1
        by_cases ha : isStr a = true
        · generalize decide (a = .str nm) = q1 at hne ⊢
          generalize valueS pl s v = q2 at hval ⊢
          cases q1
          · exact .inr ⟨rfl, by simp [isi_str ga, ha, hne]⟩
          · cases q2
            · exact .inr ⟨rfl, by simp [isi_str ga, ha, hne, hval]⟩
            · exact .inl ⟨rfl, [some (.tup fs), some (.tup ps), some (.lst pl), some (.tup [.str nm, s, .tup ts]), some (.tup [a, v])], ⟨_, _, rfl⟩, by simp [isi_str ga, ha, hne, hval]⟩
        · have hm : decide (a = .str nm) = false := decide_eq_false fun e => ha (by rw [e]; rfl)
          rw [hm]
          exact .inr ⟨rfl, by simp [isi_str ga, not_isStr ha]⟩)
    have eall : ((zipItems fs ps).all fun q => match q with | .wt [f, p] => pairS pl f p | _ => false) = (fs.zip ps).all fun q => pairS pl q.1 q.2 := by
      rw [zip_items, List.all_map]
      rfl
    rw [eall] at loop
    rcases loop with ⟨hq, ρ2, -, hr⟩ | ⟨hq, hr⟩
    · simp [hl, hl', e_for, zipLL, hr, hq]
    · simp [hl, hl', e_for, zipLL, hr, hq]
  · have hl' : ¬ ((fs.length : Int) = ps.length) := by omega
    simp [hl, hl']
end LW

-- part L02M5
namespace LW
open G
/-! ### worlds -/
def tiAt : Val → TI
  | .tup (.str k :: .int i :: _) => (k, i)
  | _ => ([], 0)
def valsAt : Val → List Val
  | .tup [_, _, .tup ps] => ps
  | _ => []
def plOf (vs : List Val) : List Val := (vs.map tiAt).map tiVal
def rootIn (vs : List Val) : Bool := (plOf vs).any fun z => veq z (.tup [.str s_Root, .int 0])
def worldS (b : Val) : Val → Bool
  | .tup vs => vs.all (placeS b) && (riseT (vs.map tiAt) && (rootIn vs && vs.all fun p => valsS (plOf vs) (fieldsOf b (tiAt p).1) (valsAt p)))
  | _ => false
theorem worldS_not {b v : Val} (h : ¬ isTup v = true) : worldS b v = false := by cases v <;> first | exact absurd rfl h | rfl
theorem worldS_tup {b : Val} {vs : List Val} : worldS b (.tup vs) = (vs.all (placeS b) && (riseT (vs.map tiAt) && (rootIn vs && vs.all fun p => valsS (plOf vs) (fieldsOf b (tiAt p).1) (valsAt p)))) := rfl
theorem gd_name {b : Val} (h : WB b) {x : List Nat} (hx : x ∈ namesOf b) : G.gd (.str x) = true := (base_all4 x (h.known x hx)).2.2
section
variable {b : Val} (h : WB b) {vs : List Val} (hv : gd (.tup vs) = true) (hz : lens (.tup vs) = true) (hl : vs.length < 64)
include h hv hz hl
theorem tis_ok (hp : vs.all (placeS b) = true) : ∀ p ∈ vs.map tiAt, gd (.str p.1) = true := fun p hpm => by
  obtain ⟨v, hv', rfl⟩ := List.mem_map.mp hpm
  obtain ⟨k, i, ps, rfl, hk, _⟩ := placeS_form (List.all_eq_true.mp hp v hv')
  exact gd_name h hk
theorem pl_gd (hp : vs.all (placeS b) = true) : gd (.lst (plOf vs)) = true := tis_gd (tis_ok h hv hz hl hp)
theorem cut2 {a c d : Val} : cut [a, c, d] none (some 2) = [a, c] := rfl
theorem root_gd : gd (.tup [.str s_Root, .int 0]) = true := gd_pair (by decide)
theorem is_world_ok (n : Nat) (m : Sto) : Fn (n + 9) .is_world [b, .tup vs] m = .ok (.bl (worldS b (.tup vs))) m := by
  rw [Fn_is_world, e_body, b_is_world]
  have hc1 : k_is_world_1 (Fn (n + 8)) [some b, some (.tup vs), none, none] m = .ok (.lst (vs.map fun v => .bl (placeS b v))) m := by
    unfold k_is_world_1
    refine comp_map (fun v => v) _ (by simp [itemsA, itemsQ]) (by omega) fun v hm => ⟨_, rfl, ?_⟩
    simp [wipeE, is_place_ok h (n + 6) (gd_tup_mem hv hm) (lens_mem hz hm) m]
  rw [worldS_tup]
  cases hp : vs.all (placeS b) with
  | false => simp [isi_tup hv, hc1, hp]
  | true =>
    have hgd := tis_ok h hv hz hl hp
    have hpl := pl_gd h hv hz hl hp
    have form := fun v (hm : v ∈ vs) => placeS_form (List.all_eq_true.mp hp v hm)
    have hc2 : k_is_world_2 (Fn (n + 8)) [some b, some (.tup vs), none, none] m = .ok (.lst (plOf vs)) m := by
      have : plOf vs = vs.map fun v => tiVal (tiAt v) := by simp [plOf]
      rw [this]
      unfold k_is_world_2
      refine comp_map (fun v => v) _ (by simp [itemsA, itemsQ]) (by omega) fun v hm => ⟨_, rfl, ?_⟩
      obtain ⟨k, i, ps, rfl, _, _⟩ := form v hm
      simp [wipeE, cut2 h hv hz hl, tiAt, tiVal]
    have hr : Fn (n + 8) .rises [.lst (plOf vs)] m = .ok (.bl (riseT (vs.map tiAt))) m := rises_ti (n + 7) (by simp; omega) hgd m
    have hin : notInV (.tup [.str s_Root, .int 0]) (.lst (plOf vs)) m = .ok (.bl (!rootIn vs)) m := notInV_lst (root_gd h hv hz hl) hpl
    have hc3 : k_is_world_3 (Fn (n + 8)) [some b, some (.tup vs), some (.lst (plOf vs)), none] m = .ok (.lst (vs.map fun p => .bl (valsS (plOf vs) (fieldsOf b (tiAt p).1) (valsAt p)))) m := by
      unfold k_is_world_3
      refine comp_map (fun v => v) _ (by simp [itemsA, itemsQ]) (by omega) fun v hm => ⟨_, rfl, ?_⟩
      obtain ⟨k, i, ps, rfl, hk, h2⟩ := form v hm
      have gv := gd_tup_mem hv hm
      have lv := lens_mem hz hm
      have ha := are_values_ok h hk hpl n (gd_tup_mem gv (x := .tup ps) (by simp)) (lens_mem lv (x := .tup ps) (by simp)) h2 m
      simp [wipeE, dict_ok h.book, fields_at h.book hk, ha, tiAt, valsAt]
    unfold t_is_world_2 t_is_world_3 t_is_world_4
    generalize riseT (vs.map tiAt) = q1 at hr ⊢
    generalize rootIn vs = q2 at hin ⊢
    cases q1
    · simp [isi_tup hv, hc1, hp, hc2, hr]
    · cases q2
      · simp [isi_tup hv, hc1, hp, hc2, hr, hin]
      · simp [isi_tup hv, hc1, hp, hc2, hr, hin, hc3]
theorem law_place_step (n : Nat) (m : Sto) (a2 : Option Val) {v : Val} (hm : v ∈ vs) :
    b__law_is_world_l1 (Fn (n + 8)) [some b, some (.tup vs), some v, none, none, none, none, none, none, none] m = if placeS b v = true then .nx [some b, some (.tup vs), some v, none, none, none, none, none, none, none] m else .rt (.bl false) m := by
  have gv := gd_tup_mem hv hm
  have lv := lens_mem hz hm
  have hrow := law_is_row_ok (n + 7) v gv 3 3 m
  unfold b__law_is_world_l1
  by_cases hs : isTup v = true
  · obtain ⟨xs, rfl⟩ := isTup_iff.mp hs
    by_cases h3 : xs.length = 3
    · obtain ⟨a, i, w, rfl⟩ := three_of h3
      have ga := gd_tup_mem gv (x := a) (by simp)
      have gi := gd_tup_mem gv (x := i) (by simp)
      have gw := gd_tup_mem gv (x := w) (by simp)
      simp at hrow
      by_cases ha : isStr a = true
      · obtain ⟨k, rfl⟩ := isStr_iff.mp ha
        have h1 := notIn_book h.book k m
        have h2 := law_number_ok (n + 7) i gi 0 20 m
        by_cases hw : isTup w = true
        · obtain ⟨ps, rfl⟩ := isTup_iff.mp hw
          have lw : lens (.tup ps) = true := lens_mem lv (by simp)
          have hc : k__law_is_world_1 (Fn (n + 8)) [some b, some (.tup vs), some (.tup [.str k, i, .tup ps]), none, none, none, none, none, none, none] m = .ok (.lst ((ps.filter fun p => !rowS 2 2 p).map fun p => p)) m := by
            unfold k__law_is_world_1
            refine comp_filter (fun p => p) _ (fun p => p) (by simp [itemsA, itemsQ]) (by have := lens_len lw; omega) fun p hp => ?_
            have := law_is_row_ok (n + 7) p (gd_tup_mem gw hp) 2 2 m
            exact ⟨_, rfl, by simp [wipeE, this], fun _ => by simp [wipeE]⟩
          have hne := ne_nil_filter gw (rowS 2 2) m
          rw [show placeS b (.tup [.str k, i, .tup ps]) = (decide (k ∈ namesOf b) && (wholeS 0 20 i && ps.all (rowS 2 2))) from rfl]
          generalize decide (k ∈ namesOf b) = q1 at h1 ⊢
          generalize wholeS 0 20 i = q2 at h2 ⊢
          generalize ps.all (rowS 2 2) = q3 at hne ⊢
          generalize ((ps.filter fun p => !rowS 2 2 p).map fun p => p) = fl at hc hne
          cases q1
          · simp [hrow, isi_str ga, dict_ok h.book, h1]
          · cases q2
            · simp [hrow, isi_str ga, dict_ok h.book, h1, h2]
            · cases q3
              · simp [hrow, isi_str ga, dict_ok h.book, h1, h2, isi_tup gw, hc, hne]
              · simp [hrow, isi_str ga, dict_ok h.book, h1, h2, isi_tup gw, hc, hne]
        · rw [placeS_tup hw]
          generalize decide (k ∈ namesOf b) = q1 at h1 ⊢
          generalize wholeS 0 20 i = q2 at h2 ⊢
          cases q1
          · simp [hrow, isi_str ga, dict_ok h.book, h1]
          · cases q2
            · simp [hrow, isi_str ga, dict_ok h.book, h1, h2]
            · simp [hrow, isi_str ga, dict_ok h.book, h1, h2, isi_tup gw, not_isTup hw]
      · rw [placeS_str ha]
        simp [hrow, isi_str ga, not_isStr ha]
    · have h3' : rowS 3 3 (.tup xs) = false := by simp; omega
      rw [h3'] at hrow
      rw [placeS_not3 h3]
      simp [hrow]
  · rw [rowS_not hs] at hrow
    rw [placeS_not hs]
    simp [hrow]
end
end LW

-- part L02M6
namespace LW
open G
section
variable {b : Val} (h : WB b) {vs : List Val} (hv : gd (.tup vs) = true) (hz : lens (.tup vs) = true) (hl : vs.length < 64)
include h hv hz hl
theorem law_vals_step (hp : vs.all (placeS b) = true) (n : Nat) (m : Sto) (a2 a7 a8 a9 : Option Val) {k : List Nat} {i : Int} {ps : List Val} (hm : Val.tup [.str k, .int i, .tup ps] ∈ vs) (hk : k ∈ namesOf b) (h2 : ∀ p ∈ ps, ∃ a w, p = .tup [a, w]) :
    ∃ c7 c8 c9, b__law_is_world_l3 (Fn (n + 8)) [some b, some (.tup vs), a2, some (.lst (plOf vs)), some (.str k), some (.int i), some (.tup ps), a7, a8, a9] m
      = if valsS (plOf vs) (fieldsOf b k) ps = true then .nx [some b, some (.tup vs), a2, some (.lst (plOf vs)), some (.str k), some (.int i), some (.tup ps), c7, c8, c9] m else .rt (.bl false) m := by
  have gv := gd_tup_mem hv hm
  have lv := lens_mem hz hm
  have gps := gd_tup_mem gv (x := .tup ps) (by simp)
  have lps : lens (.tup ps) = true := lens_mem lv (by simp)
  have hpl := pl_gd h hv hz hl hp
  have hfa := fields_at h.book hk m
  have hdb := dict_ok h.book m
  obtain ⟨hall, hl1, hl5, _⟩ := fields_all (fields_get h.book hk).2
  have gf := field_gd h hk
  generalize fieldsOf b k = fs at hall hl1 hl5 gf hfa ⊢
  unfold valsS b__law_is_world_l3
  by_cases hfl : fs.length = ps.length
  · have hl' : ((fs.length : Int) = ps.length) := by omega
    have hl2 : ((ps.length : Int) = fs.length) := by omega
    have loop := for_check (g := tupG 2 (consG (nameG 8) (consG (nameG 9) nilG))) (b := b__law_is_world_l2 (Fn (n + 8))) (m := m) (r := .bl false) (fun ρ => ∃ a8 a9, ρ = [some b, some (.tup vs), a2, some (.lst (plOf vs)), some (.str k), some (.int i), some (.tup ps), some (.tup fs), a8, a9])
      (fun q => match q with | .wt [f, p] => pairS (plOf vs) f p | _ => false) (vs := zipItems fs ps) (ρ := [some b, some (.tup vs), a2, some (.lst (plOf vs)), some (.str k), some (.int i), some (.tup ps), some (.tup fs), a8, a9]) ⟨_, _, rfl⟩ (by
        intro q hq ρ ⟨a3, a4, e⟩
        subst e
        obtain ⟨f, p, hfp, rfl⟩ : ∃ f p, (f, p) ∈ fs.zip ps ∧ q = .wt [f, p] := by
          rw [zip_items] at hq
          obtain ⟨⟨f, p⟩, h1, h2⟩ := List.mem_map.mp hq
          exact ⟨f, p, h1, h2.symm⟩
        have hf := (List.of_mem_zip hfp).1
        have hpm := (List.of_mem_zip hfp).2
        obtain ⟨a, v, rfl⟩ := h2 p hpm
        obtain ⟨nm, s, ts, hF⟩ := fieldF (hall f hf)
        have hg := gf f hf
        have he := hF.eq
        subst he
        have gs := gd_tup_mem hg (x := s) (by simp)
        have gp := gd_tup_mem gps hpm
        have ga := gd_tup_mem gp (x := a) (by simp)
        have gv := gd_tup_mem gp (x := v) (by simp)
        have lv : lens v = true := lens_mem (lens_mem lps hpm) (by simp)
        have hval := law_is_value_ok h.ns hpl m 4 (n + 1) hF.sort gs gv lv
        rw [show n + 1 + 4 + 3 = n + 8 by omega] at hval
        have hne := neV_str (m := m) ga (word_gd' hF.word)
        refine ⟨[some b, some (.tup vs), a2, some (.lst (plOf vs)), some (.str k), some (.int i), some (.tup ps), some (.tup fs), some (.tup [.str nm, s, .tup ts]), some (.tup [a, v])], by simp [tupG, consG, nilG], ?_⟩
        have e0 : pairS (plOf vs) (.tup [.str nm, s, .tup ts]) (.tup [a, v]) = (decide (a = .str nm) && valueS (plOf vs) s v) := rfl
        simp only [e0]
        unfold b__law_is_world_l2
        generalize decide (a = .str nm) = q1 at hne ⊢
        generalize valueS (plOf vs) s v = q2 at hval ⊢
        cases q1
        · exact .inr ⟨rfl, by simp [hne]⟩
        · cases q2
          · exact .inr ⟨rfl, by simp [hne, hval]⟩
          · exact .inl ⟨rfl, [some b, some (.tup vs), a2, some (.lst (plOf vs)), some (.str k), some (.int i), some (.tup ps), some (.tup fs), some (.tup [.str nm, s, .tup ts]), some (.tup [a, v])], ⟨_, _, rfl⟩, by simp [hne, hval]⟩)
    have eall : ((zipItems fs ps).all fun q => match q with | .wt [f, p] => pairS (plOf vs) f p | _ => false) = (fs.zip ps).all fun q => pairS (plOf vs) q.1 q.2 := by
      rw [zip_items, List.all_map]
      rfl
    rw [eall] at loop
    rcases loop with ⟨hq, ρ2, ⟨c8, c9, rfl⟩, hr⟩ | ⟨hq, hr⟩
    · exact ⟨some (.tup fs), c8, c9, by simp [hfa, hdb, hfl, hl', hl2, e_for, zipLL, hr, hq]⟩
    · exact ⟨none, none, none, by simp [hfa, hdb, hfl, hl', hl2, e_for, zipLL, hr, hq]⟩
  · have hl' : ¬ ((ps.length : Int) = fs.length) := by omega
    exact ⟨none, none, none, by simp [hfa, hdb, hfl, hl']⟩
theorem law_is_world_ok (n : Nat) (m : Sto) : Fn (n + 9) ._law_is_world [b, .tup vs] m = .ok (.bl (worldS b (.tup vs))) m := by
  rw [Fn__law_is_world, e_body, b__law_is_world]
  have loop1 := for_check (g := nameG 2) (b := b__law_is_world_l1 (Fn (n + 8))) (m := m) (r := .bl false) (fun ρ => ∃ a2, ρ = [some b, some (.tup vs), a2, none, none, none, none, none, none, none]) (placeS b) (vs := vs) (ρ := [some b, some (.tup vs), none, none, none, none, none, none, none, none]) ⟨_, rfl⟩ (by
    intro v hm ρ ⟨a2, e⟩
    subst e
    refine ⟨[some b, some (.tup vs), some v, none, none, none, none, none, none, none], rfl, ?_⟩
    have hs := law_place_step h hv hz hl n m none hm
    cases hq : placeS b v with
    | true => rw [hq, if_pos rfl] at hs; exact .inl ⟨rfl, _, ⟨_, rfl⟩, hs⟩
    | false => rw [hq, if_neg Bool.false_ne_true] at hs; exact .inr ⟨rfl, hs⟩)
  rw [worldS_tup]
  rcases loop1 with ⟨hp, ρ2, ⟨a2, rfl⟩, hr1⟩ | ⟨hp, hr1⟩
  · have hgd := tis_ok h hv hz hl hp
    have hpl := pl_gd h hv hz hl hp
    have form := fun v (hm : v ∈ vs) => placeS_form (List.all_eq_true.mp hp v hm)
    have hc2 : k__law_is_world_2 (Fn (n + 8)) [some b, some (.tup vs), a2, none, none, none, none, none, none, none] m = .ok (.lst (plOf vs)) m := by
      have : plOf vs = vs.map fun v => tiVal (tiAt v) := by simp [plOf]
      rw [this]
      unfold k__law_is_world_2
      refine comp_map (fun v => v) _ (by simp [itemsA, itemsQ]) (by omega) fun v hm => ⟨_, rfl, ?_⟩
      obtain ⟨k, i, ps, rfl, _, _⟩ := form v hm
      simp [wipeE, cut2 h hv hz hl, tiAt, tiVal]
    have hss : ssortT (varF 3) [some b, some (.tup vs), a2, some (.lst (plOf vs)), none, none, none, none, none, none] m = .ok (.lst ((sortT (dedT (vs.map tiAt))).map tiVal)) m := ssort_ti (ps := vs.map tiAt) rfl (by simpa using hl)
    have hne : neV (.lst (plOf vs)) (.lst ((sortT (dedT (vs.map tiAt))).map tiVal)) m = .ok (.bl (!riseT (vs.map tiAt))) m := ne_ssortT hgd m
    have hin : notInV (.tup [.str s_Root, .int 0]) (.lst (plOf vs)) m = .ok (.bl (!rootIn vs)) m := notInV_lst (root_gd h hv hz hl) hpl
    generalize ((sortT (dedT (vs.map tiAt))).map tiVal) = sl at hss hne
    have loop3 := for_check (g := tupG 3 (consG (nameG 4) (consG (nameG 5) (consG (nameG 6) nilG)))) (b := b__law_is_world_l3 (Fn (n + 8))) (m := m) (r := .bl false) (fun ρ => ∃ a4 a5 a6 a7 a8 a9, ρ = [some b, some (.tup vs), a2, some (.lst (plOf vs)), a4, a5, a6, a7, a8, a9])
      (fun p => valsS (plOf vs) (fieldsOf b (tiAt p).1) (valsAt p)) (vs := vs) (ρ := [some b, some (.tup vs), a2, some (.lst (plOf vs)), none, none, none, none, none, none]) ⟨_, _, _, _, _, _, rfl⟩ (by
        intro v hm ρ ⟨a4, a5, a6, a7, a8, a9, e⟩
        subst e
        obtain ⟨k, i, ps, rfl, hk, h2⟩ := form v hm
        refine ⟨[some b, some (.tup vs), a2, some (.lst (plOf vs)), some (.str k), some (.int i), some (.tup ps), a7, a8, a9], by simp [tupG, consG, nilG], ?_⟩
        obtain ⟨c7, c8, c9, hs⟩ := law_vals_step h hv hz hl hp n m a2 a7 a8 a9 hm hk h2
        simp only [tiAt, valsAt]
        cases hq : valsS (plOf vs) (fieldsOf b k) ps with
        | true => rw [hq, if_pos rfl] at hs; exact .inl ⟨rfl, _, ⟨_, _, _, _, _, _, rfl⟩, hs⟩
        | false => rw [hq, if_neg Bool.false_ne_true] at hs; exact .inr ⟨rfl, hs⟩)
    have h4 : ∀ q1 q2 : Bool, riseT (vs.map tiAt) = q1 → rootIn vs = q2 → t__law_is_world_4 (Fn (n + 8)) [some b, some (.tup vs), a2, some (.lst (plOf vs)), none, none, none, none, none, none] m
        = if (q1 && q2) = true then t__law_is_world_5 (Fn (n + 8)) [some b, some (.tup vs), a2, some (.lst (plOf vs)), none, none, none, none, none, none] m else .rt (.bl false) m := by
      intro q1 q2 e1 e2
      rw [e1] at hne
      rw [e2] at hin
      unfold t__law_is_world_4
      cases q1
      · simp [hss, hne]
      · cases q2 <;> simp [hss, hne, hin]
    have h4' := h4 _ _ rfl rfl
    have h5 : t__law_is_world_5 (Fn (n + 8)) [some b, some (.tup vs), a2, some (.lst (plOf vs)), none, none, none, none, none, none] m = .rt (.bl (vs.all fun p => valsS (plOf vs) (fieldsOf b (tiAt p).1) (valsAt p))) m := by
      unfold t__law_is_world_5 t__law_is_world_6
      rcases loop3 with ⟨hq, ρ3, -, hr⟩ | ⟨hq, hr⟩
      · rw [hq]; simp [e_for, itemsA, itemsQ, hr]
      · rw [hq]; simp [e_for, itemsA, itemsQ, hr]
    unfold t__law_is_world_2 t__law_is_world_3
    generalize t__law_is_world_4 (Fn (n + 8)) = T4 at h4' ⊢
    rw [h5] at h4'
    rw [hp]
    simp only [List.map_cons, List.map_nil, List.length_cons, List.length_nil, List.cons_append, List.nil_append, List.replicate, Nat.reduceSub, Nat.reduceAdd, Nat.zero_add]
    simp [isi_tup hv, e_for, itemsA, itemsQ, hr1, hc2, h4']
    cases riseT (vs.map tiAt) <;> cases rootIn vs <;> simp
  · rw [hp]
    unfold t__law_is_world_2
    simp [isi_tup hv, e_for, itemsA, itemsQ, hr1]
end
theorem is_world_not {b v : Val} (n : Nat) (hv : gd v = true) (h : ¬ isTup v = true) (m : Sto) : Fn (n + 1) .is_world [b, v] m = .ok (.bl false) m := by
  rw [Fn_is_world, e_body, b_is_world]
  simp [isi_tup hv, not_isTup h]
theorem law_is_world_not {b v : Val} (n : Nat) (hv : gd v = true) (h : ¬ isTup v = true) (m : Sto) : Fn (n + 1) ._law_is_world [b, v] m = .ok (.bl false) m := by
  rw [Fn__law_is_world, e_body, b__law_is_world]
  simp [isi_tup hv, not_isTup h]
end LW

-- part L02M7
namespace LW
open G
/-! ### drawn values -/
theorem comp_filterG {α : Type} {it : IF} {g : GF} {tt : TF} {fe : EF} {ws : List Nat} {ρ : Env} {m : Sto} {gd : Gd} {xs : List α} (a : α → Val) (p : Val → Bool) (f : Val → Val) (hi : it ρ m = .ok (xs.map a, gd) m) (hg : gOk gd m) (hl : xs.length ≤ 1000)
    (h : ∀ v ∈ xs.map a, ∃ ρ', g v (wipeE ρ ws) m = some ρ' ∧ tt ρ' m = .ok (p v) m ∧ (p v = true → fe ρ' m = .ok (f v) m)) : compF it g tt fe ws ρ m = .ok (.lst (((xs.map a).filter p).map f)) m := by
  unfold compF
  have hs : (xs.map a).length ≤ PySem.sizeLine := by simp [PySem.sizeLine]; omega
  rw [hi, Res.bind_ok]
  simp only [hs, if_true]
  rw [compGo_filter hg h]
  rfl
def faults3 : List Val := [.str s_lost, .str s_late, .str s_no]
theorem faults3_facts : ∀ w ∈ faults3, badS (.tup [.str s_x21, w]) = true ∧ (tmi (.tup [.str s_x21, w]) && decide (dep (.tup [.str s_x21, w]) ≤ 1)) = true := by decide +kernel
/-- the numbers at the places of a kind -/
def numsAt (pl : List TI) (x : List Nat) : List Val := (pl.filter fun p => decide (p.1 = x)).map fun p => .int p.2
theorem letters7 : ∀ i : Nat, i < 5 → ∀ l : Nat, l < 4 → textS (.str ((s_abcdefg.drop i).take l)) = true ∧ (tmi (.str ((s_abcdefg.drop i).take l))) = true := by decide +kernel
theorem worth_text {v : Val} : worthS (.str s_text) v = textS v := by
  unfold worthS
  rw [if_neg (by decide), if_neg (by decide)]
theorem worth_truth {v : Val} : worthS (.str s_truth) v = isBool v := by
  unfold worthS
  rw [if_neg (by decide), if_pos rfl]
theorem worth_number {v : Val} : worthS (.str s_number) v = wholeS (-999) 999 v := by
  unfold worthS
  rw [if_pos rfl]

theorem letters7' : ∀ i : Nat, i < 5 → ∀ l : Nat, l < 4 → textS (.str (cut s_abcdefg (some (i : Int)) (some ((i : Int) + l)))) = true ∧ tmi (.str (cut s_abcdefg (some (i : Int)) (some ((i : Int) + l)))) = true := by decide +kernel
section
variable {ns : List Val} (hns : ∀ v ∈ ns, ∃ y ∈ all4, v = .str y) {pl : List TI} (hpl : pl.length ≤ 1000) (hpl2 : ∀ p ∈ pl, 0 ≤ p.2 ∧ p.2 ≤ 20) (hgd : ∀ p ∈ pl, gd (.str p.1) = true) {pl' : List Val} (hsub : ∀ p ∈ pl, (pl'.any fun z => veq z (tiVal p)) = true)
include hns hpl hpl2 hgd hsub
/-- what is drawn of a text sort -/
theorem value_str (c : I → VFn) {x : List Nat} (hx : Val.str x ∈ bases ∨ Val.str x ∈ ns) (gx : gd (.str x) = true) (N : Int) {D : Int} (hD : Drw D) :
    ∃ v, valueS pl' (.str x) v = true ∧ Ti 1 v ∧ ∀ (m : Sto) (j : Nat), m[j]? = some (.lst (pl.map tiVal)) → t__law_value_4 c [some (.str x), some (.int N), some (.ref j), some (.int D), none, none, none] m = .rt v m := by
  have hne : x ≠ [] := by
    rcases hx with hx | hx
    · exact (base_bases _ hx x rfl).2.1
    · obtain ⟨y, hy, e⟩ := hns _ hx
      cases e
      exact (base_all4 x hy).2.1
  have hd0 := hD.1
  have e1 := fun m => eqV_str (m := m) (v := .str x) gx (show gd (.str s_number) = true by decide)
  have e2 := fun m => eqV_str (m := m) (v := .str x) gx (show gd (.str s_truth) = true by decide)
  have e3 := fun m => eqV_str (m := m) (v := .str x) gx (show gd (.str s_text) = true by decide)
  by_cases hnum : x = s_number
  · subst hnum
    obtain ⟨t, ht⟩ : ∃ t : Nat, D / 4096 % 3 = t ∧ t < 3 := ⟨(D / 4096 % 3).toNat, by have := mod_lt (a := D / 4096) (show (0 : Int) < 3 by omega); omega, by have := mod_lt (a := D / 4096) (show (0 : Int) < 3 by omega); omega⟩
    obtain ⟨ht, ht3⟩ := ht
    have hcase : ∃ q r : Int, 0 < q ∧ q < 1073741824 ∧ L2.atI [Val.int 3, .int 21, .int 1999] (t : Int) = some (.int q) ∧ L2.atI [Val.int 1, .int 10, .int 999] (t : Int) = some (.int r) ∧ -999 ≤ D % q - r ∧ D % q - r ≤ 999 := by
      rcases (show t = 0 ∨ t = 1 ∨ t = 2 by omega) with rfl | rfl | rfl
      · have := mod_lt (a := D) (show (0 : Int) < 3 by omega)
        exact ⟨3, 1, by omega, by omega, rfl, rfl, by omega, by omega⟩
      · have := mod_lt (a := D) (show (0 : Int) < 21 by omega)
        exact ⟨21, 10, by omega, by omega, rfl, rfl, by omega, by omega⟩
      · have := mod_lt (a := D) (show (0 : Int) < 1999 by omega)
        exact ⟨1999, 999, by omega, by omega, rfl, rfl, by omega, by omega⟩
    obtain ⟨q, r, q0, q1, q2, q3, q4, q5⟩ := hcase
    refine ⟨.int (D % q - r), ?_, ⟨by rw [tmi_int]; exact ⟨q4, q5⟩, by simp [dep]⟩, fun m j hj => ?_⟩
    · rw [valueS_str, if_pos (show Val.str s_number ∈ bases by decide), worth_number]
      simp [wholeS, q4, q5]
    · obtain ⟨ch, i1, i2, i3, i4⟩ := head_sort hne gx m
      have e1' := e1 m
      simp at e1'
      have hm := modV_int (m := m) (i := D) q0
      unfold t__law_value_4 t__law_value_5 t__law_value_6
      simp [i1, i3, i4, e1', modV_int, divV_int, ht, q2, q3, hm]
  · by_cases htr : x = s_truth
    · subst htr
      refine ⟨.bl (decide (D % 2 = 0)), ?_, ⟨by simp, by simp [dep]⟩, fun m j hj => ?_⟩
      · rw [valueS_str, if_pos (show Val.str s_truth ∈ bases by decide), worth_truth]
        simp [isBool]
      · obtain ⟨ch, i1, i2, i3, i4⟩ := head_sort hne gx m
        have e1' := e1 m
        have e2' := e2 m
        rw [decide_eq_false (by decide)] at e1'
        simp at e2'
        have hq : eqV (.int (D % 2)) (.int 0) m = .ok (.bl (decide (D % 2 = 0))) m := by simp
        unfold t__law_value_4 t__law_value_5 t__law_value_6 t__law_value_7
        simp [i1, i3, i4, e1', e2', modV_int, hq]
    · by_cases hte : x = s_text
      · subst hte
        obtain ⟨i, hi, hi5⟩ : ∃ i : Nat, D % 5 = i ∧ i < 5 := ⟨(D % 5).toNat, by have := mod_lt (a := D) (show (0 : Int) < 5 by omega); omega, by have := mod_lt (a := D) (show (0 : Int) < 5 by omega); omega⟩
        obtain ⟨l, hl, hl4⟩ : ∃ l : Nat, D / 8 % 4 = l ∧ l < 4 := ⟨(D / 8 % 4).toNat, by have := mod_lt (a := D / 8) (show (0 : Int) < 4 by omega); omega, by have := mod_lt (a := D / 8) (show (0 : Int) < 4 by omega); omega⟩
        obtain ⟨f1, f2⟩ := letters7' i hi5 l hl4
        refine ⟨.str (cut s_abcdefg (some (i : Int)) (some ((i : Int) + l))), ?_, ⟨f2, by simp [dep]⟩, fun m j hj => ?_⟩
        · rw [valueS_str, if_pos (show Val.str s_text ∈ bases by decide), worth_text, f1]
          simp
        · obtain ⟨ch, i1, i2, i3, i4⟩ := head_sort hne gx m
          have e1' := e1 m
          have e2' := e2 m
          have e3' := e3 m
          rw [decide_eq_false (by decide)] at e1'
          rw [decide_eq_false (by decide)] at e2'
          simp at e3'
          have hsl := slcV_str (m := m) (x := s_abcdefg) (lo := some (i : Int)) (hi := some ((i : Int) + l)) (by decide)
          unfold t__law_value_4 t__law_value_5 t__law_value_6 t__law_value_7 t__law_value_8
          simp [i1, i3, i4, e1', e2', e3', modV_int, divV_int, hi, hl, hsl]
      · have hnb : ¬ Val.str x ∈ bases := fun hb => by
          simp only [bases, List.mem_cons, List.not_mem_nil, or_false, Val.str.injEq] at hb
          rcases hb with h | h | h
          · exact hnum h
          · exact hte h
          · exact htr h
        have hk9 : ∀ (m : Sto) (j : Nat), m[j]? = some (.lst (pl.map tiVal)) → k__law_value_2 c [some (.str x), some (.int N), some (.ref j), some (.int D), none, none, none] m = .ok (.lst (numsAt pl x)) m := by
          intro m j hj
          have hc := comp_filterG (it := itF itemsA (varF 2)) (g := nameG 6) (tt := tstF (bin2 eqV (bin2 idxV (varF 6) (conF (.int 0))) (varF 0))) (fe := bin2 idxV (varF 6) (conF (.int 1))) (ws := [6]) (ρ := [some (.str x), some (.int N), some (.ref j), some (.int D), none, none, none]) (m := m) (gd := some (j, .lst (pl.map tiVal))) (xs := pl) tiVal (fun v => decide ((tiAt v).1 = x)) (fun v => .int (tiAt v).2)
            (by simp [itemsA, itemsQ, itemsV, hj]) hj hpl (by
              intro v hv
              obtain ⟨p, hp, rfl⟩ := List.mem_map.mp hv
              have hk := eqV_str (m := m) (v := .str p.1) (hgd p hp) gx
              refine ⟨_, rfl, by simp [wipeE, tiVal, hk, tiAt]; exact decide_eq_decide.mpr Iff.rfl, fun _ => by simp [wipeE, tiVal, tiAt]⟩)
          have e : (((pl.map tiVal).filter fun v => decide ((tiAt v).1 = x)).map fun v => Val.int (tiAt v).2) = numsAt pl x := by
            unfold numsAt
            rw [List.filter_map, List.map_map]
            rfl
          rw [e] at hc
          exact hc
        have gnum : ∀ v ∈ numsAt pl x, ∃ i : Int, v = .int i ∧ (x, i) ∈ pl := by
          intro v hv
          unfold numsAt at hv
          obtain ⟨p, hp, rfl⟩ := List.mem_map.mp hv
          obtain ⟨h1, h2⟩ := List.mem_filter.mp hp
          rw [decide_eq_true_eq] at h2
          subst h2
          exact ⟨p.2, rfl, h1⟩
        have glst : gd (.lst (numsAt pl x)) = true := by
          refine gdn_gd (n := 0 + 1) (gdn_lst fun v hv => ?_) (by omega)
          obtain ⟨i, rfl, _⟩ := gnum v hv
          simp
        have hq9 : ∀ m, eqV (.lst (numsAt pl x)) (.lst []) m = .ok (.bl (decide (numsAt pl x = []))) m := fun m => by rw [eqV_gd glst (by decide), lst_nil]
        have pre : ∀ (m : Sto) (j : Nat), m[j]? = some (.lst (pl.map tiVal)) → t__law_value_4 c [some (.str x), some (.int N), some (.ref j), some (.int D), none, none, none] m = t__law_value_10 c [some (.str x), some (.int N), some (.ref j), some (.int D), some (.lst (numsAt pl x)), none, none] m := by
          intro m j hj
          obtain ⟨ch, i1, i2, i3, i4⟩ := head_sort hne gx m
          have e1' := e1 m
          have e2' := e2 m
          have e3' := e3 m
          rw [decide_eq_false (by simpa using hnum)] at e1'
          rw [decide_eq_false (by simpa using htr)] at e2'
          rw [decide_eq_false (by simpa using hte)] at e3'
          have h9 := hk9 m j hj
          unfold t__law_value_4 t__law_value_5 t__law_value_6 t__law_value_7 t__law_value_8 t__law_value_9
          generalize t__law_value_10 c = T
          simp [i1, i3, i4, e1', e2', e3', h9]
        by_cases hem : numsAt pl x = []
        · refine ⟨.non, by rw [valueS_str]; simp, ⟨by simp, by simp [dep]⟩, fun m j hj => ?_⟩
          rw [pre m j hj]
          have := hq9 m
          rw [hem] at this ⊢
          unfold t__law_value_10
          simp [this]
        · have hlen : 0 < (numsAt pl x).length := List.length_pos_iff.mpr hem
          have hlen2 : (numsAt pl x).length ≤ 1000 := by
            unfold numsAt
            rw [List.length_map]
            exact Nat.le_trans (List.length_filter_le ..) hpl
          obtain ⟨w, a1, a2⟩ := atI_mod (xs := numsAt pl x) (i := D) (k := (numsAt pl x).length) rfl (by omega)
          obtain ⟨i, rfl, hi⟩ := gnum w a2
          obtain ⟨i0, i20⟩ := hpl2 _ hi
          refine ⟨.int i, ?_, ⟨by rw [tmi_int]; simp at i0 i20; omega, by simp [dep]⟩, fun m j hj => ?_⟩
          · rw [valueS_str, if_neg hnb]
            have := hsub _ hi
            have hw : wholeS 0 20 (.int i) = true := by simp [wholeS]; exact ⟨i0, i20⟩
            rw [hw]
            simp only [tiVal] at this
            rw [this]
            simp
          · rw [pre m j hj]
            have hq := hq9 m
            rw [decide_eq_false hem] at hq
            have hm := modV_int (m := m) (i := D) (show (0 : Int) < (numsAt pl x).length by omega)
            unfold t__law_value_10 t__law_value_11
            simp [hq, hm, a1]
end
end LW

-- part L02M8
namespace LW
open G
section
variable {ns : List Val} (hns : ∀ v ∈ ns, ∃ y ∈ all4, v = .str y) {pl : List TI} (hpl : pl.length ≤ 1000) (hpl2 : ∀ p ∈ pl, 0 ≤ p.2 ∧ p.2 ≤ 20) (hgd : ∀ p ∈ pl, gd (.str p.1) = true) {pl' : List Val} (hsub : ∀ p ∈ pl, (pl'.any fun z => veq z (tiVal p)) = true)
include hns hpl hpl2 hgd hsub
theorem law_value_ok : ∀ (d n : Nat), d ≤ 10 → ∀ {s : Val}, sortS ns d s = true → gd s = true → ∀ {N : Int}, Drw N →
    ∃ v, valueS pl' s v = true ∧ Ti (d + 1) v ∧ ∀ (m : Sto) (j : Nat), m[j]? = some (.lst (pl.map tiVal)) → Fn (n + d + 2) ._law_value [s, .int N, .ref j] m = .ok v m := by
  intro d
  induction d with
  | zero => intro n _ s h; simp [sortS] at h
  | succ d ih =>
    intro n hd s hs gs N hN
    have hD := drw_div (drawnN_drw N 3) (show (0 : Int) < 4 by omega)
    have hdr : ∀ m, Fn (n + d + 2) ._law_drawn [.int N, .int 3] m = .ok (.int (drawnN N 3)) m := fun m => drawn_at hN (k := 3) (by omega) (n + d + 1) m
    generalize drawnN N 3 = A at hD hdr
    -- what the part behind the first tests tells
    have core : ∃ v, valueS pl' s v = true ∧ Ti (d + 2) v ∧ ∀ (m : Sto) (j : Nat), m[j]? = some (.lst (pl.map tiVal)) → t__law_value_4 (Fn (n + d + 2)) [some s, some (.int N), some (.ref j), some (.int (A / 4)), none, none, none] m = .rt v m := by
      rcases sort_forms hs with ⟨x, rfl, hx⟩ | ⟨t, w, k, hk, rfl, ht, hw⟩
      · obtain ⟨v, v1, v2, v3⟩ := value_str hns hpl hpl2 hgd hsub (Fn (n + d + 2)) hx gs N hD
        exact ⟨v, v1, v2.mono (by omega), v3⟩
      · have : k = d := by omega
        subst this
        have gw := gd_tup_mem gs (x := w) (by simp)
        have hq := fun m => eqV_must (m := m) ht
        have hq2 := fun m => eqV_many' (m := m) ht
        rcases ht with rfl | rfl
        · obtain ⟨v, v1, v2, v3⟩ := ih n (by omega) hw gw hD
          refine ⟨v, by rw [valueS_must, v1]; simp, v2.mono (by omega), fun m j hj => ?_⟩
          have h3 := v3 m j hj
          have htr := trimR_gd (m := m) (v2.gd (by omega))
          have hq' := hq m
          unfold t__law_value_4
          simp [hq', h3, htr]
        · obtain ⟨c, hc, hc4⟩ : ∃ c : Nat, A / 4 % 4 = c ∧ c < 4 := ⟨(A / 4 % 4).toNat, by have := mod_lt (a := A / 4) (show (0 : Int) < 4 by omega); omega, by have := mod_lt (a := A / 4) (show (0 : Int) < 4 by omega); omega⟩
          have hall : ∀ i : Nat, i < 4 → ∃ v, valueS pl' w v = true ∧ Ti (k + 1) v ∧ ∀ (m : Sto) (j : Nat), m[j]? = some (.lst (pl.map tiVal)) → Fn (n + k + 2) ._law_value [w, .int (drawnN (A / 4) i / 4), .ref j] m = .ok v m := fun i hi => ih n (by omega) hw gw (drw_div (drawnN_drw (A / 4) i) (by omega))
          obtain ⟨F, hF⟩ : ∃ F : Nat → Val, ∀ i, i < 4 → valueS pl' w (F i) = true ∧ Ti (k + 1) (F i) ∧ ∀ (m : Sto) (j : Nat), m[j]? = some (.lst (pl.map tiVal)) → Fn (n + k + 2) ._law_value [w, .int (drawnN (A / 4) i / 4), .ref j] m = .ok (F i) m := by
            classical
            exact ⟨fun i => if h : i < 4 then (hall i h).choose else .non, fun i h => by simp only [h, dif_pos]; exact (hall i h).choose_spec⟩
          refine ⟨.tup ((List.range c).map F), ?_, Ti.tup (by simp; omega) fun v hv => ?_, fun m j hj => ?_⟩
          · rw [valueS_many]
            have h1 : (((List.range c).map F).all (valueS pl' w)) = true := by
              rw [List.all_eq_true]
              intro v hv
              obtain ⟨i, hi, rfl⟩ := List.mem_map.mp hv
              rw [List.mem_range] at hi
              exact (hF i (by omega)).1
            rw [h1]
            simp
            right
            omega
          · obtain ⟨i, hi, rfl⟩ := List.mem_map.mp hv
            rw [List.mem_range] at hi
            exact (hF i (by omega)).2.1
          · have hq' := hq m
            rw [decide_eq_false many_must] at hq'
            have hq2' := hq2 m
            have hk1 : k__law_value_1 (Fn (n + k + 2)) [some (.tup [.str s_many, w]), some (.int N), some (.ref j), some (.int (A / 4)), none, none, none] m = .ok (.lst ((List.range c).map F)) m := by
              unfold k__law_value_1
              refine comp_map (fun i : Nat => .int i) F ?_ (by simp; omega) fun i hi => ⟨_, rfl, ?_⟩
              · have q : -(2 ^ 62) ≤ (c : Int) ∧ (c : Int) < 2 ^ 62 := by omega
                simp [range1, rangeV, modV_int, hc, q]
                omega
              · rw [List.mem_range] at hi
                obtain ⟨f1, f2, f3⟩ := hF i (by omega)
                have hd := drawn_at hD (k := i) (by omega) (n + k + 1) m
                have f3' := f3 m j hj
                have gw := trimR_gd (m := m) (f2.gd (by omega))
                simp [wipeE, hd, divV_int, f3', gw]
            simp at hq2'
            unfold t__law_value_4 t__law_value_5
            simp [hq', hq2', hk1, tupleV, tlOf, asL]
    have m7 := fun m => modV_int (m := m) (i := N) (show (0 : Int) < 7 by omega)
    have m11 := fun m => modV_int (m := m) (i := N) (show (0 : Int) < 11 by omega)
    have hs' : ∀ v, valueS pl' s .non = true ∧ (badS v = true → valueS pl' s v = true) := fun v => by
      rcases sort_forms hs with ⟨x, rfl, hx⟩ | ⟨t, w, k, hk, rfl, ht, hw⟩
      · exact ⟨by rw [valueS_str]; simp, fun hb => by rw [valueS_str, hb]; simp⟩
      · exact ⟨by unfold valueS; simp, fun hb => by unfold valueS; rw [hb]; simp⟩
    by_cases h7 : N % 7 = 0
    · refine ⟨.non, (hs' .non).1, ⟨by simp, by simp [dep]⟩, fun m j hj => ?_⟩
      rw [show n + (d + 1) + 2 = n + d + 2 + 1 by omega, Fn__law_value, e_body, b__law_value]
      have hd := hdr m
      unfold t__law_value_2
      simp [hd, divV_int, m7 m, h7]
    · by_cases h11 : N % 11 = 0
      · obtain ⟨w, a1, a2⟩ := atI_mod (xs := faults3) (i := A / 4) (k := 3) rfl (by omega)
        obtain ⟨f1, f2⟩ := faults3_facts w a2
        refine ⟨.tup [.str s_x21, w], (hs' _).2 f1, (Ti.of f2).mono (by omega), fun m j hj => ?_⟩
        rw [show n + (d + 1) + 2 = n + d + 2 + 1 by omega, Fn__law_value, e_body, b__law_value]
        have hd := hdr m
        have m3 := modV_int (m := m) (i := A / 4) (show (0 : Int) < 3 by omega)
        unfold faults3 at a1
        unfold t__law_value_2 t__law_value_3
        simp [hd, divV_int, m7 m, h7, m11 m, h11, m3, a1]
      · obtain ⟨v, v1, v2, v3⟩ := core
        refine ⟨v, v1, v2, fun m j hj => ?_⟩
        rw [show n + (d + 1) + 2 = n + d + 2 + 1 by omega, Fn__law_value, e_body, b__law_value]
        have hd := hdr m
        have h3 := v3 m j hj
        unfold t__law_value_2 t__law_value_3
        generalize t__law_value_4 (Fn (n + d + 2)) = T at h3 ⊢
        simp [hd, divV_int, m7 m, h7, m11 m, h11, h3]
end
end LW

-- part L02M9
namespace LW
open G
/-! ### drawn places -/
structure Plc (b : Val) (pl : List TI) : Prop where
  root : ((s_Root, 0) : TI) ∈ pl
  nd : pl.Nodup
  ok : ∀ p ∈ pl, p.1 ∈ namesOf b ∧ 0 ≤ p.2 ∧ p.2 ≤ 20
theorem any_ti {pl : List TI} {p : TI} : ((pl.map tiVal).any fun z => veq z (tiVal p)) = decide (p ∈ pl) := by
  rw [Bool.eq_iff_iff, List.any_eq_true, decide_eq_true_eq]
  constructor
  · rintro ⟨z, hz, he⟩
    obtain ⟨q, hq, rfl⟩ := List.mem_map.mp hz
    rw [veq_ti, decide_eq_true_eq] at he
    rw [← he]; exact hq
  · intro h
    exact ⟨tiVal p, List.mem_map.mpr ⟨p, h, rfl⟩, by rw [veq_ti]; simp⟩
section
variable {b : Val} (h : WB b) {N : Int} (hN : Drw N)
include h hN
theorem plc_gd {pl : List TI} (hp : Plc b pl) : ∀ p ∈ pl, gd (.str p.1) = true := fun p hm => gd_name h (hp.ok p hm).1
theorem place_step {pl : List TI} (hp : Plc b pl) (hl : pl.length < 60) {x : List Nat} (hx : x ∈ namesOf b) {k i : Nat} (hk : k < 10) (hi : i < 10) (n : Nat) (pre : Sto) (fv : Option Val) (a7 a8 a9 a10 a11 a12 a13 a14 : Option Val) :
    ∃ pl' c7, Plc b pl' ∧ pl'.length ≤ pl.length + 1 ∧ b__law_world_l1 (Fn (n + 1)) [some b, some (.int N), some (.ref pre.length), some (.int (k : Nat)), some (.str x), fv, some (.int (i : Nat)), a7, a8, a9, a10, a11, a12, a13, a14] (pre ++ [.lst (pl.map tiVal)])
      = .nx [some b, some (.int N), some (.ref pre.length), some (.int (k : Nat)), some (.str x), fv, some (.int (i : Nat)), c7, a8, a9, a10, a11, a12, a13, a14] (pre ++ [.lst (pl'.map tiVal)]) := by
  have hdr := drawn_at hN (k := 20 + 4 * k + i) (by omega) n (pre ++ [.lst (pl.map tiVal)])
  have ekk : ((20 + 4 * k + i : Nat) : Int) = 20 + 4 * (k : Int) + (i : Int) := by omega
  rw [ekk] at hdr
  have hd4 := drw_div (drawnN_drw N (20 + 4 * k + i)) (show (0 : Int) < 4 by omega)
  generalize drawnN N (20 + 4 * k + i) = A at hdr hd4
  have hq : ∃ q : Int, 0 < q ∧ q ≤ 21 ∧ L2.atI [Val.int 21, .int 3] (N % 2) = some (.int q) := by
    have h2 := mod_lt (a := N) (show (0 : Int) < 2 by omega)
    rcases (show N % 2 = 0 ∨ N % 2 = 1 by omega) with e | e
    · exact ⟨21, by omega, by omega, by rw [e]; rfl⟩
    · exact ⟨3, by omega, by omega, by rw [e]; rfl⟩
  obtain ⟨q, q0, q21, q1⟩ := hq
  have hv := mod_lt (a := A / 4) q0
  have hmq := modV_int (m := pre ++ [.lst (pl.map tiVal)]) (i := A / 4) q0
  have hmul : mulV (.int 4) (.int (k : Nat)) (pre ++ [.lst (pl.map tiVal)]) = .ok (.int (4 * (k : Nat))) (pre ++ [.lst (pl.map tiVal)]) := mulV_int (mulOk_small (by omega) (by omega) (by omega) (by omega))
  have gx := gd_name h hx
  have gp : gd (.tup [.str x, .int (A / 4 % q)]) = true := gd_pair gx
  have gl := tis_gd (plc_gd h hN hp)
  have hni : notInV (.tup [.str x, .int (A / 4 % q)]) (.ref pre.length) (pre ++ [.lst (pl.map tiVal)]) = .ok (.bl (!decide (((x, A / 4 % q) : TI) ∈ pl))) (pre ++ [.lst (pl.map tiVal)]) := by
    have := any_ti (pl := pl) (p := (x, A / 4 % q))
    simp only [tiVal] at this
    simp [notInV, inB, asD, asL, gp, this]
    rw [if_pos gl]
  unfold b__law_world_l1
  by_cases hm : ((x, A / 4 % q) : TI) ∈ pl
  · refine ⟨pl, some (.tup [.str x, .int (A / 4 % q)]), hp, by omega, ?_⟩
    rw [decide_eq_true hm] at hni
    simp [hmul, hdr, divV_int, q1, modV_int, hmq, hni]
  · refine ⟨pl ++ [(x, A / 4 % q)], some (.tup [.str x, .int (A / 4 % q)]), ⟨List.mem_append_left _ hp.root, ?_, fun p hpm => ?_⟩, by simp, ?_⟩
    · rw [List.nodup_append]
      exact ⟨hp.nd, by simp, fun a ha c hc => by rw [List.mem_singleton] at hc; subst hc; exact fun e => hm (e ▸ ha)⟩
    · rcases List.mem_append.mp hpm with hpm | hpm
      · exact hp.ok p hpm
      · rw [List.mem_singleton] at hpm
        subst hpm
        exact ⟨hx, hv.1, by show A / 4 % q ≤ 20; omega⟩
    · rw [decide_eq_false hm] at hni
      simp [hmul, hdr, divV_int, q1, modV_int, hmq, hni, appF, asL, tiVal]
      omega

/-- the places of a kind -/
theorem places_kind {pl : List TI} (hp : Plc b pl) (hl : pl.length < 50) {x : List Nat} (hx : x ∈ namesOf b) {k : Nat} (hk : k < 10) (n : Nat) (pre : Sto) (fv : Option Val) (a6 a7 a8 a9 a10 a11 a12 a13 a14 : Option Val) :
    ∃ pl' c6 c7, Plc b pl' ∧ pl'.length ≤ pl.length + 3 ∧ b__law_world_l2 (Fn (n + 1)) [some b, some (.int N), some (.ref pre.length), some (.int (k : Nat)), some (.str x), fv, a6, a7, a8, a9, a10, a11, a12, a13, a14] (pre ++ [.lst (pl.map tiVal)])
      = .nx [some b, some (.int N), some (.ref pre.length), some (.int (k : Nat)), some (.str x), fv, c6, c7, a8, a9, a10, a11, a12, a13, a14] (pre ++ [.lst (pl'.map tiVal)]) := by
  have hdr := drawn_at hN (k := k) (by omega) n (pre ++ [.lst (pl.map tiVal)])
  generalize drawnN N k = A at hdr
  have h3 := mod_lt (a := A / 4) (show (0 : Int) < 3 by omega)
  obtain ⟨c, hc, hc3⟩ : ∃ c : Nat, c ≤ 3 ∧ (A / 4 % 3 + (if decide ((0 : Int) < N % 5) = true then 1 else 0) = (c : Int)) := by
    by_cases hq : (0 : Int) < N % 5
    · exact ⟨(A / 4 % 3 + 1).toNat, by omega, by simp [hq]; omega⟩
    · exact ⟨(A / 4 % 3).toNat, by omega, by simp [hq]; omega⟩
  have hit : (itA range1 (consF (bin2 addV (bin2 modV (bin2 divV (defF 2 (Fn (n + 1) ._law_drawn) (consF (varF 1) (consF (varF 3) nilF))) (conF (.int 4))) (conF (.int 3))) (callF intV (consF (bin2 gtV (bin2 modV (varF 1) (conF (.int 5))) (conF (.int 0))) nilF))) nilF)) [some b, some (.int N), some (.ref pre.length), some (.int (k : Nat)), some (.str x), fv, a6, a7, a8, a9, a10, a11, a12, a13, a14] (pre ++ [.lst (pl.map tiVal)]) = .ok (rangeV 0 c, none) (pre ++ [.lst (pl.map tiVal)]) := by
    have q : -(2 ^ 62) ≤ (c : Int) ∧ (c : Int) < 2 ^ 62 := by omega
    have e5 : (decide ((0 : Int) < N % 5)) = decide (N % 5 > 0) := rfl
    by_cases hq : (0 : Int) < N % 5
    · simp [hq] at hc3
      simp [hdr, divV_int, modV_int, intV, hq, hc3, range1, q]
      omega
    · simp [hq] at hc3
      simp [hdr, divV_int, modV_int, intV, hq, hc3, range1, q]
      omega
  obtain ⟨ρ', m', h1, ⟨pl', c6, c7, e1, e2, e3, e4⟩⟩ := for_run (g := nameG 6) (b := b__law_world_l1 (Fn (n + 1)))
    (fun i ρ m => ∃ pl' c6 c7, ρ = [some b, some (.int N), some (.ref pre.length), some (.int (k : Nat)), some (.str x), fv, c6, c7, a8, a9, a10, a11, a12, a13, a14] ∧ m = pre ++ [.lst (pl'.map tiVal)] ∧ Plc b pl' ∧ pl'.length ≤ pl.length + i)
    (vs := rangeV 0 c) (ρ := [some b, some (.int N), some (.ref pre.length), some (.int (k : Nat)), some (.str x), fv, a6, a7, a8, a9, a10, a11, a12, a13, a14]) (m := pre ++ [.lst (pl.map tiVal)]) (k := 0) ⟨pl, _, _, rfl, rfl, hp, by omega⟩ (by
      rintro i v hv ρ m ⟨pl1, c6, c7, rfl, rfl, hp1, hl1⟩
      obtain ⟨hi', rfl⟩ := rangeV_at hv
      obtain ⟨pl2, d7, p1, p2, p3⟩ := place_step h hN hp1 (by omega) hx hk (i := i) (by omega) n pre fv c7 a8 a9 a10 a11 a12 a13 a14
      refine ⟨[some b, some (.int N), some (.ref pre.length), some (.int (k : Nat)), some (.str x), fv, some (.int (0 + (i : Nat))), c7, a8, a9, a10, a11, a12, a13, a14], rfl, ?_⟩
      rw [show (0 : Int) + (i : Nat) = (i : Nat) by omega]
      exact ⟨_, _, p3, pl2, _, _, rfl, rfl, p1, by omega⟩)
  refine ⟨pl', c6, c7, e3, ?_, ?_⟩
  · have : (rangeV 0 c).length = c := by simp [rangeV]
    rw [this] at e4
    omega
  · subst e1 e2
    unfold b__law_world_l2
    rw [e_for, hit, sbind_ok]
    exact h1
/-- all drawn places -/
theorem places_all (hks : ∃ ks, b = .tup ks ∧ ks.length ≤ 4 ∧ ∀ r ∈ ks, ∃ x f, r = .tup [.str x, f] ∧ x ∈ namesOf b) (n : Nat) (pre : Sto) (a3 a4 a5 a6 a7 a8 a9 a10 a11 a12 a13 a14 : Option Val) :
    ∃ pl c3 c4 c5 c6 c7, Plc b pl ∧ pl.length ≤ 13 ∧ forF (itA1 enumQ (consF (varF 0) nilF)) (tupG 2 (consG (nameG 3) (consG (tupG 2 (consG (nameG 4) (consG (nameG 5) nilG))) nilG))) (b__law_world_l2 (Fn (n + 1))) [some b, some (.int N), some (.ref pre.length), a3, a4, a5, a6, a7, a8, a9, a10, a11, a12, a13, a14] (pre ++ [.lst [tiVal (s_Root, 0)]])
      = .nx [some b, some (.int N), some (.ref pre.length), c3, c4, c5, c6, c7, a8, a9, a10, a11, a12, a13, a14] (pre ++ [.lst (pl.map tiVal)]) := by
  obtain ⟨ks, eb, hk4, hform⟩ := hks
  have hroot : s_Root ∈ namesOf b := root_in h.book
  obtain ⟨ρ', m', h1, ⟨pl, c3, c4, c5, c6, c7, e1, e2, e3, e4⟩⟩ := for_run (g := tupG 2 (consG (nameG 3) (consG (tupG 2 (consG (nameG 4) (consG (nameG 5) nilG))) nilG))) (b := b__law_world_l2 (Fn (n + 1)))
    (fun i ρ m => ∃ pl c3 c4 c5 c6 c7, ρ = [some b, some (.int N), some (.ref pre.length), c3, c4, c5, c6, c7, a8, a9, a10, a11, a12, a13, a14] ∧ m = pre ++ [.lst (pl.map tiVal)] ∧ Plc b pl ∧ pl.length ≤ 1 + 3 * i)
    (vs := numb ks) (ρ := [some b, some (.int N), some (.ref pre.length), a3, a4, a5, a6, a7, a8, a9, a10, a11, a12, a13, a14]) (m := pre ++ [.lst [tiVal (s_Root, 0)]]) (k := 0)
    ⟨[(s_Root, 0)], _, _, _, _, _, rfl, rfl, ⟨by simp, by simp, fun p hp => by rw [List.mem_singleton] at hp; subst hp; exact ⟨hroot, by simp, by simp⟩⟩, by simp⟩ (by
      rintro i v hv ρ m ⟨pl1, c3, c4, c5, c6, c7, rfl, rfl, hp1, hl1⟩
      have hi4 : i < ks.length := by
        have := (List.getElem?_eq_some_iff.mp hv).1
        rwa [numb_len] at this
      obtain ⟨r, hr, rfl⟩ := numb_at hv
      obtain ⟨x, f, rfl, hx⟩ := hform r (List.mem_of_getElem? hr)
      obtain ⟨pl2, d6, d7, p1, p2, p3⟩ := places_kind h hN hp1 (by omega) hx (k := i) (by omega) n pre (some f) c6 c7 a8 a9 a10 a11 a12 a13 a14
      refine ⟨[some b, some (.int N), some (.ref pre.length), some (.int (i : Nat)), some (.str x), some f, c6, c7, a8, a9, a10, a11, a12, a13, a14], by simp [tupG, consG, nilG], ?_⟩
      exact ⟨_, _, p3, pl2, _, _, _, _, _, rfl, rfl, p1, by omega⟩)
  refine ⟨pl, c3, c4, c5, c6, c7, e3, ?_, ?_⟩
  · rw [numb_len] at e4
    omega
  · subst e1 e2
    subst eb
    simp [e_for, enumQ, itemsQ]
    exact h1
end
end LW

-- part L02M10
namespace LW
open G
/-! ### sorted places -/
theorem dataLt_ti (a b : TI) : PySem.W.dataLt (toPy (tiVal a)) (toPy (tiVal b)) = ltT a b := by
  obtain ⟨x, i⟩ := a
  obtain ⟨y, j⟩ := b
  show PySem.W.dataLt (toPy (.tup [.str x, .int i])) (toPy (.tup [.str y, .int j])) = (decide (x < y) || (decide (x = y) && decide (i < j)))
  simp only [toPy, toPyL]
  rw [PySem.W.dataLt_pair (by simp [PySem.W.alike]) (by simp [PySem.W.alike]), PySem.W.dataLt_int, PySem.W.dataLt_str]
  simp only [PySem.PyData.eqv, beq_iff_eq]
  by_cases h : x = y
  · subst h
    have h0 : ¬ x < x := List.lt_irrefl x
    by_cases h2 : i = j
    · subst h2; simp [h0]
    · simp [h2, h0]
  · have hne : ¬ (⟨x.toArray⟩ : PySem.Str) = ⟨y.toArray⟩ := fun e => h (by
      have := congrArg (fun s : PySem.Str => s.cps.toList) e
      simpa using this)
    simp [h, hne]
theorem leT_not (a b : TI) : leT a b = !ltT b a := by
  cases hb : ltT b a with
  | true =>
    cases ha : leT a b with
    | false => rfl
    | true =>
      have := leT_antisymm ha (leT_of_lt hb)
      subst this
      exact absurd hb (ltT_irr _)
  | false =>
    have ht := leT_total a b
    rw [Bool.or_eq_true] at ht
    rcases ht with ht | ht
    · rw [ht]; rfl
    · by_cases e : b = a
      · subst e; rw [ht]; rfl
      · rw [ltT_of_le ht e] at hb; cases hb
theorem sortV_ti (ps : List TI) : sortV (ps.map tiVal) = (sortT ps).map tiVal := by
  unfold sortV sortT
  symm
  apply List.map_mergeSort
  intro a _ c _
  show leT a c = !PySem.W.dataLt (toPy (tiVal c)) (toPy (tiVal a))
  rw [dataLt_ti, leT_not]
theorem sortOk_ti {ps : List TI} (h : ∀ p ∈ ps, gd (.str p.1) = true) : sortOk (ps.map tiVal) = true := by
  unfold sortOk
  simp only [Bool.and_eq_true, Bool.or_eq_true, List.all_eq_true]
  refine ⟨⟨fun v hv => ?_, fun v hv u hu => ?_⟩, .inl fun v hv => ?_⟩
  · obtain ⟨p, hp, rfl⟩ := List.mem_map.mp hv
    exact ti_gd (h p hp)
  · obtain ⟨p, hp, rfl⟩ := List.mem_map.mp hv
    obtain ⟨q, hq, rfl⟩ := List.mem_map.mp hu
    simp [tiVal, toPy, toPyL, PySem.W.alike, PySem.W.alikeAll]
  · obtain ⟨p, hp, rfl⟩ := List.mem_map.mp hv
    rfl
theorem sorted_places {ps : List TI} (h : ∀ p ∈ ps, gd (.str p.1) = true) (hl : ps.length ≤ 100) {m : Sto} {j : Nat} (hj : m[j]? = some (.lst (ps.map tiVal))) : sortedA [.ref j] m = .ok (.lst ((sortT ps).map tiVal)) m := by
  have : ps.length ≤ 16777216 := by omega
  simp [sortedA, asD, hj, sortedV, asL, sortOk_ti h, this, sortV_ti]
theorem sort_gdn5 {ns : List Val} : ∀ {d : Nat} {s : Val}, sortS ns d s = true → gd s = true → gdn d s = true := by
  intro d
  induction d with
  | zero => intro s h; simp [sortS] at h
  | succ d ih =>
    intro s h hg
    rcases sort_forms h with ⟨x, rfl, hx⟩ | ⟨t, w, k, hk, rfl, ht, hw⟩
    · rw [gd_str] at hg; rw [gdn_str]; exact hg
    · have : k = d := by omega
      subst this
      refine gdn_tup fun v hv => ?_
      simp only [List.mem_cons, List.not_mem_nil, or_false] at hv
      rcases hv with rfl | rfl
      · have := gd_tup_mem hg (x := .str t) (by simp)
        rw [gd_str] at this; rw [gdn_str]; exact this
      · exact ih hw (gd_tup_mem hg (by simp))
section
variable {b : Val} (h : WB b) {N : Int} (hN : Drw N) {pl : List TI} (hp : Plc b pl) (hl : pl.length ≤ 13)
include h hN hp hl
theorem sort_mem (p : TI) : p ∈ sortT pl ↔ p ∈ pl := (List.mergeSort_perm ..).mem_iff
theorem sort_rise : riseT (sortT pl) = true := by
  rw [riseT_pw]
  have h2 : (sortT pl).Nodup := (List.mergeSort_perm ..).nodup_iff.mpr hp.nd
  exact (List.pairwise_and_iff.mpr ⟨sortT_pw pl, h2⟩).imp fun h => ltT_of_le h.1 h.2
/-- the places as the world tells them -/
theorem self_root (nm : List Nat) {s : Val} (gn : gd (.str nm) = true) (gs : gdn 5 s = true) (m : Sto) : ∃ q : Bool, eqV (.tup [.str nm, s]) (.tup [.str s_self, .str s_Root]) m = .ok (.bl q) m ∧ (q = true → s = .str s_Root) := by
  have g1 : gd (.tup [.str nm, s]) = true := by
    refine gdn_gd (n := 5 + 1) (gdn_tup fun v hv => ?_) (by omega)
    simp only [List.mem_cons, List.not_mem_nil, or_false] at hv
    rcases hv with rfl | rfl
    · rw [gd_str] at gn; rw [gdn_str]; exact gn
    · exact gs
  refine ⟨_, eqV_gd g1 (by decide), fun hq => ?_⟩
  simp only [veq, veqL, Bool.and_eq_true] at hq
  have h2 := hq.2.1
  cases s <;> simp [veq] at h2 ⊢
  exact h2
theorem field_step (n : Nat) {m : Sto} {j : Nat} (hj : m[j]? = some (.lst (pl.map tiVal))) {x : List Nat} (hx : x ∈ namesOf b) {f : Val} (hf : f ∈ fieldsOf b x) (at' k : Nat) (ha : at' < 50) (hk : k < 10) (a3 a4 a5 a6 a7 a8 a11 a12 a13 a14 : Option Val) {us : List Val} (hu : us.length < 100) :
    ∃ p c14 nm s tk, f = .tup [.str nm, s, tk] ∧ pairS ((sortT pl).map tiVal) f p = true ∧ rowS 2 2 p = true ∧ Ti 6 p ∧
      b__law_world_l3 (Fn (n + 6)) [some b, some (.int N), some (.ref j), some (.int (k : Nat)), a4, a5, a6, a7, a8, some (.int (at' : Nat)), some (.tup us), some (.str nm), some s, some tk, a14] m
        = .nx [some b, some (.int N), some (.ref j), some (.int (k : Nat)), a4, a5, a6, a7, a8, some (.int (at' : Nat)), some (.tup (us ++ [p])), some (.str nm), some s, some tk, c14] m := by
  obtain ⟨hall, _, _, _⟩ := fields_all (fields_get h.book hx).2
  obtain ⟨nm, s, ts, hF⟩ := fieldF (hall f hf)
  have hgf := field_gd h hx f hf
  have he := hF.eq
  subst he
  have gs := gd_tup_mem hgf (x := s) (by simp)
  have gs5 : gdn 5 s = true := gdn_mono (sort_gdn5 hF.sort gs) (by omega)
  have hdr := drawn_at hN (k := 60 + 6 * at' + k) (by omega) (n + 5) m
  have ekk : ((60 + 6 * at' + k : Nat) : Int) = 60 + 6 * (at' : Int) + (k : Int) := by omega
  rw [ekk] at hdr
  have hmul : mulV (.int 6) (.int (at' : Nat)) m = .ok (.int (6 * (at' : Nat))) m := mulV_int (mulOk_small (by omega) (by omega) (by omega) (by omega))
  obtain ⟨v, v1, v2, v3⟩ := law_value_ok (ns := (namesOf b).map Val.str) h.ns (by omega) (fun p hm => (hp.ok p hm).2) (plc_gd h hN hp) (pl' := (sortT pl).map tiVal) (fun p hm => by rw [any_ti, decide_eq_true ((sort_mem h hN hp hl p).mpr hm)]) 4 n (by omega) hF.sort gs (drw_div (drawnN_drw N (60 + 6 * at' + k)) (show (0 : Int) < 4 by omega))
  have h3 := v3 m j hj
  rw [show n + 4 + 2 = n + 6 by omega] at h3
  have htr := trimR_gd (m := m) (v2.gd (by omega))
  obtain ⟨q, q1, q2⟩ := self_root h hN hp hl nm (word_gd' hF.word) gs5 m
  have hlen : us.length + 1 ≤ 16777216 := by omega
  have hw : wordS (.str nm) = true := hF.word
  cases q with
  | true =>
    have es := q2 rfl
    subst es
    refine ⟨.tup [.str nm, .int 0], some (.int 0), nm, _, .tup ts, rfl, ?_, by simp, ?_, ?_⟩
    · show (decide (Val.str nm = .str nm) && valueS ((sortT pl).map tiVal) (.str s_Root) (.int 0)) = true
      rw [valueS_str, if_neg (show ¬ Val.str s_Root ∈ bases by decide)]
      have := any_ti (pl := sortT pl) (p := (s_Root, 0))
      rw [decide_eq_true ((sort_mem h hN hp hl _).mpr hp.root)] at this
      have e : ((sortT pl).map tiVal).any (fun z => veq z (.tup [.str s_Root, .int 0])) = true := this
      rw [e]
      simp [wholeS]
    · refine Ti.tup (by simp) fun u hu => ?_
      simp only [List.mem_cons, List.not_mem_nil, or_false] at hu
      rcases hu with rfl | rfl
      · exact Ti.str (word_tmi hw)
      · exact ⟨by rw [tmi_int]; omega, by simp [dep]⟩
    · unfold b__law_world_l3
      simp [hmul, hdr, divV_int, h3, htr, q1, addV, hlen]
  | false =>
    refine ⟨.tup [.str nm, v], some v, nm, s, .tup ts, rfl, ?_, by simp, ?_, ?_⟩
    · show (decide (Val.str nm = .str nm) && valueS ((sortT pl).map tiVal) s v) = true
      rw [v1]; simp
    · refine Ti.tup (by simp) fun u hu => ?_
      simp only [List.mem_cons, List.not_mem_nil, or_false] at hu
      rcases hu with rfl | rfl
      · exact Ti.str (word_tmi hw)
      · exact v2.mono (by omega)
    · unfold b__law_world_l3
      simp [hmul, hdr, divV_int, h3, htr, q1, addV, hlen]
end
end LW

-- part L02M11
namespace LW
open G
/-- a thing that is drawn at a place -/
structure ThD (b : Val) (pl' : List Val) (p : TI) (t : Val) (us : List Val) : Prop where
  eq : t = .tup [.str p.1, .int p.2, .tup us]
  len : (fieldsOf b p.1).length = us.length
  each : ∀ (i : Nat) f u, (fieldsOf b p.1)[i]? = some f → us[i]? = some u → pairS pl' f u = true
  row : ∀ u ∈ us, rowS 2 2 u = true ∧ Ti 6 u
theorem ThD.vals {b : Val} {pl' : List Val} {p : TI} {t : Val} {us : List Val} (h : ThD b pl' p t us) : valsS pl' (fieldsOf b p.1) us = true := by
  unfold valsS
  rw [h.len]
  simp only [decide_true, Bool.true_and]
  rw [List.all_eq_true]
  rintro ⟨f, u⟩ hm
  obtain ⟨i, hi, e⟩ := List.getElem_of_mem hm
  rw [List.getElem_zip] at e
  rw [List.length_zip] at hi
  cases e
  exact h.each i _ _ (List.getElem?_eq_getElem (by omega)) (List.getElem?_eq_getElem (by omega))
section
variable {b : Val} (h : WB b) {N : Int} (hN : Drw N) {pl : List TI} (hp : Plc b pl) (hl : pl.length ≤ 13)
include h hN hp hl
theorem thing_step (n : Nat) {m : Sto} {j : Nat} (hj : m[j]? = some (.lst (pl.map tiVal))) {p : TI} (hpm : p ∈ sortT pl) (at' : Nat) (ha : at' < 50) (a3 a4 a5 a6 a10 a11 a12 a13 a14 : Option Val) {found : List Val} (hu : found.length < 100) :
    ∃ t us c3 c10 c11 c12 c13 c14, ThD b ((sortT pl).map tiVal) p t us ∧
      b__law_world_l4 (Fn (n + 6)) [some b, some (.int N), some (.ref j), a3, a4, a5, a6, some (tiVal p), some (.tup found), some (.int (at' : Nat)), a10, a11, a12, a13, a14] m
        = .nx [some b, some (.int N), some (.ref j), c3, a4, a5, a6, some (tiVal p), some (.tup (found ++ [t])), some (.int (at' : Nat)), c10, c11, c12, c13, c14] m := by
  have hx := (hp.ok p ((sort_mem h hN hp hl p).mp hpm)).1
  obtain ⟨hall, _, hl5, _⟩ := fields_all (fields_get h.book hx).2
  obtain ⟨ρ', m', h1, ⟨us, c3, c11, c12, c13, c14, e1, e2, e3, e4, e5⟩⟩ := for_run (g := tupG 2 (consG (nameG 3) (consG (tupG 3 (consG (nameG 11) (consG (nameG 12) (consG (nameG 13) nilG)))) nilG))) (b := b__law_world_l3 (Fn (n + 6)))
    (fun i ρ m' => ∃ us c3 c11 c12 c13 c14, ρ = [some b, some (.int N), some (.ref j), c3, a4, a5, a6, some (tiVal p), some (.tup found), some (.int (at' : Nat)), some (.tup us), c11, c12, c13, c14] ∧ m' = m ∧ us.length = i ∧
      (∀ (t : Nat) f u, t < i → (fieldsOf b p.1)[t]? = some f → us[t]? = some u → pairS ((sortT pl).map tiVal) f u = true) ∧ ∀ u ∈ us, rowS 2 2 u = true ∧ Ti 6 u)
    (vs := numb (fieldsOf b p.1)) (ρ := [some b, some (.int N), some (.ref j), a3, a4, a5, a6, some (tiVal p), some (.tup found), some (.int (at' : Nat)), some (.tup []), a11, a12, a13, a14]) (m := m) (k := 0)
    ⟨[], _, _, _, _, _, rfl, rfl, rfl, fun t f u ht => by omega, by simp⟩ (by
      rintro i v hv ρ m' ⟨us, c3, c11, c12, c13, c14, rfl, rfl, hul, he, hr⟩
      have hi5 : i < (fieldsOf b p.1).length := by
        have := (List.getElem?_eq_some_iff.mp hv).1
        rwa [numb_len] at this
      obtain ⟨f, hf, rfl⟩ := numb_at hv
      obtain ⟨u, d14, nm, s, tk, rfl, f1, f2, f3, f4⟩ := field_step h hN hp hl n hj hx (List.mem_of_getElem? hf) at' i ha (by omega) none a4 a5 a6 (some (tiVal p)) (some (.tup found)) none none none c14 (us := us) (by omega)
      refine ⟨[some b, some (.int N), some (.ref j), some (.int (i : Nat)), a4, a5, a6, some (tiVal p), some (.tup found), some (.int (at' : Nat)), some (.tup us), some (.str nm), some s, some tk, c14], by simp [tupG, consG, nilG], ?_⟩
      refine ⟨_, _, f4, us ++ [u], _, _, _, _, _, rfl, rfl, by simp [hul], fun t f' u' ht hf' hu' => ?_, fun u' hu' => ?_⟩
      · by_cases hti : t < us.length
        · rw [List.getElem?_append_left hti] at hu'
          exact he t f' u' (by omega) hf' hu'
        · have : t = us.length := by omega
          subst this
          rw [List.getElem?_append_right (Nat.le_refl _)] at hu'
          simp at hu'
          subst hu'
          have : us.length = i := by omega
          rw [this, hf] at hf'
          cases hf'
          exact f1
      · rcases List.mem_append.mp hu' with hu' | hu'
        · exact hr u' hu'
        · rw [List.mem_singleton.mp hu']; exact ⟨f2, f3⟩)
  rw [numb_len, Nat.zero_add] at e3 e4
  subst e1 e2
  refine ⟨.tup [.str p.1, .int p.2, .tup us], us, c3, some (.tup us), c11, c12, c13, c14, ⟨rfl, e3.symm, fun i f u hf hu => e4 i f u ((List.getElem?_eq_some_iff.mp hf).1) hf hu, e5⟩, ?_⟩
  have hlen : found.length + 1 ≤ 16777216 := by omega
  unfold b__law_world_l4
  simp [e_for, enumQ, itemsQ, dict_ok h.book, tiVal, fields_at h.book hx]
  rw [show (Val.tup [.str p.1, .int p.2]) = tiVal p from rfl, h1]
  simp [tiVal, addV, hlen]
/-- the world that is drawn -/
theorem things_ok (n : Nat) {m : Sto} {j : Nat} (hj : m[j]? = some (.lst (pl.map tiVal))) (a3 a4 a5 a6 a7 a9 a10 a11 a12 a13 a14 : Option Val) :
    ∃ vs c3 c7 c9 c10 c11 c12 c13 c14, vs.length = (sortT pl).length ∧ (∀ (i : Nat) p t, (sortT pl)[i]? = some p → vs[i]? = some t → ∃ us, ThD b ((sortT pl).map tiVal) p t us) ∧
      forF (itA1 enumQ (consF (callF sortedA (consF (varF 2) nilF)) nilF)) (tupG 2 (consG (nameG 9) (consG (nameG 7) nilG))) (b__law_world_l4 (Fn (n + 6))) [some b, some (.int N), some (.ref j), a3, a4, a5, a6, a7, some (.tup []), a9, a10, a11, a12, a13, a14] m
        = .nx [some b, some (.int N), some (.ref j), c3, a4, a5, a6, c7, some (.tup vs), c9, c10, c11, c12, c13, c14] m := by
  have hsl : (sortT pl).length = pl.length := (List.mergeSort_perm ..).length_eq
  obtain ⟨ρ', m', h1, ⟨vs, c3, c7, c9, c10, c11, c12, c13, c14, e1, e2, e3, e4⟩⟩ := for_run (g := tupG 2 (consG (nameG 9) (consG (nameG 7) nilG))) (b := b__law_world_l4 (Fn (n + 6)))
    (fun i ρ m' => ∃ vs c3 c7 c9 c10 c11 c12 c13 c14, ρ = [some b, some (.int N), some (.ref j), c3, a4, a5, a6, c7, some (.tup vs), c9, c10, c11, c12, c13, c14] ∧ m' = m ∧ vs.length = i ∧
      (∀ (t : Nat) p v, t < i → (sortT pl)[t]? = some p → vs[t]? = some v → ∃ us, ThD b ((sortT pl).map tiVal) p v us))
    (vs := numb ((sortT pl).map tiVal)) (ρ := [some b, some (.int N), some (.ref j), a3, a4, a5, a6, a7, some (.tup []), a9, a10, a11, a12, a13, a14]) (m := m) (k := 0)
    ⟨[], _, _, _, _, _, _, _, _, rfl, rfl, rfl, fun t p v ht => by omega⟩ (by
      rintro i v hv ρ m' ⟨vs, c3, c7, c9, c10, c11, c12, c13, c14, rfl, rfl, hul, he⟩
      have hi5 : i < (sortT pl).length := by
        have := (List.getElem?_eq_some_iff.mp hv).1
        rwa [numb_len, List.length_map] at this
      obtain ⟨f, hf, rfl⟩ := numb_at hv
      rw [List.getElem?_map, Option.map_eq_some_iff] at hf
      obtain ⟨p, hpi, rfl⟩ := hf
      obtain ⟨t, us, d3, d10, d11, d12, d13, d14, t1, t2⟩ := thing_step h hN hp hl n hj (List.mem_of_getElem? hpi) i (by omega) c3 a4 a5 a6 c10 c11 c12 c13 c14 (found := vs) (by omega)
      refine ⟨[some b, some (.int N), some (.ref j), c3, a4, a5, a6, some (tiVal p), some (.tup vs), some (.int (i : Nat)), c10, c11, c12, c13, c14], by simp [tupG, consG, nilG], ?_⟩
      refine ⟨_, _, t2, vs ++ [t], _, _, _, _, _, _, _, _, rfl, rfl, by simp [hul], fun t' p' v' ht hp' hv' => ?_⟩
      by_cases hti : t' < vs.length
      · rw [List.getElem?_append_left hti] at hv'
        exact he t' p' v' (by omega) hp' hv'
      · have : t' = vs.length := by omega
        subst this
        rw [List.getElem?_append_right (Nat.le_refl _)] at hv'
        simp at hv'
        subst hv'
        have : vs.length = i := by omega
        rw [this, hpi] at hp'
        cases hp'
        exact ⟨us, t1⟩)
  rw [numb_len, List.length_map, Nat.zero_add] at e3 e4
  subst e1 e2
  refine ⟨vs, c3, c7, c9, c10, c11, c12, c13, c14, e3, fun i p t hpi ht => e4 i p t (List.getElem?_eq_some_iff.mp hpi).1 hpi ht, ?_⟩
  have hso := sorted_places (m := m') (j := j) (plc_gd h hN hp) (by omega) hj
  simp [e_for, hso, enumQ, itemsQ, itemsV]
  exact h1
end
end LW

-- part L02M12
namespace LW
open G
theorem all4_tmi : ∀ x ∈ all4, tmi (.str x) = true := by decide +kernel
theorem two_size : (2 ≤ PySem.sizeLine) = True := by simp [PySem.sizeLine]
theorem one_size : (1 ≤ PySem.sizeLine) = True := by simp [PySem.sizeLine]
theorem law_world_ok {b : Val} (h : WB b) (hks : ∃ ks, b = .tup ks ∧ ks.length ≤ 4 ∧ ∀ r ∈ ks, ∃ x f, r = .tup [.str x, f] ∧ x ∈ namesOf b) {N : Int} (hN : Drw N) (n : Nat) (m : Sto) :
    ∃ vs m', worldS b (.tup vs) = true ∧ vs.length ≤ 13 ∧ Ti 9 (.tup vs) ∧ m'.take m.length = m ∧ Fn (n + 7) ._law_world [b, .int N] m = .ok (.tup vs) m' := by
  obtain ⟨pl, c3, c4, c5, c6, c7, hp, hl, h1⟩ := places_all h hN hks (n + 5) m none none none none none none none none none none none none
  have hj : (m ++ [.lst (pl.map tiVal)] : Sto)[m.length]? = some (.lst (pl.map tiVal)) := by simp
  obtain ⟨vs, d3, d7, d9, d10, d11, d12, d13, d14, v1, v2, v3⟩ := things_ok h hN hp hl n hj c3 c4 c5 c6 c7 none none none none none none
  have hsl : (sortT pl).length = pl.length := (List.mergeSort_perm ..).length_eq
  have each : ∀ v ∈ vs, ∃ p us, p ∈ sortT pl ∧ ThD b ((sortT pl).map tiVal) p v us ∧ tiAt v = p := by
    intro v hv
    obtain ⟨i, hi, rfl⟩ := List.mem_iff_getElem.mp hv
    have hi' : i < (sortT pl).length := by omega
    obtain ⟨us, hu⟩ := v2 i _ _ (List.getElem?_eq_getElem hi') (List.getElem?_eq_getElem hi)
    exact ⟨_, us, List.getElem_mem hi', hu, by rw [hu.eq]; rfl⟩
  have htis : vs.map tiAt = sortT pl := by
    apply List.ext_getElem (by simpa using v1)
    intro i h1 h2
    rw [List.getElem_map]
    obtain ⟨us, hu⟩ := v2 i _ _ (List.getElem?_eq_getElem h2) (List.getElem?_eq_getElem (by omega))
    rw [hu.eq]; rfl
  have hplo : plOf vs = (sortT pl).map tiVal := by unfold plOf; rw [htis]
  refine ⟨vs, m ++ [.lst (pl.map tiVal)], ?_, by omega, Ti.tup (by omega) fun v hv => ?_, by simp, ?_⟩
  · rw [worldS_tup]
    simp only [Bool.and_eq_true, List.all_eq_true]
    refine ⟨fun v hv => ?_, ?_, ?_, fun v hv => ?_⟩
    · obtain ⟨p, us, hpm, hu, -⟩ := each v hv
      obtain ⟨a1, a2, a3⟩ := hp.ok p ((sort_mem h hN hp hl p).mp hpm)
      rw [hu.eq]
      unfold placeS
      simp only [Bool.and_eq_true, decide_eq_true_eq, List.all_eq_true]
      exact ⟨a1, by simp [wholeS]; exact ⟨a2, a3⟩, fun u hm => (hu.row u hm).1⟩
    · rw [htis]; exact sort_rise h hN hp hl
    · unfold rootIn
      rw [hplo]
      have := any_ti (pl := sortT pl) (p := (s_Root, 0))
      rw [decide_eq_true ((sort_mem h hN hp hl _).mpr hp.root)] at this
      exact this
    · obtain ⟨p, us, hpm, hu, ht⟩ := each v hv
      rw [ht, hplo]
      have : valsAt v = us := by rw [hu.eq]; rfl
      rw [this]
      exact hu.vals
  · obtain ⟨p, us, hpm, hu, -⟩ := each v hv
    obtain ⟨a1, a2, a3⟩ := hp.ok p ((sort_mem h hN hp hl p).mp hpm)
    rw [hu.eq]
    obtain ⟨_, _, hl5, _⟩ := fields_all (fields_get h.book a1).2
    refine Ti.tup (d := 7) (by simp) fun u hm => ?_
    simp only [List.mem_cons, List.not_mem_nil, or_false] at hm
    rcases hm with rfl | rfl | rfl
    · exact Ti.str (all4_tmi p.1 (h.known _ a1))
    · exact ⟨by rw [tmi_int]; omega, by simp [dep]⟩
    · exact Ti.tup (by have := hu.len; omega) fun w hw => (hu.row w hw).2
  · rw [show n + 7 = n + 6 + 1 from rfl, Fn__law_world, e_body, b__law_world]
    rw [show n + 5 + 1 = n + 6 from rfl] at h1
    unfold t__law_world_2 t__law_world_3 t__law_world_4 t__law_world_5
    simp only [List.map_cons, List.map_nil, List.length_cons, List.length_nil, List.cons_append, List.nil_append, List.replicate, Nat.reduceSub, Nat.reduceAdd, Nat.zero_add]
    have e0 : (tiVal (s_Root, 0)) = Val.tup [.str s_Root, .int 0] := rfl
    rw [e0] at h1
    simp only [e_seq, e_asg, e_lstN, e_cons, e_tup, e_con, e_nil, Res.bind_ok, List.length_cons, List.length_nil, Nat.zero_add, Nat.reduceAdd, two_size, one_size, Nat.zero_le, if_true, sbind_ok, e_name, asgR_some, seqR_nx, List.set_cons_succ, List.set_cons_zero, h1, v3, e_ret, e_var, List.getElem?_cons_zero, List.getElem?_cons_succ]
    try rfl
end LW

-- part L02M13
namespace LW
open G
def sorts6 : List Val := [.tup [.str s_many, .str s_number], .str s_number, .str s_text, .tup [.str s_must, .str s_truth], .str s_Root, .tup [.str s_many, .tup [.str s_many, .str s_text]]]
def bookE (s : Val) : Val := .tup [.tup [.str s_Root, .tup [.tup [.str s_a, s, .tup []]]]]
theorem bookE_ok : ∀ s ∈ sorts6, bookS (bookE s) = true ∧ gd (bookE s) = true ∧ namesOf (bookE s) = [s_Root] := by decide +kernel
theorem bookE_wb {s : Val} (h : s ∈ sorts6) : WB (bookE s) := by
  obtain ⟨h1, h2, h3⟩ := bookE_ok s h
  exact ⟨h1, h2, fun x hx => by rw [h3, List.mem_singleton] at hx; subst hx; decide⟩
def vals16 (r r2 : Nat) : List Val := [.non, .tup [.str s_x21, .str s_abcd], .tup [.str s_x21, .str s_abcde], .tup (List.replicate (3 + r) (.int 1)), .int (998 + r), .bl true, .int 0, .int 1,
  .str (s_abcdef.take (5 + r2) ++ s_g), .str s_nil, .str s_A, .int (-998 - r), .tup [], .tup [.tup [], .tup [.str s_a]], .tup [.str s_x21, .str s_no], .tup [.str s_x21]]
theorem vals16_ok : ∀ r : Nat, r < 3 → ∀ r2 : Nat, r2 < 2 → ∀ v ∈ vals16 r r2, (tmb 20 20 v && decide (dep v ≤ 3)) = true := by decide +kernel
def worldE (v l : Val) : List Val := [.tup [.str s_Root, .int 0, .tup [.tup [.str s_a, v]]], .tup [.str s_Root, l, .tup [.tup [.str s_a, .non]]]]
theorem mul_rep {m : Sto} : ∀ r : Nat, r < 3 → mulV (.tup [.int 1]) (.int (3 + (r : Nat))) m = .ok (.tup (List.replicate (3 + r) (.int 1))) m := by
  intro r hr
  rcases (show r = 0 ∨ r = 1 ∨ r = 2 by omega) with rfl | rfl | rfl <;> simp [mulV] <;> rfl
theorem edges2_ok (n : Nat) {N : Int} (hN : Drw N) (m : Sto) : ∃ s ∈ sorts6, ∃ v l : Val, (tmb 20 20 v && decide (dep v ≤ 3)) = true ∧ (∃ i : Int, l = .int i) ∧
    Fn (n + 1) ._law_edges_v2 [.int N] m = .ok (.lst [.tup [bookE s, .tup (worldE v l)], .tup [bookE s, .tup ((worldE v l).drop 1)], .tup [bookE s, .tup ((worldE v l).take 1)]]) m := by
  obtain ⟨s, s1, s2⟩ := atI_mod (xs := sorts6) (i := N) (k := 6) rfl (by omega)
  obtain ⟨r, hr, hr3⟩ : ∃ r : Nat, N / 8 % 3 = r ∧ r < 3 := ⟨(N / 8 % 3).toNat, by have := mod_lt (a := N / 8) (show (0 : Int) < 3 by omega); omega, by have := mod_lt (a := N / 8) (show (0 : Int) < 3 by omega); omega⟩
  obtain ⟨r2, hr2, hr22⟩ : ∃ r : Nat, N / 8 % 2 = r ∧ r < 2 := ⟨(N / 8 % 2).toNat, by have := mod_lt (a := N / 8) (show (0 : Int) < 2 by omega); omega, by have := mod_lt (a := N / 8) (show (0 : Int) < 2 by omega); omega⟩
  obtain ⟨v, v1, v2⟩ := atI_mod (xs := vals16 r r2) (i := N / 64) (k := 16) rfl (by omega)
  refine ⟨s, s2, v, .int (19 + N / 8192 % 3), vals16_ok r hr3 r2 hr22 v v2, ⟨_, rfl⟩, ?_⟩
  have hmr := mul_rep (m := m) r hr3
  have hcut : slcV (.str s_abcdef) none (some (5 + (r2 : Int))) m = .ok (.str (s_abcdef.take (5 + r2))) m := by
    rw [slcV_str (by decide), show (5 : Int) + (r2 : Int) = ((5 + r2 : Nat) : Int) by omega, cut_to]
  have hadd : addV (.str (s_abcdef.take (5 + r2))) (.str s_g) m = .ok (.str (s_abcdef.take (5 + r2) ++ s_g)) m := by
    have : (s_abcdef.take (5 + r2)).length + s_g.length ≤ 16777216 := by
      have : (s_abcdef.take (5 + r2)).length ≤ 6 := by rw [List.length_take]; exact Nat.min_le_right _ _
      have h2 : s_g.length = 1 := rfl
      omega
    simp only [addV, sz_eq]
    rw [if_pos this]
  unfold sorts6 at s1
  unfold vals16 at v1
  rw [Fn__law_edges_v2, e_body, b__law_edges_v2]
  unfold t__law_edges_v2_2 t__law_edges_v2_3 t__law_edges_v2_4 t__law_edges_v2_5 t__law_edges_v2_6 t__law_edges_v2_7 t__law_edges_v2_8 t__law_edges_v2_9
  simp [modV_int, divV_int, s1, hr, hr2, hmr, hcut, hadd, addV, v1, bookE, worldE]
  intro hb
  have e1 : s_abcdef.length = 6 := rfl
  have e2 : s_g.length = 1 := rfl
  rw [e1, e2] at hb
  omega
end LW

-- part L02M
namespace LW
open G
theorem refs_lst {n : Nat} {xs : List Val} (h : ∀ x ∈ xs, refsLt n x = true) : refsLt n (.lst xs) = true := by
  rw [refsLt]
  induction xs with
  | nil => rw [refsLtL]
  | cons x xs ih => rw [refsLtL, h x (by simp), ih fun y hy => h y (by simp [hy])]; rfl
/-- a book and a thing of which is_world and the law tell the same -/
def Askd (t : Val) : Prop := ∃ b w, t = .tup [b, w] ∧ WB b ∧ gd w = true ∧ lens w = true ∧ (∀ vs, w = .tup vs → vs.length < 64) ∧ refsLt 0 t = true
theorem same_ok {b w : Val} (hb : WB b) (hw : gd w = true) (hz : lens w = true) (hl : ∀ vs, w = .tup vs → vs.length < 64) (m : Sto) : Fn 39 .is_world [b, w] m = .ok (.bl (worldS b w)) m ∧ Fn 39 ._law_is_world [b, w] m = .ok (.bl (worldS b w)) m := by
  by_cases hs : isTup w = true
  · obtain ⟨vs, rfl⟩ := isTup_iff.mp hs
    exact ⟨is_world_ok hb hw hz (hl vs rfl) 30 m, law_is_world_ok hb hw hz (hl vs rfl) 30 m⟩
  · rw [worldS_not hs]
    exact ⟨is_world_not 38 hw hs m, law_is_world_not 38 hw hs m⟩
theorem worldE_facts {v l : Val} (hv : (tmb 20 20 v && decide (dep v ≤ 3)) = true) (hl : ∃ i : Int, l = .int i) : ∀ w ∈ [Val.tup (worldE v l), .tup ((worldE v l).drop 1), .tup ((worldE v l).take 1)], tmb 20 20 w = true ∧ dep w ≤ 8 := by
  obtain ⟨i, rfl⟩ := hl
  simp only [Bool.and_eq_true, decide_eq_true_eq] at hv
  have hs : tmb 20 20 (.str s_Root) = true ∧ tmb 20 20 (.str s_a) = true := by decide
  have t1 : tmb 20 20 (.tup [.str s_Root, .int 0, .tup [.tup [.str s_a, v]]]) = true := by simp [tmb_tup, hs.1, hs.2, hv.1]
  have t2 : tmb 20 20 (.tup [.str s_Root, .int i, .tup [.tup [.str s_a, .non]]]) = true := by simp [tmb_tup, hs.1, hs.2]
  have d1 : dep (.tup [.str s_Root, .int 0, .tup [.tup [.str s_a, v]]]) ≤ 7 := by simp [dep, depL]; omega
  have d2 : dep (.tup [.str s_Root, .int i, .tup [.tup [.str s_a, .non]]]) ≤ 7 := by simp [dep, depL]
  intro w hw
  simp only [List.mem_cons, List.not_mem_nil, or_false] at hw
  rcases hw with rfl | rfl | rfl
  · refine ⟨tmb_tup.mpr ⟨by simp [worldE], fun x hx => ?_⟩, dep_tup.mpr fun x hx => ?_⟩ <;> simp only [worldE, List.mem_cons, List.not_mem_nil, or_false] at hx <;> rcases hx with rfl | rfl <;> assumption
  · refine ⟨tmb_tup.mpr ⟨by simp [worldE], fun x hx => ?_⟩, dep_tup.mpr fun x hx => ?_⟩ <;> simp only [worldE, List.drop_succ_cons, List.drop_zero, List.mem_cons, List.not_mem_nil, or_false] at hx <;> subst hx <;> assumption
  · refine ⟨tmb_tup.mpr ⟨by simp [worldE], fun x hx => ?_⟩, dep_tup.mpr fun x hx => ?_⟩ <;> simp only [worldE, List.take_succ_cons, List.take_zero, List.mem_cons, List.not_mem_nil, or_false] at hx <;> subst hx <;> assumption
theorem askd_of {b w : Val} (hb : WB b) (hbr : refsLt 0 b = true) (t : tmb 20 20 w = true) (hd : dep w ≤ 50) : Askd (.tup [b, w]) := by
  have hg := tmb_gd (L := 20) (S := 20) (by omega) t (by omega)
  refine ⟨b, w, rfl, hb, hg, tmb_lens (L := 20) (S := 20) (by omega) t, fun vs e => ?_, ?_⟩
  · subst e; have := (tmb_tup.mp t).1; omega
  · rw [refsLt, refsLtL, refsLtL, refsLtL, hbr, gd_refs 0 hg]; rfl
theorem law_true (ns : List Int) (_h : ns.length ≤ 63) (hb : ∀ z ∈ ns, PySem.Builtin.Int.intBits z ≤ 1048576) : ∃ m, Fn 40 .law_v2 [.scr ns] [] = .ok (.bl true) m := by
  rw [Fn_law_v2 39, e_body, b_law_v2]
  obtain ⟨N0, d0, m0⟩ := mixed_ok 37 ns hb 0 (by omega)
  obtain ⟨N1, d1, m1⟩ := mixed_ok 37 ns hb 1 (by omega)
  obtain ⟨N2, d2, m2⟩ := mixed_ok 37 ns hb 2 (by omega)
  obtain ⟨N3, d3, m3⟩ := mixed_ok 37 ns hb 3 (by omega)
  obtain ⟨N4, d4, m4⟩ := mixed_ok 37 ns hb 4 (by omega)
  obtain ⟨b, mb, hB, v4, v5⟩ := law_book_ok 37 N1 d1 []
  have hgb : gd b = true := gdn_gd hB.gd (by omega)
  have hwb : WB b := ⟨hB.book, hgb, fun x hx => names_all4 hB hx⟩
  have hks : ∃ ks, b = .tup ks ∧ ks.length ≤ 4 ∧ ∀ r ∈ ks, ∃ x f, r = .tup [.str x, f] ∧ x ∈ namesOf b := by
    obtain ⟨ks, hF⟩ := bookF hB.book
    refine ⟨ks, hF.eq, hF.few, fun r hr => ?_⟩
    obtain ⟨y, g, rfl, _⟩ := hF.form r hr
    exact ⟨y, g, rfl, by rw [hF.names]; exact List.mem_map.mpr ⟨_, hr, rfl⟩⟩
  obtain ⟨vs, mw, w1, w2, w3, w4, w5⟩ := law_world_ok hwb hks d2 32 []
  generalize hW : Val.tup vs = W at w1 w3 w5
  have gW := w3.gd (by omega)
  have tW : tmb 20 20 W = true := tmb_mono (by omega) (by omega) (tmi_tmb w3.1)
  have hl64 : ∀ us, W = .tup us → us.length < 64 := fun us e => by rw [← hW] at e; cases e; omega
  obtain ⟨s, s1, v, l, ev, el, e5⟩ := edges2_ok 38 d4 []
  have hE := worldE_facts ev el
  obtain ⟨k, hk⟩ : ∃ k : Nat, N0 / 4 % 6 = k := ⟨(N0 / 4 % 6).toNat, by have := mod_lt (a := N0 / 4) (show (0 : Int) < 6 by omega); omega⟩
  have hk5 : k ≤ 5 := by have := mod_lt (a := N0 / 4) (show (0 : Int) < 6 by omega); omega
  obtain ⟨u, u1, u2, u3⟩ := spoilti_ok k (37 - k) W N3 9 (by omega) w3.1 w3.2 (by omega) d3
  rw [show 37 - k + k + 2 = 39 by omega] at u3
  have tb : trimR [] (.ok b mb) = .ok b [] := trimR_cut v4 (gd_refs 0 hgb)
  have tw : trimR [] (.ok W mw) = .ok W [] := trimR_cut w4 (gd_refs 0 gW)
  have hsame := (same_ok hwb gW w3.lens hl64 []).1
  rw [w1] at hsame
  obtain ⟨b1, b2, b3⟩ := bookE_ok s s1
  have eW := bookE_wb s1
  have hrE := gd_refs 0 b2
  have hAll : ∀ t ∈ [Val.tup [bookE s, .tup (worldE v l)], .tup [bookE s, .tup ((worldE v l).drop 1)], .tup [bookE s, .tup ((worldE v l).take 1)]], Askd t := by
    intro t ht
    simp only [List.mem_cons, List.not_mem_nil, or_false] at ht
    rcases ht with rfl | rfl | rfl
    · exact askd_of eW hrE (hE _ (by simp)).1 (by have := (hE _ (by simp : Val.tup (worldE v l) ∈ _)).2; omega)
    · exact askd_of eW hrE (hE _ (by simp)).1 (by have := (hE _ (by simp : Val.tup ((worldE v l).drop 1) ∈ _)).2; omega)
    · exact askd_of eW hrE (hE _ (by simp)).1 (by have := (hE _ (by simp : Val.tup ((worldE v l).take 1) ∈ _)).2; omega)
  generalize hes : [Val.tup [bookE s, .tup (worldE v l)], .tup [bookE s, .tup ((worldE v l).drop 1)], .tup [bookE s, .tup ((worldE v l).take 1)]] = es at e5 hAll
  have hel : es.length = 3 := by rw [← hes]; rfl
  have esT : refsLt 0 (.lst es) = true := by
    refine refs_lst fun t ht => ?_
    obtain ⟨_, _, _, _, _, _, _, hr⟩ := hAll t ht
    exact hr
  have te : trimR [] (.ok (.lst es) []) = .ok (.lst es) [] := trimR_refs esT
  have m0' := m0 []
  have m1' := m1 []
  have m2' := m2 []
  have m3' := m3 []
  have m4' := m4 []
  simp only [show ((0 : Nat) : Int) = 0 from rfl, show ((1 : Nat) : Int) = 1 from rfl, show ((2 : Nat) : Int) = 2 from rfl, show ((3 : Nat) : Int) = 3 from rfl, show ((4 : Nat) : Int) = 4 from rfl] at m0' m1' m2' m3' m4'
  refine ⟨[], ?_⟩
  simp only [List.map_cons, List.map_nil, List.length_cons, List.length_nil, List.cons_append, List.nil_append, List.replicate, Nat.reduceSub, Nat.reduceAdd, Nat.zero_add]
  simp only [e_seq, e_asg, e_def, e_cons, e_nil, e_var, e_con, List.getElem?_cons_zero, List.getElem?_cons_succ, Res.bind_ok, List.length_cons, List.length_nil, Nat.zero_add, Nat.reduceAdd, if_true, m0', trimR_int, sbind_ok, e_name, asgR_some, seqR_nx, List.set_cons_succ, List.set_cons_zero]
  unfold t_law_v2_2
  simp only [e_seq, e_asg, e_def, e_cons, e_nil, e_var, e_con, List.getElem?_cons_zero, List.getElem?_cons_succ, Res.bind_ok, List.length_cons, List.length_nil, Nat.zero_add, Nat.reduceAdd, if_true, m1', trimR_int, v5, tb, sbind_ok, e_name, asgR_some, seqR_nx, List.set_cons_succ, List.set_cons_zero]
  unfold t_law_v2_3
  simp only [e_seq, e_asg, e_def, e_cons, e_nil, e_var, e_con, List.getElem?_cons_zero, List.getElem?_cons_succ, Res.bind_ok, List.length_cons, List.length_nil, Nat.zero_add, Nat.reduceAdd, if_true, m2', trimR_int, w5, tw, sbind_ok, e_name, asgR_some, seqR_nx, List.set_cons_succ, List.set_cons_zero]
  have t4 : ∀ ρ : Env, ρ[2]? = some (some b) → ρ[3]? = some (some W) → t_law_v2_4 (Fn 39) ρ [] = t_law_v2_5 (Fn 39) ρ [] := fun ρ h2 h3 => by
    unfold t_law_v2_4
    simp [h2, h3, hsame, isNotV, isBl]
  rw [t4 _ rfl rfl]
  have t5 : ∃ x, tmb 20 20 x = true ∧ dep x ≤ 10 ∧ t_law_v2_5 (Fn 39) [some (.scr ns), some (.int N0), some b, some W, none, none, none] [] = t_law_v2_6 (Fn 39) [some (.scr ns), some (.int N0), some b, some x, none, none, none] [] := by
    unfold t_law_v2_5
    by_cases h : 0 < N0 % 3
    · have u3' := u3 []
      have tu : tmb 20 20 u = true := tmb_mono (by omega) (by omega) u1
      have ht := trimR_gd (m := []) (tmb_gd (L := 20) (S := 20) (by omega) tu (by omega))
      exact ⟨u, tu, by omega, by simp [modV_int, h, divV_int, hk, m3', u3', ht]⟩
    · exact ⟨W, tW, by have := w3.2; omega, by simp [modV_int, h]⟩
  obtain ⟨x, x1, x2, t5⟩ := t5
  rw [t5]
  unfold t_law_v2_6
  have hx : Askd (.tup [b, x]) := askd_of hwb (gd_refs 0 hgb) x1 (by omega)
  have hit : (itF itemsA (bin2 addV (defF 1 (Fn 39 ._law_edges_v2) (consF (defF 2 (Fn 39 ._law_mixed) (consF (varF 0) (consF (conF (.int 4)) nilF))) nilF)) (lstF (consF (tupF (consF (varF 2) (consF (varF 3) nilF))) nilF)))) [some (.scr ns), some (.int N0), some b, some x, none, none, none] [] = .ok (es ++ [.tup [b, x]], none) [] := by
    have hlen : es.length + 1 ≤ 16777216 := by omega
    simp [m4', e5, te, addV, asL, hlen, itemsA, itemsQ, itemsV]
  have hgo := for_check (g := tupG 2 (consG (nameG 4) (consG (nameG 5) nilG))) (b := b_law_v2_l1 (Fn 39)) (m := []) (r := .bl false) (fun ρ => ∃ a4 a5 a6, ρ = [some (Val.scr ns), some (.int N0), some b, some x, a4, a5, a6]) (fun _ => true) (vs := es ++ [.tup [b, x]]) (ρ := [some (.scr ns), some (.int N0), some b, some x, none, none, none]) ⟨_, _, _, rfl⟩ (by
      rintro t ht ρ ⟨a4, a5, a6, rfl⟩
      have hA : Askd t := by
        rcases List.mem_append.mp ht with h | h
        · exact hAll t h
        · rw [List.mem_singleton.mp h]; exact hx
      obtain ⟨c, w, rfl, c1, c2, c3, c4, c5⟩ := hA
      obtain ⟨r1, r2⟩ := same_ok c1 c2 c3 c4 []
      refine ⟨[some (Val.scr ns), some (.int N0), some b, some x, some c, some w, a6], by simp [tupG, consG, nilG], .inl ⟨rfl, [some (Val.scr ns), some (.int N0), some b, some x, some c, some w, some (.bl (worldS c w))], ⟨_, _, _, rfl⟩, ?_⟩⟩
      unfold b_law_v2_l1
      simp [r1, r2, isi_bool, neV_gd, isBool, veq])
  rcases hgo with ⟨-, ρ2, -, h⟩ | ⟨h, -⟩
  · rw [e_seq, e_for, hit, sbind_ok, h, seqR_nx]
    unfold t_law_v2_7
    simp
  · simp at h
end LW

-- part LWW
namespace LW
open PySem L2 RZ G

def top (i : Nat) : Stmt := PySem.Challenge.pw_shapedasks_k02_worlds.main.body.getD i (.Pass ⟨0, 0, 0, 0⟩)
theorem hs_abcdefghijklmnopqrstuvwxyz : (Str.ofString "abcdefghijklmnopqrstuvwxyz" : Str) = ⟨(s_abcdefghijklmnopqrstuvwxyz : List Nat).toArray⟩ := by decide +kernel
theorem hs_number : (Str.ofString "number" : Str) = ⟨(s_number : List Nat).toArray⟩ := by decide +kernel
theorem hs_text : (Str.ofString "text" : Str) = ⟨(s_text : List Nat).toArray⟩ := by decide +kernel
theorem hs_truth : (Str.ofString "truth" : Str) = ⟨(s_truth : List Nat).toArray⟩ := by decide +kernel
theorem hs_must : (Str.ofString "must" : Str) = ⟨(s_must : List Nat).toArray⟩ := by decide +kernel
theorem hs_many : (Str.ofString "many" : Str) = ⟨(s_many : List Nat).toArray⟩ := by decide +kernel
theorem hs_Root : (Str.ofString "Root" : Str) = ⟨(s_Root : List Nat).toArray⟩ := by decide +kernel
theorem hs_first : (Str.ofString "first" : Str) = ⟨(s_first : List Nat).toArray⟩ := by decide +kernel
theorem hs_skip : (Str.ofString "skip" : Str) = ⟨(s_skip : List Nat).toArray⟩ := by decide +kernel
theorem hs_plus : (Str.ofString "plus" : Str) = ⟨(s_plus : List Nat).toArray⟩ := by decide +kernel
theorem hs_A : (Str.ofString "A" : Str) = ⟨(s_A : List Nat).toArray⟩ := by decide +kernel
theorem hs_Bc : (Str.ofString "Bc" : Str) = ⟨(s_Bc : List Nat).toArray⟩ := by decide +kernel
theorem hs_Zed : (Str.ofString "Zed" : Str) = ⟨(s_Zed : List Nat).toArray⟩ := by decide +kernel
theorem hs_v : (Str.ofString "v" : Str) = ⟨(s_v : List Nat).toArray⟩ := by decide +kernel
theorem hs_self : (Str.ofString "self" : Str) = ⟨(s_self : List Nat).toArray⟩ := by decide +kernel
theorem hs_age : (Str.ofString "age" : Str) = ⟨(s_age : List Nat).toArray⟩ := by decide +kernel
theorem hs_k : (Str.ofString "k" : Str) = ⟨(s_k : List Nat).toArray⟩ := by decide +kernel
theorem hs_name : (Str.ofString "name" : Str) = ⟨(s_name : List Nat).toArray⟩ := by decide +kernel
theorem hs_of : (Str.ofString "of" : Str) = ⟨(s_of : List Nat).toArray⟩ := by decide +kernel
theorem hs_tags : (Str.ofString "tags" : Str) = ⟨(s_tags : List Nat).toArray⟩ := by decide +kernel
theorem hs_w : (Str.ofString "w" : Str) = ⟨(s_w : List Nat).toArray⟩ := by decide +kernel
theorem hs_a : (Str.ofString "a" : Str) = ⟨(s_a : List Nat).toArray⟩ := by decide +kernel
theorem hs_1 : (Str.ofString "1" : Str) = ⟨(s_1 : List Nat).toArray⟩ := by decide +kernel
theorem hs_nil : (Str.ofString "" : Str) = ⟨(s_nil : List Nat).toArray⟩ := by decide +kernel
theorem hs_piece : (Str.ofString "piece" : Str) = ⟨(s_piece : List Nat).toArray⟩ := by decide +kernel
theorem hs_x21 : (Str.ofString "!" : Str) = ⟨(s_x21 : List Nat).toArray⟩ := by decide +kernel
theorem hs_hole : (Str.ofString "hole" : Str) = ⟨(s_hole : List Nat).toArray⟩ := by decide +kernel
theorem hs_n : (Str.ofString "n" : Str) = ⟨(s_n : List Nat).toArray⟩ := by decide +kernel
theorem hs_abcd : (Str.ofString "abcd" : Str) = ⟨(s_abcd : List Nat).toArray⟩ := by decide +kernel
theorem hs_abcde : (Str.ofString "abcde" : Str) = ⟨(s_abcde : List Nat).toArray⟩ := by decide +kernel
theorem hs_abcdef : (Str.ofString "abcdef" : Str) = ⟨(s_abcdef : List Nat).toArray⟩ := by decide +kernel
theorem hs_lost : (Str.ofString "lost" : Str) = ⟨(s_lost : List Nat).toArray⟩ := by decide +kernel
theorem hs_late : (Str.ofString "late" : Str) = ⟨(s_late : List Nat).toArray⟩ := by decide +kernel
theorem hs_no : (Str.ofString "no" : Str) = ⟨(s_no : List Nat).toArray⟩ := by decide +kernel
theorem hs_abcdefg : (Str.ofString "abcdefg" : Str) = ⟨(s_abcdefg : List Nat).toArray⟩ := by decide +kernel
theorem hs_nt : (Str.ofString "nt" : Str) = ⟨(s_nt : List Nat).toArray⟩ := by decide +kernel
theorem hs_g : (Str.ofString "g" : Str) = ⟨(s_g : List Nat).toArray⟩ := by decide +kernel
/-- where a def stands -/
structure At (K : PySem.W.Frag) (mg : Str → Option Value) (x : Str) (st : Stmt) (ps : List Str) : Prop where
  ex : ∃ f fd, Fun K x x st f fd ∧ mg x = some (.ref f) ∧ PySem.W.keepIn K (.ref f) = true ∧ Binds K fd ps []
structure Facts (K : PySem.W.Frag) (mg : Str → Option Value) : Prop where
  blt : Blt mg
  g_BASES : GlobV K mg "BASES" (.wt [(.str s_number), (.str s_text), (.str s_truth)])
  g_FAR : GlobV K mg "FAR" (.int 999)
  g_FAULT : GlobV K mg "FAULT" (.str s_x21)
  g_LAST_THING : GlobV K mg "LAST_THING" (.int 20)
  g_LETTERS : GlobV K mg "LETTERS" (.str s_abcdefghijklmnopqrstuvwxyz)
  g_MOST_MANY : GlobV K mg "MOST_MANY" (.int 4)
  g_MOST_TEXT : GlobV K mg "MOST_TEXT" (.int 6)
  g_MOST_WORD : GlobV K mg "MOST_WORD" (.int 4)
  g_MUST : GlobV K mg "MUST" (.str s_must)
  g_NUMBER : GlobV K mg "NUMBER" (.str s_number)
  g_ROOT : GlobV K mg "ROOT" (.str s_Root)
  g_TRUTH : GlobV K mg "TRUTH" (.str s_truth)
  f_is_word : At K mg "is_word" (top 11) ["thing"]
  f_is_whole : At K mg "is_whole" (top 12) ["thing", "low", "high"]
  f_is_worth : At K mg "is_worth" (top 13) ["base", "thing"]
  f_rises : At K mg "rises" (top 14) ["row"]
  f_is_bad : At K mg "is_bad" (top 19) ["thing"]
  f_is_value : At K mg "is_value" (top 20) ["sort", "thing", "places"]
  f_is_place : At K mg "is_place" (top 21) ["book", "thing"]
  f_are_values : At K mg "are_values" (top 22) ["fields", "pairs", "places"]
  f_is_world : At K mg "is_world" (top 23) ["book", "thing"]
  f__law_cell_at : At K mg "_law_cell_at" (top 25) ["_law_script", "_law_k"]
  f__law_mixed : At K mg "_law_mixed" (top 26) ["_law_script", "_law_k"]
  f__law_drawn : At K mg "_law_drawn" (top 27) ["_law_number_here", "_law_k"]
  f__law_takes : At K mg "_law_takes" (top 28) ["_law_sort_here", "_law_number_here"]
  f__law_sort : At K mg "_law_sort" (top 29) ["_law_number_here", "_law_names"]
  f__law_book : At K mg "_law_book" (top 30) ["_law_number_here"]
  f__law_value : At K mg "_law_value" (top 31) ["_law_sort_here", "_law_number_here", "_law_places"]
  f__law_world : At K mg "_law_world" (top 32) ["_law_book_here", "_law_number_here"]
  f__law_is_word : At K mg "_law_is_word" (top 33) ["_law_thing"]
  f__law_number : At K mg "_law_number" (top 35) ["_law_thing", "_law_low", "_law_high"]
  f__law_is_worth : At K mg "_law_is_worth" (top 36) ["_law_base", "_law_thing"]
  f__law_is_row : At K mg "_law_is_row" (top 37) ["_law_thing", "_law_least", "_law_most"]
  f__law_is_value : At K mg "_law_is_value" (top 38) ["_law_sort_here", "_law_thing", "_law_places"]
  f__law_is_world : At K mg "_law_is_world" (top 39) ["_law_book_here", "_law_thing"]
  f__law_spoilt : At K mg "_law_spoilt" (top 40) ["_law_thing", "_law_number_here", "_law_deep"]
  f__law_edges_v2 : At K mg "_law_edges" (top 41) ["_law_number_here"]
  f_law_v2 : At K mg "law" (top 42) ["_law_script"]
structure Alls (P : Program) (w : World) (K : PySem.W.Frag) (mg : Str → Option Value) (base : Heap) (n : Nat) : Prop where
  is_word : DefOk P w K mg base n "is_word" 1 (Fn n .is_word)
  is_whole : DefOk P w K mg base n "is_whole" 3 (Fn n .is_whole)
  is_worth : DefOk P w K mg base n "is_worth" 2 (Fn n .is_worth)
  rises : DefOk P w K mg base n "rises" 1 (Fn n .rises)
  is_bad : DefOk P w K mg base n "is_bad" 1 (Fn n .is_bad)
  is_value : DefOk P w K mg base n "is_value" 3 (Fn n .is_value)
  is_place : DefOk P w K mg base n "is_place" 2 (Fn n .is_place)
  are_values : DefOk P w K mg base n "are_values" 3 (Fn n .are_values)
  is_world : DefOk P w K mg base n "is_world" 2 (Fn n .is_world)
  _law_cell_at : DefOk P w K mg base n "_law_cell_at" 2 (Fn n ._law_cell_at)
  _law_mixed : DefOk P w K mg base n "_law_mixed" 2 (Fn n ._law_mixed)
  _law_drawn : DefOk P w K mg base n "_law_drawn" 2 (Fn n ._law_drawn)
  _law_takes : DefOk P w K mg base n "_law_takes" 2 (Fn n ._law_takes)
  _law_sort : DefOk P w K mg base n "_law_sort" 2 (Fn n ._law_sort)
  _law_book : DefOk P w K mg base n "_law_book" 1 (Fn n ._law_book)
  _law_value : DefOk P w K mg base n "_law_value" 3 (Fn n ._law_value)
  _law_world : DefOk P w K mg base n "_law_world" 2 (Fn n ._law_world)
  _law_is_word : DefOk P w K mg base n "_law_is_word" 1 (Fn n ._law_is_word)
  _law_number : DefOk P w K mg base n "_law_number" 3 (Fn n ._law_number)
  _law_is_worth : DefOk P w K mg base n "_law_is_worth" 2 (Fn n ._law_is_worth)
  _law_is_row : DefOk P w K mg base n "_law_is_row" 3 (Fn n ._law_is_row)
  _law_is_value : DefOk P w K mg base n "_law_is_value" 3 (Fn n ._law_is_value)
  _law_is_world : DefOk P w K mg base n "_law_is_world" 2 (Fn n ._law_is_world)
  _law_spoilt : DefOk P w K mg base n "_law_spoilt" 3 (Fn n ._law_spoilt)
  _law_edges_v2 : DefOk P w K mg base n "_law_edges" 1 (Fn n ._law_edges_v2)
  law_v2 : DefOk P w K mg base n "law" 1 (Fn n .law_v2)
theorem sc_is_word : FnScope ["thing", "sign"] ["thing"] (defScope (top 11)) := ⟨rfl, rfl, rfl, by decide +kernel, rfl, by decide +kernel, by decide +kernel⟩
theorem eb_is_word {P : Program} {w : World} {K : PySem.W.Frag} {mg : Str → Option Value} {base : Heap} {n : Nat} (T : Facts K mg) (D : Alls P w K mg base n) {f : Addr} (cdv : Value) (A : Around) (outer : List PySem.Env) (s : Shared) (H : Hp) (E : XK) (cx : Ctx (XOf P w K mg base ["thing", "sign"] "is_word" (top 11) f cdv A outer s H E) E n) (hp : PassesOwn (model P w) (XOf P w K mg base ["thing", "sign"] "is_word" (top 11) f cdv A outer s H E).A (XOf P w K mg base ["thing", "sign"] "is_word" (top 11) f cdv A outer s H E).env (XOf P w K mg base ["thing", "sign"] "is_word" (top 11) f cdv A outer s H E).xe) : EB (XOf P w K mg base ["thing", "sign"] "is_word" (top 11) f cdv A outer s H E) E (defBody (top 11)) (b_is_word (Fn n)) := by
  have g := cx.toGood
  delta b_is_word
  exact (eb_one (es_ret (ee_and (ee_isi g (ee_var 0) PyProof.Rows.boot_str T.blt.str) (ee_and (ec2 (cLe) (cLe) ee_int (ee_blt (bLen g) (ea_cons (ee_var 0) ea_nil)) (ee_glob T.g_MOST_WORD)) (ee_one (ee_blt (bAll g) (ea_cons (ee_lc g (ei_any (ee_var 0)) (own := [("sign", 1)]) (by kernel_rfl) (grd_name 1) (fun s H C cl fp => have cx1 := fun u0 u1 => Ctx.blk cx s H u0 u1 fp; have g1 := fun u0 u1 => (cx1 u0 u1).toGood; (pg_n (g1 _ _))) (fun s H C cl fp => have cx1 := fun u0 u1 => Ctx.blk cx s H u0 u1 fp; have g1 := fun u0 u1 => (cx1 u0 u1).toGood; eps_nil) (fun s H C cl fp => have cx1 := fun u0 u1 => Ctx.blk cx s H u0 u1 fp; have g1 := fun u0 u1 => (cx1 u0 u1).toGood; (ec ((cIn (g1 _ _))) (ee_var 1) (ee_glob T.g_LETTERS)))) ea_nil)))))))
theorem ok_is_word {P : Program} {w : World} {K : PySem.W.Frag} {mg : Str → Option Value} {base : Heap} {n : Nat} (T : Facts K mg) (D : Alls P w K mg base n) : DefOk P w K mg base (n + 1) "is_word" 1 (Fn (n + 1) .is_word) := by
  obtain ⟨f, fd, F, h1, h2, h3⟩ := T.f_is_word.ex
  exact ⟨f, fd, _, def_ok F sc_is_word T.blt fun cdv A outer s H E cx hp => eb_is_word T D cdv A outer s H E cx hp, h1, h2, h3⟩
theorem sc_is_whole : FnScope ["thing", "low", "high"] ["thing", "low", "high"] (defScope (top 12)) := ⟨rfl, rfl, rfl, by decide +kernel, rfl, by decide +kernel, by decide +kernel⟩
theorem eb_is_whole {P : Program} {w : World} {K : PySem.W.Frag} {mg : Str → Option Value} {base : Heap} {n : Nat} (T : Facts K mg) (D : Alls P w K mg base n) {f : Addr} (cdv : Value) (A : Around) (outer : List PySem.Env) (s : Shared) (H : Hp) (E : XK) (cx : Ctx (XOf P w K mg base ["thing", "low", "high"] "is_whole" (top 12) f cdv A outer s H E) E n) (hp : PassesOwn (model P w) (XOf P w K mg base ["thing", "low", "high"] "is_whole" (top 12) f cdv A outer s H E).A (XOf P w K mg base ["thing", "low", "high"] "is_whole" (top 12) f cdv A outer s H E).env (XOf P w K mg base ["thing", "low", "high"] "is_whole" (top 12) f cdv A outer s H E).xe) : EB (XOf P w K mg base ["thing", "low", "high"] "is_whole" (top 12) f cdv A outer s H E) E (defBody (top 12)) (b_is_whole (Fn n)) := by
  have g := cx.toGood
  delta b_is_whole
  exact (eb_one (es_ret (ee_and (ee_isi g (ee_var 0) PyProof.Rows.boot_int T.blt.int) (ee_and (ee_not (ee_isi g (ee_var 0) PyProof.Rows.boot_bool T.blt.bool)) (ee_one (ec2 (cLe) (cLe) (ee_var 1) (ee_var 0) (ee_var 2)))))))
theorem ok_is_whole {P : Program} {w : World} {K : PySem.W.Frag} {mg : Str → Option Value} {base : Heap} {n : Nat} (T : Facts K mg) (D : Alls P w K mg base n) : DefOk P w K mg base (n + 1) "is_whole" 3 (Fn (n + 1) .is_whole) := by
  obtain ⟨f, fd, F, h1, h2, h3⟩ := T.f_is_whole.ex
  exact ⟨f, fd, _, def_ok F sc_is_whole T.blt fun cdv A outer s H E cx hp => eb_is_whole T D cdv A outer s H E cx hp, h1, h2, h3⟩
theorem sc_is_worth : FnScope ["base", "thing", "sign"] ["base", "thing"] (defScope (top 13)) := ⟨rfl, rfl, rfl, by decide +kernel, rfl, by decide +kernel, by decide +kernel⟩
theorem eb_is_worth {P : Program} {w : World} {K : PySem.W.Frag} {mg : Str → Option Value} {base : Heap} {n : Nat} (T : Facts K mg) (D : Alls P w K mg base n) {f : Addr} (cdv : Value) (A : Around) (outer : List PySem.Env) (s : Shared) (H : Hp) (E : XK) (cx : Ctx (XOf P w K mg base ["base", "thing", "sign"] "is_worth" (top 13) f cdv A outer s H E) E n) (hp : PassesOwn (model P w) (XOf P w K mg base ["base", "thing", "sign"] "is_worth" (top 13) f cdv A outer s H E).A (XOf P w K mg base ["base", "thing", "sign"] "is_worth" (top 13) f cdv A outer s H E).env (XOf P w K mg base ["base", "thing", "sign"] "is_worth" (top 13) f cdv A outer s H E).xe) : EB (XOf P w K mg base ["base", "thing", "sign"] "is_worth" (top 13) f cdv A outer s H E) E (defBody (top 13)) (b_is_worth (Fn n)) := by
  have g := cx.toGood
  delta b_is_worth
  exact (eb_cons (es_if (tc (cEq g) (ee_var 0) (ee_glob T.g_NUMBER)) (eb_one (es_ret (ee_def cx D.is_whole (ea_cons (ee_var 1) (ea_cons (ee_negE (ee_glob T.g_FAR)) (ea_cons (ee_glob T.g_FAR) ea_nil)))))) eb_nil)
  (eb_cons (es_if (tc (cEq g) (ee_var 0) (ee_glob T.g_TRUTH)) (eb_one (es_ret (ee_isi g (ee_var 1) PyProof.Rows.boot_bool T.blt.bool))) eb_nil)
  (eb_one (es_ret (ee_and (ee_isi g (ee_var 1) PyProof.Rows.boot_str T.blt.str) (ee_and (ec (cLe) (ee_blt (bLen g) (ea_cons (ee_var 1) ea_nil)) (ee_glob T.g_MOST_TEXT)) (ee_one (ee_blt (bAll g) (ea_cons (ee_lc g (ei_any (ee_var 1)) (own := [("sign", 2)]) (by kernel_rfl) (grd_name 2) (fun s H C cl fp => have cx1 := fun u0 u1 => Ctx.blk cx s H u0 u1 fp; have g1 := fun u0 u1 => (cx1 u0 u1).toGood; (pg_n (g1 _ _))) (fun s H C cl fp => have cx1 := fun u0 u1 => Ctx.blk cx s H u0 u1 fp; have g1 := fun u0 u1 => (cx1 u0 u1).toGood; eps_nil) (fun s H C cl fp => have cx1 := fun u0 u1 => Ctx.blk cx s H u0 u1 fp; have g1 := fun u0 u1 => (cx1 u0 u1).toGood; (ec ((cIn (g1 _ _))) (ee_var 2) (ee_glob T.g_LETTERS)))) ea_nil)))))))))
theorem ok_is_worth {P : Program} {w : World} {K : PySem.W.Frag} {mg : Str → Option Value} {base : Heap} {n : Nat} (T : Facts K mg) (D : Alls P w K mg base n) : DefOk P w K mg base (n + 1) "is_worth" 2 (Fn (n + 1) .is_worth) := by
  obtain ⟨f, fd, F, h1, h2, h3⟩ := T.f_is_worth.ex
  exact ⟨f, fd, _, def_ok F sc_is_worth T.blt fun cdv A outer s H E cx hp => eb_is_worth T D cdv A outer s H E cx hp, h1, h2, h3⟩
theorem sc_rises : FnScope ["row", "one", "other"] ["row"] (defScope (top 14)) := ⟨rfl, rfl, rfl, by decide +kernel, rfl, by decide +kernel, by decide +kernel⟩
theorem eb_rises {P : Program} {w : World} {K : PySem.W.Frag} {mg : Str → Option Value} {base : Heap} {n : Nat} (T : Facts K mg) (D : Alls P w K mg base n) {f : Addr} (cdv : Value) (A : Around) (outer : List PySem.Env) (s : Shared) (H : Hp) (E : XK) (cx : Ctx (XOf P w K mg base ["row", "one", "other"] "rises" (top 14) f cdv A outer s H E) E n) (hp : PassesOwn (model P w) (XOf P w K mg base ["row", "one", "other"] "rises" (top 14) f cdv A outer s H E).A (XOf P w K mg base ["row", "one", "other"] "rises" (top 14) f cdv A outer s H E).env (XOf P w K mg base ["row", "one", "other"] "rises" (top 14) f cdv A outer s H E).xe) : EB (XOf P w K mg base ["row", "one", "other"] "rises" (top 14) f cdv A outer s H E) E (defBody (top 14)) (b_rises (Fn n)) := by
  have g := cx.toGood
  delta b_rises
  exact (eb_one (es_ret (ee_blt (bAll g) (ea_cons (ee_lc g (ei_zip g (ea_cons (ee_slice (ee_var 0) eo_none (eo_some ee_neg)) (ea_cons (ee_slice (ee_var 0) (eo_some ee_int) eo_none) ea_nil))) (own := [("one", 1), ("other", 2)]) (by kernel_rfl) (grd_tup (grds_cons (grd_name 1) (grds_cons (grd_name 2) grds_nil))) (fun s H C cl fp => have cx1 := fun u0 u1 => Ctx.blk cx s H u0 u1 fp; have g1 := fun u0 u1 => (cx1 u0 u1).toGood; (pg_t (g1 _ _) (pgs_cons (pg_n (g1 _ _)) (pgs_cons (pg_n (g1 _ _)) pgs_nil)))) (fun s H C cl fp => have cx1 := fun u0 u1 => Ctx.blk cx s H u0 u1 fp; have g1 := fun u0 u1 => (cx1 u0 u1).toGood; eps_nil) (fun s H C cl fp => have cx1 := fun u0 u1 => Ctx.blk cx s H u0 u1 fp; have g1 := fun u0 u1 => (cx1 u0 u1).toGood; (ec (cLt (g1 _ _)) (ee_var 1) (ee_var 2)))) ea_nil))))
theorem ok_rises {P : Program} {w : World} {K : PySem.W.Frag} {mg : Str → Option Value} {base : Heap} {n : Nat} (T : Facts K mg) (D : Alls P w K mg base n) : DefOk P w K mg base (n + 1) "rises" 1 (Fn (n + 1) .rises) := by
  obtain ⟨f, fd, F, h1, h2, h3⟩ := T.f_rises.ex
  exact ⟨f, fd, _, def_ok F sc_rises T.blt fun cdv A outer s H E cx hp => eb_rises T D cdv A outer s H E cx hp, h1, h2, h3⟩
theorem sc_is_bad : FnScope ["thing"] ["thing"] (defScope (top 19)) := ⟨rfl, rfl, rfl, by decide +kernel, rfl, by decide +kernel, by decide +kernel⟩
theorem eb_is_bad {P : Program} {w : World} {K : PySem.W.Frag} {mg : Str → Option Value} {base : Heap} {n : Nat} (T : Facts K mg) (D : Alls P w K mg base n) {f : Addr} (cdv : Value) (A : Around) (outer : List PySem.Env) (s : Shared) (H : Hp) (E : XK) (cx : Ctx (XOf P w K mg base ["thing"] "is_bad" (top 19) f cdv A outer s H E) E n) (hp : PassesOwn (model P w) (XOf P w K mg base ["thing"] "is_bad" (top 19) f cdv A outer s H E).A (XOf P w K mg base ["thing"] "is_bad" (top 19) f cdv A outer s H E).env (XOf P w K mg base ["thing"] "is_bad" (top 19) f cdv A outer s H E).xe) : EB (XOf P w K mg base ["thing"] "is_bad" (top 19) f cdv A outer s H E) E (defBody (top 19)) (b_is_bad (Fn n)) := by
  have g := cx.toGood
  delta b_is_bad
  exact (eb_one (es_ret (ee_and (ee_isi g (ee_var 0) PyProof.Rows.boot_tuple T.blt.tuple) (ee_and (ec (cEq g) (ee_blt (bLen g) (ea_cons (ee_var 0) ea_nil)) ee_int) (ee_and (ec (cEq g) (ee_ix g (ee_var 0) ee_int) (ee_glob T.g_FAULT)) (ee_one (ee_def cx D.is_word (ea_cons (ee_ix g (ee_var 0) ee_int) ea_nil))))))))
theorem ok_is_bad {P : Program} {w : World} {K : PySem.W.Frag} {mg : Str → Option Value} {base : Heap} {n : Nat} (T : Facts K mg) (D : Alls P w K mg base n) : DefOk P w K mg base (n + 1) "is_bad" 1 (Fn (n + 1) .is_bad) := by
  obtain ⟨f, fd, F, h1, h2, h3⟩ := T.f_is_bad.ex
  exact ⟨f, fd, _, def_ok F sc_is_bad T.blt fun cdv A outer s H E cx hp => eb_is_bad T D cdv A outer s H E cx hp, h1, h2, h3⟩
theorem sc_is_value : FnScope ["sort", "thing", "places", "part"] ["sort", "thing", "places"] (defScope (top 20)) := ⟨rfl, rfl, rfl, by decide +kernel, rfl, by decide +kernel, by decide +kernel⟩
theorem eb_is_value {P : Program} {w : World} {K : PySem.W.Frag} {mg : Str → Option Value} {base : Heap} {n : Nat} (T : Facts K mg) (D : Alls P w K mg base n) {f : Addr} (cdv : Value) (A : Around) (outer : List PySem.Env) (s : Shared) (H : Hp) (E : XK) (cx : Ctx (XOf P w K mg base ["sort", "thing", "places", "part"] "is_value" (top 20) f cdv A outer s H E) E n) (hp : PassesOwn (model P w) (XOf P w K mg base ["sort", "thing", "places", "part"] "is_value" (top 20) f cdv A outer s H E).A (XOf P w K mg base ["sort", "thing", "places", "part"] "is_value" (top 20) f cdv A outer s H E).env (XOf P w K mg base ["sort", "thing", "places", "part"] "is_value" (top 20) f cdv A outer s H E).xe) : EB (XOf P w K mg base ["sort", "thing", "places", "part"] "is_value" (top 20) f cdv A outer s H E) E (defBody (top 20)) (b_is_value (Fn n)) := by
  have g := cx.toGood
  delta b_is_value k_is_value_1 t_is_value_5 t_is_value_4 t_is_value_3 t_is_value_2
  exact (eb_cons (es_if (et_w (ew_or (tc (cIs) (ee_var 1) ee_non) (ew_or1 (et_val (ee_def cx D.is_bad (ea_cons (ee_var 1) ea_nil)))))) (eb_one (es_ret ee_bl)) eb_nil)
  (eb_cons (es_if (et_val (ee_isi g (ee_var 0) PyProof.Rows.boot_str T.blt.str)) (eb_cons (es_if (tc ((cIn g)) (ee_var 0) (ee_glob T.g_BASES)) (eb_one (es_ret (ee_def cx D.is_worth (ea_cons (ee_var 0) (ea_cons (ee_var 1) ea_nil))))) eb_nil)
  (eb_one (es_ret (ee_and (ee_def cx D.is_whole (ea_cons (ee_var 1) (ea_cons ee_int (ea_cons (ee_glob T.g_LAST_THING) ea_nil)))) (ee_one (ec ((cIn g)) (ee_tup (ea_cons (ee_var 0) (ea_cons (ee_var 1) ea_nil))) (ee_var 2))))))) eb_nil)
  (eb_cons (es_if (tc (cEq g) (ee_ix g (ee_var 0) ee_int) (ee_glob T.g_MUST)) (eb_one (es_ret (ee_def cx D.is_value (ea_cons (ee_ix g (ee_var 0) ee_int) (ea_cons (ee_var 1) (ea_cons (ee_var 2) ea_nil)))))) eb_nil)
  (eb_cons (es_if (et_w (ew_or (et_not (et_val (ee_isi g (ee_var 1) PyProof.Rows.boot_tuple T.blt.tuple))) (ew_or1 (tc (cGt) (ee_blt (bLen g) (ea_cons (ee_var 1) ea_nil)) (ee_glob T.g_MOST_MANY))))) (eb_one (es_ret ee_bl)) eb_nil)
  (eb_one (es_ret (ee_blt (bAll g) (ea_cons (ee_lc g (ei_any (ee_var 1)) (own := [("part", 3)]) (by kernel_rfl) (grd_name 3) (fun s H C cl fp => have cx1 := fun u0 u1 => Ctx.blk cx s H u0 u1 fp; have g1 := fun u0 u1 => (cx1 u0 u1).toGood; (pg_n (g1 _ _))) (fun s H C cl fp => have cx1 := fun u0 u1 => Ctx.blk cx s H u0 u1 fp; have g1 := fun u0 u1 => (cx1 u0 u1).toGood; eps_nil) (fun s H C cl fp => have cx1 := fun u0 u1 => Ctx.blk cx s H u0 u1 fp; have g1 := fun u0 u1 => (cx1 u0 u1).toGood; (ee_def (cx1 _ _) D.is_value (ea_cons (ee_ix (g1 _ _) (ee_var 0) ee_int) (ea_cons (ee_var 3) (ea_cons (ee_var 2) ea_nil)))))) ea_nil))))))))
theorem ok_is_value {P : Program} {w : World} {K : PySem.W.Frag} {mg : Str → Option Value} {base : Heap} {n : Nat} (T : Facts K mg) (D : Alls P w K mg base n) : DefOk P w K mg base (n + 1) "is_value" 3 (Fn (n + 1) .is_value) := by
  obtain ⟨f, fd, F, h1, h2, h3⟩ := T.f_is_value.ex
  exact ⟨f, fd, _, def_ok F sc_is_value T.blt fun cdv A outer s H E cx hp => eb_is_value T D cdv A outer s H E cx hp, h1, h2, h3⟩
theorem sc_is_place : FnScope ["book", "thing", "pair"] ["book", "thing"] (defScope (top 21)) := ⟨rfl, rfl, rfl, by decide +kernel, rfl, by decide +kernel, by decide +kernel⟩
theorem eb_is_place {P : Program} {w : World} {K : PySem.W.Frag} {mg : Str → Option Value} {base : Heap} {n : Nat} (T : Facts K mg) (D : Alls P w K mg base n) {f : Addr} (cdv : Value) (A : Around) (outer : List PySem.Env) (s : Shared) (H : Hp) (E : XK) (cx : Ctx (XOf P w K mg base ["book", "thing", "pair"] "is_place" (top 21) f cdv A outer s H E) E n) (hp : PassesOwn (model P w) (XOf P w K mg base ["book", "thing", "pair"] "is_place" (top 21) f cdv A outer s H E).A (XOf P w K mg base ["book", "thing", "pair"] "is_place" (top 21) f cdv A outer s H E).env (XOf P w K mg base ["book", "thing", "pair"] "is_place" (top 21) f cdv A outer s H E).xe) : EB (XOf P w K mg base ["book", "thing", "pair"] "is_place" (top 21) f cdv A outer s H E) E (defBody (top 21)) (b_is_place (Fn n)) := by
  have g := cx.toGood
  delta b_is_place k_is_place_1
  exact (eb_cons (es_if (et_w (ew_or (et_not (et_val (ee_isi g (ee_var 1) PyProof.Rows.boot_tuple T.blt.tuple))) (ew_or (tc (cNe g) (ee_blt (bLen g) (ea_cons (ee_var 1) ea_nil)) ee_int) (ew_or1 (et_not (et_val (ee_isi g (ee_ix g (ee_var 1) ee_int) PyProof.Rows.boot_str T.blt.str))))))) (eb_one (es_ret ee_bl)) eb_nil)
  (eb_cons (es_if (et_w (ew_or (tc ((cNotIn g)) (ee_ix g (ee_var 1) ee_int) (ee_typ (tDict g) (ea_cons (ee_var 0) ea_nil))) (ew_or1 (et_not (et_val (ee_def cx D.is_whole (ea_cons (ee_ix g (ee_var 1) ee_int) (ea_cons ee_int (ea_cons (ee_glob T.g_LAST_THING) ea_nil))))))))) (eb_one (es_ret ee_bl)) eb_nil)
  (eb_one (es_ret (ee_and (ee_isi g (ee_ix g (ee_var 1) ee_int) PyProof.Rows.boot_tuple T.blt.tuple) (ee_one (ee_blt (bAll g) (ea_cons (ee_lc g (ei_any (ee_ix g (ee_var 1) ee_int)) (own := [("pair", 2)]) (by kernel_rfl) (grd_name 2) (fun s H C cl fp => have cx1 := fun u0 u1 => Ctx.blk cx s H u0 u1 fp; have g1 := fun u0 u1 => (cx1 u0 u1).toGood; (pg_n (g1 _ _))) (fun s H C cl fp => have cx1 := fun u0 u1 => Ctx.blk cx s H u0 u1 fp; have g1 := fun u0 u1 => (cx1 u0 u1).toGood; eps_nil) (fun s H C cl fp => have cx1 := fun u0 u1 => Ctx.blk cx s H u0 u1 fp; have g1 := fun u0 u1 => (cx1 u0 u1).toGood; (ee_and (ee_isi (g1 _ _) (ee_var 2) PyProof.Rows.boot_tuple T.blt.tuple) (ee_one (ec (cEq (g1 _ _)) (ee_blt (bLen (g1 _ _)) (ea_cons (ee_var 2) ea_nil)) ee_int))))) ea_nil))))))))
theorem ok_is_place {P : Program} {w : World} {K : PySem.W.Frag} {mg : Str → Option Value} {base : Heap} {n : Nat} (T : Facts K mg) (D : Alls P w K mg base n) : DefOk P w K mg base (n + 1) "is_place" 2 (Fn (n + 1) .is_place) := by
  obtain ⟨f, fd, F, h1, h2, h3⟩ := T.f_is_place.ex
  exact ⟨f, fd, _, def_ok F sc_is_place T.blt fun cdv A outer s H E cx hp => eb_is_place T D cdv A outer s H E cx hp, h1, h2, h3⟩
theorem sc_are_values : FnScope ["fields", "pairs", "places", "field", "pair"] ["fields", "pairs", "places"] (defScope (top 22)) := ⟨rfl, rfl, rfl, by decide +kernel, rfl, by decide +kernel, by decide +kernel⟩
theorem eb_are_values {P : Program} {w : World} {K : PySem.W.Frag} {mg : Str → Option Value} {base : Heap} {n : Nat} (T : Facts K mg) (D : Alls P w K mg base n) {f : Addr} (cdv : Value) (A : Around) (outer : List PySem.Env) (s : Shared) (H : Hp) (E : XK) (cx : Ctx (XOf P w K mg base ["fields", "pairs", "places", "field", "pair"] "are_values" (top 22) f cdv A outer s H E) E n) (hp : PassesOwn (model P w) (XOf P w K mg base ["fields", "pairs", "places", "field", "pair"] "are_values" (top 22) f cdv A outer s H E).A (XOf P w K mg base ["fields", "pairs", "places", "field", "pair"] "are_values" (top 22) f cdv A outer s H E).env (XOf P w K mg base ["fields", "pairs", "places", "field", "pair"] "are_values" (top 22) f cdv A outer s H E).xe) : EB (XOf P w K mg base ["fields", "pairs", "places", "field", "pair"] "are_values" (top 22) f cdv A outer s H E) E (defBody (top 22)) (b_are_values (Fn n)) := by
  have g := cx.toGood
  delta b_are_values b_are_values_l1
  exact (eb_cons (es_if (tc (cNe g) (ee_blt (bLen g) (ea_cons (ee_var 0) ea_nil)) (ee_blt (bLen g) (ea_cons (ee_var 1) ea_nil))) (eb_one (es_ret ee_bl)) eb_nil)
  (eb_cons (es_for g hp (ei_zip g (ea_cons (ee_var 0) (ea_cons (ee_var 1) ea_nil))) (pg_t g (pgs_cons (pg_n g) (pgs_cons (pg_n g) pgs_nil))) (grd_tup (grds_cons (grd_name 3) (grds_cons (grd_name 4) grds_nil))) (eb_one (es_if (et_w (ew_or (et_not (et_val (ee_isi g (ee_ix g (ee_var 4) ee_int) PyProof.Rows.boot_str T.blt.str))) (ew_or (tc (cNe g) (ee_ix g (ee_var 4) ee_int) (ee_ix g (ee_var 3) ee_int)) (ew_or1 (et_not (et_val (ee_def cx D.is_value (ea_cons (ee_ix g (ee_var 3) ee_int) (ea_cons (ee_ix g (ee_var 4) ee_int) (ea_cons (ee_var 2) ea_nil)))))))))) (eb_one (es_ret ee_bl)) eb_nil)))
  (eb_one (es_ret ee_bl))))
theorem ok_are_values {P : Program} {w : World} {K : PySem.W.Frag} {mg : Str → Option Value} {base : Heap} {n : Nat} (T : Facts K mg) (D : Alls P w K mg base n) : DefOk P w K mg base (n + 1) "are_values" 3 (Fn (n + 1) .are_values) := by
  obtain ⟨f, fd, F, h1, h2, h3⟩ := T.f_are_values.ex
  exact ⟨f, fd, _, def_ok F sc_are_values T.blt fun cdv A outer s H E cx hp => eb_are_values T D cdv A outer s H E cx hp, h1, h2, h3⟩
theorem sc_is_world : FnScope ["book", "thing", "places", "part"] ["book", "thing"] (defScope (top 23)) := ⟨rfl, rfl, rfl, by decide +kernel, rfl, by decide +kernel, by decide +kernel⟩
theorem eb_is_world {P : Program} {w : World} {K : PySem.W.Frag} {mg : Str → Option Value} {base : Heap} {n : Nat} (T : Facts K mg) (D : Alls P w K mg base n) {f : Addr} (cdv : Value) (A : Around) (outer : List PySem.Env) (s : Shared) (H : Hp) (E : XK) (cx : Ctx (XOf P w K mg base ["book", "thing", "places", "part"] "is_world" (top 23) f cdv A outer s H E) E n) (hp : PassesOwn (model P w) (XOf P w K mg base ["book", "thing", "places", "part"] "is_world" (top 23) f cdv A outer s H E).A (XOf P w K mg base ["book", "thing", "places", "part"] "is_world" (top 23) f cdv A outer s H E).env (XOf P w K mg base ["book", "thing", "places", "part"] "is_world" (top 23) f cdv A outer s H E).xe) : EB (XOf P w K mg base ["book", "thing", "places", "part"] "is_world" (top 23) f cdv A outer s H E) E (defBody (top 23)) (b_is_world (Fn n)) := by
  have g := cx.toGood
  delta b_is_world k_is_world_1 k_is_world_2 k_is_world_3 t_is_world_4 t_is_world_3 t_is_world_2
  exact (eb_cons (es_if (et_w (ew_or (et_not (et_val (ee_isi g (ee_var 1) PyProof.Rows.boot_tuple T.blt.tuple))) (ew_or1 (et_not (et_val (ee_blt (bAll g) (ea_cons (ee_lc g (ei_any (ee_var 1)) (own := [("part", 3)]) (by kernel_rfl) (grd_name 3) (fun s H C cl fp => have cx1 := fun u0 u1 => Ctx.blk cx s H u0 u1 fp; have g1 := fun u0 u1 => (cx1 u0 u1).toGood; (pg_n (g1 _ _))) (fun s H C cl fp => have cx1 := fun u0 u1 => Ctx.blk cx s H u0 u1 fp; have g1 := fun u0 u1 => (cx1 u0 u1).toGood; eps_nil) (fun s H C cl fp => have cx1 := fun u0 u1 => Ctx.blk cx s H u0 u1 fp; have g1 := fun u0 u1 => (cx1 u0 u1).toGood; (ee_def (cx1 _ _) D.is_place (ea_cons (ee_var 0) (ea_cons (ee_var 3) ea_nil))))) ea_nil))))))) (eb_one (es_ret ee_bl)) eb_nil)
  (eb_cons (es_set g (i := 2) (ee_lc g (ei_any (ee_var 1)) (own := [("part", 3)]) (by kernel_rfl) (grd_name 3) (fun s H C cl fp => have cx1 := fun u0 u1 => Ctx.blk cx s H u0 u1 fp; have g1 := fun u0 u1 => (cx1 u0 u1).toGood; (pg_n (g1 _ _))) (fun s H C cl fp => have cx1 := fun u0 u1 => Ctx.blk cx s H u0 u1 fp; have g1 := fun u0 u1 => (cx1 u0 u1).toGood; eps_nil) (fun s H C cl fp => have cx1 := fun u0 u1 => Ctx.blk cx s H u0 u1 fp; have g1 := fun u0 u1 => (cx1 u0 u1).toGood; (ee_slice (ee_var 3) eo_none (eo_some ee_int)))))
  (eb_cons (es_if (et_w (ew_or (et_not (et_val (ee_def cx D.rises (ea_cons (ee_var 2) ea_nil)))) (ew_or1 (tc ((cNotIn g)) (ee_tup (ea_cons (ee_glob T.g_ROOT) (ea_cons ee_int ea_nil))) (ee_var 2))))) (eb_one (es_ret ee_bl)) eb_nil)
  (eb_one (es_ret (ee_blt (bAll g) (ea_cons (ee_lc g (ei_any (ee_var 1)) (own := [("part", 3)]) (by kernel_rfl) (grd_name 3) (fun s H C cl fp => have cx1 := fun u0 u1 => Ctx.blk cx s H u0 u1 fp; have g1 := fun u0 u1 => (cx1 u0 u1).toGood; (pg_n (g1 _ _))) (fun s H C cl fp => have cx1 := fun u0 u1 => Ctx.blk cx s H u0 u1 fp; have g1 := fun u0 u1 => (cx1 u0 u1).toGood; eps_nil) (fun s H C cl fp => have cx1 := fun u0 u1 => Ctx.blk cx s H u0 u1 fp; have g1 := fun u0 u1 => (cx1 u0 u1).toGood; (ee_def (cx1 _ _) D.are_values (ea_cons (ee_ix (g1 _ _) (ee_typ (tDict (g1 _ _)) (ea_cons (ee_var 0) ea_nil)) (ee_ix (g1 _ _) (ee_var 3) ee_int)) (ea_cons (ee_ix (g1 _ _) (ee_var 3) ee_int) (ea_cons (ee_var 2) ea_nil)))))) ea_nil)))))))
theorem ok_is_world {P : Program} {w : World} {K : PySem.W.Frag} {mg : Str → Option Value} {base : Heap} {n : Nat} (T : Facts K mg) (D : Alls P w K mg base n) : DefOk P w K mg base (n + 1) "is_world" 2 (Fn (n + 1) .is_world) := by
  obtain ⟨f, fd, F, h1, h2, h3⟩ := T.f_is_world.ex
  exact ⟨f, fd, _, def_ok F sc_is_world T.blt fun cdv A outer s H E cx hp => eb_is_world T D cdv A outer s H E cx hp, h1, h2, h3⟩
theorem sc__law_cell_at : FnScope ["_law_script", "_law_k"] ["_law_script", "_law_k"] (defScope (top 25)) := ⟨rfl, rfl, rfl, by decide +kernel, rfl, by decide +kernel, by decide +kernel⟩
theorem eb__law_cell_at {P : Program} {w : World} {K : PySem.W.Frag} {mg : Str → Option Value} {base : Heap} {n : Nat} (T : Facts K mg) (D : Alls P w K mg base n) {f : Addr} (cdv : Value) (A : Around) (outer : List PySem.Env) (s : Shared) (H : Hp) (E : XK) (cx : Ctx (XOf P w K mg base ["_law_script", "_law_k"] "_law_cell_at" (top 25) f cdv A outer s H E) E n) (hp : PassesOwn (model P w) (XOf P w K mg base ["_law_script", "_law_k"] "_law_cell_at" (top 25) f cdv A outer s H E).A (XOf P w K mg base ["_law_script", "_law_k"] "_law_cell_at" (top 25) f cdv A outer s H E).env (XOf P w K mg base ["_law_script", "_law_k"] "_law_cell_at" (top 25) f cdv A outer s H E).xe) : EB (XOf P w K mg base ["_law_script", "_law_k"] "_law_cell_at" (top 25) f cdv A outer s H E) E (defBody (top 25)) (b__law_cell_at (Fn n)) := by
  have g := cx.toGood
  delta b__law_cell_at
  exact (eb_cons (es_if (tc (cLt g) (ee_var 1) (ee_blt (bLen g) (ea_cons (ee_var 0) ea_nil))) (eb_one (es_ret (ee_ix g (ee_var 0) (ee_var 1)))) eb_nil)
  (eb_one (es_ret ee_int)))
theorem ok__law_cell_at {P : Program} {w : World} {K : PySem.W.Frag} {mg : Str → Option Value} {base : Heap} {n : Nat} (T : Facts K mg) (D : Alls P w K mg base n) : DefOk P w K mg base (n + 1) "_law_cell_at" 2 (Fn (n + 1) ._law_cell_at) := by
  obtain ⟨f, fd, F, h1, h2, h3⟩ := T.f__law_cell_at.ex
  exact ⟨f, fd, _, def_ok F sc__law_cell_at T.blt fun cdv A outer s H E cx hp => eb__law_cell_at T D cdv A outer s H E cx hp, h1, h2, h3⟩
theorem sc__law_mixed : FnScope ["_law_script", "_law_k", "_law_drawn_here"] ["_law_script", "_law_k"] (defScope (top 26)) := ⟨rfl, rfl, rfl, by decide +kernel, rfl, by decide +kernel, by decide +kernel⟩
theorem eb__law_mixed {P : Program} {w : World} {K : PySem.W.Frag} {mg : Str → Option Value} {base : Heap} {n : Nat} (T : Facts K mg) (D : Alls P w K mg base n) {f : Addr} (cdv : Value) (A : Around) (outer : List PySem.Env) (s : Shared) (H : Hp) (E : XK) (cx : Ctx (XOf P w K mg base ["_law_script", "_law_k", "_law_drawn_here"] "_law_mixed" (top 26) f cdv A outer s H E) E n) (hp : PassesOwn (model P w) (XOf P w K mg base ["_law_script", "_law_k", "_law_drawn_here"] "_law_mixed" (top 26) f cdv A outer s H E).A (XOf P w K mg base ["_law_script", "_law_k", "_law_drawn_here"] "_law_mixed" (top 26) f cdv A outer s H E).env (XOf P w K mg base ["_law_script", "_law_k", "_law_drawn_here"] "_law_mixed" (top 26) f cdv A outer s H E).xe) : EB (XOf P w K mg base ["_law_script", "_law_k", "_law_drawn_here"] "_law_mixed" (top 26) f cdv A outer s H E) E (defBody (top 26)) (b__law_mixed (Fn n)) := by
  have g := cx.toGood
  delta b__law_mixed
  exact (eb_cons (es_set g (i := 2) (ee_mod (ee_mul (ee_add (ee_add (ee_def cx D._law_cell_at (ea_cons (ee_var 0) (ea_cons (ee_var 1) ea_nil))) (ee_mul ee_int (ee_var 1))) ee_int) ee_int) ee_int))
  (eb_one (es_ret (ee_mod (ee_add (ee_add (ee_mul (ee_var 2) (ee_var 2)) (ee_mul ee_int (ee_var 2))) (ee_var 1)) ee_int))))
theorem ok__law_mixed {P : Program} {w : World} {K : PySem.W.Frag} {mg : Str → Option Value} {base : Heap} {n : Nat} (T : Facts K mg) (D : Alls P w K mg base n) : DefOk P w K mg base (n + 1) "_law_mixed" 2 (Fn (n + 1) ._law_mixed) := by
  obtain ⟨f, fd, F, h1, h2, h3⟩ := T.f__law_mixed.ex
  exact ⟨f, fd, _, def_ok F sc__law_mixed T.blt fun cdv A outer s H E cx hp => eb__law_mixed T D cdv A outer s H E cx hp, h1, h2, h3⟩
theorem sc__law_drawn : FnScope ["_law_number_here", "_law_k", "_law_drawn_here"] ["_law_number_here", "_law_k"] (defScope (top 27)) := ⟨rfl, rfl, rfl, by decide +kernel, rfl, by decide +kernel, by decide +kernel⟩
theorem eb__law_drawn {P : Program} {w : World} {K : PySem.W.Frag} {mg : Str → Option Value} {base : Heap} {n : Nat} (T : Facts K mg) (D : Alls P w K mg base n) {f : Addr} (cdv : Value) (A : Around) (outer : List PySem.Env) (s : Shared) (H : Hp) (E : XK) (cx : Ctx (XOf P w K mg base ["_law_number_here", "_law_k", "_law_drawn_here"] "_law_drawn" (top 27) f cdv A outer s H E) E n) (hp : PassesOwn (model P w) (XOf P w K mg base ["_law_number_here", "_law_k", "_law_drawn_here"] "_law_drawn" (top 27) f cdv A outer s H E).A (XOf P w K mg base ["_law_number_here", "_law_k", "_law_drawn_here"] "_law_drawn" (top 27) f cdv A outer s H E).env (XOf P w K mg base ["_law_number_here", "_law_k", "_law_drawn_here"] "_law_drawn" (top 27) f cdv A outer s H E).xe) : EB (XOf P w K mg base ["_law_number_here", "_law_k", "_law_drawn_here"] "_law_drawn" (top 27) f cdv A outer s H E) E (defBody (top 27)) (b__law_drawn (Fn n)) := by
  have g := cx.toGood
  delta b__law_drawn
  exact (eb_cons (es_set g (i := 2) (ee_mod (ee_mul (ee_add (ee_add (ee_var 0) (ee_mul ee_int (ee_var 1))) ee_int) ee_int) ee_int))
  (eb_one (es_ret (ee_mod (ee_add (ee_add (ee_mul (ee_var 2) (ee_var 2)) (ee_mul ee_int (ee_var 2))) (ee_var 1)) ee_int))))
theorem ok__law_drawn {P : Program} {w : World} {K : PySem.W.Frag} {mg : Str → Option Value} {base : Heap} {n : Nat} (T : Facts K mg) (D : Alls P w K mg base n) : DefOk P w K mg base (n + 1) "_law_drawn" 2 (Fn (n + 1) ._law_drawn) := by
  obtain ⟨f, fd, F, h1, h2, h3⟩ := T.f__law_drawn.ex
  exact ⟨f, fd, _, def_ok F sc__law_drawn T.blt fun cdv A outer s H E cx hp => eb__law_drawn T D cdv A outer s H E cx hp, h1, h2, h3⟩
theorem sc__law_takes : FnScope ["_law_sort_here", "_law_number_here"] ["_law_sort_here", "_law_number_here"] (defScope (top 28)) := ⟨rfl, rfl, rfl, by decide +kernel, rfl, by decide +kernel, by decide +kernel⟩
theorem eb__law_takes {P : Program} {w : World} {K : PySem.W.Frag} {mg : Str → Option Value} {base : Heap} {n : Nat} (T : Facts K mg) (D : Alls P w K mg base n) {f : Addr} (cdv : Value) (A : Around) (outer : List PySem.Env) (s : Shared) (H : Hp) (E : XK) (cx : Ctx (XOf P w K mg base ["_law_sort_here", "_law_number_here"] "_law_takes" (top 28) f cdv A outer s H E) E n) (hp : PassesOwn (model P w) (XOf P w K mg base ["_law_sort_here", "_law_number_here"] "_law_takes" (top 28) f cdv A outer s H E).A (XOf P w K mg base ["_law_sort_here", "_law_number_here"] "_law_takes" (top 28) f cdv A outer s H E).env (XOf P w K mg base ["_law_sort_here", "_law_number_here"] "_law_takes" (top 28) f cdv A outer s H E).xe) : EB (XOf P w K mg base ["_law_sort_here", "_law_number_here"] "_law_takes" (top 28) f cdv A outer s H E) E (defBody (top 28)) (b__law_takes (Fn n)) := by
  have g := cx.toGood
  delta b__law_takes
  exact (eb_cons (es_if (tc (cEq g) (ee_ix g (ee_var 0) ee_int) (ee_str hs_must)) (eb_one (es_set g (i := 0) (ee_ix g (ee_var 0) ee_int))) eb_nil)
  (eb_cons (es_if (tc (cEq g) (ee_ix g (ee_var 0) ee_int) (ee_str hs_many)) (eb_one (es_ret (ee_ix g (ee_tup (ea_cons (ee_tup (ea_cons (ee_str hs_first) (ea_cons (ee_str hs_skip) ea_nil))) (ea_cons (ee_tup (ea_cons (ee_str hs_first) ea_nil)) (ea_cons (ee_tup (ea_cons (ee_str hs_skip) ea_nil)) (ea_cons (ee_tup ea_nil) ea_nil))))) (ee_mod (ee_var 1) ee_int)))) eb_nil)
  (eb_one (es_ret (ee_mul (ee_ix g (ee_tup (ea_cons (ee_tup (ea_cons (ee_str hs_plus) ea_nil)) (ea_cons (ee_tup ea_nil) ea_nil))) (ee_mod (ee_var 1) ee_int)) (ee_typ (tInt g) (ea_cons (ec (cEq g) (ee_var 0) (ee_str hs_number)) ea_nil)))))))
theorem ok__law_takes {P : Program} {w : World} {K : PySem.W.Frag} {mg : Str → Option Value} {base : Heap} {n : Nat} (T : Facts K mg) (D : Alls P w K mg base n) : DefOk P w K mg base (n + 1) "_law_takes" 2 (Fn (n + 1) ._law_takes) := by
  obtain ⟨f, fd, F, h1, h2, h3⟩ := T.f__law_takes.ex
  exact ⟨f, fd, _, def_ok F sc__law_takes T.blt fun cdv A outer s H E cx hp => eb__law_takes T D cdv A outer s H E cx hp, h1, h2, h3⟩
theorem sc__law_sort : FnScope ["_law_number_here", "_law_names", "_law_some", "_law_one", "_law_kind"] ["_law_number_here", "_law_names"] (defScope (top 29)) := ⟨rfl, rfl, rfl, by decide +kernel, rfl, by decide +kernel, by decide +kernel⟩
theorem eb__law_sort {P : Program} {w : World} {K : PySem.W.Frag} {mg : Str → Option Value} {base : Heap} {n : Nat} (T : Facts K mg) (D : Alls P w K mg base n) {f : Addr} (cdv : Value) (A : Around) (outer : List PySem.Env) (s : Shared) (H : Hp) (E : XK) (cx : Ctx (XOf P w K mg base ["_law_number_here", "_law_names", "_law_some", "_law_one", "_law_kind"] "_law_sort" (top 29) f cdv A outer s H E) E n) (hp : PassesOwn (model P w) (XOf P w K mg base ["_law_number_here", "_law_names", "_law_some", "_law_one", "_law_kind"] "_law_sort" (top 29) f cdv A outer s H E).A (XOf P w K mg base ["_law_number_here", "_law_names", "_law_some", "_law_one", "_law_kind"] "_law_sort" (top 29) f cdv A outer s H E).env (XOf P w K mg base ["_law_number_here", "_law_names", "_law_some", "_law_one", "_law_kind"] "_law_sort" (top 29) f cdv A outer s H E).xe) : EB (XOf P w K mg base ["_law_number_here", "_law_names", "_law_some", "_law_one", "_law_kind"] "_law_sort" (top 29) f cdv A outer s H E) E (defBody (top 29)) (b__law_sort (Fn n)) := by
  have g := cx.toGood
  delta b__law_sort
  exact (eb_cons (es_set g (i := 2) (ee_add (ee_add (ee_lst (ea_cons (ee_str hs_number) (ea_cons (ee_str hs_text) (ea_cons (ee_str hs_truth) ea_nil)))) (ee_mul (ee_typ (tList g) (ea_cons (ee_var 1) ea_nil)) ee_int)) (ee_mul (ee_lst (ea_cons (ee_str hs_A) ea_nil)) (ee_typ (tInt g) (ea_cons (ec ((cIn g)) (ee_str hs_A) (ee_var 1)) ea_nil)))))
  (eb_cons (es_set g (i := 3) (ee_ix g (ee_var 2) (ee_mod (ee_var 0) (ee_blt (bLen g) (ea_cons (ee_var 2) ea_nil)))))
  (eb_cons (es_set g (i := 4) (ee_mod (ee_div (ee_var 0) ee_int) ee_int))
  (eb_cons (es_if (tc (cLt g) (ee_var 4) ee_int) (eb_one (es_ret (ee_ix g (ee_tup (ea_cons (ee_var 3) (ea_cons (ee_tup (ea_cons (ee_str hs_must) (ea_cons (ee_var 3) ea_nil))) (ea_cons (ee_tup (ea_cons (ee_str hs_many) (ea_cons (ee_var 3) ea_nil))) ea_nil)))) (ee_var 4)))) eb_nil)
  (eb_cons (es_if (tc (cLt g) (ee_var 4) ee_int) (eb_one (es_ret (ee_ix g (ee_tup (ea_cons (ee_tup (ea_cons (ee_str hs_many) (ea_cons (ee_tup (ea_cons (ee_str hs_must) (ea_cons (ee_var 3) ea_nil))) ea_nil))) (ea_cons (ee_tup (ea_cons (ee_str hs_must) (ea_cons (ee_tup (ea_cons (ee_str hs_many) (ea_cons (ee_var 3) ea_nil))) ea_nil))) ea_nil))) (ee_sub (ee_var 4) ee_int)))) eb_nil)
  (eb_one (es_ret (ee_ix g (ee_tup (ea_cons (ee_var 3) (ea_cons (ee_tup (ea_cons (ee_str hs_must) (ea_cons (ee_tup (ea_cons (ee_str hs_many) (ea_cons (ee_tup (ea_cons (ee_str hs_must) (ea_cons (ee_var 3) ea_nil))) ea_nil))) ea_nil))) (ea_cons (ee_tup (ea_cons (ee_str hs_many) (ea_cons (ee_tup (ea_cons (ee_str hs_many) (ea_cons (ee_var 3) ea_nil))) ea_nil))) ea_nil)))) (ee_sub (ee_var 4) ee_int)))))))))
theorem ok__law_sort {P : Program} {w : World} {K : PySem.W.Frag} {mg : Str → Option Value} {base : Heap} {n : Nat} (T : Facts K mg) (D : Alls P w K mg base n) : DefOk P w K mg base (n + 1) "_law_sort" 2 (Fn (n + 1) ._law_sort) := by
  obtain ⟨f, fd, F, h1, h2, h3⟩ := T.f__law_sort.ex
  exact ⟨f, fd, _, def_ok F sc__law_sort T.blt fun cdv A outer s H E cx hp => eb__law_sort T D cdv A outer s H E cx hp, h1, h2, h3⟩
theorem sc__law_book : FnScope ["_law_number_here", "_law_names", "_law_k", "_law_name", "_law_found", "_law_kind", "_law_drawn_here", "_law_fields", "_law_j", "_law_one", "_law_sort_here", "_law_rows"] ["_law_number_here"] (defScope (top 30)) := ⟨rfl, rfl, rfl, by decide +kernel, rfl, by decide +kernel, by decide +kernel⟩
theorem eb__law_book {P : Program} {w : World} {K : PySem.W.Frag} {mg : Str → Option Value} {base : Heap} {n : Nat} (T : Facts K mg) (D : Alls P w K mg base n) {f : Addr} (cdv : Value) (A : Around) (outer : List PySem.Env) (s : Shared) (H : Hp) (E : XK) (cx : Ctx (XOf P w K mg base ["_law_number_here", "_law_names", "_law_k", "_law_name", "_law_found", "_law_kind", "_law_drawn_here", "_law_fields", "_law_j", "_law_one", "_law_sort_here", "_law_rows"] "_law_book" (top 30) f cdv A outer s H E) E n) (hp : PassesOwn (model P w) (XOf P w K mg base ["_law_number_here", "_law_names", "_law_k", "_law_name", "_law_found", "_law_kind", "_law_drawn_here", "_law_fields", "_law_j", "_law_one", "_law_sort_here", "_law_rows"] "_law_book" (top 30) f cdv A outer s H E).A (XOf P w K mg base ["_law_number_here", "_law_names", "_law_k", "_law_name", "_law_found", "_law_kind", "_law_drawn_here", "_law_fields", "_law_j", "_law_one", "_law_sort_here", "_law_rows"] "_law_book" (top 30) f cdv A outer s H E).env (XOf P w K mg base ["_law_number_here", "_law_names", "_law_k", "_law_name", "_law_found", "_law_kind", "_law_drawn_here", "_law_fields", "_law_j", "_law_one", "_law_sort_here", "_law_rows"] "_law_book" (top 30) f cdv A outer s H E).xe) : EB (XOf P w K mg base ["_law_number_here", "_law_names", "_law_k", "_law_name", "_law_found", "_law_kind", "_law_drawn_here", "_law_fields", "_law_j", "_law_one", "_law_sort_here", "_law_rows"] "_law_book" (top 30) f cdv A outer s H E) E (defBody (top 30)) (b__law_book (Fn n)) := by
  have g := cx.toGood
  delta b__law_book b__law_book_l1 b__law_book_l2 b__law_book_l3 b__law_book_l4
  exact (eb_cons (es_set g (i := 1) (ee_lstN (ea_cons (ee_str hs_Root) ea_nil)))
  (eb_cons (es_for g hp (ei_enum g (ea_cons (ee_tup (ea_cons (ee_str hs_A) (ea_cons (ee_str hs_Bc) (ea_cons (ee_str hs_Zed) ea_nil)))) ea_nil)) (pg_t g (pgs_cons (pg_n g) (pgs_cons (pg_n g) pgs_nil))) (grd_tup (grds_cons (grd_name 2) (grds_cons (grd_name 3) grds_nil))) (eb_one (es_if (tc (cGt) (ee_mod (ee_div (ee_var 0) (ee_ix g (ee_tup (ea_cons ee_int (ea_cons ee_int (ea_cons ee_int ea_nil)))) (ee_var 2))) ee_int) ee_int) (eb_one (es_expr (ee_append (ee_var 1) (ee_var 3)))) eb_nil)))
  (eb_cons (es_set g (i := 4) (ee_tup ea_nil))
  (eb_cons (es_for g hp (ei_enum g (ea_cons (ee_blt (bSorted g) (ea_cons (ee_var 1) ea_nil)) ea_nil)) (pg_t g (pgs_cons (pg_n g) (pgs_cons (pg_n g) pgs_nil))) (grd_tup (grds_cons (grd_name 2) (grds_cons (grd_name 5) grds_nil))) (eb_cons (es_set g (i := 6) (ee_div (ee_def cx D._law_drawn (ea_cons (ee_var 0) (ea_cons (ee_var 2) ea_nil))) ee_int))
  (eb_cons (es_set g (i := 7) (ee_disp (.cons (ee_str hs_v) (ee_tup (ea_cons (ee_str hs_number) (ea_cons (ee_ix g (ee_tup (ea_cons (ee_tup (ea_cons (ee_str hs_plus) ea_nil)) (ea_cons (ee_tup ea_nil) ea_nil))) (ee_mod (ee_div (ee_var 6) ee_int) ee_int)) ea_nil))) .nil)))
  (eb_cons (es_if (tc (cEq g) (ee_var 5) (ee_str hs_Root)) (eb_one (es_dput g (ee_var 7) (ee_str hs_self) (ee_tup (ea_cons (ee_str hs_Root) (ea_cons (ee_tup ea_nil) ea_nil))))) eb_nil)
  (eb_cons (es_for g hp (ei_range1 g (ea_cons (ee_add (ee_mod (ee_var 6) ee_int) (ee_mul (ee_typ (tInt g) (ea_cons (ec (cEq g) (ee_var 5) (ee_str hs_Root)) ea_nil)) ee_int)) ea_nil)) (pg_n g) (grd_name 8) (eb_cons (es_set g (i := 9) (ee_div (ee_def cx D._law_drawn (ea_cons (ee_var 6) (ea_cons (ee_add ee_int (ee_var 8)) ea_nil))) ee_int))
  (eb_cons (es_set g (i := 10) (ee_def cx D._law_sort (ea_cons (ee_div (ee_var 9) ee_int) (ea_cons (ee_blt (bSorted g) (ea_cons (ee_var 1) ea_nil)) ea_nil))))
  (eb_one (es_dput g (ee_var 7) (ee_ix g (ee_tup (ea_cons (ee_str hs_age) (ea_cons (ee_str hs_k) (ea_cons (ee_str hs_name) (ea_cons (ee_str hs_of) (ea_cons (ee_str hs_tags) (ea_cons (ee_str hs_w) ea_nil))))))) (ee_mod (ee_var 9) ee_int)) (ee_tup (ea_cons (ee_var 10) (ea_cons (ee_def cx D._law_takes (ea_cons (ee_var 10) (ea_cons (ee_div (ee_var 9) ee_int) ea_nil))) ea_nil))))))))
  (eb_cons (es_while hp (tc (cGt) (ee_blt (bLen g) (ea_cons (ee_var 7) ea_nil)) ee_int) (eb_one (es_expr (ee_dpop (ee_var 7) (ee_ix g (ee_blt (bSorted g) (ea_cons (ee_var 7) ea_nil)) ee_int) ⟨rfl, rfl, rfl, rfl⟩))))
  (eb_cons (es_set g (i := 11) (ee_typ (tTuple g) (ea_cons (ee_lc g (ei_any (ee_blt (bSorted g) (ea_cons (ee_var 7) ea_nil))) (own := [("_law_name", 3)]) (by kernel_rfl) (grd_name 3) (fun s H C cl fp => have cx1 := fun u0 u1 => Ctx.blk cx s H u0 u1 fp; have g1 := fun u0 u1 => (cx1 u0 u1).toGood; (pg_n (g1 _ _))) (fun s H C cl fp => have cx1 := fun u0 u1 => Ctx.blk cx s H u0 u1 fp; have g1 := fun u0 u1 => (cx1 u0 u1).toGood; eps_nil) (fun s H C cl fp => have cx1 := fun u0 u1 => Ctx.blk cx s H u0 u1 fp; have g1 := fun u0 u1 => (cx1 u0 u1).toGood; (ee_add (ee_tup (ea_cons (ee_var 3) ea_nil)) (ee_ix (g1 _ _) (ee_var 7) (ee_var 3))))) ea_nil)))
  (eb_one (es_set g (i := 4) (ee_add (ee_var 4) (ee_tup (ea_cons (ee_tup (ea_cons (ee_var 5) (ea_cons (ee_var 11) ea_nil))) ea_nil))))))))))))
  (eb_one (es_ret (ee_var 4)))))))
theorem ok__law_book {P : Program} {w : World} {K : PySem.W.Frag} {mg : Str → Option Value} {base : Heap} {n : Nat} (T : Facts K mg) (D : Alls P w K mg base n) : DefOk P w K mg base (n + 1) "_law_book" 1 (Fn (n + 1) ._law_book) := by
  obtain ⟨f, fd, F, h1, h2, h3⟩ := T.f__law_book.ex
  exact ⟨f, fd, _, def_ok F sc__law_book T.blt fun cdv A outer s H E cx hp => eb__law_book T D cdv A outer s H E cx hp, h1, h2, h3⟩
theorem sc__law_value : FnScope ["_law_sort_here", "_law_number_here", "_law_places", "_law_drawn_here", "_law_some", "_law_k", "_law_place"] ["_law_sort_here", "_law_number_here", "_law_places"] (defScope (top 31)) := ⟨rfl, rfl, rfl, by decide +kernel, rfl, by decide +kernel, by decide +kernel⟩
theorem eb__law_value {P : Program} {w : World} {K : PySem.W.Frag} {mg : Str → Option Value} {base : Heap} {n : Nat} (T : Facts K mg) (D : Alls P w K mg base n) {f : Addr} (cdv : Value) (A : Around) (outer : List PySem.Env) (s : Shared) (H : Hp) (E : XK) (cx : Ctx (XOf P w K mg base ["_law_sort_here", "_law_number_here", "_law_places", "_law_drawn_here", "_law_some", "_law_k", "_law_place"] "_law_value" (top 31) f cdv A outer s H E) E n) (hp : PassesOwn (model P w) (XOf P w K mg base ["_law_sort_here", "_law_number_here", "_law_places", "_law_drawn_here", "_law_some", "_law_k", "_law_place"] "_law_value" (top 31) f cdv A outer s H E).A (XOf P w K mg base ["_law_sort_here", "_law_number_here", "_law_places", "_law_drawn_here", "_law_some", "_law_k", "_law_place"] "_law_value" (top 31) f cdv A outer s H E).env (XOf P w K mg base ["_law_sort_here", "_law_number_here", "_law_places", "_law_drawn_here", "_law_some", "_law_k", "_law_place"] "_law_value" (top 31) f cdv A outer s H E).xe) : EB (XOf P w K mg base ["_law_sort_here", "_law_number_here", "_law_places", "_law_drawn_here", "_law_some", "_law_k", "_law_place"] "_law_value" (top 31) f cdv A outer s H E) E (defBody (top 31)) (b__law_value (Fn n)) := by
  have g := cx.toGood
  delta b__law_value k__law_value_1 k__law_value_2 t__law_value_11 t__law_value_10 t__law_value_9 t__law_value_8 t__law_value_7 t__law_value_6 t__law_value_5 t__law_value_4 t__law_value_3 t__law_value_2
  exact (eb_cons (es_set g (i := 3) (ee_div (ee_def cx D._law_drawn (ea_cons (ee_var 1) (ea_cons ee_int ea_nil))) ee_int))
  (eb_cons (es_if (tc (cEq g) (ee_mod (ee_var 1) ee_int) ee_int) (eb_one (es_ret ee_non)) eb_nil)
  (eb_cons (es_if (tc (cEq g) (ee_mod (ee_var 1) ee_int) ee_int) (eb_one (es_ret (ee_tup (ea_cons (ee_str hs_x21) (ea_cons (ee_ix g (ee_tup (ea_cons (ee_str hs_lost) (ea_cons (ee_str hs_late) (ea_cons (ee_str hs_no) ea_nil)))) (ee_mod (ee_var 3) ee_int)) ea_nil))))) eb_nil)
  (eb_cons (es_if (tc (cEq g) (ee_ix g (ee_var 0) ee_int) (ee_str hs_must)) (eb_one (es_ret (ee_def cx D._law_value (ea_cons (ee_ix g (ee_var 0) ee_int) (ea_cons (ee_var 3) (ea_cons (ee_var 2) ea_nil)))))) eb_nil)
  (eb_cons (es_if (tc (cEq g) (ee_ix g (ee_var 0) ee_int) (ee_str hs_many)) (eb_one (es_ret (ee_typ (tTuple g) (ea_cons (ee_lc g (ei_range1 g (ea_cons (ee_mod (ee_var 3) ee_int) ea_nil)) (own := [("_law_k", 5)]) (by kernel_rfl) (grd_name 5) (fun s H C cl fp => have cx1 := fun u0 u1 => Ctx.blk cx s H u0 u1 fp; have g1 := fun u0 u1 => (cx1 u0 u1).toGood; (pg_n (g1 _ _))) (fun s H C cl fp => have cx1 := fun u0 u1 => Ctx.blk cx s H u0 u1 fp; have g1 := fun u0 u1 => (cx1 u0 u1).toGood; eps_nil) (fun s H C cl fp => have cx1 := fun u0 u1 => Ctx.blk cx s H u0 u1 fp; have g1 := fun u0 u1 => (cx1 u0 u1).toGood; (ee_def (cx1 _ _) D._law_value (ea_cons (ee_ix (g1 _ _) (ee_var 0) ee_int) (ea_cons (ee_div (ee_def (cx1 _ _) D._law_drawn (ea_cons (ee_var 3) (ea_cons (ee_var 5) ea_nil))) ee_int) (ea_cons (ee_var 2) ea_nil)))))) ea_nil)))) eb_nil)
  (eb_cons (es_if (tc (cEq g) (ee_var 0) (ee_str hs_number)) (eb_one (es_ret (ee_sub (ee_mod (ee_var 3) (ee_ix g (ee_tup (ea_cons ee_int (ea_cons ee_int (ea_cons ee_int ea_nil)))) (ee_mod (ee_div (ee_var 3) ee_int) ee_int))) (ee_ix g (ee_tup (ea_cons ee_int (ea_cons ee_int (ea_cons ee_int ea_nil)))) (ee_mod (ee_div (ee_var 3) ee_int) ee_int))))) eb_nil)
  (eb_cons (es_if (tc (cEq g) (ee_var 0) (ee_str hs_truth)) (eb_one (es_ret (ec (cEq g) (ee_mod (ee_var 3) ee_int) ee_int))) eb_nil)
  (eb_cons (es_if (tc (cEq g) (ee_var 0) (ee_str hs_text)) (eb_one (es_ret (ee_slice (ee_str hs_abcdefg) (eo_some (ee_mod (ee_var 3) ee_int)) (eo_some (ee_add (ee_mod (ee_var 3) ee_int) (ee_mod (ee_div (ee_var 3) ee_int) ee_int)))))) eb_nil)
  (eb_cons (es_setLc g (i := 4) (ei_any (ee_var 2)) (own := [("_law_place", 6)]) (by kernel_rfl) (grd_name 6) (fun s H C cl fp => have cx1 := fun u0 u1 => Ctx.blk cx s H u0 u1 fp; have g1 := fun u0 u1 => (cx1 u0 u1).toGood; (pg_n (g1 _ _))) (fun s H C cl fp => have cx1 := fun u0 u1 => Ctx.blk cx s H u0 u1 fp; have g1 := fun u0 u1 => (cx1 u0 u1).toGood; (eps_one (tc (cEq (g1 _ _)) (ee_ix (g1 _ _) (ee_var 6) ee_int) (ee_var 0)))) (fun s H C cl fp => have cx1 := fun u0 u1 => Ctx.blk cx s H u0 u1 fp; have g1 := fun u0 u1 => (cx1 u0 u1).toGood; (ee_ix (g1 _ _) (ee_var 6) ee_int)) (sw_true rfl rfl rfl rfl))
  (eb_cons (es_if (tc (cEq g) (ee_var 4) (ee_lst ea_nil)) (eb_one (es_ret ee_non)) eb_nil)
  (eb_one (es_ret (ee_ix g (ee_var 4) (ee_mod (ee_var 3) (ee_blt (bLen g) (ea_cons (ee_var 4) ea_nil))))))))))))))))
theorem ok__law_value {P : Program} {w : World} {K : PySem.W.Frag} {mg : Str → Option Value} {base : Heap} {n : Nat} (T : Facts K mg) (D : Alls P w K mg base n) : DefOk P w K mg base (n + 1) "_law_value" 3 (Fn (n + 1) ._law_value) := by
  obtain ⟨f, fd, F, h1, h2, h3⟩ := T.f__law_value.ex
  exact ⟨f, fd, _, def_ok F sc__law_value T.blt fun cdv A outer s H E cx hp => eb__law_value T D cdv A outer s H E cx hp, h1, h2, h3⟩
theorem sc__law_world : FnScope ["_law_book_here", "_law_number_here", "_law_places", "_law_k", "_law_kind", "_law_fields", "_law_j", "_law_place", "_law_found", "_law_at", "_law_values", "_law_name", "_law_sort_here", "_law_takes_here", "_law_value_here"] ["_law_book_here", "_law_number_here"] (defScope (top 32)) := ⟨rfl, rfl, rfl, by decide +kernel, rfl, by decide +kernel, by decide +kernel⟩
theorem eb__law_world {P : Program} {w : World} {K : PySem.W.Frag} {mg : Str → Option Value} {base : Heap} {n : Nat} (T : Facts K mg) (D : Alls P w K mg base n) {f : Addr} (cdv : Value) (A : Around) (outer : List PySem.Env) (s : Shared) (H : Hp) (E : XK) (cx : Ctx (XOf P w K mg base ["_law_book_here", "_law_number_here", "_law_places", "_law_k", "_law_kind", "_law_fields", "_law_j", "_law_place", "_law_found", "_law_at", "_law_values", "_law_name", "_law_sort_here", "_law_takes_here", "_law_value_here"] "_law_world" (top 32) f cdv A outer s H E) E n) (hp : PassesOwn (model P w) (XOf P w K mg base ["_law_book_here", "_law_number_here", "_law_places", "_law_k", "_law_kind", "_law_fields", "_law_j", "_law_place", "_law_found", "_law_at", "_law_values", "_law_name", "_law_sort_here", "_law_takes_here", "_law_value_here"] "_law_world" (top 32) f cdv A outer s H E).A (XOf P w K mg base ["_law_book_here", "_law_number_here", "_law_places", "_law_k", "_law_kind", "_law_fields", "_law_j", "_law_place", "_law_found", "_law_at", "_law_values", "_law_name", "_law_sort_here", "_law_takes_here", "_law_value_here"] "_law_world" (top 32) f cdv A outer s H E).env (XOf P w K mg base ["_law_book_here", "_law_number_here", "_law_places", "_law_k", "_law_kind", "_law_fields", "_law_j", "_law_place", "_law_found", "_law_at", "_law_values", "_law_name", "_law_sort_here", "_law_takes_here", "_law_value_here"] "_law_world" (top 32) f cdv A outer s H E).xe) : EB (XOf P w K mg base ["_law_book_here", "_law_number_here", "_law_places", "_law_k", "_law_kind", "_law_fields", "_law_j", "_law_place", "_law_found", "_law_at", "_law_values", "_law_name", "_law_sort_here", "_law_takes_here", "_law_value_here"] "_law_world" (top 32) f cdv A outer s H E) E (defBody (top 32)) (b__law_world (Fn n)) := by
  have g := cx.toGood
  delta b__law_world b__law_world_l1 b__law_world_l2 b__law_world_l3 b__law_world_l4 t__law_world_5 t__law_world_4 t__law_world_3 t__law_world_2
  exact (eb_cons (es_set g (i := 2) (ee_lstN (ea_cons (ee_tup (ea_cons (ee_str hs_Root) (ea_cons ee_int ea_nil))) ea_nil)))
  (eb_cons (es_for g hp (ei_enum g (ea_cons (ee_var 0) ea_nil)) (pg_t g (pgs_cons (pg_n g) (pgs_cons (pg_t g (pgs_cons (pg_n g) (pgs_cons (pg_n g) pgs_nil))) pgs_nil))) (grd_tup (grds_cons (grd_name 3) (grds_cons (grd_tup (grds_cons (grd_name 4) (grds_cons (grd_name 5) grds_nil))) grds_nil))) (eb_one (es_for g hp (ei_range1 g (ea_cons (ee_add (ee_mod (ee_div (ee_def cx D._law_drawn (ea_cons (ee_var 1) (ea_cons (ee_var 3) ea_nil))) ee_int) ee_int) (ee_typ (tInt g) (ea_cons (ec (cGt) (ee_mod (ee_var 1) ee_int) ee_int) ea_nil))) ea_nil)) (pg_n g) (grd_name 6) (eb_cons (es_set g (i := 7) (ee_tup (ea_cons (ee_var 4) (ea_cons (ee_mod (ee_div (ee_def cx D._law_drawn (ea_cons (ee_var 1) (ea_cons (ee_add (ee_add ee_int (ee_mul ee_int (ee_var 3))) (ee_var 6)) ea_nil))) ee_int) (ee_ix g (ee_tup (ea_cons ee_int (ea_cons ee_int ea_nil))) (ee_mod (ee_var 1) ee_int))) ea_nil))))
  (eb_one (es_if (tc ((cNotIn g)) (ee_var 7) (ee_var 2)) (eb_one (es_expr (ee_append (ee_var 2) (ee_var 7)))) eb_nil))))))
  (eb_cons (es_set g (i := 8) (ee_tup ea_nil))
  (eb_cons (es_for g hp (ei_enum g (ea_cons (ee_blt (bSorted g) (ea_cons (ee_var 2) ea_nil)) ea_nil)) (pg_t g (pgs_cons (pg_n g) (pgs_cons (pg_n g) pgs_nil))) (grd_tup (grds_cons (grd_name 9) (grds_cons (grd_name 7) grds_nil))) (eb_cons (es_set g (i := 10) (ee_tup ea_nil))
  (eb_cons (es_for g hp (ei_enum g (ea_cons (ee_ix g (ee_typ (tDict g) (ea_cons (ee_var 0) ea_nil)) (ee_ix g (ee_var 7) ee_int)) ea_nil)) (pg_t g (pgs_cons (pg_n g) (pgs_cons (pg_t g (pgs_cons (pg_n g) (pgs_cons (pg_n g) (pgs_cons (pg_n g) pgs_nil)))) pgs_nil))) (grd_tup (grds_cons (grd_name 3) (grds_cons (grd_tup (grds_cons (grd_name 11) (grds_cons (grd_name 12) (grds_cons (grd_name 13) grds_nil)))) grds_nil))) (eb_cons (es_set g (i := 14) (ee_def cx D._law_value (ea_cons (ee_var 12) (ea_cons (ee_div (ee_def cx D._law_drawn (ea_cons (ee_var 1) (ea_cons (ee_add (ee_add ee_int (ee_mul ee_int (ee_var 9))) (ee_var 3)) ea_nil))) ee_int) (ea_cons (ee_var 2) ea_nil)))))
  (eb_cons (es_if (tc (cEq g) (ee_tup (ea_cons (ee_var 11) (ea_cons (ee_var 12) ea_nil))) (ee_tup (ea_cons (ee_str hs_self) (ea_cons (ee_str hs_Root) ea_nil)))) (eb_one (es_set g (i := 14) ee_int)) eb_nil)
  (eb_one (es_set g (i := 10) (ee_add (ee_var 10) (ee_tup (ea_cons (ee_tup (ea_cons (ee_var 11) (ea_cons (ee_var 14) ea_nil))) ea_nil))))))))
  (eb_one (es_set g (i := 8) (ee_add (ee_var 8) (ee_tup (ea_cons (ee_add (ee_var 7) (ee_tup (ea_cons (ee_var 10) ea_nil))) ea_nil))))))))
  (eb_one (es_ret (ee_var 8)))))))
theorem ok__law_world {P : Program} {w : World} {K : PySem.W.Frag} {mg : Str → Option Value} {base : Heap} {n : Nat} (T : Facts K mg) (D : Alls P w K mg base n) : DefOk P w K mg base (n + 1) "_law_world" 2 (Fn (n + 1) ._law_world) := by
  obtain ⟨f, fd, F, h1, h2, h3⟩ := T.f__law_world.ex
  exact ⟨f, fd, _, def_ok F sc__law_world T.blt fun cdv A outer s H E cx hp => eb__law_world T D cdv A outer s H E cx hp, h1, h2, h3⟩
theorem sc__law_is_word : FnScope ["_law_thing", "_law_sign"] ["_law_thing"] (defScope (top 33)) := ⟨rfl, rfl, rfl, by decide +kernel, rfl, by decide +kernel, by decide +kernel⟩
theorem eb__law_is_word {P : Program} {w : World} {K : PySem.W.Frag} {mg : Str → Option Value} {base : Heap} {n : Nat} (T : Facts K mg) (D : Alls P w K mg base n) {f : Addr} (cdv : Value) (A : Around) (outer : List PySem.Env) (s : Shared) (H : Hp) (E : XK) (cx : Ctx (XOf P w K mg base ["_law_thing", "_law_sign"] "_law_is_word" (top 33) f cdv A outer s H E) E n) (hp : PassesOwn (model P w) (XOf P w K mg base ["_law_thing", "_law_sign"] "_law_is_word" (top 33) f cdv A outer s H E).A (XOf P w K mg base ["_law_thing", "_law_sign"] "_law_is_word" (top 33) f cdv A outer s H E).env (XOf P w K mg base ["_law_thing", "_law_sign"] "_law_is_word" (top 33) f cdv A outer s H E).xe) : EB (XOf P w K mg base ["_law_thing", "_law_sign"] "_law_is_word" (top 33) f cdv A outer s H E) E (defBody (top 33)) (b__law_is_word (Fn n)) := by
  have g := cx.toGood
  delta b__law_is_word
  exact (eb_cons (es_if (et_w (ew_or (et_not (et_val (ee_isi g (ee_var 0) PyProof.Rows.boot_str T.blt.str))) (ew_or1 (et_not (tc2 (cLe) (cLe) ee_int (ee_blt (bLen g) (ea_cons (ee_var 0) ea_nil)) ee_int))))) (eb_one (es_ret ee_bl)) eb_nil)
  (eb_one (es_ret (ec (cEq g) (ee_lc g (ei_any (ee_var 0)) (own := [("_law_sign", 1)]) (by kernel_rfl) (grd_name 1) (fun s H C cl fp => have cx1 := fun u0 u1 => Ctx.blk cx s H u0 u1 fp; have g1 := fun u0 u1 => (cx1 u0 u1).toGood; (pg_n (g1 _ _))) (fun s H C cl fp => have cx1 := fun u0 u1 => Ctx.blk cx s H u0 u1 fp; have g1 := fun u0 u1 => (cx1 u0 u1).toGood; (eps_one (tc ((cNotIn (g1 _ _))) (ee_var 1) (ee_str hs_abcdefghijklmnopqrstuvwxyz)))) (fun s H C cl fp => have cx1 := fun u0 u1 => Ctx.blk cx s H u0 u1 fp; have g1 := fun u0 u1 => (cx1 u0 u1).toGood; (ee_var 1))) (ee_lst ea_nil)))))
theorem ok__law_is_word {P : Program} {w : World} {K : PySem.W.Frag} {mg : Str → Option Value} {base : Heap} {n : Nat} (T : Facts K mg) (D : Alls P w K mg base n) : DefOk P w K mg base (n + 1) "_law_is_word" 1 (Fn (n + 1) ._law_is_word) := by
  obtain ⟨f, fd, F, h1, h2, h3⟩ := T.f__law_is_word.ex
  exact ⟨f, fd, _, def_ok F sc__law_is_word T.blt fun cdv A outer s H E cx hp => eb__law_is_word T D cdv A outer s H E cx hp, h1, h2, h3⟩
theorem sc__law_number : FnScope ["_law_thing", "_law_low", "_law_high"] ["_law_thing", "_law_low", "_law_high"] (defScope (top 35)) := ⟨rfl, rfl, rfl, by decide +kernel, rfl, by decide +kernel, by decide +kernel⟩
theorem eb__law_number {P : Program} {w : World} {K : PySem.W.Frag} {mg : Str → Option Value} {base : Heap} {n : Nat} (T : Facts K mg) (D : Alls P w K mg base n) {f : Addr} (cdv : Value) (A : Around) (outer : List PySem.Env) (s : Shared) (H : Hp) (E : XK) (cx : Ctx (XOf P w K mg base ["_law_thing", "_law_low", "_law_high"] "_law_number" (top 35) f cdv A outer s H E) E n) (hp : PassesOwn (model P w) (XOf P w K mg base ["_law_thing", "_law_low", "_law_high"] "_law_number" (top 35) f cdv A outer s H E).A (XOf P w K mg base ["_law_thing", "_law_low", "_law_high"] "_law_number" (top 35) f cdv A outer s H E).env (XOf P w K mg base ["_law_thing", "_law_low", "_law_high"] "_law_number" (top 35) f cdv A outer s H E).xe) : EB (XOf P w K mg base ["_law_thing", "_law_low", "_law_high"] "_law_number" (top 35) f cdv A outer s H E) E (defBody (top 35)) (b__law_number (Fn n)) := by
  have g := cx.toGood
  delta b__law_number
  exact (eb_one (es_ret (ee_and (ee_isi g (ee_var 0) PyProof.Rows.boot_int T.blt.int) (ee_and (ee_not (ee_isi g (ee_var 0) PyProof.Rows.boot_bool T.blt.bool)) (ee_one (ec2 (cLe) (cLe) (ee_var 1) (ee_var 0) (ee_var 2)))))))
theorem ok__law_number {P : Program} {w : World} {K : PySem.W.Frag} {mg : Str → Option Value} {base : Heap} {n : Nat} (T : Facts K mg) (D : Alls P w K mg base n) : DefOk P w K mg base (n + 1) "_law_number" 3 (Fn (n + 1) ._law_number) := by
  obtain ⟨f, fd, F, h1, h2, h3⟩ := T.f__law_number.ex
  exact ⟨f, fd, _, def_ok F sc__law_number T.blt fun cdv A outer s H E cx hp => eb__law_number T D cdv A outer s H E cx hp, h1, h2, h3⟩
theorem sc__law_is_worth : FnScope ["_law_base", "_law_thing", "_law_sign"] ["_law_base", "_law_thing"] (defScope (top 36)) := ⟨rfl, rfl, rfl, by decide +kernel, rfl, by decide +kernel, by decide +kernel⟩
theorem eb__law_is_worth {P : Program} {w : World} {K : PySem.W.Frag} {mg : Str → Option Value} {base : Heap} {n : Nat} (T : Facts K mg) (D : Alls P w K mg base n) {f : Addr} (cdv : Value) (A : Around) (outer : List PySem.Env) (s : Shared) (H : Hp) (E : XK) (cx : Ctx (XOf P w K mg base ["_law_base", "_law_thing", "_law_sign"] "_law_is_worth" (top 36) f cdv A outer s H E) E n) (hp : PassesOwn (model P w) (XOf P w K mg base ["_law_base", "_law_thing", "_law_sign"] "_law_is_worth" (top 36) f cdv A outer s H E).A (XOf P w K mg base ["_law_base", "_law_thing", "_law_sign"] "_law_is_worth" (top 36) f cdv A outer s H E).env (XOf P w K mg base ["_law_base", "_law_thing", "_law_sign"] "_law_is_worth" (top 36) f cdv A outer s H E).xe) : EB (XOf P w K mg base ["_law_base", "_law_thing", "_law_sign"] "_law_is_worth" (top 36) f cdv A outer s H E) E (defBody (top 36)) (b__law_is_worth (Fn n)) := by
  have g := cx.toGood
  delta b__law_is_worth
  exact (eb_cons (es_if (tc (cEq g) (ee_var 0) (ee_str hs_number)) (eb_one (es_ret (ee_def cx D._law_number (ea_cons (ee_var 1) (ea_cons ee_neg (ea_cons ee_int ea_nil)))))) eb_nil)
  (eb_cons (es_if (tc (cEq g) (ee_var 0) (ee_str hs_truth)) (eb_one (es_ret (ee_isi g (ee_var 1) PyProof.Rows.boot_bool T.blt.bool))) eb_nil)
  (eb_cons (es_if (et_w (ew_or (et_not (et_val (ee_isi g (ee_var 1) PyProof.Rows.boot_str T.blt.str))) (ew_or1 (tc (cGt) (ee_blt (bLen g) (ea_cons (ee_var 1) ea_nil)) ee_int)))) (eb_one (es_ret ee_bl)) eb_nil)
  (eb_one (es_ret (ec (cEq g) (ee_lc g (ei_any (ee_var 1)) (own := [("_law_sign", 2)]) (by kernel_rfl) (grd_name 2) (fun s H C cl fp => have cx1 := fun u0 u1 => Ctx.blk cx s H u0 u1 fp; have g1 := fun u0 u1 => (cx1 u0 u1).toGood; (pg_n (g1 _ _))) (fun s H C cl fp => have cx1 := fun u0 u1 => Ctx.blk cx s H u0 u1 fp; have g1 := fun u0 u1 => (cx1 u0 u1).toGood; (eps_one (tc ((cNotIn (g1 _ _))) (ee_var 2) (ee_str hs_abcdefghijklmnopqrstuvwxyz)))) (fun s H C cl fp => have cx1 := fun u0 u1 => Ctx.blk cx s H u0 u1 fp; have g1 := fun u0 u1 => (cx1 u0 u1).toGood; (ee_var 2))) (ee_lst ea_nil)))))))
theorem ok__law_is_worth {P : Program} {w : World} {K : PySem.W.Frag} {mg : Str → Option Value} {base : Heap} {n : Nat} (T : Facts K mg) (D : Alls P w K mg base n) : DefOk P w K mg base (n + 1) "_law_is_worth" 2 (Fn (n + 1) ._law_is_worth) := by
  obtain ⟨f, fd, F, h1, h2, h3⟩ := T.f__law_is_worth.ex
  exact ⟨f, fd, _, def_ok F sc__law_is_worth T.blt fun cdv A outer s H E cx hp => eb__law_is_worth T D cdv A outer s H E cx hp, h1, h2, h3⟩
theorem sc__law_is_row : FnScope ["_law_thing", "_law_least", "_law_most"] ["_law_thing", "_law_least", "_law_most"] (defScope (top 37)) := ⟨rfl, rfl, rfl, by decide +kernel, rfl, by decide +kernel, by decide +kernel⟩
theorem eb__law_is_row {P : Program} {w : World} {K : PySem.W.Frag} {mg : Str → Option Value} {base : Heap} {n : Nat} (T : Facts K mg) (D : Alls P w K mg base n) {f : Addr} (cdv : Value) (A : Around) (outer : List PySem.Env) (s : Shared) (H : Hp) (E : XK) (cx : Ctx (XOf P w K mg base ["_law_thing", "_law_least", "_law_most"] "_law_is_row" (top 37) f cdv A outer s H E) E n) (hp : PassesOwn (model P w) (XOf P w K mg base ["_law_thing", "_law_least", "_law_most"] "_law_is_row" (top 37) f cdv A outer s H E).A (XOf P w K mg base ["_law_thing", "_law_least", "_law_most"] "_law_is_row" (top 37) f cdv A outer s H E).env (XOf P w K mg base ["_law_thing", "_law_least", "_law_most"] "_law_is_row" (top 37) f cdv A outer s H E).xe) : EB (XOf P w K mg base ["_law_thing", "_law_least", "_law_most"] "_law_is_row" (top 37) f cdv A outer s H E) E (defBody (top 37)) (b__law_is_row (Fn n)) := by
  have g := cx.toGood
  delta b__law_is_row
  exact (eb_one (es_ret (ee_and (ee_isi g (ee_var 0) PyProof.Rows.boot_tuple T.blt.tuple) (ee_one (ec2 (cLe) (cLe) (ee_var 1) (ee_blt (bLen g) (ea_cons (ee_var 0) ea_nil)) (ee_var 2))))))
theorem ok__law_is_row {P : Program} {w : World} {K : PySem.W.Frag} {mg : Str → Option Value} {base : Heap} {n : Nat} (T : Facts K mg) (D : Alls P w K mg base n) : DefOk P w K mg base (n + 1) "_law_is_row" 3 (Fn (n + 1) ._law_is_row) := by
  obtain ⟨f, fd, F, h1, h2, h3⟩ := T.f__law_is_row.ex
  exact ⟨f, fd, _, def_ok F sc__law_is_row T.blt fun cdv A outer s H E cx hp => eb__law_is_row T D cdv A outer s H E cx hp, h1, h2, h3⟩
theorem sc__law_is_value : FnScope ["_law_sort_here", "_law_thing", "_law_places", "_law_part"] ["_law_sort_here", "_law_thing", "_law_places"] (defScope (top 38)) := ⟨rfl, rfl, rfl, by decide +kernel, rfl, by decide +kernel, by decide +kernel⟩
theorem eb__law_is_value {P : Program} {w : World} {K : PySem.W.Frag} {mg : Str → Option Value} {base : Heap} {n : Nat} (T : Facts K mg) (D : Alls P w K mg base n) {f : Addr} (cdv : Value) (A : Around) (outer : List PySem.Env) (s : Shared) (H : Hp) (E : XK) (cx : Ctx (XOf P w K mg base ["_law_sort_here", "_law_thing", "_law_places", "_law_part"] "_law_is_value" (top 38) f cdv A outer s H E) E n) (hp : PassesOwn (model P w) (XOf P w K mg base ["_law_sort_here", "_law_thing", "_law_places", "_law_part"] "_law_is_value" (top 38) f cdv A outer s H E).A (XOf P w K mg base ["_law_sort_here", "_law_thing", "_law_places", "_law_part"] "_law_is_value" (top 38) f cdv A outer s H E).env (XOf P w K mg base ["_law_sort_here", "_law_thing", "_law_places", "_law_part"] "_law_is_value" (top 38) f cdv A outer s H E).xe) : EB (XOf P w K mg base ["_law_sort_here", "_law_thing", "_law_places", "_law_part"] "_law_is_value" (top 38) f cdv A outer s H E) E (defBody (top 38)) (b__law_is_value (Fn n)) := by
  have g := cx.toGood
  delta b__law_is_value k__law_is_value_1 t__law_is_value_5 t__law_is_value_4 t__law_is_value_3 t__law_is_value_2
  exact (eb_cons (es_if (et_w (ew_or (tc (cIs) (ee_var 1) ee_non) (ew_or1 (et_w (ew_and (et_val (ee_def cx D._law_is_row (ea_cons (ee_var 1) (ea_cons ee_int (ea_cons ee_int ea_nil))))) (ew_and (tc (cEq g) (ee_ix g (ee_var 1) ee_int) (ee_str hs_x21)) (ew_and1 (et_val (ee_def cx D._law_is_word (ea_cons (ee_ix g (ee_var 1) ee_int) ea_nil)))))))))) (eb_one (es_ret ee_bl)) eb_nil)
  (eb_cons (es_if (tc (cEq g) (ee_ix g (ee_var 0) ee_int) (ee_str hs_must)) (eb_one (es_ret (ee_def cx D._law_is_value (ea_cons (ee_ix g (ee_var 0) ee_int) (ea_cons (ee_var 1) (ea_cons (ee_var 2) ea_nil)))))) eb_nil)
  (eb_cons (es_if (tc (cEq g) (ee_ix g (ee_var 0) ee_int) (ee_str hs_many)) (eb_cons (es_if (et_not (et_val (ee_def cx D._law_is_row (ea_cons (ee_var 1) (ea_cons ee_int (ea_cons ee_int ea_nil)))))) (eb_one (es_ret ee_bl)) eb_nil)
  (eb_one (es_ret (ec (cEq g) (ee_lc g (ei_any (ee_var 1)) (own := [("_law_part", 3)]) (by kernel_rfl) (grd_name 3) (fun s H C cl fp => have cx1 := fun u0 u1 => Ctx.blk cx s H u0 u1 fp; have g1 := fun u0 u1 => (cx1 u0 u1).toGood; (pg_n (g1 _ _))) (fun s H C cl fp => have cx1 := fun u0 u1 => Ctx.blk cx s H u0 u1 fp; have g1 := fun u0 u1 => (cx1 u0 u1).toGood; (eps_one (et_not (et_val (ee_def (cx1 _ _) D._law_is_value (ea_cons (ee_ix (g1 _ _) (ee_var 0) ee_int) (ea_cons (ee_var 3) (ea_cons (ee_var 2) ea_nil)))))))) (fun s H C cl fp => have cx1 := fun u0 u1 => Ctx.blk cx s H u0 u1 fp; have g1 := fun u0 u1 => (cx1 u0 u1).toGood; (ee_var 3))) (ee_lst ea_nil))))) eb_nil)
  (eb_cons (es_if (tc ((cIn g)) (ee_ix g (ee_var 0) ee_int) (ee_str hs_nt)) (eb_one (es_ret (ee_def cx D._law_is_worth (ea_cons (ee_var 0) (ea_cons (ee_var 1) ea_nil))))) eb_nil)
  (eb_one (es_ret (ee_and (ee_def cx D._law_number (ea_cons (ee_var 1) (ea_cons ee_int (ea_cons ee_int ea_nil)))) (ee_one (ec ((cIn g)) (ee_tup (ea_cons (ee_var 0) (ea_cons (ee_var 1) ea_nil))) (ee_var 2))))))))))
theorem ok__law_is_value {P : Program} {w : World} {K : PySem.W.Frag} {mg : Str → Option Value} {base : Heap} {n : Nat} (T : Facts K mg) (D : Alls P w K mg base n) : DefOk P w K mg base (n + 1) "_law_is_value" 3 (Fn (n + 1) ._law_is_value) := by
  obtain ⟨f, fd, F, h1, h2, h3⟩ := T.f__law_is_value.ex
  exact ⟨f, fd, _, def_ok F sc__law_is_value T.blt fun cdv A outer s H E cx hp => eb__law_is_value T D cdv A outer s H E cx hp, h1, h2, h3⟩
theorem sc__law_is_world : FnScope ["_law_book_here", "_law_thing", "_law_part", "_law_places", "_law_kind", "_law_number_here", "_law_values", "_law_fields", "_law_field", "_law_pair"] ["_law_book_here", "_law_thing"] (defScope (top 39)) := ⟨rfl, rfl, rfl, by decide +kernel, rfl, by decide +kernel, by decide +kernel⟩
theorem eb__law_is_world {P : Program} {w : World} {K : PySem.W.Frag} {mg : Str → Option Value} {base : Heap} {n : Nat} (T : Facts K mg) (D : Alls P w K mg base n) {f : Addr} (cdv : Value) (A : Around) (outer : List PySem.Env) (s : Shared) (H : Hp) (E : XK) (cx : Ctx (XOf P w K mg base ["_law_book_here", "_law_thing", "_law_part", "_law_places", "_law_kind", "_law_number_here", "_law_values", "_law_fields", "_law_field", "_law_pair"] "_law_is_world" (top 39) f cdv A outer s H E) E n) (hp : PassesOwn (model P w) (XOf P w K mg base ["_law_book_here", "_law_thing", "_law_part", "_law_places", "_law_kind", "_law_number_here", "_law_values", "_law_fields", "_law_field", "_law_pair"] "_law_is_world" (top 39) f cdv A outer s H E).A (XOf P w K mg base ["_law_book_here", "_law_thing", "_law_part", "_law_places", "_law_kind", "_law_number_here", "_law_values", "_law_fields", "_law_field", "_law_pair"] "_law_is_world" (top 39) f cdv A outer s H E).env (XOf P w K mg base ["_law_book_here", "_law_thing", "_law_part", "_law_places", "_law_kind", "_law_number_here", "_law_values", "_law_fields", "_law_field", "_law_pair"] "_law_is_world" (top 39) f cdv A outer s H E).xe) : EB (XOf P w K mg base ["_law_book_here", "_law_thing", "_law_part", "_law_places", "_law_kind", "_law_number_here", "_law_values", "_law_fields", "_law_field", "_law_pair"] "_law_is_world" (top 39) f cdv A outer s H E) E (defBody (top 39)) (b__law_is_world (Fn n)) := by
  have g := cx.toGood
  delta b__law_is_world k__law_is_world_1 b__law_is_world_l1 k__law_is_world_2 b__law_is_world_l2 b__law_is_world_l3 t__law_is_world_6 t__law_is_world_5 t__law_is_world_4 t__law_is_world_3 t__law_is_world_2
  exact (eb_cons (es_if (et_not (et_val (ee_isi g (ee_var 1) PyProof.Rows.boot_tuple T.blt.tuple))) (eb_one (es_ret ee_bl)) eb_nil)
  (eb_cons (es_for g hp (ei_any (ee_var 1)) (pg_n g) (grd_name 2) (eb_cons (es_if (et_w (ew_or (et_not (et_val (ee_def cx D._law_is_row (ea_cons (ee_var 2) (ea_cons ee_int (ea_cons ee_int ea_nil)))))) (ew_or (et_not (et_val (ee_isi g (ee_ix g (ee_var 2) ee_int) PyProof.Rows.boot_str T.blt.str))) (ew_or1 (tc ((cNotIn g)) (ee_ix g (ee_var 2) ee_int) (ee_typ (tDict g) (ea_cons (ee_var 0) ea_nil))))))) (eb_one (es_ret ee_bl)) eb_nil)
  (eb_cons (es_if (et_w (ew_or (et_not (et_val (ee_def cx D._law_number (ea_cons (ee_ix g (ee_var 2) ee_int) (ea_cons ee_int (ea_cons ee_int ea_nil)))))) (ew_or1 (et_not (et_val (ee_isi g (ee_ix g (ee_var 2) ee_int) PyProof.Rows.boot_tuple T.blt.tuple)))))) (eb_one (es_ret ee_bl)) eb_nil)
  (eb_one (es_if (tc (cNe g) (ee_lc g (ei_any (ee_ix g (ee_var 2) ee_int)) (own := [("_law_pair", 9)]) (by kernel_rfl) (grd_name 9) (fun s H C cl fp => have cx1 := fun u0 u1 => Ctx.blk cx s H u0 u1 fp; have g1 := fun u0 u1 => (cx1 u0 u1).toGood; (pg_n (g1 _ _))) (fun s H C cl fp => have cx1 := fun u0 u1 => Ctx.blk cx s H u0 u1 fp; have g1 := fun u0 u1 => (cx1 u0 u1).toGood; (eps_one (et_not (et_val (ee_def (cx1 _ _) D._law_is_row (ea_cons (ee_var 9) (ea_cons ee_int (ea_cons ee_int ea_nil)))))))) (fun s H C cl fp => have cx1 := fun u0 u1 => Ctx.blk cx s H u0 u1 fp; have g1 := fun u0 u1 => (cx1 u0 u1).toGood; (ee_var 9))) (ee_lst ea_nil)) (eb_one (es_ret ee_bl)) eb_nil)))))
  (eb_cons (es_setLc g (i := 3) (ei_any (ee_var 1)) (own := [("_law_part", 2)]) (by kernel_rfl) (grd_name 2) (fun s H C cl fp => have cx1 := fun u0 u1 => Ctx.blk cx s H u0 u1 fp; have g1 := fun u0 u1 => (cx1 u0 u1).toGood; (pg_n (g1 _ _))) (fun s H C cl fp => have cx1 := fun u0 u1 => Ctx.blk cx s H u0 u1 fp; have g1 := fun u0 u1 => (cx1 u0 u1).toGood; eps_nil) (fun s H C cl fp => have cx1 := fun u0 u1 => Ctx.blk cx s H u0 u1 fp; have g1 := fun u0 u1 => (cx1 u0 u1).toGood; (ee_slice (ee_var 2) eo_none (eo_some ee_int))) (sw_true rfl rfl rfl rfl))
  (eb_cons (es_if (et_w (ew_or (tc (cNe g) (ee_var 3) (ee_ssortT g (ee_var 3))) (ew_or1 (tc ((cNotIn g)) (ee_tup (ea_cons (ee_str hs_Root) (ea_cons ee_int ea_nil))) (ee_var 3))))) (eb_one (es_ret ee_bl)) eb_nil)
  (eb_cons (es_for g hp (ei_any (ee_var 1)) (pg_t g (pgs_cons (pg_n g) (pgs_cons (pg_n g) (pgs_cons (pg_n g) pgs_nil)))) (grd_tup (grds_cons (grd_name 4) (grds_cons (grd_name 5) (grds_cons (grd_name 6) grds_nil)))) (eb_cons (es_set g (i := 7) (ee_ix g (ee_typ (tDict g) (ea_cons (ee_var 0) ea_nil)) (ee_var 4)))
  (eb_cons (es_if (tc (cNe g) (ee_blt (bLen g) (ea_cons (ee_var 6) ea_nil)) (ee_blt (bLen g) (ea_cons (ee_var 7) ea_nil))) (eb_one (es_ret ee_bl)) eb_nil)
  (eb_one (es_for g hp (ei_zip g (ea_cons (ee_var 7) (ea_cons (ee_var 6) ea_nil))) (pg_t g (pgs_cons (pg_n g) (pgs_cons (pg_n g) pgs_nil))) (grd_tup (grds_cons (grd_name 8) (grds_cons (grd_name 9) grds_nil))) (eb_one (es_if (et_w (ew_or (tc (cNe g) (ee_ix g (ee_var 9) ee_int) (ee_ix g (ee_var 8) ee_int)) (ew_or1 (et_not (et_val (ee_def cx D._law_is_value (ea_cons (ee_ix g (ee_var 8) ee_int) (ea_cons (ee_ix g (ee_var 9) ee_int) (ea_cons (ee_var 3) ea_nil))))))))) (eb_one (es_ret ee_bl)) eb_nil)))))))
  (eb_one (es_ret ee_bl)))))))
theorem ok__law_is_world {P : Program} {w : World} {K : PySem.W.Frag} {mg : Str → Option Value} {base : Heap} {n : Nat} (T : Facts K mg) (D : Alls P w K mg base n) : DefOk P w K mg base (n + 1) "_law_is_world" 2 (Fn (n + 1) ._law_is_world) := by
  obtain ⟨f, fd, F, h1, h2, h3⟩ := T.f__law_is_world.ex
  exact ⟨f, fd, _, def_ok F sc__law_is_world T.blt fun cdv A outer s H E cx hp => eb__law_is_world T D cdv A outer s H E cx hp, h1, h2, h3⟩
theorem sc__law_spoilt : FnScope ["_law_thing", "_law_number_here", "_law_deep", "_law_at", "_law_part", "_law_some"] ["_law_thing", "_law_number_here", "_law_deep"] (defScope (top 40)) := ⟨rfl, rfl, rfl, by decide +kernel, rfl, by decide +kernel, by decide +kernel⟩
theorem eb__law_spoilt {P : Program} {w : World} {K : PySem.W.Frag} {mg : Str → Option Value} {base : Heap} {n : Nat} (T : Facts K mg) (D : Alls P w K mg base n) {f : Addr} (cdv : Value) (A : Around) (outer : List PySem.Env) (s : Shared) (H : Hp) (E : XK) (cx : Ctx (XOf P w K mg base ["_law_thing", "_law_number_here", "_law_deep", "_law_at", "_law_part", "_law_some"] "_law_spoilt" (top 40) f cdv A outer s H E) E n) (hp : PassesOwn (model P w) (XOf P w K mg base ["_law_thing", "_law_number_here", "_law_deep", "_law_at", "_law_part", "_law_some"] "_law_spoilt" (top 40) f cdv A outer s H E).A (XOf P w K mg base ["_law_thing", "_law_number_here", "_law_deep", "_law_at", "_law_part", "_law_some"] "_law_spoilt" (top 40) f cdv A outer s H E).env (XOf P w K mg base ["_law_thing", "_law_number_here", "_law_deep", "_law_at", "_law_part", "_law_some"] "_law_spoilt" (top 40) f cdv A outer s H E).xe) : EB (XOf P w K mg base ["_law_thing", "_law_number_here", "_law_deep", "_law_at", "_law_part", "_law_some"] "_law_spoilt" (top 40) f cdv A outer s H E) E (defBody (top 40)) (b__law_spoilt (Fn n)) := by
  have g := cx.toGood
  delta b__law_spoilt
  exact (eb_cons (es_if (et_w (ew_and (tc (cGt) (ee_var 2) ee_int) (ew_and (et_val (ee_isi g (ee_var 0) PyProof.Rows.boot_tuple T.blt.tuple)) (ew_and (tc (cGt) (ee_blt (bLen g) (ea_cons (ee_var 0) ea_nil)) ee_int) (ew_and1 (tc (cGt) (ee_mod (ee_var 1) ee_int) ee_int)))))) (eb_cons (es_set g (i := 3) (ee_mod (ee_div (ee_var 1) ee_int) (ee_blt (bLen g) (ea_cons (ee_var 0) ea_nil))))
  (eb_cons (es_set g (i := 4) (ee_def cx D._law_spoilt (ea_cons (ee_ix g (ee_var 0) (ee_var 3)) (ea_cons (ee_div (ee_def cx D._law_drawn (ea_cons (ee_var 1) (ea_cons (ee_var 2) ea_nil))) ee_int) (ea_cons (ee_sub (ee_var 2) ee_int) ea_nil)))))
  (eb_one (es_ret (ee_add (ee_add (ee_slice (ee_var 0) eo_none (eo_some (ee_var 3))) (ee_tup (ea_cons (ee_var 4) ea_nil))) (ee_slice (ee_var 0) (eo_some (ee_add (ee_var 3) ee_int)) eo_none)))))) eb_nil)
  (eb_cons (es_if (et_w (ew_and (et_val (ee_isi g (ee_var 0) PyProof.Rows.boot_tuple T.blt.tuple)) (ew_and (tc (cGt) (ee_blt (bLen g) (ea_cons (ee_var 0) ea_nil)) ee_int) (ew_and1 (tc (cEq g) (ee_mod (ee_div (ee_var 1) ee_int) ee_int) ee_int))))) (eb_one (es_ret (ee_ix g (ee_lst (ea_cons (ee_typ (tList g) (ea_cons (ee_var 0) ea_nil)) (ea_cons (ee_slice (ee_var 0) eo_none (eo_some ee_neg)) (ea_cons (ee_add (ee_var 0) (ee_slice (ee_var 0) (eo_some ee_neg) eo_none)) (ea_cons (ee_slice (ee_var 0) (eo_some ee_int) eo_none) (ea_cons (ee_rev (ee_var 0)) (ea_cons (ee_tup ea_nil) ea_nil))))))) (ee_mod (ee_div (ee_var 1) ee_int) ee_int)))) eb_nil)
  (eb_cons (es_if (et_w (ew_and (et_val (ee_isi g (ee_var 0) PyProof.Rows.boot_str T.blt.str)) (ew_and1 (tc (cEq g) (ee_mod (ee_div (ee_var 1) ee_int) ee_int) ee_int)))) (eb_one (es_ret (ee_ix g (ee_lst (ea_cons (ee_add (ee_var 0) (ee_str hs_a)) (ea_cons (ee_slice (ee_var 0) (eo_some ee_int) eo_none) (ea_cons (ee_add (ee_var 0) (ee_str hs_1)) (ea_cons (ee_str hs_number) (ea_cons (ee_upper (ee_var 0)) (ea_cons (ee_str hs_must) ea_nil))))))) (ee_mod (ee_div (ee_var 1) ee_int) ee_int)))) eb_nil)
  (eb_cons (es_if (et_w (ew_and (et_val (ee_isi g (ee_var 0) PyProof.Rows.boot_int T.blt.int)) (ew_and1 (tc (cEq g) (ee_mod (ee_div (ee_var 1) ee_int) ee_int) ee_int)))) (eb_one (es_ret (ee_ix g (ee_lst (ea_cons (ee_typ (tStr g) (ea_cons (ee_var 0) ea_nil)) (ea_cons (ee_sub ee_int (ee_var 0)) (ea_cons (ee_add (ee_var 0) ee_int) (ea_cons (ec (cEq g) (ee_var 0) ee_int) (ea_cons (ee_sub (ee_var 0) ee_int) (ea_cons (ee_add (ee_var 0) ee_int) ea_nil))))))) (ee_mod (ee_div (ee_var 1) ee_int) ee_int)))) eb_nil)
  (eb_cons (es_set g (i := 5) (ee_lst (ea_cons ee_non (ea_cons ee_bl (ea_cons ee_bl (ea_cons ee_int (ea_cons ee_int (ea_cons ee_int (ea_cons ee_int (ea_cons ee_neg (ea_cons ee_int (ea_cons (ee_str hs_nil) (ea_cons (ee_str hs_a) (ea_cons (ee_str hs_Root) (ea_cons (ee_str hs_piece) (ea_cons (ee_tup ea_nil) (ea_cons (ee_tup (ea_cons ee_int (ea_cons ee_int ea_nil))) (ea_cons (ee_lst ea_nil) ea_nil))))))))))))))))))
  (eb_one (es_ret (ee_ix g (ee_add (ee_var 5) (ee_lst (ea_cons (ee_tup (ea_cons (ee_str hs_x21) (ea_cons (ee_str hs_a) ea_nil))) (ea_cons (ee_tup (ea_cons (ee_str hs_hole) (ea_cons (ee_str hs_n) ea_nil))) ea_nil)))) (ee_mod (ee_div (ee_var 1) ee_int) ee_int)))))))))
theorem ok__law_spoilt {P : Program} {w : World} {K : PySem.W.Frag} {mg : Str → Option Value} {base : Heap} {n : Nat} (T : Facts K mg) (D : Alls P w K mg base n) : DefOk P w K mg base (n + 1) "_law_spoilt" 3 (Fn (n + 1) ._law_spoilt) := by
  obtain ⟨f, fd, F, h1, h2, h3⟩ := T.f__law_spoilt.ex
  exact ⟨f, fd, _, def_ok F sc__law_spoilt T.blt fun cdv A outer s H E cx hp => eb__law_spoilt T D cdv A outer s H E cx hp, h1, h2, h3⟩
theorem sc__law_edges_v2 : FnScope ["_law_number_here", "_law_sort_here", "_law_values", "_law_more", "_law_value_here", "_law_book_here", "_law_last", "_law_world_here"] ["_law_number_here"] (defScope (top 41)) := ⟨rfl, rfl, rfl, by decide +kernel, rfl, by decide +kernel, by decide +kernel⟩
theorem eb__law_edges_v2 {P : Program} {w : World} {K : PySem.W.Frag} {mg : Str → Option Value} {base : Heap} {n : Nat} (T : Facts K mg) (D : Alls P w K mg base n) {f : Addr} (cdv : Value) (A : Around) (outer : List PySem.Env) (s : Shared) (H : Hp) (E : XK) (cx : Ctx (XOf P w K mg base ["_law_number_here", "_law_sort_here", "_law_values", "_law_more", "_law_value_here", "_law_book_here", "_law_last", "_law_world_here"] "_law_edges" (top 41) f cdv A outer s H E) E n) (hp : PassesOwn (model P w) (XOf P w K mg base ["_law_number_here", "_law_sort_here", "_law_values", "_law_more", "_law_value_here", "_law_book_here", "_law_last", "_law_world_here"] "_law_edges" (top 41) f cdv A outer s H E).A (XOf P w K mg base ["_law_number_here", "_law_sort_here", "_law_values", "_law_more", "_law_value_here", "_law_book_here", "_law_last", "_law_world_here"] "_law_edges" (top 41) f cdv A outer s H E).env (XOf P w K mg base ["_law_number_here", "_law_sort_here", "_law_values", "_law_more", "_law_value_here", "_law_book_here", "_law_last", "_law_world_here"] "_law_edges" (top 41) f cdv A outer s H E).xe) : EB (XOf P w K mg base ["_law_number_here", "_law_sort_here", "_law_values", "_law_more", "_law_value_here", "_law_book_here", "_law_last", "_law_world_here"] "_law_edges" (top 41) f cdv A outer s H E) E (defBody (top 41)) (b__law_edges_v2 (Fn n)) := by
  have g := cx.toGood
  delta b__law_edges_v2 t__law_edges_v2_9 t__law_edges_v2_8 t__law_edges_v2_7 t__law_edges_v2_6 t__law_edges_v2_5 t__law_edges_v2_4 t__law_edges_v2_3 t__law_edges_v2_2
  exact (eb_cons (es_set g (i := 1) (ee_ix g (ee_tup (ea_cons (ee_tup (ea_cons (ee_str hs_many) (ea_cons (ee_str hs_number) ea_nil))) (ea_cons (ee_str hs_number) (ea_cons (ee_str hs_text) (ea_cons (ee_tup (ea_cons (ee_str hs_must) (ea_cons (ee_str hs_truth) ea_nil))) (ea_cons (ee_str hs_Root) (ea_cons (ee_tup (ea_cons (ee_str hs_many) (ea_cons (ee_tup (ea_cons (ee_str hs_many) (ea_cons (ee_str hs_text) ea_nil))) ea_nil))) ea_nil))))))) (ee_mod (ee_var 0) ee_int)))
  (eb_cons (es_set g (i := 2) (ee_tup (ea_cons ee_non (ea_cons (ee_tup (ea_cons (ee_str hs_x21) (ea_cons (ee_str hs_abcd) ea_nil))) (ea_cons (ee_tup (ea_cons (ee_str hs_x21) (ea_cons (ee_str hs_abcde) ea_nil))) (ea_cons (ee_mul (ee_tup (ea_cons ee_int ea_nil)) (ee_add ee_int (ee_mod (ee_div (ee_var 0) ee_int) ee_int))) (ea_cons (ee_add ee_int (ee_mod (ee_div (ee_var 0) ee_int) ee_int)) (ea_cons ee_bl (ea_cons ee_int (ea_cons ee_int ea_nil))))))))))
  (eb_cons (es_set g (i := 3) (ee_tup (ea_cons (ee_add (ee_slice (ee_str hs_abcdef) eo_none (eo_some (ee_add ee_int (ee_mod (ee_div (ee_var 0) ee_int) ee_int)))) (ee_str hs_g)) (ea_cons (ee_str hs_nil) (ea_cons (ee_str hs_A) (ea_cons (ee_sub ee_neg (ee_mod (ee_div (ee_var 0) ee_int) ee_int)) ea_nil))))))
  (eb_cons (es_set g (i := 3) (ee_add (ee_var 3) (ee_tup (ea_cons (ee_tup ea_nil) (ea_cons (ee_tup (ea_cons (ee_tup ea_nil) (ea_cons (ee_tup (ea_cons (ee_str hs_a) ea_nil)) ea_nil))) (ea_cons (ee_tup (ea_cons (ee_str hs_x21) (ea_cons (ee_str hs_no) ea_nil))) (ea_cons (ee_tup (ea_cons (ee_str hs_x21) ea_nil)) ea_nil)))))))
  (eb_cons (es_set g (i := 4) (ee_ix g (ee_add (ee_var 2) (ee_var 3)) (ee_mod (ee_div (ee_var 0) ee_int) ee_int)))
  (eb_cons (es_set g (i := 5) (ee_tup (ea_cons (ee_tup (ea_cons (ee_str hs_Root) (ea_cons (ee_tup (ea_cons (ee_tup (ea_cons (ee_str hs_a) (ea_cons (ee_var 1) (ea_cons (ee_tup ea_nil) ea_nil)))) ea_nil)) ea_nil))) ea_nil)))
  (eb_cons (es_set g (i := 6) (ee_add ee_int (ee_mod (ee_div (ee_var 0) ee_int) ee_int)))
  (eb_cons (es_set g (i := 7) (ee_tup (ea_cons (ee_tup (ea_cons (ee_str hs_Root) (ea_cons ee_int (ea_cons (ee_tup (ea_cons (ee_tup (ea_cons (ee_str hs_a) (ea_cons (ee_var 4) ea_nil))) ea_nil)) ea_nil)))) (ea_cons (ee_tup (ea_cons (ee_str hs_Root) (ea_cons (ee_var 6) (ea_cons (ee_tup (ea_cons (ee_tup (ea_cons (ee_str hs_a) (ea_cons ee_non ea_nil))) ea_nil)) ea_nil)))) ea_nil))))
  (eb_one (es_ret (ee_lst (ea_cons (ee_tup (ea_cons (ee_var 5) (ea_cons (ee_var 7) ea_nil))) (ea_cons (ee_tup (ea_cons (ee_var 5) (ea_cons (ee_slice (ee_var 7) (eo_some ee_int) eo_none) ea_nil))) (ea_cons (ee_tup (ea_cons (ee_var 5) (ea_cons (ee_slice (ee_var 7) eo_none (eo_some ee_int)) ea_nil))) ea_nil))))))))))))))
theorem ok__law_edges_v2 {P : Program} {w : World} {K : PySem.W.Frag} {mg : Str → Option Value} {base : Heap} {n : Nat} (T : Facts K mg) (D : Alls P w K mg base n) : DefOk P w K mg base (n + 1) "_law_edges" 1 (Fn (n + 1) ._law_edges_v2) := by
  obtain ⟨f, fd, F, h1, h2, h3⟩ := T.f__law_edges_v2.ex
  exact ⟨f, fd, _, def_ok F sc__law_edges_v2 T.blt fun cdv A outer s H E cx hp => eb__law_edges_v2 T D cdv A outer s H E cx hp, h1, h2, h3⟩
theorem sc_law_v2 : FnScope ["_law_script", "_law_number_here", "_law_book_here", "_law_thing", "_law_its", "_law_one", "_law_got"] ["_law_script"] (defScope (top 42)) := ⟨rfl, rfl, rfl, by decide +kernel, rfl, by decide +kernel, by decide +kernel⟩
theorem eb_law_v2 {P : Program} {w : World} {K : PySem.W.Frag} {mg : Str → Option Value} {base : Heap} {n : Nat} (T : Facts K mg) (D : Alls P w K mg base n) {f : Addr} (cdv : Value) (A : Around) (outer : List PySem.Env) (s : Shared) (H : Hp) (E : XK) (cx : Ctx (XOf P w K mg base ["_law_script", "_law_number_here", "_law_book_here", "_law_thing", "_law_its", "_law_one", "_law_got"] "law" (top 42) f cdv A outer s H E) E n) (hp : PassesOwn (model P w) (XOf P w K mg base ["_law_script", "_law_number_here", "_law_book_here", "_law_thing", "_law_its", "_law_one", "_law_got"] "law" (top 42) f cdv A outer s H E).A (XOf P w K mg base ["_law_script", "_law_number_here", "_law_book_here", "_law_thing", "_law_its", "_law_one", "_law_got"] "law" (top 42) f cdv A outer s H E).env (XOf P w K mg base ["_law_script", "_law_number_here", "_law_book_here", "_law_thing", "_law_its", "_law_one", "_law_got"] "law" (top 42) f cdv A outer s H E).xe) : EB (XOf P w K mg base ["_law_script", "_law_number_here", "_law_book_here", "_law_thing", "_law_its", "_law_one", "_law_got"] "law" (top 42) f cdv A outer s H E) E (defBody (top 42)) (b_law_v2 (Fn n)) := by
  have g := cx.toGood
  delta b_law_v2 b_law_v2_l1 t_law_v2_7 t_law_v2_6 t_law_v2_5 t_law_v2_4 t_law_v2_3 t_law_v2_2
  exact (eb_cons (es_set g (i := 1) (ee_def cx D._law_mixed (ea_cons (ee_var 0) (ea_cons ee_int ea_nil))))
  (eb_cons (es_set g (i := 2) (ee_def cx D._law_book (ea_cons (ee_def cx D._law_mixed (ea_cons (ee_var 0) (ea_cons ee_int ea_nil))) ea_nil)))
  (eb_cons (es_set g (i := 3) (ee_def cx D._law_world (ea_cons (ee_var 2) (ea_cons (ee_def cx D._law_mixed (ea_cons (ee_var 0) (ea_cons ee_int ea_nil))) ea_nil))))
  (eb_cons (es_if (tc (cIsNot) (ee_def cx D.is_world (ea_cons (ee_var 2) (ea_cons (ee_var 3) ea_nil))) ee_bl) (eb_one (es_ret ee_bl)) eb_nil)
  (eb_cons (es_if (tc (cGt) (ee_mod (ee_var 1) ee_int) ee_int) (eb_one (es_set g (i := 3) (ee_def cx D._law_spoilt (ea_cons (ee_var 3) (ea_cons (ee_def cx D._law_mixed (ea_cons (ee_var 0) (ea_cons ee_int ea_nil))) (ea_cons (ee_mod (ee_div (ee_var 1) ee_int) ee_int) ea_nil)))))) eb_nil)
  (eb_cons (es_for g hp (ei_any (ee_add (ee_def cx D._law_edges_v2 (ea_cons (ee_def cx D._law_mixed (ea_cons (ee_var 0) (ea_cons ee_int ea_nil))) ea_nil)) (ee_lst (ea_cons (ee_tup (ea_cons (ee_var 2) (ea_cons (ee_var 3) ea_nil))) ea_nil)))) (pg_t g (pgs_cons (pg_n g) (pgs_cons (pg_n g) pgs_nil))) (grd_tup (grds_cons (grd_name 4) (grds_cons (grd_name 5) grds_nil))) (eb_cons (es_set g (i := 6) (ee_def cx D.is_world (ea_cons (ee_var 4) (ea_cons (ee_var 5) ea_nil))))
  (eb_one (es_if (et_w (ew_or (et_not (et_val (ee_isi g (ee_var 6) PyProof.Rows.boot_bool T.blt.bool))) (ew_or1 (tc (cNe g) (ee_var 6) (ee_def cx D._law_is_world (ea_cons (ee_var 4) (ea_cons (ee_var 5) ea_nil))))))) (eb_one (es_ret ee_bl)) eb_nil))))
  (eb_one (es_ret ee_bl))))))))
theorem ok_law_v2 {P : Program} {w : World} {K : PySem.W.Frag} {mg : Str → Option Value} {base : Heap} {n : Nat} (T : Facts K mg) (D : Alls P w K mg base n) : DefOk P w K mg base (n + 1) "law" 1 (Fn (n + 1) .law_v2) := by
  obtain ⟨f, fd, F, h1, h2, h3⟩ := T.f_law_v2.ex
  exact ⟨f, fd, _, def_ok F sc_law_v2 T.blt fun cdv A outer s H E cx hp => eb_law_v2 T D cdv A outer s H E cx hp, h1, h2, h3⟩
theorem alls {P : Program} {w : World} {K : PySem.W.Frag} {mg : Str → Option Value} {base : Heap} (T : Facts K mg) : ∀ n, Alls P w K mg base n
  | 0 => {
      is_word := by obtain ⟨f, fd, F, h1, h2, h3⟩ := T.f_is_word.ex; exact ⟨f, fd, _, fnOk_zero, h1, h2, h3⟩
      is_whole := by obtain ⟨f, fd, F, h1, h2, h3⟩ := T.f_is_whole.ex; exact ⟨f, fd, _, fnOk_zero, h1, h2, h3⟩
      is_worth := by obtain ⟨f, fd, F, h1, h2, h3⟩ := T.f_is_worth.ex; exact ⟨f, fd, _, fnOk_zero, h1, h2, h3⟩
      rises := by obtain ⟨f, fd, F, h1, h2, h3⟩ := T.f_rises.ex; exact ⟨f, fd, _, fnOk_zero, h1, h2, h3⟩
      is_bad := by obtain ⟨f, fd, F, h1, h2, h3⟩ := T.f_is_bad.ex; exact ⟨f, fd, _, fnOk_zero, h1, h2, h3⟩
      is_value := by obtain ⟨f, fd, F, h1, h2, h3⟩ := T.f_is_value.ex; exact ⟨f, fd, _, fnOk_zero, h1, h2, h3⟩
      is_place := by obtain ⟨f, fd, F, h1, h2, h3⟩ := T.f_is_place.ex; exact ⟨f, fd, _, fnOk_zero, h1, h2, h3⟩
      are_values := by obtain ⟨f, fd, F, h1, h2, h3⟩ := T.f_are_values.ex; exact ⟨f, fd, _, fnOk_zero, h1, h2, h3⟩
      is_world := by obtain ⟨f, fd, F, h1, h2, h3⟩ := T.f_is_world.ex; exact ⟨f, fd, _, fnOk_zero, h1, h2, h3⟩
      _law_cell_at := by obtain ⟨f, fd, F, h1, h2, h3⟩ := T.f__law_cell_at.ex; exact ⟨f, fd, _, fnOk_zero, h1, h2, h3⟩
      _law_mixed := by obtain ⟨f, fd, F, h1, h2, h3⟩ := T.f__law_mixed.ex; exact ⟨f, fd, _, fnOk_zero, h1, h2, h3⟩
      _law_drawn := by obtain ⟨f, fd, F, h1, h2, h3⟩ := T.f__law_drawn.ex; exact ⟨f, fd, _, fnOk_zero, h1, h2, h3⟩
      _law_takes := by obtain ⟨f, fd, F, h1, h2, h3⟩ := T.f__law_takes.ex; exact ⟨f, fd, _, fnOk_zero, h1, h2, h3⟩
      _law_sort := by obtain ⟨f, fd, F, h1, h2, h3⟩ := T.f__law_sort.ex; exact ⟨f, fd, _, fnOk_zero, h1, h2, h3⟩
      _law_book := by obtain ⟨f, fd, F, h1, h2, h3⟩ := T.f__law_book.ex; exact ⟨f, fd, _, fnOk_zero, h1, h2, h3⟩
      _law_value := by obtain ⟨f, fd, F, h1, h2, h3⟩ := T.f__law_value.ex; exact ⟨f, fd, _, fnOk_zero, h1, h2, h3⟩
      _law_world := by obtain ⟨f, fd, F, h1, h2, h3⟩ := T.f__law_world.ex; exact ⟨f, fd, _, fnOk_zero, h1, h2, h3⟩
      _law_is_word := by obtain ⟨f, fd, F, h1, h2, h3⟩ := T.f__law_is_word.ex; exact ⟨f, fd, _, fnOk_zero, h1, h2, h3⟩
      _law_number := by obtain ⟨f, fd, F, h1, h2, h3⟩ := T.f__law_number.ex; exact ⟨f, fd, _, fnOk_zero, h1, h2, h3⟩
      _law_is_worth := by obtain ⟨f, fd, F, h1, h2, h3⟩ := T.f__law_is_worth.ex; exact ⟨f, fd, _, fnOk_zero, h1, h2, h3⟩
      _law_is_row := by obtain ⟨f, fd, F, h1, h2, h3⟩ := T.f__law_is_row.ex; exact ⟨f, fd, _, fnOk_zero, h1, h2, h3⟩
      _law_is_value := by obtain ⟨f, fd, F, h1, h2, h3⟩ := T.f__law_is_value.ex; exact ⟨f, fd, _, fnOk_zero, h1, h2, h3⟩
      _law_is_world := by obtain ⟨f, fd, F, h1, h2, h3⟩ := T.f__law_is_world.ex; exact ⟨f, fd, _, fnOk_zero, h1, h2, h3⟩
      _law_spoilt := by obtain ⟨f, fd, F, h1, h2, h3⟩ := T.f__law_spoilt.ex; exact ⟨f, fd, _, fnOk_zero, h1, h2, h3⟩
      _law_edges_v2 := by obtain ⟨f, fd, F, h1, h2, h3⟩ := T.f__law_edges_v2.ex; exact ⟨f, fd, _, fnOk_zero, h1, h2, h3⟩
      law_v2 := by obtain ⟨f, fd, F, h1, h2, h3⟩ := T.f_law_v2.ex; exact ⟨f, fd, _, fnOk_zero, h1, h2, h3⟩
    }
  | n + 1 => {
      is_word := ok_is_word T (alls T n)
      is_whole := ok_is_whole T (alls T n)
      is_worth := ok_is_worth T (alls T n)
      rises := ok_rises T (alls T n)
      is_bad := ok_is_bad T (alls T n)
      is_value := ok_is_value T (alls T n)
      is_place := ok_is_place T (alls T n)
      are_values := ok_are_values T (alls T n)
      is_world := ok_is_world T (alls T n)
      _law_cell_at := ok__law_cell_at T (alls T n)
      _law_mixed := ok__law_mixed T (alls T n)
      _law_drawn := ok__law_drawn T (alls T n)
      _law_takes := ok__law_takes T (alls T n)
      _law_sort := ok__law_sort T (alls T n)
      _law_book := ok__law_book T (alls T n)
      _law_value := ok__law_value T (alls T n)
      _law_world := ok__law_world T (alls T n)
      _law_is_word := ok__law_is_word T (alls T n)
      _law_number := ok__law_number T (alls T n)
      _law_is_worth := ok__law_is_worth T (alls T n)
      _law_is_row := ok__law_is_row T (alls T n)
      _law_is_value := ok__law_is_value T (alls T n)
      _law_is_world := ok__law_is_world T (alls T n)
      _law_spoilt := ok__law_spoilt T (alls T n)
      _law_edges_v2 := ok__law_edges_v2 T (alls T n)
      law_v2 := ok_law_v2 T (alls T n)
    }
end LW

-- part LWE
namespace LW
open PySem L2 RZ G

set_option maxHeartbeats 0 in
theorem facts_mk {K : PySem.W.Frag} {h : Heap} {mg : Str → Option Value} (X : K.In h) (G : h.Ns mainGlobals mg)
    {t_BASES_0 : Tok}
    {t_BASES_1 : Tok}
    {t_BASES_2 : Tok}
    {a_BASES : Addr} {od_BASES : Option Addr} {n_BASES : Nat} {sl_BASES : Array (Option Value)}
    {t_FAR : Tok}
    {t_FAULT : Tok}
    {t_LAST_THING : Tok}
    {t_LETTERS : Tok}
    {t_MOST_MANY : Tok}
    {t_MOST_TEXT : Tok}
    {t_MOST_WORD : Tok}
    {t_MUST : Tok}
    {t_NUMBER : Tok}
    {t_ROOT : Tok}
    {t_TRUTH : Tok}
    {f_is_word : Addr} {od_is_word an_is_word : Option Addr} {sl_is_word : Array (Option Value)} {oc_is_word kV_is_word dc_is_word pm_is_word cd_is_word ct_is_word : Value}
    {f_is_whole : Addr} {od_is_whole an_is_whole : Option Addr} {sl_is_whole : Array (Option Value)} {oc_is_whole kV_is_whole dc_is_whole pm_is_whole cd_is_whole ct_is_whole : Value}
    {f_is_worth : Addr} {od_is_worth an_is_worth : Option Addr} {sl_is_worth : Array (Option Value)} {oc_is_worth kV_is_worth dc_is_worth pm_is_worth cd_is_worth ct_is_worth : Value}
    {f_rises : Addr} {od_rises an_rises : Option Addr} {sl_rises : Array (Option Value)} {oc_rises kV_rises dc_rises pm_rises cd_rises ct_rises : Value}
    {f_is_bad : Addr} {od_is_bad an_is_bad : Option Addr} {sl_is_bad : Array (Option Value)} {oc_is_bad kV_is_bad dc_is_bad pm_is_bad cd_is_bad ct_is_bad : Value}
    {f_is_value : Addr} {od_is_value an_is_value : Option Addr} {sl_is_value : Array (Option Value)} {oc_is_value kV_is_value dc_is_value pm_is_value cd_is_value ct_is_value : Value}
    {f_is_place : Addr} {od_is_place an_is_place : Option Addr} {sl_is_place : Array (Option Value)} {oc_is_place kV_is_place dc_is_place pm_is_place cd_is_place ct_is_place : Value}
    {f_are_values : Addr} {od_are_values an_are_values : Option Addr} {sl_are_values : Array (Option Value)} {oc_are_values kV_are_values dc_are_values pm_are_values cd_are_values ct_are_values : Value}
    {f_is_world : Addr} {od_is_world an_is_world : Option Addr} {sl_is_world : Array (Option Value)} {oc_is_world kV_is_world dc_is_world pm_is_world cd_is_world ct_is_world : Value}
    {f__law_cell_at : Addr} {od__law_cell_at an__law_cell_at : Option Addr} {sl__law_cell_at : Array (Option Value)} {oc__law_cell_at kV__law_cell_at dc__law_cell_at pm__law_cell_at cd__law_cell_at ct__law_cell_at : Value}
    {f__law_mixed : Addr} {od__law_mixed an__law_mixed : Option Addr} {sl__law_mixed : Array (Option Value)} {oc__law_mixed kV__law_mixed dc__law_mixed pm__law_mixed cd__law_mixed ct__law_mixed : Value}
    {f__law_drawn : Addr} {od__law_drawn an__law_drawn : Option Addr} {sl__law_drawn : Array (Option Value)} {oc__law_drawn kV__law_drawn dc__law_drawn pm__law_drawn cd__law_drawn ct__law_drawn : Value}
    {f__law_takes : Addr} {od__law_takes an__law_takes : Option Addr} {sl__law_takes : Array (Option Value)} {oc__law_takes kV__law_takes dc__law_takes pm__law_takes cd__law_takes ct__law_takes : Value}
    {f__law_sort : Addr} {od__law_sort an__law_sort : Option Addr} {sl__law_sort : Array (Option Value)} {oc__law_sort kV__law_sort dc__law_sort pm__law_sort cd__law_sort ct__law_sort : Value}
    {f__law_book : Addr} {od__law_book an__law_book : Option Addr} {sl__law_book : Array (Option Value)} {oc__law_book kV__law_book dc__law_book pm__law_book cd__law_book ct__law_book : Value}
    {f__law_value : Addr} {od__law_value an__law_value : Option Addr} {sl__law_value : Array (Option Value)} {oc__law_value kV__law_value dc__law_value pm__law_value cd__law_value ct__law_value : Value}
    {f__law_world : Addr} {od__law_world an__law_world : Option Addr} {sl__law_world : Array (Option Value)} {oc__law_world kV__law_world dc__law_world pm__law_world cd__law_world ct__law_world : Value}
    {f__law_is_word : Addr} {od__law_is_word an__law_is_word : Option Addr} {sl__law_is_word : Array (Option Value)} {oc__law_is_word kV__law_is_word dc__law_is_word pm__law_is_word cd__law_is_word ct__law_is_word : Value}
    {f__law_number : Addr} {od__law_number an__law_number : Option Addr} {sl__law_number : Array (Option Value)} {oc__law_number kV__law_number dc__law_number pm__law_number cd__law_number ct__law_number : Value}
    {f__law_is_worth : Addr} {od__law_is_worth an__law_is_worth : Option Addr} {sl__law_is_worth : Array (Option Value)} {oc__law_is_worth kV__law_is_worth dc__law_is_worth pm__law_is_worth cd__law_is_worth ct__law_is_worth : Value}
    {f__law_is_row : Addr} {od__law_is_row an__law_is_row : Option Addr} {sl__law_is_row : Array (Option Value)} {oc__law_is_row kV__law_is_row dc__law_is_row pm__law_is_row cd__law_is_row ct__law_is_row : Value}
    {f__law_is_value : Addr} {od__law_is_value an__law_is_value : Option Addr} {sl__law_is_value : Array (Option Value)} {oc__law_is_value kV__law_is_value dc__law_is_value pm__law_is_value cd__law_is_value ct__law_is_value : Value}
    {f__law_is_world : Addr} {od__law_is_world an__law_is_world : Option Addr} {sl__law_is_world : Array (Option Value)} {oc__law_is_world kV__law_is_world dc__law_is_world pm__law_is_world cd__law_is_world ct__law_is_world : Value}
    {f__law_spoilt : Addr} {od__law_spoilt an__law_spoilt : Option Addr} {sl__law_spoilt : Array (Option Value)} {oc__law_spoilt kV__law_spoilt dc__law_spoilt pm__law_spoilt cd__law_spoilt ct__law_spoilt : Value}
    {f__law_edges_v2 : Addr} {od__law_edges_v2 an__law_edges_v2 : Option Addr} {sl__law_edges_v2 : Array (Option Value)} {oc__law_edges_v2 kV__law_edges_v2 dc__law_edges_v2 pm__law_edges_v2 cd__law_edges_v2 ct__law_edges_v2 : Value}
    {f_law_v2 : Addr} {od_law_v2 an_law_v2 : Option Addr} {sl_law_v2 : Array (Option Value)} {oc_law_v2 kV_law_v2 dc_law_v2 pm_law_v2 cd_law_v2 ct_law_v2 : Value}
    (z_len : PySem.W.nsIn K mainGlobals "len" = some none)
    (z_isinstance : PySem.W.nsIn K mainGlobals "isinstance" = some none)
    (z_all : PySem.W.nsIn K mainGlobals "all" = some none)
    (z_any : PySem.W.nsIn K mainGlobals "any" = some none)
    (z_tuple : PySem.W.nsIn K mainGlobals "tuple" = some none)
    (z_list : PySem.W.nsIn K mainGlobals "list" = some none)
    (z_dict : PySem.W.nsIn K mainGlobals "dict" = some none)
    (z_set : PySem.W.nsIn K mainGlobals "set" = some none)
    (z_sorted : PySem.W.nsIn K mainGlobals "sorted" = some none)
    (z_int : PySem.W.nsIn K mainGlobals "int" = some none)
    (z_str : PySem.W.nsIn K mainGlobals "str" = some none)
    (z_bool : PySem.W.nsIn K mainGlobals "bool" = some none)
    (z_range : PySem.W.nsIn K mainGlobals "range" = some none)
    (z_enumerate : PySem.W.nsIn K mainGlobals "enumerate" = some none)
    (z_zip : PySem.W.nsIn K mainGlobals "zip" = some none)
    (z_max : PySem.W.nsIn K mainGlobals "max" = some none)
    (z_sum : PySem.W.nsIn K mainGlobals "sum" = some none)
    (z_repr : PySem.W.nsIn K mainGlobals "repr" = some none)
    (c_BASES : PySem.W.nsIn K mainGlobals "BASES" = some (some (.ref a_BASES)))
    (o_BASES : K.lookup a_BASES = some ⟨.type "tuple", od_BASES, .seq #[.str (Str.ofString "number") t_BASES_0, .str (Str.ofString "text") t_BASES_1, .str (Str.ofString "truth") t_BASES_2] n_BASES, sl_BASES⟩)
    (c_FAR : PySem.W.nsIn K mainGlobals "FAR" = some (some (.int 999 t_FAR)))
    (c_FAULT : PySem.W.nsIn K mainGlobals "FAULT" = some (some (.str (Str.ofString "!") t_FAULT)))
    (c_LAST_THING : PySem.W.nsIn K mainGlobals "LAST_THING" = some (some (.int 20 t_LAST_THING)))
    (c_LETTERS : PySem.W.nsIn K mainGlobals "LETTERS" = some (some (.str (Str.ofString "abcdefghijklmnopqrstuvwxyz") t_LETTERS)))
    (c_MOST_MANY : PySem.W.nsIn K mainGlobals "MOST_MANY" = some (some (.int 4 t_MOST_MANY)))
    (c_MOST_TEXT : PySem.W.nsIn K mainGlobals "MOST_TEXT" = some (some (.int 6 t_MOST_TEXT)))
    (c_MOST_WORD : PySem.W.nsIn K mainGlobals "MOST_WORD" = some (some (.int 4 t_MOST_WORD)))
    (c_MUST : PySem.W.nsIn K mainGlobals "MUST" = some (some (.str (Str.ofString "must") t_MUST)))
    (c_NUMBER : PySem.W.nsIn K mainGlobals "NUMBER" = some (some (.str (Str.ofString "number") t_NUMBER)))
    (c_ROOT : PySem.W.nsIn K mainGlobals "ROOT" = some (some (.str (Str.ofString "Root") t_ROOT)))
    (c_TRUTH : PySem.W.nsIn K mainGlobals "TRUTH" = some (some (.str (Str.ofString "truth") t_TRUTH)))
    (a_is_word : PySem.W.nsIn K mainGlobals "is_word" = some (some (.ref f_is_word))) (l_is_word : K.lookup f_is_word = some ⟨oc_is_word, od_is_word, .func (PySem.W.fnOf "is_word" "is_word" (defArgs (top 11)) (defBody (top 11)) (defScope (top 11)) .none kV_is_word dc_is_word pm_is_word an_is_word cd_is_word ct_is_word), sl_is_word⟩) (c_is_word : PySem.W.codeIn K cd_is_word "is_word" = true) (k_is_word : PySem.W.keepIn K (.ref f_is_word) = true)
    (a_is_whole : PySem.W.nsIn K mainGlobals "is_whole" = some (some (.ref f_is_whole))) (l_is_whole : K.lookup f_is_whole = some ⟨oc_is_whole, od_is_whole, .func (PySem.W.fnOf "is_whole" "is_whole" (defArgs (top 12)) (defBody (top 12)) (defScope (top 12)) .none kV_is_whole dc_is_whole pm_is_whole an_is_whole cd_is_whole ct_is_whole), sl_is_whole⟩) (c_is_whole : PySem.W.codeIn K cd_is_whole "is_whole" = true) (k_is_whole : PySem.W.keepIn K (.ref f_is_whole) = true)
    (a_is_worth : PySem.W.nsIn K mainGlobals "is_worth" = some (some (.ref f_is_worth))) (l_is_worth : K.lookup f_is_worth = some ⟨oc_is_worth, od_is_worth, .func (PySem.W.fnOf "is_worth" "is_worth" (defArgs (top 13)) (defBody (top 13)) (defScope (top 13)) .none kV_is_worth dc_is_worth pm_is_worth an_is_worth cd_is_worth ct_is_worth), sl_is_worth⟩) (c_is_worth : PySem.W.codeIn K cd_is_worth "is_worth" = true) (k_is_worth : PySem.W.keepIn K (.ref f_is_worth) = true)
    (a_rises : PySem.W.nsIn K mainGlobals "rises" = some (some (.ref f_rises))) (l_rises : K.lookup f_rises = some ⟨oc_rises, od_rises, .func (PySem.W.fnOf "rises" "rises" (defArgs (top 14)) (defBody (top 14)) (defScope (top 14)) .none kV_rises dc_rises pm_rises an_rises cd_rises ct_rises), sl_rises⟩) (c_rises : PySem.W.codeIn K cd_rises "rises" = true) (k_rises : PySem.W.keepIn K (.ref f_rises) = true)
    (a_is_bad : PySem.W.nsIn K mainGlobals "is_bad" = some (some (.ref f_is_bad))) (l_is_bad : K.lookup f_is_bad = some ⟨oc_is_bad, od_is_bad, .func (PySem.W.fnOf "is_bad" "is_bad" (defArgs (top 19)) (defBody (top 19)) (defScope (top 19)) .none kV_is_bad dc_is_bad pm_is_bad an_is_bad cd_is_bad ct_is_bad), sl_is_bad⟩) (c_is_bad : PySem.W.codeIn K cd_is_bad "is_bad" = true) (k_is_bad : PySem.W.keepIn K (.ref f_is_bad) = true)
    (a_is_value : PySem.W.nsIn K mainGlobals "is_value" = some (some (.ref f_is_value))) (l_is_value : K.lookup f_is_value = some ⟨oc_is_value, od_is_value, .func (PySem.W.fnOf "is_value" "is_value" (defArgs (top 20)) (defBody (top 20)) (defScope (top 20)) .none kV_is_value dc_is_value pm_is_value an_is_value cd_is_value ct_is_value), sl_is_value⟩) (c_is_value : PySem.W.codeIn K cd_is_value "is_value" = true) (k_is_value : PySem.W.keepIn K (.ref f_is_value) = true)
    (a_is_place : PySem.W.nsIn K mainGlobals "is_place" = some (some (.ref f_is_place))) (l_is_place : K.lookup f_is_place = some ⟨oc_is_place, od_is_place, .func (PySem.W.fnOf "is_place" "is_place" (defArgs (top 21)) (defBody (top 21)) (defScope (top 21)) .none kV_is_place dc_is_place pm_is_place an_is_place cd_is_place ct_is_place), sl_is_place⟩) (c_is_place : PySem.W.codeIn K cd_is_place "is_place" = true) (k_is_place : PySem.W.keepIn K (.ref f_is_place) = true)
    (a_are_values : PySem.W.nsIn K mainGlobals "are_values" = some (some (.ref f_are_values))) (l_are_values : K.lookup f_are_values = some ⟨oc_are_values, od_are_values, .func (PySem.W.fnOf "are_values" "are_values" (defArgs (top 22)) (defBody (top 22)) (defScope (top 22)) .none kV_are_values dc_are_values pm_are_values an_are_values cd_are_values ct_are_values), sl_are_values⟩) (c_are_values : PySem.W.codeIn K cd_are_values "are_values" = true) (k_are_values : PySem.W.keepIn K (.ref f_are_values) = true)
    (a_is_world : PySem.W.nsIn K mainGlobals "is_world" = some (some (.ref f_is_world))) (l_is_world : K.lookup f_is_world = some ⟨oc_is_world, od_is_world, .func (PySem.W.fnOf "is_world" "is_world" (defArgs (top 23)) (defBody (top 23)) (defScope (top 23)) .none kV_is_world dc_is_world pm_is_world an_is_world cd_is_world ct_is_world), sl_is_world⟩) (c_is_world : PySem.W.codeIn K cd_is_world "is_world" = true) (k_is_world : PySem.W.keepIn K (.ref f_is_world) = true)
    (a__law_cell_at : PySem.W.nsIn K mainGlobals "_law_cell_at" = some (some (.ref f__law_cell_at))) (l__law_cell_at : K.lookup f__law_cell_at = some ⟨oc__law_cell_at, od__law_cell_at, .func (PySem.W.fnOf "_law_cell_at" "_law_cell_at" (defArgs (top 25)) (defBody (top 25)) (defScope (top 25)) .none kV__law_cell_at dc__law_cell_at pm__law_cell_at an__law_cell_at cd__law_cell_at ct__law_cell_at), sl__law_cell_at⟩) (c__law_cell_at : PySem.W.codeIn K cd__law_cell_at "_law_cell_at" = true) (k__law_cell_at : PySem.W.keepIn K (.ref f__law_cell_at) = true)
    (a__law_mixed : PySem.W.nsIn K mainGlobals "_law_mixed" = some (some (.ref f__law_mixed))) (l__law_mixed : K.lookup f__law_mixed = some ⟨oc__law_mixed, od__law_mixed, .func (PySem.W.fnOf "_law_mixed" "_law_mixed" (defArgs (top 26)) (defBody (top 26)) (defScope (top 26)) .none kV__law_mixed dc__law_mixed pm__law_mixed an__law_mixed cd__law_mixed ct__law_mixed), sl__law_mixed⟩) (c__law_mixed : PySem.W.codeIn K cd__law_mixed "_law_mixed" = true) (k__law_mixed : PySem.W.keepIn K (.ref f__law_mixed) = true)
    (a__law_drawn : PySem.W.nsIn K mainGlobals "_law_drawn" = some (some (.ref f__law_drawn))) (l__law_drawn : K.lookup f__law_drawn = some ⟨oc__law_drawn, od__law_drawn, .func (PySem.W.fnOf "_law_drawn" "_law_drawn" (defArgs (top 27)) (defBody (top 27)) (defScope (top 27)) .none kV__law_drawn dc__law_drawn pm__law_drawn an__law_drawn cd__law_drawn ct__law_drawn), sl__law_drawn⟩) (c__law_drawn : PySem.W.codeIn K cd__law_drawn "_law_drawn" = true) (k__law_drawn : PySem.W.keepIn K (.ref f__law_drawn) = true)
    (a__law_takes : PySem.W.nsIn K mainGlobals "_law_takes" = some (some (.ref f__law_takes))) (l__law_takes : K.lookup f__law_takes = some ⟨oc__law_takes, od__law_takes, .func (PySem.W.fnOf "_law_takes" "_law_takes" (defArgs (top 28)) (defBody (top 28)) (defScope (top 28)) .none kV__law_takes dc__law_takes pm__law_takes an__law_takes cd__law_takes ct__law_takes), sl__law_takes⟩) (c__law_takes : PySem.W.codeIn K cd__law_takes "_law_takes" = true) (k__law_takes : PySem.W.keepIn K (.ref f__law_takes) = true)
    (a__law_sort : PySem.W.nsIn K mainGlobals "_law_sort" = some (some (.ref f__law_sort))) (l__law_sort : K.lookup f__law_sort = some ⟨oc__law_sort, od__law_sort, .func (PySem.W.fnOf "_law_sort" "_law_sort" (defArgs (top 29)) (defBody (top 29)) (defScope (top 29)) .none kV__law_sort dc__law_sort pm__law_sort an__law_sort cd__law_sort ct__law_sort), sl__law_sort⟩) (c__law_sort : PySem.W.codeIn K cd__law_sort "_law_sort" = true) (k__law_sort : PySem.W.keepIn K (.ref f__law_sort) = true)
    (a__law_book : PySem.W.nsIn K mainGlobals "_law_book" = some (some (.ref f__law_book))) (l__law_book : K.lookup f__law_book = some ⟨oc__law_book, od__law_book, .func (PySem.W.fnOf "_law_book" "_law_book" (defArgs (top 30)) (defBody (top 30)) (defScope (top 30)) .none kV__law_book dc__law_book pm__law_book an__law_book cd__law_book ct__law_book), sl__law_book⟩) (c__law_book : PySem.W.codeIn K cd__law_book "_law_book" = true) (k__law_book : PySem.W.keepIn K (.ref f__law_book) = true)
    (a__law_value : PySem.W.nsIn K mainGlobals "_law_value" = some (some (.ref f__law_value))) (l__law_value : K.lookup f__law_value = some ⟨oc__law_value, od__law_value, .func (PySem.W.fnOf "_law_value" "_law_value" (defArgs (top 31)) (defBody (top 31)) (defScope (top 31)) .none kV__law_value dc__law_value pm__law_value an__law_value cd__law_value ct__law_value), sl__law_value⟩) (c__law_value : PySem.W.codeIn K cd__law_value "_law_value" = true) (k__law_value : PySem.W.keepIn K (.ref f__law_value) = true)
    (a__law_world : PySem.W.nsIn K mainGlobals "_law_world" = some (some (.ref f__law_world))) (l__law_world : K.lookup f__law_world = some ⟨oc__law_world, od__law_world, .func (PySem.W.fnOf "_law_world" "_law_world" (defArgs (top 32)) (defBody (top 32)) (defScope (top 32)) .none kV__law_world dc__law_world pm__law_world an__law_world cd__law_world ct__law_world), sl__law_world⟩) (c__law_world : PySem.W.codeIn K cd__law_world "_law_world" = true) (k__law_world : PySem.W.keepIn K (.ref f__law_world) = true)
    (a__law_is_word : PySem.W.nsIn K mainGlobals "_law_is_word" = some (some (.ref f__law_is_word))) (l__law_is_word : K.lookup f__law_is_word = some ⟨oc__law_is_word, od__law_is_word, .func (PySem.W.fnOf "_law_is_word" "_law_is_word" (defArgs (top 33)) (defBody (top 33)) (defScope (top 33)) .none kV__law_is_word dc__law_is_word pm__law_is_word an__law_is_word cd__law_is_word ct__law_is_word), sl__law_is_word⟩) (c__law_is_word : PySem.W.codeIn K cd__law_is_word "_law_is_word" = true) (k__law_is_word : PySem.W.keepIn K (.ref f__law_is_word) = true)
    (a__law_number : PySem.W.nsIn K mainGlobals "_law_number" = some (some (.ref f__law_number))) (l__law_number : K.lookup f__law_number = some ⟨oc__law_number, od__law_number, .func (PySem.W.fnOf "_law_number" "_law_number" (defArgs (top 35)) (defBody (top 35)) (defScope (top 35)) .none kV__law_number dc__law_number pm__law_number an__law_number cd__law_number ct__law_number), sl__law_number⟩) (c__law_number : PySem.W.codeIn K cd__law_number "_law_number" = true) (k__law_number : PySem.W.keepIn K (.ref f__law_number) = true)
    (a__law_is_worth : PySem.W.nsIn K mainGlobals "_law_is_worth" = some (some (.ref f__law_is_worth))) (l__law_is_worth : K.lookup f__law_is_worth = some ⟨oc__law_is_worth, od__law_is_worth, .func (PySem.W.fnOf "_law_is_worth" "_law_is_worth" (defArgs (top 36)) (defBody (top 36)) (defScope (top 36)) .none kV__law_is_worth dc__law_is_worth pm__law_is_worth an__law_is_worth cd__law_is_worth ct__law_is_worth), sl__law_is_worth⟩) (c__law_is_worth : PySem.W.codeIn K cd__law_is_worth "_law_is_worth" = true) (k__law_is_worth : PySem.W.keepIn K (.ref f__law_is_worth) = true)
    (a__law_is_row : PySem.W.nsIn K mainGlobals "_law_is_row" = some (some (.ref f__law_is_row))) (l__law_is_row : K.lookup f__law_is_row = some ⟨oc__law_is_row, od__law_is_row, .func (PySem.W.fnOf "_law_is_row" "_law_is_row" (defArgs (top 37)) (defBody (top 37)) (defScope (top 37)) .none kV__law_is_row dc__law_is_row pm__law_is_row an__law_is_row cd__law_is_row ct__law_is_row), sl__law_is_row⟩) (c__law_is_row : PySem.W.codeIn K cd__law_is_row "_law_is_row" = true) (k__law_is_row : PySem.W.keepIn K (.ref f__law_is_row) = true)
    (a__law_is_value : PySem.W.nsIn K mainGlobals "_law_is_value" = some (some (.ref f__law_is_value))) (l__law_is_value : K.lookup f__law_is_value = some ⟨oc__law_is_value, od__law_is_value, .func (PySem.W.fnOf "_law_is_value" "_law_is_value" (defArgs (top 38)) (defBody (top 38)) (defScope (top 38)) .none kV__law_is_value dc__law_is_value pm__law_is_value an__law_is_value cd__law_is_value ct__law_is_value), sl__law_is_value⟩) (c__law_is_value : PySem.W.codeIn K cd__law_is_value "_law_is_value" = true) (k__law_is_value : PySem.W.keepIn K (.ref f__law_is_value) = true)
    (a__law_is_world : PySem.W.nsIn K mainGlobals "_law_is_world" = some (some (.ref f__law_is_world))) (l__law_is_world : K.lookup f__law_is_world = some ⟨oc__law_is_world, od__law_is_world, .func (PySem.W.fnOf "_law_is_world" "_law_is_world" (defArgs (top 39)) (defBody (top 39)) (defScope (top 39)) .none kV__law_is_world dc__law_is_world pm__law_is_world an__law_is_world cd__law_is_world ct__law_is_world), sl__law_is_world⟩) (c__law_is_world : PySem.W.codeIn K cd__law_is_world "_law_is_world" = true) (k__law_is_world : PySem.W.keepIn K (.ref f__law_is_world) = true)
    (a__law_spoilt : PySem.W.nsIn K mainGlobals "_law_spoilt" = some (some (.ref f__law_spoilt))) (l__law_spoilt : K.lookup f__law_spoilt = some ⟨oc__law_spoilt, od__law_spoilt, .func (PySem.W.fnOf "_law_spoilt" "_law_spoilt" (defArgs (top 40)) (defBody (top 40)) (defScope (top 40)) .none kV__law_spoilt dc__law_spoilt pm__law_spoilt an__law_spoilt cd__law_spoilt ct__law_spoilt), sl__law_spoilt⟩) (c__law_spoilt : PySem.W.codeIn K cd__law_spoilt "_law_spoilt" = true) (k__law_spoilt : PySem.W.keepIn K (.ref f__law_spoilt) = true)
    (a__law_edges_v2 : PySem.W.nsIn K mainGlobals "_law_edges" = some (some (.ref f__law_edges_v2))) (l__law_edges_v2 : K.lookup f__law_edges_v2 = some ⟨oc__law_edges_v2, od__law_edges_v2, .func (PySem.W.fnOf "_law_edges" "_law_edges" (defArgs (top 41)) (defBody (top 41)) (defScope (top 41)) .none kV__law_edges_v2 dc__law_edges_v2 pm__law_edges_v2 an__law_edges_v2 cd__law_edges_v2 ct__law_edges_v2), sl__law_edges_v2⟩) (c__law_edges_v2 : PySem.W.codeIn K cd__law_edges_v2 "_law_edges" = true) (k__law_edges_v2 : PySem.W.keepIn K (.ref f__law_edges_v2) = true)
    (a_law_v2 : PySem.W.nsIn K mainGlobals "law" = some (some (.ref f_law_v2))) (l_law_v2 : K.lookup f_law_v2 = some ⟨oc_law_v2, od_law_v2, .func (PySem.W.fnOf "law" "law" (defArgs (top 42)) (defBody (top 42)) (defScope (top 42)) .none kV_law_v2 dc_law_v2 pm_law_v2 an_law_v2 cd_law_v2 ct_law_v2), sl_law_v2⟩) (c_law_v2 : PySem.W.codeIn K cd_law_v2 "law" = true) (k_law_v2 : PySem.W.keepIn K (.ref f_law_v2) = true) : Facts K mg :=
  ⟨⟨PySem.W.mg_none_of X G z_len, PySem.W.mg_none_of X G z_isinstance, PySem.W.mg_none_of X G z_all, PySem.W.mg_none_of X G z_any, PySem.W.mg_none_of X G z_tuple, PySem.W.mg_none_of X G z_list, PySem.W.mg_none_of X G z_dict, PySem.W.mg_none_of X G z_set, PySem.W.mg_none_of X G z_sorted, PySem.W.mg_none_of X G z_int, PySem.W.mg_none_of X G z_str, PySem.W.mg_none_of X G z_bool, PySem.W.mg_none_of X G z_range, PySem.W.mg_none_of X G z_enumerate, PySem.W.mg_none_of X G z_zip, PySem.W.mg_none_of X G z_max, PySem.W.mg_none_of X G z_sum, PySem.W.mg_none_of X G z_repr⟩,
   ⟨_, .ref a_BASES, PySem.W.mg_of X G c_BASES, rfl, fun _ _ => by rw [Rep]; exact ⟨a_BASES, [.str (Str.ofString "number"), .str (Str.ofString "text"), .str (Str.ofString "truth")], rfl, .inr ⟨_, _, _, o_BASES, rfl, rfl, by show 3 ≤ sizeLine; decide, (.cons ⟨_, rfl⟩ (.cons ⟨_, rfl⟩ (.cons ⟨_, rfl⟩ .nil)))⟩, (by rw [RepL]; exact ⟨_, _, rfl, (by rw [Rep, hs_number]), (by rw [RepL]; exact ⟨_, _, rfl, (by rw [Rep, hs_text]), (by rw [RepL]; exact ⟨_, _, rfl, (by rw [Rep, hs_truth]), (by rw [RepL])⟩)⟩)⟩)⟩⟩,
   ⟨_, .int 999, PySem.W.mg_of X G c_FAR, ⟨_, rfl⟩, fun _ _ => by rw [Rep]⟩,
   ⟨_, .str (Str.ofString "!"), PySem.W.mg_of X G c_FAULT, ⟨_, rfl⟩, fun _ _ => by rw [Rep, hs_x21]⟩,
   ⟨_, .int 20, PySem.W.mg_of X G c_LAST_THING, ⟨_, rfl⟩, fun _ _ => by rw [Rep]⟩,
   ⟨_, .str (Str.ofString "abcdefghijklmnopqrstuvwxyz"), PySem.W.mg_of X G c_LETTERS, ⟨_, rfl⟩, fun _ _ => by rw [Rep, hs_abcdefghijklmnopqrstuvwxyz]⟩,
   ⟨_, .int 4, PySem.W.mg_of X G c_MOST_MANY, ⟨_, rfl⟩, fun _ _ => by rw [Rep]⟩,
   ⟨_, .int 6, PySem.W.mg_of X G c_MOST_TEXT, ⟨_, rfl⟩, fun _ _ => by rw [Rep]⟩,
   ⟨_, .int 4, PySem.W.mg_of X G c_MOST_WORD, ⟨_, rfl⟩, fun _ _ => by rw [Rep]⟩,
   ⟨_, .str (Str.ofString "must"), PySem.W.mg_of X G c_MUST, ⟨_, rfl⟩, fun _ _ => by rw [Rep, hs_must]⟩,
   ⟨_, .str (Str.ofString "number"), PySem.W.mg_of X G c_NUMBER, ⟨_, rfl⟩, fun _ _ => by rw [Rep, hs_number]⟩,
   ⟨_, .str (Str.ofString "Root"), PySem.W.mg_of X G c_ROOT, ⟨_, rfl⟩, fun _ _ => by rw [Rep, hs_Root]⟩,
   ⟨_, .str (Str.ofString "truth"), PySem.W.mg_of X G c_TRUTH, ⟨_, rfl⟩, fun _ _ => by rw [Rep, hs_truth]⟩,
   ⟨⟨_, _, fun_mk (st := (top 11)) l_is_word c_is_word k_is_word, PySem.W.mg_of X G a_is_word, k_is_word, (fun_mk (st := (top 11)) l_is_word c_is_word k_is_word).binds (ps := ["thing"]) fun _ _ _ _ _ _ us hl => match us, hl with | [_], _ => rfl⟩⟩,
   ⟨⟨_, _, fun_mk (st := (top 12)) l_is_whole c_is_whole k_is_whole, PySem.W.mg_of X G a_is_whole, k_is_whole, (fun_mk (st := (top 12)) l_is_whole c_is_whole k_is_whole).binds (ps := ["thing", "low", "high"]) fun _ _ _ _ _ _ us hl => match us, hl with | [_, _, _], _ => rfl⟩⟩,
   ⟨⟨_, _, fun_mk (st := (top 13)) l_is_worth c_is_worth k_is_worth, PySem.W.mg_of X G a_is_worth, k_is_worth, (fun_mk (st := (top 13)) l_is_worth c_is_worth k_is_worth).binds (ps := ["base", "thing"]) fun _ _ _ _ _ _ us hl => match us, hl with | [_, _], _ => rfl⟩⟩,
   ⟨⟨_, _, fun_mk (st := (top 14)) l_rises c_rises k_rises, PySem.W.mg_of X G a_rises, k_rises, (fun_mk (st := (top 14)) l_rises c_rises k_rises).binds (ps := ["row"]) fun _ _ _ _ _ _ us hl => match us, hl with | [_], _ => rfl⟩⟩,
   ⟨⟨_, _, fun_mk (st := (top 19)) l_is_bad c_is_bad k_is_bad, PySem.W.mg_of X G a_is_bad, k_is_bad, (fun_mk (st := (top 19)) l_is_bad c_is_bad k_is_bad).binds (ps := ["thing"]) fun _ _ _ _ _ _ us hl => match us, hl with | [_], _ => rfl⟩⟩,
   ⟨⟨_, _, fun_mk (st := (top 20)) l_is_value c_is_value k_is_value, PySem.W.mg_of X G a_is_value, k_is_value, (fun_mk (st := (top 20)) l_is_value c_is_value k_is_value).binds (ps := ["sort", "thing", "places"]) fun _ _ _ _ _ _ us hl => match us, hl with | [_, _, _], _ => rfl⟩⟩,
   ⟨⟨_, _, fun_mk (st := (top 21)) l_is_place c_is_place k_is_place, PySem.W.mg_of X G a_is_place, k_is_place, (fun_mk (st := (top 21)) l_is_place c_is_place k_is_place).binds (ps := ["book", "thing"]) fun _ _ _ _ _ _ us hl => match us, hl with | [_, _], _ => rfl⟩⟩,
   ⟨⟨_, _, fun_mk (st := (top 22)) l_are_values c_are_values k_are_values, PySem.W.mg_of X G a_are_values, k_are_values, (fun_mk (st := (top 22)) l_are_values c_are_values k_are_values).binds (ps := ["fields", "pairs", "places"]) fun _ _ _ _ _ _ us hl => match us, hl with | [_, _, _], _ => rfl⟩⟩,
   ⟨⟨_, _, fun_mk (st := (top 23)) l_is_world c_is_world k_is_world, PySem.W.mg_of X G a_is_world, k_is_world, (fun_mk (st := (top 23)) l_is_world c_is_world k_is_world).binds (ps := ["book", "thing"]) fun _ _ _ _ _ _ us hl => match us, hl with | [_, _], _ => rfl⟩⟩,
   ⟨⟨_, _, fun_mk (st := (top 25)) l__law_cell_at c__law_cell_at k__law_cell_at, PySem.W.mg_of X G a__law_cell_at, k__law_cell_at, (fun_mk (st := (top 25)) l__law_cell_at c__law_cell_at k__law_cell_at).binds (ps := ["_law_script", "_law_k"]) fun _ _ _ _ _ _ us hl => match us, hl with | [_, _], _ => rfl⟩⟩,
   ⟨⟨_, _, fun_mk (st := (top 26)) l__law_mixed c__law_mixed k__law_mixed, PySem.W.mg_of X G a__law_mixed, k__law_mixed, (fun_mk (st := (top 26)) l__law_mixed c__law_mixed k__law_mixed).binds (ps := ["_law_script", "_law_k"]) fun _ _ _ _ _ _ us hl => match us, hl with | [_, _], _ => rfl⟩⟩,
   ⟨⟨_, _, fun_mk (st := (top 27)) l__law_drawn c__law_drawn k__law_drawn, PySem.W.mg_of X G a__law_drawn, k__law_drawn, (fun_mk (st := (top 27)) l__law_drawn c__law_drawn k__law_drawn).binds (ps := ["_law_number_here", "_law_k"]) fun _ _ _ _ _ _ us hl => match us, hl with | [_, _], _ => rfl⟩⟩,
   ⟨⟨_, _, fun_mk (st := (top 28)) l__law_takes c__law_takes k__law_takes, PySem.W.mg_of X G a__law_takes, k__law_takes, (fun_mk (st := (top 28)) l__law_takes c__law_takes k__law_takes).binds (ps := ["_law_sort_here", "_law_number_here"]) fun _ _ _ _ _ _ us hl => match us, hl with | [_, _], _ => rfl⟩⟩,
   ⟨⟨_, _, fun_mk (st := (top 29)) l__law_sort c__law_sort k__law_sort, PySem.W.mg_of X G a__law_sort, k__law_sort, (fun_mk (st := (top 29)) l__law_sort c__law_sort k__law_sort).binds (ps := ["_law_number_here", "_law_names"]) fun _ _ _ _ _ _ us hl => match us, hl with | [_, _], _ => rfl⟩⟩,
   ⟨⟨_, _, fun_mk (st := (top 30)) l__law_book c__law_book k__law_book, PySem.W.mg_of X G a__law_book, k__law_book, (fun_mk (st := (top 30)) l__law_book c__law_book k__law_book).binds (ps := ["_law_number_here"]) fun _ _ _ _ _ _ us hl => match us, hl with | [_], _ => rfl⟩⟩,
   ⟨⟨_, _, fun_mk (st := (top 31)) l__law_value c__law_value k__law_value, PySem.W.mg_of X G a__law_value, k__law_value, (fun_mk (st := (top 31)) l__law_value c__law_value k__law_value).binds (ps := ["_law_sort_here", "_law_number_here", "_law_places"]) fun _ _ _ _ _ _ us hl => match us, hl with | [_, _, _], _ => rfl⟩⟩,
   ⟨⟨_, _, fun_mk (st := (top 32)) l__law_world c__law_world k__law_world, PySem.W.mg_of X G a__law_world, k__law_world, (fun_mk (st := (top 32)) l__law_world c__law_world k__law_world).binds (ps := ["_law_book_here", "_law_number_here"]) fun _ _ _ _ _ _ us hl => match us, hl with | [_, _], _ => rfl⟩⟩,
   ⟨⟨_, _, fun_mk (st := (top 33)) l__law_is_word c__law_is_word k__law_is_word, PySem.W.mg_of X G a__law_is_word, k__law_is_word, (fun_mk (st := (top 33)) l__law_is_word c__law_is_word k__law_is_word).binds (ps := ["_law_thing"]) fun _ _ _ _ _ _ us hl => match us, hl with | [_], _ => rfl⟩⟩,
   ⟨⟨_, _, fun_mk (st := (top 35)) l__law_number c__law_number k__law_number, PySem.W.mg_of X G a__law_number, k__law_number, (fun_mk (st := (top 35)) l__law_number c__law_number k__law_number).binds (ps := ["_law_thing", "_law_low", "_law_high"]) fun _ _ _ _ _ _ us hl => match us, hl with | [_, _, _], _ => rfl⟩⟩,
   ⟨⟨_, _, fun_mk (st := (top 36)) l__law_is_worth c__law_is_worth k__law_is_worth, PySem.W.mg_of X G a__law_is_worth, k__law_is_worth, (fun_mk (st := (top 36)) l__law_is_worth c__law_is_worth k__law_is_worth).binds (ps := ["_law_base", "_law_thing"]) fun _ _ _ _ _ _ us hl => match us, hl with | [_, _], _ => rfl⟩⟩,
   ⟨⟨_, _, fun_mk (st := (top 37)) l__law_is_row c__law_is_row k__law_is_row, PySem.W.mg_of X G a__law_is_row, k__law_is_row, (fun_mk (st := (top 37)) l__law_is_row c__law_is_row k__law_is_row).binds (ps := ["_law_thing", "_law_least", "_law_most"]) fun _ _ _ _ _ _ us hl => match us, hl with | [_, _, _], _ => rfl⟩⟩,
   ⟨⟨_, _, fun_mk (st := (top 38)) l__law_is_value c__law_is_value k__law_is_value, PySem.W.mg_of X G a__law_is_value, k__law_is_value, (fun_mk (st := (top 38)) l__law_is_value c__law_is_value k__law_is_value).binds (ps := ["_law_sort_here", "_law_thing", "_law_places"]) fun _ _ _ _ _ _ us hl => match us, hl with | [_, _, _], _ => rfl⟩⟩,
   ⟨⟨_, _, fun_mk (st := (top 39)) l__law_is_world c__law_is_world k__law_is_world, PySem.W.mg_of X G a__law_is_world, k__law_is_world, (fun_mk (st := (top 39)) l__law_is_world c__law_is_world k__law_is_world).binds (ps := ["_law_book_here", "_law_thing"]) fun _ _ _ _ _ _ us hl => match us, hl with | [_, _], _ => rfl⟩⟩,
   ⟨⟨_, _, fun_mk (st := (top 40)) l__law_spoilt c__law_spoilt k__law_spoilt, PySem.W.mg_of X G a__law_spoilt, k__law_spoilt, (fun_mk (st := (top 40)) l__law_spoilt c__law_spoilt k__law_spoilt).binds (ps := ["_law_thing", "_law_number_here", "_law_deep"]) fun _ _ _ _ _ _ us hl => match us, hl with | [_, _, _], _ => rfl⟩⟩,
   ⟨⟨_, _, fun_mk (st := (top 41)) l__law_edges_v2 c__law_edges_v2 k__law_edges_v2, PySem.W.mg_of X G a__law_edges_v2, k__law_edges_v2, (fun_mk (st := (top 41)) l__law_edges_v2 c__law_edges_v2 k__law_edges_v2).binds (ps := ["_law_number_here"]) fun _ _ _ _ _ _ us hl => match us, hl with | [_], _ => rfl⟩⟩,
   ⟨⟨_, _, fun_mk (st := (top 42)) l_law_v2 c_law_v2 k_law_v2, PySem.W.mg_of X G a_law_v2, k_law_v2, (fun_mk (st := (top 42)) l_law_v2 c_law_v2 k_law_v2).binds (ps := ["_law_script"]) fun _ _ _ _ _ _ us hl => match us, hl with | [_], _ => rfl⟩⟩⟩
theorem law_mk {l : PySem.W.OpenLaw} {w : World} {K : PySem.W.Frag} {h : Heap} {mg : Str → Option Value} {fa f1 : Addr} (X : K.In h) (G : h.Ns mainGlobals mg) (hfa : mg "law" = some (.ref fa)) (T : Facts K mg)
        {od an : Option Addr} {sl : Array (Option Value)} {oc kV dc pm cd ct : Value} (a1 : PySem.W.nsIn K mainGlobals "law" = some (some (.ref f1))) (l1 : K.lookup f1 = some ⟨oc, od, .func (PySem.W.fnOf "law" "law" (defArgs (top 42)) (defBody (top 42)) (defScope (top 42)) .none kV dc pm an cd ct), sl⟩) (c1 : PySem.W.codeIn K cd "law" = true) (k1 : PySem.W.keepIn K (.ref f1) = true) :
        ∃ fd : FuncData, (∀ (s : Shared) (v : Value), BindsTo s fd ⟨[v], []⟩ [("_law_script", v)]) ∧ ∀ base : Heap, K.In base → base.Ns mainGlobals mg → FnOk l.prog w K mg base (L2.CX l.prog w) 40 fa fd ["_law_script"] (SpLaw K) := by
      have e := hfa.symm.trans (PySem.W.mg_of X G a1)
      cases e
      refine ⟨PySem.W.fnOf "law" "law" (defArgs (top 42)) (defBody (top 42)) (defScope (top 42)) .none kV dc pm an cd ct, fun s v => .of_eq rfl, fun base _ _ => ?_⟩
      exact law_of (def_ok (fun_mk (st := top 42) l1 c1 k1) sc_law_v2 T.blt fun cdv A outer s H E cx hp => eb_law_v2 T (alls T 39) cdv A outer s H E cx hp) law_true
theorem walk {l : PySem.W.OpenLaw} {q : Program} {loose : List Str} {XP : (Str → Option Value) → Heap → Prop} {YP : World → Heap → Prop} {d : DefRec} {K : Params → PySem.W.Frag} (hn : l.most = some 63) (hdf : d.params.defaults = [])
    (hY : ∀ (w : World) (h : Heap), YP w h → (K w.params).In h)
    (F : ∀ (w : World) (mg : Str → Option Value) (fa : Addr) (h : Heap), (K w.params).In h → h.Ns mainGlobals mg → mg d.name = some (.ref fa) →
      ∃ fd : FuncData, (∀ (s : Shared) (u : Value), BindsTo s fd ⟨[u], []⟩ [("_law_script", u)]) ∧ ∀ base : Heap, (K w.params).In base → base.Ns mainGlobals mg → FnOk l.prog w (K w.params) mg base (L2.CX l.prog w) 40 fa fd ["_law_script"] (SpLaw (K w.params))) :
    PySem.W.WalkO q loose XP YP l.row.toRowW d [] (fun f vs => PySem.call f vs) :=
  L2.walk_ofB (n := 63) (k := 40) (x := "_law_script") (CX := fun w => L2.CX l.prog w) (sp := fun w => SpLaw (K w.params)) hn (by decide) hdf ⟨rfl, by decide, by decide⟩ hY F (fun _ _ a ns hl hb _ hS => ⟨a, ns, rfl, hS, hl, hb, fun _ => rfl⟩) fun _ _ _ _ _ ⟨_, _, _, _, _, _, _, _, _, _, _, _, z⟩ => z
end LW

open PySem PySem.W PyProof.Rows in
set_option maxRecDepth 100000 in
set_option maxHeartbeats 0 in
theorem PySem.Challenge.cw_shapedasks_k02_worlds_holds : PySem.Challenge.rw_shapedasks_k02_worlds.Holds := by
  w_on; o_law; k_head; (case hw => w_witness2)
  k_fill
  refine LW.walk (l := PySem.Challenge.rw_shapedasks_k02_worlds) rfl rfl (fun w h Y => PySem.W.kIn_of Y) ?F
  case F =>
    intro w mg fa h KX G hmg
    refine' LW.law_mk KX G hmg (LW.facts_mk KX G ?z_len ?z_isinstance ?z_all ?z_any ?z_tuple ?z_list ?z_dict ?z_set ?z_sorted ?z_int ?z_str ?z_bool ?z_range ?z_enumerate ?z_zip ?z_max ?z_sum ?z_repr ?c_BASES ?o_BASES ?c_FAR ?c_FAULT ?c_LAST_THING ?c_LETTERS ?c_MOST_MANY ?c_MOST_TEXT ?c_MOST_WORD ?c_MUST ?c_NUMBER ?c_ROOT ?c_TRUTH ?a_is_word ?l_is_word ?c_is_word ?k_is_word ?a_is_whole ?l_is_whole ?c_is_whole ?k_is_whole ?a_is_worth ?l_is_worth ?c_is_worth ?k_is_worth ?a_rises ?l_rises ?c_rises ?k_rises ?a_is_bad ?l_is_bad ?c_is_bad ?k_is_bad ?a_is_value ?l_is_value ?c_is_value ?k_is_value ?a_is_place ?l_is_place ?c_is_place ?k_is_place ?a_are_values ?l_are_values ?c_are_values ?k_are_values ?a_is_world ?l_is_world ?c_is_world ?k_is_world ?a__law_cell_at ?l__law_cell_at ?c__law_cell_at ?k__law_cell_at ?a__law_mixed ?l__law_mixed ?c__law_mixed ?k__law_mixed ?a__law_drawn ?l__law_drawn ?c__law_drawn ?k__law_drawn ?a__law_takes ?l__law_takes ?c__law_takes ?k__law_takes ?a__law_sort ?l__law_sort ?c__law_sort ?k__law_sort ?a__law_book ?l__law_book ?c__law_book ?k__law_book ?a__law_value ?l__law_value ?c__law_value ?k__law_value ?a__law_world ?l__law_world ?c__law_world ?k__law_world ?a__law_is_word ?l__law_is_word ?c__law_is_word ?k__law_is_word ?a__law_number ?l__law_number ?c__law_number ?k__law_number ?a__law_is_worth ?l__law_is_worth ?c__law_is_worth ?k__law_is_worth ?a__law_is_row ?l__law_is_row ?c__law_is_row ?k__law_is_row ?a__law_is_value ?l__law_is_value ?c__law_is_value ?k__law_is_value ?a__law_is_world ?l__law_is_world ?c__law_is_world ?k__law_is_world ?a__law_spoilt ?l__law_spoilt ?c__law_spoilt ?k__law_spoilt ?a__law_edges_v2 ?l__law_edges_v2 ?c__law_edges_v2 ?k__law_edges_v2 ?a_law_v2 ?l_law_v2 ?c_law_v2 ?k_law_v2) ?a1 ?l1 ?c1 ?k1
    (case z_len => k_is)
    (case z_isinstance => k_is)
    (case z_all => k_is)
    (case z_any => k_is)
    (case z_tuple => k_is)
    (case z_list => k_is)
    (case z_dict => k_is)
    (case z_set => k_is)
    (case z_sorted => k_is)
    (case z_int => k_is)
    (case z_str => k_is)
    (case z_bool => k_is)
    (case z_range => k_is)
    (case z_enumerate => k_is)
    (case z_zip => k_is)
    (case z_max => k_is)
    (case z_sum => k_is)
    (case z_repr => k_is)
    (case c_BASES => k_is)
    (case o_BASES => k_is)
    (case c_FAR => k_is)
    (case c_FAULT => k_is)
    (case c_LAST_THING => k_is)
    (case c_LETTERS => k_is)
    (case c_MOST_MANY => k_is)
    (case c_MOST_TEXT => k_is)
    (case c_MOST_WORD => k_is)
    (case c_MUST => k_is)
    (case c_NUMBER => k_is)
    (case c_ROOT => k_is)
    (case c_TRUTH => k_is)
    (case a_is_word => k_is)
    (case l_is_word => k_is)
    (case c_is_word => k_is)
    (case k_is_word => k_is)
    (case a_is_whole => k_is)
    (case l_is_whole => k_is)
    (case c_is_whole => k_is)
    (case k_is_whole => k_is)
    (case a_is_worth => k_is)
    (case l_is_worth => k_is)
    (case c_is_worth => k_is)
    (case k_is_worth => k_is)
    (case a_rises => k_is)
    (case l_rises => k_is)
    (case c_rises => k_is)
    (case k_rises => k_is)
    (case a_is_bad => k_is)
    (case l_is_bad => k_is)
    (case c_is_bad => k_is)
    (case k_is_bad => k_is)
    (case a_is_value => k_is)
    (case l_is_value => k_is)
    (case c_is_value => k_is)
    (case k_is_value => k_is)
    (case a_is_place => k_is)
    (case l_is_place => k_is)
    (case c_is_place => k_is)
    (case k_is_place => k_is)
    (case a_are_values => k_is)
    (case l_are_values => k_is)
    (case c_are_values => k_is)
    (case k_are_values => k_is)
    (case a_is_world => k_is)
    (case l_is_world => k_is)
    (case c_is_world => k_is)
    (case k_is_world => k_is)
    (case a__law_cell_at => k_is)
    (case l__law_cell_at => k_is)
    (case c__law_cell_at => k_is)
    (case k__law_cell_at => k_is)
    (case a__law_mixed => k_is)
    (case l__law_mixed => k_is)
    (case c__law_mixed => k_is)
    (case k__law_mixed => k_is)
    (case a__law_drawn => k_is)
    (case l__law_drawn => k_is)
    (case c__law_drawn => k_is)
    (case k__law_drawn => k_is)
    (case a__law_takes => k_is)
    (case l__law_takes => k_is)
    (case c__law_takes => k_is)
    (case k__law_takes => k_is)
    (case a__law_sort => k_is)
    (case l__law_sort => k_is)
    (case c__law_sort => k_is)
    (case k__law_sort => k_is)
    (case a__law_book => k_is)
    (case l__law_book => k_is)
    (case c__law_book => k_is)
    (case k__law_book => k_is)
    (case a__law_value => k_is)
    (case l__law_value => k_is)
    (case c__law_value => k_is)
    (case k__law_value => k_is)
    (case a__law_world => k_is)
    (case l__law_world => k_is)
    (case c__law_world => k_is)
    (case k__law_world => k_is)
    (case a__law_is_word => k_is)
    (case l__law_is_word => k_is)
    (case c__law_is_word => k_is)
    (case k__law_is_word => k_is)
    (case a__law_number => k_is)
    (case l__law_number => k_is)
    (case c__law_number => k_is)
    (case k__law_number => k_is)
    (case a__law_is_worth => k_is)
    (case l__law_is_worth => k_is)
    (case c__law_is_worth => k_is)
    (case k__law_is_worth => k_is)
    (case a__law_is_row => k_is)
    (case l__law_is_row => k_is)
    (case c__law_is_row => k_is)
    (case k__law_is_row => k_is)
    (case a__law_is_value => k_is)
    (case l__law_is_value => k_is)
    (case c__law_is_value => k_is)
    (case k__law_is_value => k_is)
    (case a__law_is_world => k_is)
    (case l__law_is_world => k_is)
    (case c__law_is_world => k_is)
    (case k__law_is_world => k_is)
    (case a__law_spoilt => k_is)
    (case l__law_spoilt => k_is)
    (case c__law_spoilt => k_is)
    (case k__law_spoilt => k_is)
    (case a__law_edges_v2 => k_is)
    (case l__law_edges_v2 => k_is)
    (case c__law_edges_v2 => k_is)
    (case k__law_edges_v2 => k_is)
    (case a_law_v2 => k_is)
    (case l_law_v2 => k_is)
    (case c_law_v2 => k_is)
    (case k_law_v2 => k_is)
    (case a1 => k_is)
    (case l1 => k_is)
    (case c1 => k_is)
    (case k1 => k_is)
