import PyProof.Rows.All
import Wide.All
import OpenK.AllK
import Wide.FinOn
import HandS.ForMost
import HandS.Exc
import HandS.TryOnly
import HandS.ExcOwn
import HandS.CallSlots
import HandS.Wide
import HandS.IsInst
import HandS.ExcValue
import HandS.ExcIs
import HandS.WordsExc
import HandS.Strs
import HandS.Deep
import KE.SortData
import KE.DataEq
import HandS.TupLe
import HandS.Style
import HandS.SortInts
import HandS.More
import PyProof.EqKinds
import PyProof.FactsAll.dict
import KE.KEqDict
import HandS.DictEq
import HandS.EndBits
import HandS.SetFor
import HandS.Zip
import KE.DataCmp
import KE.GoesMore
import KE.GoesEnum
import HandS.Conv
import HandS.StrSplit
import KE.IntTextLaws
import HandS.DictTup
import KE.GoesZip
import KE.GoesRaise
import HandS.ReplaceLit
import HandS.DeepEq
import KE.KExcStr
import PySem.Challenge.RW_evenlots_k01_what_are_rows
set_option Elab.async false
set_option linter.all false
set_option maxRecDepth 100000
set_option maxHeartbeats 4000000
namespace Ev
open PySem PySem.Spec PyProof.Rows L2

inductive DKs where
  | k (l : List Key) | t (l : List (List Key))

inductive W where
  | dead | non
  | bl (b : Bool) | int (i : Int) | str (s : Str)
  | tup (ws : List W)
  | lst (m : Bool) (ws : List W)
  | scr (ws : List W)
  | nst (ws : List W)
  | ntp (ws : List W)
  | dct (m : Bool) (ks : DKs) (ws : List W)
  | ndc (ks : DKs) (ws : List W)
  | obj (c : Nat) (fs : List Str) (ws : List W)
  | exc (c : Nat)
  | exm (c : Nat) (m : Str)
  | fdc (ks : List Key) (ws : List W)
/-- an empty table -/
abbrev W.edc : W := .fdc [] []

structure Dn where
  K : PySem.W.Frag
  CA : Nat → Addr

def ExC (C a : Addr) : HO := .ext fun h => ∃ (oe : Obj) (vs : Array Value), h.get? a = some oe ∧ Zc (.ref C) none oe ∧ oe.data = .fields vs
/-- an error that was made of one thing, the tuple at t -/
def ExM (C a t : Addr) : HO := .ext fun h => ∃ (oe : Obj) (vs : Array Value), h.get? a = some oe ∧ Zc (.ref C) none oe ∧ oe.data = .fields vs ∧ vs[0]? = some (.ref t)
def DR (H : Hp) (a : Addr) : DKs → List V → Prop
  | .k l, vs => l.length = vs.length ∧ H a = some (.dK (l.zip vs))
  | .t l, vs => l.length = vs.length ∧ H a = some (.dT (l.zip vs))
/-- a table that is locked -/
def LkR (G : Hp) (a : Addr) : DKs → List V → Prop
  | .k l, vs => l.length = vs.length ∧ ∃ o, G a = some (.frz o (.dK (l.zip vs)))
  | .t l, vs => l.length = vs.length ∧ ∃ o, G a = some (.frz o (.dT (l.zip vs)))
theorem LkR.mono {G G' : Hp} {a : Addr} (e : ∀ a o, G a = some o → G' a = some o) : ∀ {ks : DKs} {vs : List V}, LkR G a ks vs → LkR G' a ks vs
  | .k _, _, h => ⟨h.1, h.2.elim fun o q => ⟨o, e _ _ q⟩⟩
  | .t _, _, h => ⟨h.1, h.2.elim fun o q => ⟨o, e _ _ q⟩⟩
/-- no tuple of its own -/
def NT (o : HO) : Prop := ∀ vs, o ≠ .tup vs
/-- what a table's place holds -/
inductive IsDct : HO → Prop where
  | dk (t : List (Key × V)) : IsDct (.dK t)
  | dt (t : List (List Key × V)) : IsDct (.dT t)
theorem IsDct.nt {o : HO} (i : IsDct o) : NT o := fun _ z => by subst z; cases i
theorem DR.is {H : Hp} {a : Addr} : ∀ {ks : DKs} {vs : List V}, DR H a ks vs → ∃ o, H a = some o ∧ IsDct o
  | .k _, _, h => ⟨_, h.2, .dk _⟩
  | .t _, _, h => ⟨_, h.2, .dt _⟩

mutual
def RF (D : Dn) (G : Hp) : W → V → Prop
  | .non, v => v = .non
  | .bl b, v => v = .bl b
  | .int i, v => v = .int i
  | .str s, v => v = .str s
  | .tup ws, v => ∃ a vs, v = .ref a ∧ SqT D.K G a vs ∧ RFs D G ws vs
  | .lst false ws, v => ∃ a vs, v = .ref a ∧ G a = some (.lst vs) ∧ RFs D G ws vs
  | .scr ws, v => ∃ a vs, v = .ref a ∧ SqL D.K G a vs ∧ RFs D G ws vs
  | .fdc ks ws, v => ∃ a vs, v = .ref a ∧ ks.length = vs.length ∧ G a = some (.dK (ks.zip vs)) ∧ RFs D G ws vs
  | _, _ => False
def RFs (D : Dn) (G : Hp) : List W → List V → Prop
  | [], vs => vs = []
  | w :: ws, vs => ∃ v r, vs = v :: r ∧ RF D G w v ∧ RFs D G ws r
end
mutual
def RO (D : Dn) (G H : Hp) : W → V → List Addr → Prop
  | .dead, _, O => O = []
  | .lst true ws, v, O => ∃ a vs, v = .ref a ∧ O = [a] ∧ H a = some (.lst vs) ∧ RFs D G ws vs
  | .nst ws, v, O => ∃ a vs O', v = .ref a ∧ O = a :: O' ∧ H a = some (.lst vs) ∧ ROs D G H ws vs O'
  | .ntp ws, v, O => ∃ a vs, v = .ref a ∧ SqT D.K G a vs ∧ ROs D G H ws vs O
  | .dct true ks ws, v, O => ∃ a vs, v = .ref a ∧ O = [a] ∧ DR H a ks vs ∧ RFs D G ws vs
  | .dct false ks ws, v, O => O = [] ∧ ∃ a vs, v = .ref a ∧ LkR G a ks vs ∧ RFs D G ws vs
  | .ndc ks ws, v, O => ∃ a vs O', v = .ref a ∧ O = a :: O' ∧ DR H a ks vs ∧ ROs D G H ws vs O'
  | .obj c fs ws, v, O => ∃ a dx vs O', v = .ref a ∧ O = a :: O' ∧ fs.length = vs.length ∧ H a = some (.ins (D.CA c) dx (fs.zip vs)) ∧ ROs D G H ws vs O'
  | .exc c, v, O => O = [] ∧ ∃ a, v = .ref a ∧ G a = some (ExC (D.CA c) a)
  | .exm c m, v, O => O = [] ∧ ∃ a t, v = .ref a ∧ G a = some (ExM (D.CA c) a t) ∧ SqT D.K G t [.str m]
  | w, v, O => O = [] ∧ RF D G w v
def ROs (D : Dn) (G H : Hp) : List W → List V → List Addr → Prop
  | [], vs, O => vs = [] ∧ O = []
  | w :: ws, vs, O => ∃ v r O1 O2, vs = v :: r ∧ O = O1 ++ O2 ∧ RO D G H w v O1 ∧ ROs D G H ws r O2
end
def W.frz : W → Bool
  | .dead => false
  | .lst m _ => !m
  | .nst _ => false
  | .ntp _ => false
  | .dct _ _ _ => false
  | .ndc _ _ => false
  | .obj _ _ _ => false
  | .exc _ => false
  | .exm _ _ => false
  | _ => true

/-- what was stands -/
def Sub (G G' : Hp) : Prop := ∀ a o, G a = some o → G' a = some o
theorem Sub.refl (G : Hp) : Sub G G := fun _ _ h => h
theorem Sub.trans {A B C : Hp} (h : Sub A B) (k : Sub B C) : Sub A C := fun a o e => k a o (h a o e)
theorem Sub.sqL {K : PySem.W.Frag} {G G' : Hp} {a : Addr} {xs : List V} (e : Sub G G') (h : SqL K G a xs) : SqL K G' a xs := Same.seq e h
theorem Sub.sqT {K : PySem.W.Frag} {G G' : Hp} {a : Addr} {xs : List V} (e : Sub G G') (h : SqT K G a xs) : SqT K G' a xs := by
  rcases h with (h | ⟨o, h⟩) | h
  · exact .inl (.inl (e _ _ h))
  · exact .inl (.inr ⟨o, e _ _ h⟩)
  · exact .inr h

mutual
theorem RF.mono {D : Dn} {G G' : Hp} (e : Sub G G') : ∀ (w : W) (v : V), RF D G w v → RF D G' w v
  | .non, _, h => h
  | .bl _, _, h => h
  | .int _, _, h => h
  | .str _, _, h => h
  | .tup ws, v, h => by
    obtain ⟨a, vs, rfl, h1, h2⟩ := h
    exact ⟨a, vs, rfl, e.sqT h1, RFs.mono e ws vs h2⟩
  | .lst false ws, v, h => by
    obtain ⟨a, vs, rfl, h1, h2⟩ := h
    exact ⟨a, vs, rfl, e _ _ h1, RFs.mono e ws vs h2⟩
  | .scr ws, v, h => by
    obtain ⟨a, vs, rfl, h1, h2⟩ := h
    exact ⟨a, vs, rfl, e.sqL h1, RFs.mono e ws vs h2⟩
  | .exc _, _, h => h
  | .exm _ _, _, h => h
  | .fdc ks ws, v, h => by
    obtain ⟨a, vs, rfl, hl, h1, h2⟩ := h
    exact ⟨a, vs, rfl, hl, e _ _ h1, RFs.mono e ws vs h2⟩
  | .dead, _, h => h
  | .lst true _, _, h => h
  | .nst _, _, h => h
  | .ntp _, _, h => h
  | .dct _ _ _, _, h => h
  | .ndc _ _, _, h => h
  | .obj _ _ _, _, h => h
theorem RFs.mono {D : Dn} {G G' : Hp} (e : Sub G G') : ∀ (ws : List W) (vs : List V), RFs D G ws vs → RFs D G' ws vs
  | [], _, h => h
  | w :: ws, _, h => by
    obtain ⟨v, r, rfl, h1, h2⟩ := h
    exact ⟨v, r, rfl, RF.mono e w v h1, RFs.mono e ws r h2⟩
end
theorem DR.keep {H H' : Hp} {a : Addr} (k : ∀ o, H a = some o → H' a = some o) : ∀ {ks : DKs} {vs : List V}, DR H a ks vs → DR H' a ks vs
  | .k _, _, h => ⟨h.1, k _ h.2⟩
  | .t _, _, h => ⟨h.1, k _ h.2⟩
mutual
theorem RO.mono {D : Dn} {G G' H H' : Hp} (e : Sub G G') : ∀ (w : W) (v : V) (O : List Addr), (∀ a ∈ O, ∀ o, H a = some o → H' a = some o) → RO D G H w v O → RO D G' H' w v O
  | .dead, _, _, _, h => h
  | .lst true ws, v, O, k, h => by
    obtain ⟨a, vs, rfl, rfl, h1, h2⟩ := h
    exact ⟨a, vs, rfl, rfl, k a List.mem_cons_self _ h1, RFs.mono e ws vs h2⟩
  | .nst ws, v, O, k, h => by
    obtain ⟨a, vs, O', rfl, rfl, h1, h2⟩ := h
    exact ⟨a, vs, O', rfl, rfl, k a List.mem_cons_self _ h1, ROs.mono e ws vs O' (fun b hb => k b (List.mem_cons_of_mem _ hb)) h2⟩
  | .ntp ws, v, O, k, h => by
    obtain ⟨a, vs, rfl, h1, h2⟩ := h
    exact ⟨a, vs, rfl, e.sqT h1, ROs.mono e ws vs O k h2⟩
  | .dct true ks ws, v, O, k, h => by
    obtain ⟨a, vs, rfl, rfl, h1, h2⟩ := h
    exact ⟨a, vs, rfl, rfl, h1.keep (k a List.mem_cons_self), RFs.mono e ws vs h2⟩
  | .ndc ks ws, v, O, k, h => by
    obtain ⟨a, vs, O', rfl, rfl, h1, h2⟩ := h
    exact ⟨a, vs, O', rfl, rfl, h1.keep (k a List.mem_cons_self), ROs.mono e ws vs O' (fun b hb => k b (List.mem_cons_of_mem _ hb)) h2⟩
  | .obj c fs ws, v, O, k, h => by
    obtain ⟨a, dx, vs, O', rfl, rfl, hl, h1, h2⟩ := h
    exact ⟨a, dx, vs, O', rfl, rfl, hl, k a List.mem_cons_self _ h1, ROs.mono e ws vs O' (fun b hb => k b (List.mem_cons_of_mem _ hb)) h2⟩
  | .non, _, _, _, h => ⟨h.1, RF.mono e _ _ h.2⟩
  | .bl _, _, _, _, h => ⟨h.1, RF.mono e _ _ h.2⟩
  | .int _, _, _, _, h => ⟨h.1, RF.mono e _ _ h.2⟩
  | .str _, _, _, _, h => ⟨h.1, RF.mono e _ _ h.2⟩
  | .tup _, _, _, _, h => ⟨h.1, RF.mono e _ _ h.2⟩
  | .lst false _, _, _, _, h => ⟨h.1, RF.mono e _ _ h.2⟩
  | .scr _, _, _, _, h => ⟨h.1, RF.mono e _ _ h.2⟩
  | .dct false ks ws, _, _, _, h => by
    obtain ⟨h0, a, vs, rfl, h1, h2⟩ := h
    exact ⟨h0, a, vs, rfl, h1.mono e, RFs.mono e ws vs h2⟩
  | .exc _, _, _, _, h => by
    obtain ⟨h0, a, rfl, h1⟩ := h
    exact ⟨h0, a, rfl, e _ _ h1⟩
  | .exm _ _, _, _, _, h => by
    obtain ⟨h0, a, t, rfl, h1, h2⟩ := h
    exact ⟨h0, a, t, rfl, e _ _ h1, e.sqT h2⟩
  | .fdc _ _, _, _, _, h => ⟨h.1, RF.mono e _ _ h.2⟩
theorem ROs.mono {D : Dn} {G G' H H' : Hp} (e : Sub G G') : ∀ (ws : List W) (vs : List V) (O : List Addr), (∀ a ∈ O, ∀ o, H a = some o → H' a = some o) → ROs D G H ws vs O → ROs D G' H' ws vs O
  | [], _, _, _, h => h
  | w :: ws, _, _, k, h => by
    obtain ⟨v, r, O1, O2, rfl, rfl, h1, h2⟩ := h
    exact ⟨v, r, O1, O2, rfl, rfl, RO.mono e w v O1 (fun b hb => k b (List.mem_append_left _ hb)) h1, ROs.mono e ws r O2 (fun b hb => k b (List.mem_append_right _ hb)) h2⟩
end
theorem RF.frz {D : Dn} {G : Hp} : ∀ {w : W} {v : V}, RF D G w v → w.frz = true
  | .non, _, _ => rfl
  | .bl _, _, _ => rfl
  | .int _, _, _ => rfl
  | .str _, _, _ => rfl
  | .tup _, _, _ => rfl
  | .lst false _, _, _ => rfl
  | .scr _, _, _ => rfl
  | .fdc _ _, _, _ => rfl
theorem RO.ofF {D : Dn} {G H : Hp} : ∀ {w : W} {v : V}, RF D G w v → RO D G H w v []
  | .non, _, h => ⟨rfl, h⟩
  | .bl _, _, h => ⟨rfl, h⟩
  | .int _, _, h => ⟨rfl, h⟩
  | .str _, _, h => ⟨rfl, h⟩
  | .tup _, _, h => ⟨rfl, h⟩
  | .lst false _, _, h => ⟨rfl, h⟩
  | .scr _, _, h => ⟨rfl, h⟩
  | .fdc _ _, _, h => ⟨rfl, h⟩
theorem RO.toF {D : Dn} {G H : Hp} : ∀ {w : W} {v : V} {O : List Addr}, RO D G H w v O → w.frz = true → O = [] ∧ RF D G w v
  | .non, _, _, h, _ => h
  | .bl _, _, _, h, _ => h
  | .int _, _, _, h, _ => h
  | .str _, _, _, h, _ => h
  | .tup _, _, _, h, _ => h
  | .lst false _, _, _, h, _ => h
  | .lst true _, _, _, _, e => nomatch e
  | .dct false _ _, _, _, _, e => nomatch e
  | .dct true _ _, _, _, _, e => nomatch e
  | .scr _, _, _, h, _ => h
  | .dead, _, _, _, e => nomatch e
  | .nst _, _, _, _, e => nomatch e
  | .ntp _, _, _, _, e => nomatch e
  | .ndc _ _, _, _, _, e => nomatch e
  | .obj _ _ _, _, _, _, e => nomatch e
  | .exc _, _, _, _, e => nomatch e
  | .exm _ _, _, _, _, e => nomatch e
  | .fdc _ _, _, _, h, _ => h
mutual
/-- what is owned stands, and is no tuple -/
theorem RO.thn {D : Dn} {G H : Hp} : ∀ (w : W) (v : V) (O : List Addr), RO D G H w v O → ∀ a ∈ O, ∃ o, H a = some o ∧ NT o
  | .dead, _, _, h, _, ha => by subst h; cases ha
  | .lst true ws, v, O, h, b, hb => by
    obtain ⟨a, vs, rfl, rfl, h1, h2⟩ := h
    rw [List.mem_singleton.mp hb]; exact ⟨_, h1, fun _ z => nomatch z⟩
  | .nst ws, v, O, h, b, hb => by
    obtain ⟨a, vs, O', rfl, rfl, h1, h2⟩ := h
    rcases List.mem_cons.mp hb with e | hb
    · rw [e]; exact ⟨_, h1, fun _ z => nomatch z⟩
    · exact ROs.thn ws vs O' h2 b hb
  | .ntp ws, v, O, h, b, hb => by
    obtain ⟨a, vs, rfl, h1, h2⟩ := h
    exact ROs.thn ws vs O h2 b hb
  | .dct true ks ws, v, O, h, b, hb => by
    obtain ⟨a, vs, rfl, rfl, h1, h2⟩ := h
    obtain ⟨o, e, i⟩ := h1.is
    rw [List.mem_singleton.mp hb]; exact ⟨o, e, i.nt⟩
  | .ndc ks ws, v, O, h, b, hb => by
    obtain ⟨a, vs, O', rfl, rfl, h1, h2⟩ := h
    rcases List.mem_cons.mp hb with e | hb
    · obtain ⟨o, e', i⟩ := h1.is
      rw [e]; exact ⟨o, e', i.nt⟩
    · exact ROs.thn ws vs O' h2 b hb
  | .obj c fs ws, v, O, h, b, hb => by
    obtain ⟨a, dx, vs, O', rfl, rfl, hl, h1, h2⟩ := h
    rcases List.mem_cons.mp hb with e | hb
    · rw [e]; exact ⟨_, h1, fun _ z => nomatch z⟩
    · exact ROs.thn ws vs O' h2 b hb
  | .non, _, _, h, _, ha => by rw [h.1] at ha; cases ha
  | .bl _, _, _, h, _, ha => by rw [h.1] at ha; cases ha
  | .int _, _, _, h, _, ha => by rw [h.1] at ha; cases ha
  | .str _, _, _, h, _, ha => by rw [h.1] at ha; cases ha
  | .tup _, _, _, h, _, ha => by rw [h.1] at ha; cases ha
  | .lst false _, _, _, h, _, ha => by rw [h.1] at ha; cases ha
  | .scr _, _, _, h, _, ha => by rw [h.1] at ha; cases ha
  | .dct false _ _, _, _, h, _, ha => by rw [h.1] at ha; cases ha
  | .exc _, _, _, h, _, ha => by rw [h.1] at ha; cases ha
  | .exm _ _, _, _, h, _, ha => by rw [h.1] at ha; cases ha
  | .fdc _ _, _, _, h, _, ha => by rw [h.1] at ha; cases ha
theorem ROs.thn {D : Dn} {G H : Hp} : ∀ (ws : List W) (vs : List V) (O : List Addr), ROs D G H ws vs O → ∀ a ∈ O, ∃ o, H a = some o ∧ NT o
  | [], _, _, h, _, ha => by rw [h.2] at ha; cases ha
  | w :: ws, _, _, h, b, hb => by
    obtain ⟨v, r, O1, O2, rfl, rfl, h1, h2⟩ := h
    rcases List.mem_append.mp hb with hb | hb
    · exact RO.thn w v O1 h1 b hb
    · exact ROs.thn ws r O2 h2 b hb
end
theorem RO.there {D : Dn} {G H : Hp} (w : W) (v : V) (O : List Addr) (h : RO D G H w v O) : ∀ a ∈ O, H a ≠ none := fun a ha => by
  obtain ⟨o, e, _⟩ := RO.thn w v O h a ha
  rw [e]; exact fun z => nomatch z
theorem ROs.there {D : Dn} {G H : Hp} (ws : List W) (vs : List V) (O : List Addr) (h : ROs D G H ws vs O) : ∀ a ∈ O, H a ≠ none := fun a ha => by
  obtain ⟨o, e, _⟩ := ROs.thn ws vs O h a ha
  rw [e]; exact fun z => nomatch z
end Ev

namespace Ev
open PySem PySem.Spec L2

/-! ### outcomes -/
inductive Out (α : Type) where
  | ok (a : α) (env : List W)
  | ex (c : Nat) (env : List W)
  | bad
abbrev Sm (α : Type) := List W → Out α
def Sm.bind {α β : Type} (m : Sm α) (f : α → Sm β) : Sm β := fun e => match m e with
  | .ok a e' => f a e'
  | .ex c e' => .ex c e'
  | .bad => .bad
def Sm.ret {α : Type} (a : α) : Sm α := fun e => .ok a e
def lft {α : Type} (o : Option α) : Sm α := fun e => match o with
  | some a => .ok a e
  | none => .bad

/-! ### the state -/
structure Zt where
  X : Cx
  CA : Nat → Addr
  W : WX
  io : Nat → Bool
abbrev Zt.D (Z : Zt) : Dn := ⟨Z.X.K, Z.CA⟩

structure Step (G H : Hp) (O : List Addr) (G' H' : Hp) (O' : List Addr) : Prop where
  mono : Sub G G'
  keep : ∀ a o, H a = some o → a ∉ O → H' a = some o
  gnew : ∀ a o, H a = some o → a ∉ O → NT o → G a = none → G' a = none
  new : ∀ a ∈ O', a ∈ O ∨ H a = none
theorem Step.refl (G H : Hp) (O : List Addr) : Step G H O G H O := ⟨Sub.refl _, fun _ _ h _ => h, fun _ _ _ _ _ h => h, fun _ h => .inl h⟩
theorem Step.trans {G H G1 H1 G2 H2 : Hp} {O O1 O2 : List Addr} (a : Step G H O G1 H1 O1) (b : Step G1 H1 O1 G2 H2 O2) : Step G H O G2 H2 O2 := by
  have no : ∀ c o, H c = some o → c ∉ O → c ∉ O1 := fun c o h n z => (a.new c z).elim n fun e => by rw [h] at e; cases e
  refine ⟨a.mono.trans b.mono, fun c o h n => b.keep c o (a.keep c o h n) (no c o h n), fun c o h n nt g => b.gnew c o (a.keep c o h n) (no c o h n) nt (a.gnew c o h n nt g), fun c hc => ?_⟩
  rcases b.new c hc with z | z
  · exact a.new c z
  · by_cases hO : c ∈ O
    · exact .inl hO
    · refine .inr ?_
      cases q : H c with
      | none => rfl
      | some o => rw [a.keep c o q hO] at z; cases z
theorem Step.less {G H G' H' : Hp} {O O' O2 : List Addr} (a : Step G H O G' H' O') (h : ∀ x ∈ O2, x ∈ O') : Step G H O G' H' O2 := ⟨a.mono, a.keep, a.gnew, fun x hx => a.new x (h x hx)⟩
/-- more may be changed -/
theorem Step.more {G H G' H' : Hp} {O O' P : List Addr} (a : Step G H O G' H' O') : Step G H (P ++ O) G' H' (P ++ O') :=
  ⟨a.mono, fun c o h n => a.keep c o h fun z => n (List.mem_append_right _ z), fun c o h n => a.gnew c o h fun z => n (List.mem_append_right _ z), fun c hc => by
    rcases List.mem_append.mp hc with z | z
    · exact .inl (List.mem_append_left _ z)
    · exact (a.new c z).imp (List.mem_append_right _) id⟩
theorem Step.pure0 {G H G' H' : Hp} {O O' : List Addr} (a : Step G H [] G' H' O') : Step G H O G' H' (O ++ O') := by
  have h := a.more (P := O)
  rwa [List.append_nil] at h
def SR (D : Dn) (G H : Hp) (w : W) (s : Option V) (O : List Addr) : Prop := (∃ v, s = some v ∧ RO D G H w v O) ∨ (w = .dead ∧ O = [])
def Sl (D : Dn) (G H : Hp) : List W → St → List (List Addr) → Prop
  | [], σ, Os => σ = [] ∧ Os = []
  | w :: env, σ, Os => ∃ s σ' O Os', σ = s :: σ' ∧ Os = O :: Os' ∧ SR D G H w s O ∧ Sl D G H env σ' Os'
theorem SR.mono {D : Dn} {G H G' H' : Hp} {w : W} {s : Option V} {O : List Addr} (e : Sub G G') (k : ∀ a ∈ O, ∀ o, H a = some o → H' a = some o) (h : SR D G H w s O) : SR D G' H' w s O := by
  rcases h with ⟨v, e1, h⟩ | h
  · exact .inl ⟨v, e1, RO.mono e w v O k h⟩
  · exact .inr h
theorem SR.there {D : Dn} {G H : Hp} {w : W} {s : Option V} {O : List Addr} (h : SR D G H w s O) : ∀ a ∈ O, H a ≠ none := by
  rcases h with ⟨v, e1, h⟩ | ⟨_, h⟩
  · exact RO.there w v O h
  · intro a ha; rw [h] at ha; cases ha
theorem Sl.mono {D : Dn} {G H G' H' : Hp} (e : Sub G G') : ∀ {env : List W} {σ : St} {Os : List (List Addr)}, (∀ a ∈ Os.flatten, ∀ o, H a = some o → H' a = some o) → Sl D G H env σ Os → Sl D G' H' env σ Os
  | [], _, _, _, h => h
  | w :: env, _, _, k, h => by
    obtain ⟨s, σ', O, Os', rfl, rfl, h1, h2⟩ := h
    exact ⟨s, σ', O, Os', rfl, rfl, h1.mono e fun a ha => k a (by rw [List.flatten_cons]; exact List.mem_append_left _ ha), Sl.mono e (fun a ha => k a (by rw [List.flatten_cons]; exact List.mem_append_right _ ha)) h2⟩
theorem Sl.there {D : Dn} {G H : Hp} : ∀ {env : List W} {σ : St} {Os : List (List Addr)}, Sl D G H env σ Os → ∀ a ∈ Os.flatten, H a ≠ none
  | [], _, _, h, a, ha => by rw [h.2] at ha; cases ha
  | w :: env, _, _, h, a, ha => by
    obtain ⟨s, σ', O, Os', rfl, rfl, h1, h2⟩ := h
    rw [List.flatten_cons] at ha
    rcases List.mem_append.mp ha with ha | ha
    · exact h1.there a ha
    · exact Sl.there h2 a ha
theorem Sl.len {D : Dn} {G H : Hp} : ∀ {env : List W} {σ : St} {Os : List (List Addr)}, Sl D G H env σ Os → env.length = σ.length ∧ Os.length = σ.length
  | [], _, _, h => by rw [h.1, h.2]; exact ⟨rfl, rfl⟩
  | w :: env, _, _, h => by
    obtain ⟨s, σ', O, Os', rfl, rfl, h1, h2⟩ := h
    obtain ⟨e1, e2⟩ := Sl.len h2
    simp [e1, e2]
theorem Sl.at {D : Dn} {G H : Hp} : ∀ {env : List W} {σ : St} {Os : List (List Addr)} {i : Nat} {w : W}, Sl D G H env σ Os → env[i]? = some w → ∃ s O, σ[i]? = some s ∧ Os[i]? = some O ∧ SR D G H w s O
  | [], _, _, _, _, _, e => by simp at e
  | w :: env, _, _, 0, _, h, e => by
    obtain ⟨s, σ', O, Os', rfl, rfl, h1, h2⟩ := h
    have := Option.some.inj e
    subst this
    exact ⟨s, O, rfl, rfl, h1⟩
  | w :: env, _, _, i + 1, _, h, e => by
    obtain ⟨s, σ', O, Os', rfl, rfl, h1, h2⟩ := h
    exact Sl.at (i := i) h2 e
theorem Sl.set {D : Dn} {G H : Hp} {w : W} {s : Option V} {O : List Addr} (r : SR D G H w s O) : ∀ {env : List W} {σ : St} {Os : List (List Addr)} (i : Nat), Sl D G H env σ Os → Sl D G H (env.set i w) (σ.set i s) (Os.set i O)
  | [], _, _, _, h => by rw [h.1, h.2]; exact ⟨rfl, rfl⟩
  | _ :: env, _, _, 0, h => by
    obtain ⟨s', σ', O', Os', rfl, rfl, h1, h2⟩ := h
    exact ⟨s, σ', O, Os', rfl, rfl, r, h2⟩
  | _ :: env, _, _, i + 1, h => by
    obtain ⟨s', σ', O', Os', rfl, rfl, h1, h2⟩ := h
    exact ⟨s', _, O', _, rfl, rfl, h1, Sl.set r i h2⟩

structure StOk (D : Dn) (G H : Hp) (env : List W) (σ : St) (Os : List (List Addr)) : Prop where
  sl : Sl D G H env σ Os
  sub : Sub G H
  gn : ∀ a ∈ Os.flatten, G a = none
  nd : Os.flatten.Nodup
theorem StOk.there {D : Dn} {G H : Hp} {env : List W} {σ : St} {Os : List (List Addr)} (s : StOk D G H env σ Os) : ∀ a ∈ Os.flatten, ∃ o, H a = some o := fun a ha => by
  cases q : H a with
  | none => exact absurd q (s.sl.there a ha)
  | some o => exact ⟨o, rfl⟩
theorem SR.thn {D : Dn} {G H : Hp} {w : W} {s : Option V} {O : List Addr} (h : SR D G H w s O) : ∀ a ∈ O, ∃ o, H a = some o ∧ NT o := by
  rcases h with ⟨v, e1, h⟩ | ⟨_, h⟩
  · exact RO.thn w v O h
  · intro a ha; rw [h] at ha; cases ha
theorem Sl.thn {D : Dn} {G H : Hp} : ∀ {env : List W} {σ : St} {Os : List (List Addr)}, Sl D G H env σ Os → ∀ a ∈ Os.flatten, ∃ o, H a = some o ∧ NT o
  | [], _, _, h, a, ha => by rw [h.2] at ha; cases ha
  | w :: env, _, _, h, a, ha => by
    obtain ⟨s, σ', O, Os', rfl, rfl, h1, h2⟩ := h
    rw [List.flatten_cons] at ha
    rcases List.mem_append.mp ha with ha | ha
    · exact h1.thn a ha
    · exact Sl.thn h2 a ha
theorem StOk.thn {D : Dn} {G H : Hp} {env : List W} {σ : St} {Os : List (List Addr)} (s : StOk D G H env σ Os) : ∀ a ∈ Os.flatten, ∃ o, H a = some o ∧ NT o := s.sl.thn
theorem StOk.step {D : Dn} {G H G' H' : Hp} {env : List W} {σ : St} {Os : List (List Addr)} {O' : List Addr} (s : StOk D G H env σ Os) (t : Step G H [] G' H' O') (sub : Sub G' H') : StOk D G' H' env σ Os :=
  ⟨s.sl.mono t.mono fun a _ o h => t.keep a o h (fun z => nomatch z), sub, fun a ha => by
    obtain ⟨o, ho, nt⟩ := s.thn a ha
    exact t.gnew a o ho (fun z => nomatch z) nt (s.gn a ha), s.nd⟩
theorem StOk.apart {D : Dn} {G H G' H' : Hp} {env : List W} {σ : St} {Os : List (List Addr)} {O' : List Addr} (s : StOk D G H env σ Os) (t : Step G H [] G' H' O') (n : O'.Nodup) : (Os.flatten ++ O').Nodup :=
  List.nodup_append.mpr ⟨s.nd, n, fun a ha b hb e => by
    subst e
    obtain ⟨o, ho⟩ := s.there a ha
    rcases t.new a hb with z | z
    · cases z
    · rw [ho] at z; cases z⟩

/-- what an expression did: p: it changed nothing; else what the frame owns may be changed -/
def Stp (p : Bool) (env : List W) (G H : Hp) (Os : List (List Addr)) (env' : List W) (G' H' : Hp) (Os' : List (List Addr)) (Ow : List Addr) : Prop := match p with
  | true => env' = env ∧ Os' = Os ∧ Step G H [] G' H' Ow
  | false => Step G H Os.flatten G' H' (Os'.flatten ++ Ow)
theorem Stp.gen {p : Bool} {env env' : List W} {G H G' H' : Hp} {Os Os' : List (List Addr)} {Ow : List Addr} (h : Stp p env G H Os env' G' H' Os' Ow) : Step G H Os.flatten G' H' (Os'.flatten ++ Ow) := by
  cases p with
  | true => obtain ⟨rfl, rfl, h⟩ := h; exact h.pure0
  | false => exact h
theorem Stp.less {p : Bool} {env env' : List W} {G H G' H' : Hp} {Os Os' : List (List Addr)} {Ow O2 : List Addr} (h : Stp p env G H Os env' G' H' Os' Ow) (k : ∀ x ∈ O2, x ∈ Ow) : Stp p env G H Os env' G' H' Os' O2 := by
  cases p with
  | true => obtain ⟨e1, e2, h⟩ := h; exact ⟨e1, e2, h.less k⟩
  | false => exact Step.less h fun x hx => (List.mem_append.mp hx).elim (List.mem_append_left _) fun z => List.mem_append_right _ (k x z)
theorem Step.dropMid {G H G1 H1 G2 H2 : Hp} {O1 O2 : List Addr} (a : Step G H [] G1 H1 O1) (b : Step G1 H1 [] G2 H2 O2) : Step G H [] G2 H2 O2 := by
  have z := a.less (O2 := []) (fun x hx => nomatch hx)
  exact z.trans b
theorem Stp.trans {p q : Bool} {env env1 env2 : List W} {G H G1 H1 G2 H2 : Hp} {Os Os1 Os2 : List (List Addr)} {O1 O2 : List Addr} (a : Stp p env G H Os env1 G1 H1 Os1 O1) (b : Stp q env1 G1 H1 Os1 env2 G2 H2 Os2 O2) : Stp (p && q) env G H Os env2 G2 H2 Os2 O2 := by
  cases p with
  | true =>
    cases q with
    | true =>
      obtain ⟨rfl, rfl, a⟩ := a
      obtain ⟨rfl, rfl, b⟩ := b
      exact ⟨rfl, rfl, a.dropMid b⟩
    | false =>
      have a' := a.gen
      exact (a'.less (O2 := Os1.flatten) fun x hx => List.mem_append_left _ hx).trans b
  | false =>
    have a' : Step G H Os.flatten G1 H1 (Os1.flatten ++ O1) := a
    exact (a'.less (O2 := Os1.flatten) fun x hx => List.mem_append_left _ hx).trans b.gen
theorem Stp.and {p : Bool} (q : Bool) {env env' : List W} {G H G' H' : Hp} {Os Os' : List (List Addr)} {Ow : List Addr} (h : Stp p env G H Os env' G' H' Os' Ow) : Stp (p && q) env G H Os env' G' H' Os' Ow := by
  cases p with
  | true => cases q with
    | true => exact h
    | false => exact h.gen
  | false => exact h
theorem Stp.id (p : Bool) {env : List W} {G H : Hp} {Os : List (List Addr)} : Stp p env G H Os env G H Os [] := by
  cases p with
  | true => exact ⟨rfl, rfl, Step.refl _ _ _⟩
  | false => show Step G H Os.flatten G H (Os.flatten ++ []); rw [List.append_nil]; exact Step.refl _ _ _
theorem Stp.grow (p : Bool) {env : List W} {G H G' H' : Hp} {Os : List (List Addr)} {Ow : List Addr} (t : Step G H [] G' H' Ow) : Stp p env G H Os env G' H' Os Ow := by
  cases p with
  | true => exact ⟨rfl, rfl, t⟩
  | false => exact t.pure0

/-- whose the answer is: new and its holder's, or seen at its place -/
def OwnK (k : Bool) (Os : List (List Addr)) (Ow : List Addr) (G : Hp) : Prop := match k with
  | true => (Os.flatten ++ Ow).Nodup ∧ ∀ a ∈ Ow, G a = none
  | false => ∀ a ∈ Ow, a ∈ Os.flatten
theorem OwnK.nil {k : Bool} {D : Dn} {G H : Hp} {env : List W} {σ : St} {Os : List (List Addr)} (s : StOk D G H env σ Os) : OwnK k Os [] G := by
  cases k with
  | true => exact ⟨by rw [List.append_nil]; exact s.nd, fun _ z => nomatch z⟩
  | false => exact fun _ z => nomatch z
def kO (k : Bool) (O : List Addr) : List Addr := match k with
  | true => O
  | false => []

def TX (D : Dn) (Wx : WX) (p k : Bool) (m : Sm W) : TE := fun σ H Q => ∃ (env : List W) (G : Hp) (Os : List (List Addr)), StOk D G H env σ Os ∧ match m env with
  | .ok w env' => ∀ v G' H' Os' Ow, StOk D G' H' env' σ Os' → RO D G' H' w v Ow → OwnK k Os' Ow G' → Stp p env G H Os env' G' H' Os' (kO k Ow) → Q v H'
  | .ex c env' => ∀ G' H' Os', StOk D G' H' env' σ Os' → Stp p env G H Os env' G' H' Os' [] → Wx (.ref (D.CA c)) none σ H'
  | .bad => False
abbrev ME (Z : Zt) (e : Expr) (m : Sm W) (p k : Bool) : Prop := PE Z.X e (TX Z.D Z.W p k m)
theorem pe_imp {X : Cx} {e : Expr} {t t' : TE} (h : PE X e t) (i : ∀ σ H Q, t' σ H Q → t σ H Q) : PE X e t' := ⟨fun pins s σ H Q I w => h.run pins s σ H Q I (i σ H Q w)⟩

/-- what was told ahead stands behind the next expression -/
theorem stay {D : Dn} {k p : Bool} {w : W} {v : V} {env env' : List W} {σ : St} {G H G' H' : Hp} {Os Os' : List (List Addr)} {Ow O2 : List Addr} (s : StOk D G H env σ Os) (r : RO D G H w v Ow) (o : OwnK k Os Ow G) (t : Stp p env G H Os env' G' H' Os' O2)
    (g : (k || p || w.frz) = true) : RO D G' H' w v Ow := by
  by_cases hf : w.frz = true
  · obtain ⟨rfl, f⟩ := r.toF hf
    exact RO.ofF (RF.mono t.gen.mono _ _ f)
  · refine RO.mono t.gen.mono w v Ow (fun a ha x hx => ?_) r
    cases p with
    | true => exact t.2.2.keep a x hx (fun z => nomatch z)
    | false =>
      cases k with
      | false =>
        rw [Bool.or_self, Bool.false_or] at g
        exact absurd g hf
      | true =>
        refine t.gen.keep a x hx fun z => ?_
        exact (List.nodup_append.mp o.1).2.2 a z a ha rfl

/-! ### operators by values -/
def mBin (f : W → W → Option W) (g : Bool) (m1 m2 : Sm W) : Sm W := Sm.bind m1 fun w1 => Sm.bind m2 fun w2 => if (g || w1.frz) = true then lft (f w1 w2) else fun _ => .bad
/-- the answer of a rule by values -/
def Ans (D : Dn) (G H : Hp) (w : W) (Q : VK) : Prop := ∀ v G' H' Ow, Sub G' H' → RO D G' H' w v Ow → Ow.Nodup → (∀ a ∈ Ow, G' a = none) → Step G H [] G' H' Ow → Q v H'
/-- a rule by values does what f says -/
def RelS (D : Dn) (r : R2) (f : W → W → Option W) : Prop := ∀ (G H : Hp) (w1 w2 : W) (v1 v2 : V) (O1 O2 : List Addr) (w : W) (Q : VK), Sub G H → RO D G H w1 v1 O1 → RO D G H w2 v2 O2 → f w1 w2 = some w → Ans D G H w Q → r v1 v2 H Q
def rAny (X : Cx) (h : Value → Value → PySem.Sem Value) : R2 := fun x y H Q => ∃ r : R2, OpR X h r ∧ r x y H Q
theorem op_any {X : Cx} {h : Value → Value → PySem.Sem Value} : OpR X h (rAny X h) := fun pins s σ H x y v u Q I rx ry ⟨r, ho, q⟩ => ho pins s σ H x y v u Q I rx ry q
abbrev OpS (Z : Zt) (h : Value → Value → PySem.Sem Value) (f : W → W → Option W) : Prop := RelS Z.D (rAny Z.X h) f

/-- from a rule's answer to the expression's -/
theorem Ans.of {D : Dn} {p : Bool} {env env2 : List W} {σ : St} {G H G2 H2 : Hp} {Os Os2 : List (List Addr)} {O2 : List Addr} {w : W} {Q : VK} (s2 : StOk D G2 H2 env2 σ Os2) (t : Stp p env G H Os env2 G2 H2 Os2 O2)
    (h : ∀ v G' H' Os' Ow, StOk D G' H' env2 σ Os' → RO D G' H' w v Ow → OwnK true Os' Ow G' → Stp p env G H Os env2 G' H' Os' Ow → Q v H') : Ans D G2 H2 w Q := fun v G' H' Ow sub r nd gn st => by
  refine h v G' H' Os2 Ow (s2.step st sub) r ⟨s2.apart st nd, gn⟩ ?_
  have z := t.trans (Stp.grow true (env := env2) (Os := Os2) st)
  rwa [Bool.and_true] at z
theorem Ans.int {D : Dn} {G H : Hp} {i : Int} {Q : VK} (s : Sub G H) (h : Ans D G H (.int i) Q) : Q (.int i) H := h _ G H [] s ⟨rfl, rfl⟩ List.nodup_nil (fun _ z => nomatch z) (Step.refl _ _ _)
theorem Ans.bl {D : Dn} {G H : Hp} {i : Bool} {Q : VK} (s : Sub G H) (h : Ans D G H (.bl i) Q) : Q (.bl i) H := h _ G H [] s ⟨rfl, rfl⟩ List.nodup_nil (fun _ z => nomatch z) (Step.refl _ _ _)
theorem Ans.str {D : Dn} {G H : Hp} {i : Str} {Q : VK} (s : Sub G H) (h : Ans D G H (.str i) Q) : Q (.str i) H := h _ G H [] s ⟨rfl, rfl⟩ List.nodup_nil (fun _ z => nomatch z) (Step.refl _ _ _)
theorem Ans.non {D : Dn} {G H : Hp} {Q : VK} (s : Sub G H) (h : Ans D G H .non Q) : Q .non H := h _ G H [] s ⟨rfl, rfl⟩ List.nodup_nil (fun _ z => nomatch z) (Step.refl _ _ _)
/-- a frozen thing as it stands -/
theorem Ans.fro {D : Dn} {G H : Hp} {w : W} {v : V} {Q : VK} (s : Sub G H) (r : RF D G w v) (h : Ans D G H w Q) : Q v H := h _ G H [] s (RO.ofF r) List.nodup_nil (fun _ z => nomatch z) (Step.refl _ _ _)

theorem tx_bin {D : Dn} {Wx : WX} {r : R2} {f : W → W → Option W} {m1 m2 : Sm W} {p1 p2 k1 k2 : Bool} (o : RelS D r f) {σ : St} {H : Hp} {Q : VK} (hq : TX D Wx (p1 && p2) true (mBin f (k1 || p2) m1 m2) σ H Q) :
    tOp r (TX D Wx p1 k1 m1) (TX D Wx p2 k2 m2) σ H Q := by
  obtain ⟨env, G, Os, s, hq⟩ := hq
  refine ⟨env, G, Os, s, ?_⟩
  unfold mBin Sm.bind at hq
  cases e1 : m1 env with
  | bad => rw [e1] at hq; exact hq
  | ex c env1 =>
    rw [e1] at hq
    intro G' H' Os' s' t
    exact hq G' H' Os' s' (t.and p2)
  | ok w1 env1 =>
    rw [e1] at hq
    intro v1 G1 H1 Os1 O1 s1 r1 o1 t1
    refine ⟨env1, G1, Os1, s1, ?_⟩
    cases e2 : m2 env1 with
    | bad => simp only [e2] at hq
    | ex c env2 =>
      simp only [e2] at hq
      intro G' H' Os' s' t
      exact hq G' H' Os' s' (t1.trans t)
    | ok w2 env2 =>
      simp only [e2] at hq
      intro v2 G2 H2 Os2 O2 s2 r2 o2 t2
      by_cases hg : (k1 || p2 || w1.frz) = true
      · rw [if_pos hg] at hq
        unfold lft at hq
        cases ef : f w1 w2 with
        | none => rw [ef] at hq; exact hq.elim
        | some w =>
          rw [ef] at hq
          have r1' := stay s1 r1 o1 t2 hg
          exact o G2 H2 w1 w2 v1 v2 O1 O2 w Q s2.sub r1' r2 ef (Ans.of (p := p1 && p2) s2 (t1.trans t2) hq)
      · rw [if_neg hg] at hq
        exact hq.elim
theorem me_op {Z : Zt} {op : Operator} {f : W → W → Option W} {a b : Expr} {m1 m2 : Sm W} {p1 p2 k1 k2 : Bool} {pos : Pos} (o : OpS Z (binaryOp op) f) (ha : ME Z a m1 p1 k1) (hb : ME Z b m2 p2 k2) : ME Z (.BinOp a op b pos) (mBin f (k1 || p2) m1 m2) (p1 && p2) true :=
  pe_imp (pe_op op_any ha hb) fun _ _ _ h => tx_bin o h
theorem me_cmp {Z : Zt} {op : CmpOp} {f : W → W → Option W} {a b : Expr} {m1 m2 : Sm W} {p1 p2 k1 k2 : Bool} {pos : Pos} (o : OpS Z (compareOp op) f) (ha : ME Z a m1 p1 k1) (hb : ME Z b m2 p2 k2) (hm : behindInMarks op b = false := by first | exact nomark _ | rfl) :
    ME Z (.Compare a [op] [b] pos) (mBin f (k1 || p2) m1 m2) (p1 && p2) true :=
  pe_imp (pe_cmpR op_any ha hb hm) fun _ _ _ h => tx_bin o h
end Ev

namespace Ev
open PySem PySem.Spec L2

/-! ### names, constants -/
def mC (w : W) : Sm W := Sm.ret w
def mVar (i : Nat) : Sm W := fun env => match env[i]? with
  | some .dead => .bad
  | some w => .ok w env
  | none => .bad
def mMove (i : Nat) : Sm W := fun env => match env[i]? with
  | some .dead => .bad
  | some w => .ok w (env.set i .dead)
  | none => .bad
section
variable {Z : Zt} {pos : Pos}
theorem me_c {e : Expr} {v : V} {w : W} (h : PE Z.X e (tC v)) (r : ∀ G : Hp, RF Z.D G w v) : ME Z e (mC w) true true := pe_imp h fun σ H Q q => by
  obtain ⟨env, G, Os, s, q⟩ := q
  exact q v G H Os [] s (RO.ofF (r G)) (OwnK.nil s) (Stp.id true)
theorem me_int {i : Int} {j : Nat} : ME Z (.Constant (.int i) j pos) (mC (.int i)) true true := me_c pe_int fun _ => rfl
theorem me_bl {b : Bool} {j : Nat} : ME Z (.Constant (.bool b) j pos) (mC (.bl b)) true true := me_c pe_bl fun _ => rfl
theorem me_non {j : Nat} : ME Z (.Constant .none j pos) (mC .non) true true := me_c pe_non fun _ => rfl
theorem me_str {x : Str} {j : Nat} : ME Z (.Constant (.str x) j pos) (mC (.str x)) true true := me_c pe_str fun _ => rfl
theorem me_globS {x y : Str} {t : Tok} (hg : Gl Z.X x) (hm : Z.X.mg x = some (.str y t)) (hd : (x == ("__debug__" : Str)) = false := by decide) : ME Z (.Name x pos) (mC (.str y)) true true := me_c (v := .str y) (pe_glob hg hm ⟨t, rfl⟩ hd) fun _ => rfl
theorem me_globI {x : Str} {y : Int} {t : Tok} (hg : Gl Z.X x) (hm : Z.X.mg x = some (.int y t)) (hd : (x == ("__debug__" : Str)) = false := by decide) : ME Z (.Name x pos) (mC (.int y)) true true := me_c (v := .int y) (pe_glob hg hm ⟨t, rfl⟩ hd) fun _ => rfl
theorem me_var {e : Expr} (i : Nat) (h : PE Z.X e (tVar i)) : ME Z e (mVar i) true false := pe_imp h fun σ H Q q => by
  obtain ⟨env, G, Os, s, q⟩ := q
  unfold mVar at q
  cases e : env[i]? with
  | none => rw [e] at q; exact q.elim
  | some w =>
    obtain ⟨sv, O, h1, h2, h3⟩ := s.sl.at e
    rcases h3 with ⟨v, rfl, r⟩ | ⟨rfl, _⟩
    · refine ⟨v, h1, ?_⟩
      have hw : ∀ (w' : W), w' = w → match w' with | .dead => True | _ => Q v H := fun w' e' => by
        subst e'
        cases w' <;> first
          | trivial
          | (rw [e] at q; exact q v G H Os O s r (fun a ha => List.mem_flatten.mpr ⟨O, List.mem_of_getElem? h2, ha⟩) ⟨rfl, rfl, Step.refl _ _ _⟩)
      cases w <;> first
        | (rw [e] at q; exact q.elim)
        | exact hw _ rfl
    · rw [e] at q; exact q.elim
theorem flat_set : ∀ {Os : List (List Addr)} {i : Nat} {O O' : List Addr}, Os[i]? = some O → ((Os.set i O').flatten ++ O).Perm (Os.flatten ++ O')
  | [], _, _, _, h => by simp at h
  | P :: Os, 0, O, O', h => by
    have e : P = O := Option.some.inj h
    subst e
    show (O' ++ Os.flatten ++ P).Perm (P ++ Os.flatten ++ O')
    have h1 : (O' ++ Os.flatten ++ P).Perm (P ++ (O' ++ Os.flatten)) := List.perm_append_comm
    have h2 : (P ++ (O' ++ Os.flatten)).Perm (P ++ (Os.flatten ++ O')) := List.Perm.append_left _ List.perm_append_comm
    rw [List.append_assoc P]
    exact h1.trans h2
  | P :: Os, i + 1, O, O', h => by
    have ih := flat_set (Os := Os) (i := i) (O' := O') h
    show (P ++ (Os.set i O').flatten ++ O).Perm (P ++ Os.flatten ++ O')
    rw [List.append_assoc, List.append_assoc]
    exact List.Perm.append_left _ ih
theorem set_self {α : Type} : ∀ {l : List α} {i : Nat} {x : α}, l[i]? = some x → l.set i x = l
  | [], _, _, _ => rfl
  | _ :: _, 0, _, h => by rw [List.set_cons_zero]; rw [Option.some.inj h]
  | _ :: r, i + 1, _, h => by rw [List.set_cons_succ, set_self (l := r) h]
theorem me_move {e : Expr} (i : Nat) (h : PE Z.X e (tVar i)) (hio : Z.io i = false) : ME Z e (mMove i) false true := pe_imp h fun σ H Q q => by
  obtain ⟨env, G, Os, s, q⟩ := q
  unfold mMove at q
  cases e : env[i]? with
  | none => rw [e] at q; exact q.elim
  | some w =>
    obtain ⟨sv, O, h1, h2, h3⟩ := s.sl.at e
    rcases h3 with ⟨v, rfl, r⟩ | ⟨rfl, _⟩
    · refine ⟨v, h1, ?_⟩
      have pm := flat_set (O' := []) h2
      rw [List.append_nil] at pm
      have nd : ((Os.set i []).flatten ++ O).Nodup := pm.nodup_iff.mpr s.nd
      have s' : StOk Z.D G H (env.set i .dead) σ (Os.set i []) := by
        have z := Sl.set (D := Z.D) (G := G) (H := H) (w := .dead) (s := some v) (O := []) (.inr ⟨rfl, rfl⟩) i s.sl
        rw [set_self h1] at z
        exact ⟨z, s.sub, fun a ha => s.gn a (pm.mem_iff.mp (List.mem_append_left _ ha)), (List.nodup_append.mp nd).1⟩
      have fin : (∀ v G' H' Os' Ow, StOk Z.D G' H' (env.set i .dead) σ Os' → RO Z.D G' H' w v Ow → OwnK true Os' Ow G' → Stp false env G H Os (env.set i .dead) G' H' Os' Ow → Q v H') → Q v H := fun f =>
        f v G H (Os.set i []) O s' r ⟨nd, fun a ha => s.gn a (pm.mem_iff.mp (List.mem_append_right _ ha))⟩ ⟨Sub.refl _, fun _ _ h _ => h, fun _ _ _ _ _ h => h, fun a ha => .inl (pm.mem_iff.mp ha)⟩
      cases w <;> (rw [e] at q; first | exact q.elim | exact fin q)
    · rw [e] at q; exact q.elim
end

/-! ### one operand -/
def mUn (f : W → Option W) (m : Sm W) : Sm W := Sm.bind m fun w => lft (f w)
def RelU (D : Dn) (r : V → Hp → VK → Prop) (f : W → Option W) : Prop := ∀ (G H : Hp) (w1 : W) (v1 : V) (O1 : List Addr) (w : W) (Q : VK), Sub G H → RO D G H w1 v1 O1 → f w1 = some w → Ans D G H w Q → r v1 H Q
theorem tx_un {D : Dn} {Wx : WX} {r : V → Hp → VK → Prop} {f : W → Option W} {m : Sm W} {p k : Bool} (o : RelU D r f) {σ : St} {H : Hp} {Q : VK} (hq : TX D Wx p true (mUn f m) σ H Q) :
    TX D Wx p k m σ H fun x H1 => r x H1 Q := by
  obtain ⟨env, G, Os, s, hq⟩ := hq
  refine ⟨env, G, Os, s, ?_⟩
  unfold mUn Sm.bind at hq
  cases e1 : m env with
  | bad => rw [e1] at hq; exact hq
  | ex c env1 =>
    rw [e1] at hq
    exact hq
  | ok w1 env1 =>
    rw [e1] at hq
    intro v1 G1 H1 Os1 O1 s1 r1 o1 t1
    unfold lft at hq
    cases ef : f w1 with
    | none => simp only [ef] at hq
    | some w =>
      simp only [ef] at hq
      refine o G1 H1 w1 v1 O1 w Q s1.sub r1 ef fun v G' H' Ow sub r nd gn st => ?_
      refine hq v G' H' Os1 Ow (s1.step st sub) r ⟨s1.apart st nd, gn⟩ ?_
      have z := t1.trans (Stp.grow true (env := env1) (Os := Os1) st)
      rwa [Bool.and_true] at z
def uAny (X : Cx) (h : Value → PySem.Sem Value) : V → Hp → VK → Prop := fun x H Q => ∃ r, UnR X h r ∧ r x H Q
theorem un_any {X : Cx} {h : Value → PySem.Sem Value} : UnR X h (uAny X h) := fun pins s σ H x v Q I rx ⟨r, ho, q⟩ => ho pins s σ H x v Q I rx q
theorem me_un {Z : Zt} {op : UnaryOp} {f : W → Option W} {a : Expr} {m : Sm W} {p k : Bool} {pos : Pos} (o : RelU Z.D (uAny Z.X (unaryOp op)) f) (ha : ME Z a m p k) : ME Z (.UnaryOp op a pos) (mUn f m) p true :=
  pe_imp (pe_un un_any ha) fun _ _ _ h => tx_un o h
def negW : W → Option W
  | .int i => some (.int (-i))
  | _ => none
theorem me_neg {Z : Zt} {a : Expr} {m : Sm W} {p k : Bool} {pos : Pos} (ha : ME Z a m p k) : ME Z (.UnaryOp .USub a pos) (mUn negW m) p true := me_un (fun G H w1 v1 O1 w Q s r e q => by
  cases w1 with
  | int i =>
    cases e
    obtain ⟨_, rfl⟩ := r
    exact ⟨_, un_neg, i, rfl, q.int s⟩
  | _ => cases e) ha

/-! ### tests -/
def TT' (D : Dn) (Wx : WX) (p : Bool) (m : Sm Bool) : TT := fun σ H Q => ∃ (env : List W) (G : Hp) (Os : List (List Addr)), StOk D G H env σ Os ∧ match m env with
  | .ok b env' => ∀ G' H' Os', StOk D G' H' env' σ Os' → Stp p env G H Os env' G' H' Os' [] → Q b H'
  | .ex c env' => ∀ G' H' Os', StOk D G' H' env' σ Os' → Stp p env G H Os env' G' H' Os' [] → Wx (.ref (D.CA c)) none σ H'
  | .bad => False
abbrev MT (Z : Zt) (e : Expr) (m : Sm Bool) (p : Bool) : Prop := PT Z.X e (TT' Z.D Z.W p m)
abbrev MW (Z : Zt) (e : Expr) (m : Sm Bool) (p : Bool) : Prop := PW Z.X e (TT' Z.D Z.W p m)
theorem pt_imp {X : Cx} {e : Expr} {t t' : TT} (h : PT X e t) (i : ∀ σ H Q, t' σ H Q → t σ H Q) : PT X e t' := ⟨fun pins s σ H Q I w => h.run pins s σ H Q I (i σ H Q w)⟩
theorem pw_imp {X : Cx} {e : Expr} {t t' : TT} (h : PW X e t) (i : ∀ σ H Q, t' σ H Q → t σ H Q) : PW X e t' := ⟨fun wh pins s σ H Q I w => h.run wh pins s σ H Q I (i σ H Q w)⟩
def blW : W → Option Bool
  | .bl b => some b
  | _ => none
def toB (m : Sm W) : Sm Bool := Sm.bind m fun w => lft (blW w)
def ofB (m : Sm Bool) : Sm W := Sm.bind m fun b => Sm.ret (.bl b)
def mAnd (m1 m2 : Sm Bool) : Sm Bool := Sm.bind m1 fun b => if b = true then m2 else Sm.ret false
def mOr (m1 m2 : Sm Bool) : Sm Bool := Sm.bind m1 fun b => if b = true then Sm.ret true else m2
def mNot (m : Sm Bool) : Sm Bool := Sm.bind m fun b => Sm.ret (!b)
theorem tt_val {D : Dn} {Wx : WX} {p k : Bool} {m : Sm W} {σ : St} {H : Hp} {Q : Bool → Hp → Prop} (h : TT' D Wx p (toB m) σ H Q) : TX D Wx p k m σ H fun x H1 => ∃ c, x = .bl c ∧ Q c H1 := by
  obtain ⟨env, G, Os, s, q⟩ := h
  refine ⟨env, G, Os, s, ?_⟩
  unfold toB Sm.bind lft at q
  cases e1 : m env with
  | bad => rw [e1] at q; exact q
  | ex c env1 => rw [e1] at q; exact q
  | ok w env1 =>
    rw [e1] at q
    intro v G' H' Os' Ow s' r o t
    cases w with
    | bl b =>
      obtain ⟨rfl, rfl⟩ := r
      refine ⟨b, rfl, q G' H' Os' s' ?_⟩
      cases k <;> exact t
    | _ => exact q.elim
theorem mt_val {Z : Zt} {e : Expr} {m : Sm W} {p k : Bool} (h : ME Z e m p k) (he : ∀ whole, isTrue e Z.X.env whole = (do let v ← whole; standAt e.pos; holding [v] (truthy v)) := by intro _; rfl) : MT Z e (toB m) p :=
  pt_imp (pt_val h he) fun _ _ _ q => tt_val q
theorem tt_and {D : Dn} {Wx : WX} {p1 p2 : Bool} {m1 m2 : Sm Bool} {σ : St} {H : Hp} {Q : Bool → Hp → Prop} (h : TT' D Wx (p1 && p2) (mAnd m1 m2) σ H Q) : tAnd (TT' D Wx p1 m1) (TT' D Wx p2 m2) σ H Q := by
  obtain ⟨env, G, Os, s, q⟩ := h
  refine ⟨env, G, Os, s, ?_⟩
  unfold mAnd Sm.bind at q
  cases e1 : m1 env with
  | bad => rw [e1] at q; exact q
  | ex c env1 =>
    rw [e1] at q
    exact fun G' H' Os' s' t => q G' H' Os' s' (t.and p2)
  | ok b env1 =>
    rw [e1] at q
    intro G1 H1 Os1 s1 t1
    cases b with
    | false => exact (if_neg Bool.false_ne_true).mpr (q G1 H1 Os1 s1 (t1.and p2))
    | true =>
      rw [if_pos rfl]
      refine ⟨env1, G1, Os1, s1, ?_⟩
      simp only [if_true] at q
      cases e2 : m2 env1 with
      | bad => simp only [e2] at q
      | ex c env2 =>
        simp only [e2] at q
        exact fun G' H' Os' s' t => q G' H' Os' s' (t1.trans t)
      | ok b2 env2 =>
        simp only [e2] at q
        exact fun G' H' Os' s' t => q G' H' Os' s' (t1.trans t)
theorem tt_or {D : Dn} {Wx : WX} {p1 p2 : Bool} {m1 m2 : Sm Bool} {σ : St} {H : Hp} {Q : Bool → Hp → Prop} (h : TT' D Wx (p1 && p2) (mOr m1 m2) σ H Q) : tOr (TT' D Wx p1 m1) (TT' D Wx p2 m2) σ H Q := by
  obtain ⟨env, G, Os, s, q⟩ := h
  refine ⟨env, G, Os, s, ?_⟩
  unfold mOr Sm.bind at q
  cases e1 : m1 env with
  | bad => rw [e1] at q; exact q
  | ex c env1 =>
    rw [e1] at q
    exact fun G' H' Os' s' t => q G' H' Os' s' (t.and p2)
  | ok b env1 =>
    rw [e1] at q
    intro G1 H1 Os1 s1 t1
    cases b with
    | true => exact (if_pos rfl).mpr (q G1 H1 Os1 s1 (t1.and p2))
    | false =>
      rw [if_neg Bool.false_ne_true]
      refine ⟨env1, G1, Os1, s1, ?_⟩
      simp only [Bool.false_eq_true, if_false] at q
      cases e2 : m2 env1 with
      | bad => simp only [e2] at q
      | ex c env2 =>
        simp only [e2] at q
        exact fun G' H' Os' s' t => q G' H' Os' s' (t1.trans t)
      | ok b2 env2 =>
        simp only [e2] at q
        exact fun G' H' Os' s' t => q G' H' Os' s' (t1.trans t)
theorem tt_not {D : Dn} {Wx : WX} {p : Bool} {m : Sm Bool} {σ : St} {H : Hp} {Q : Bool → Hp → Prop} (h : TT' D Wx p (mNot m) σ H Q) : tNot (TT' D Wx p m) σ H Q := by
  obtain ⟨env, G, Os, s, q⟩ := h
  refine ⟨env, G, Os, s, ?_⟩
  unfold mNot Sm.bind at q
  cases e1 : m env with
  | bad => rw [e1] at q; exact q
  | ex c env1 => rw [e1] at q; exact q
  | ok b env1 => rw [e1] at q; exact q
section
variable {Z : Zt} {a b : Expr} {rest : List Expr} {m m1 m2 : Sm Bool} {p p1 p2 : Bool} {pos : Pos}
theorem mw_and1 (h : MT Z a m p) : MW Z (.BoolOp .And [a] pos) m p := pw_and1 h
theorem mw_or1 (h : MT Z a m p) : MW Z (.BoolOp .Or [a] pos) m p := pw_or1 h
theorem mw_and (h1 : MT Z a m1 p1) (h2 : MW Z (.BoolOp .And (b :: rest) pos) m2 p2) : MW Z (.BoolOp .And (a :: b :: rest) pos) (mAnd m1 m2) (p1 && p2) := pw_imp (pw_and h1 h2) fun _ _ _ q => tt_and q
theorem mw_or (h1 : MT Z a m1 p1) (h2 : MW Z (.BoolOp .Or (b :: rest) pos) m2 p2) : MW Z (.BoolOp .Or (a :: b :: rest) pos) (mOr m1 m2) (p1 && p2) := pw_imp (pw_or h1 h2) fun _ _ _ q => tt_or q
theorem mt_w (h : MW Z a m p) : MT Z a m p := h.pt
theorem mt_not (h : MT Z a m p) : MT Z (.UnaryOp .Not a pos) (mNot m) p := pt_imp (pt_not h) fun _ _ _ q => tt_not q
end
/-- a truth by its expression -/
theorem tx_ofB {D : Dn} {Wx : WX} {p : Bool} {m : Sm Bool} {σ : St} {H : Hp} {Q : VK} (h : TX D Wx p true (ofB m) σ H Q) : TT' D Wx p m σ H fun b H1 => Q (.bl b) H1 := by
  obtain ⟨env, G, Os, s, q⟩ := h
  refine ⟨env, G, Os, s, ?_⟩
  unfold ofB Sm.bind at q
  cases e1 : m env with
  | bad => rw [e1] at q; exact q
  | ex c env1 => rw [e1] at q; exact q
  | ok b env1 =>
    rw [e1] at q
    exact fun G' H' Os' s' t => q (.bl b) G' H' Os' [] s' ⟨rfl, rfl⟩ (OwnK.nil s') t
section
variable {Z : Zt} {a b : Expr} {rest : List Expr} {m m1 m2 : Sm W} {p p1 p2 k k1 k2 : Bool} {pos : Pos} {op : BoolOp}
def mAndV (m1 m2 : Sm W) : Sm W := ofB (mAnd (toB m1) (toB m2))
def mOrV (m1 m2 : Sm W) : Sm W := ofB (mOr (toB m1) (toB m2))
def mNotV (m : Sm W) : Sm W := ofB (mNot (toB m))
theorem me_one (h : ME Z a m p k) : ME Z (.BoolOp op [a] pos) m p k := pe_one h
theorem me_and (h1 : ME Z a m1 p1 k1) (h2 : ME Z (.BoolOp .And (b :: rest) pos) m2 p2 k2) : ME Z (.BoolOp .And (a :: b :: rest) pos) (mAndV m1 m2) (p1 && p2) true := pe_imp (pe_and h1 h2) fun σ H Q q => by
  have z := tt_and (tx_ofB q)
  refine tt_val (m := m1) (k := k1) ?_
  obtain ⟨env, G, Os, s, z⟩ := z
  refine ⟨env, G, Os, s, ?_⟩
  revert z
  cases toB m1 env with
  | bad => exact id
  | ex c env1 => exact id
  | ok c env1 =>
    intro z G1 H1 Os1 s1 t1
    have z1 := z G1 H1 Os1 s1 t1
    cases c with
    | false => exact z1
    | true =>
      show TX _ _ _ _ _ _ _ _
      have z2 := tt_val (k := k2) z1
      obtain ⟨env2, G2, Os2, s2, y⟩ := z2
      refine ⟨env2, G2, Os2, s2, ?_⟩
      revert y
      cases m2 env2 with
      | bad => exact id
      | ex c env1 => exact id
      | ok c env1 =>
        intro y v G' H' Os' Ow s' r o t
        obtain ⟨c, rfl, y⟩ := y v G' H' Os' Ow s' r o t
        exact y
theorem me_not (h : ME Z a m p k) : ME Z (.UnaryOp .Not a pos) (mNotV m) p true := pe_imp (pe_not h) fun σ H Q q => tt_val (tt_not (tx_ofB q))
end

/-! ### arguments -/
def TA' (D : Dn) (Wx : WX) (p : Bool) (m : Sm (List W)) : TA := fun σ H Q => ∃ (env : List W) (G : Hp) (Os : List (List Addr)), StOk D G H env σ Os ∧ match m env with
  | .ok ws env' => ∀ vs G' H' Os', StOk D G' H' env' σ Os' → RFs D G' ws vs → Stp p env G H Os env' G' H' Os' [] → Q vs H'
  | .ex c env' => ∀ G' H' Os', StOk D G' H' env' σ Os' → Stp p env G H Os env' G' H' Os' [] → Wx (.ref (D.CA c)) none σ H'
  | .bad => False
abbrev MA (Z : Zt) (es : List Expr) (m : Sm (List W)) (p : Bool) : Prop := PA Z.X es (TA' Z.D Z.W p m)
theorem pa_imp {X : Cx} {e : List Expr} {t t' : TA} (h : PA X e t) (i : ∀ σ H Q, t' σ H Q → t σ H Q) : PA X e t' := ⟨fun pos pins s σ H Q I w => h.run pos pins s σ H Q I (i σ H Q w)⟩
def mNil : Sm (List W) := Sm.ret []
def mCons (m : Sm W) (ms : Sm (List W)) : Sm (List W) := Sm.bind m fun w => if w.frz = true then Sm.bind ms fun ws => Sm.ret (w :: ws) else fun _ => .bad
theorem ma_nil {Z : Zt} : MA Z [] mNil true := pa_imp pa_nil fun σ H Q q => by
  obtain ⟨env, G, Os, s, q⟩ := q
  exact q [] G H Os s rfl (Stp.id true)
theorem kO_less {k : Bool} {O : List Addr} : ∀ x ∈ ([] : List Addr), x ∈ kO k O := fun _ z => nomatch z
theorem tx_cons {D : Dn} {Wx : WX} {p1 p2 k : Bool} {m : Sm W} {ms : Sm (List W)} {σ : St} {H : Hp} {Q : List V → Hp → Prop} (q : TA' D Wx (p1 && p2) (mCons m ms) σ H Q) :
    TX D Wx p1 k m σ H fun x H1 => TA' D Wx p2 ms σ H1 fun xs H2 => Q (x :: xs) H2 := by
  obtain ⟨env, G, Os, s, q⟩ := q
  refine ⟨env, G, Os, s, ?_⟩
  unfold mCons Sm.bind at q
  cases e1 : m env with
  | bad => rw [e1] at q; exact q
  | ex c env1 =>
    rw [e1] at q
    exact fun G' H' Os' s' t => q G' H' Os' s' (t.and p2)
  | ok w env1 =>
    rw [e1] at q
    intro v1 G1 H1 Os1 O1 s1 r1 o1 t1
    by_cases hf : w.frz = true
    · simp only [if_pos hf] at q
      obtain ⟨rfl, f⟩ := r1.toF hf
      have t1' : Stp p1 env G H Os env1 G1 H1 Os1 [] := t1.less kO_less
      refine ⟨env1, G1, Os1, s1, ?_⟩
      cases e2 : ms env1 with
      | bad => simp only [e2] at q
      | ex c env2 =>
        simp only [e2] at q
        exact fun G' H' Os' s' t => q G' H' Os' s' (t1'.trans t)
      | ok ws env2 =>
        simp only [e2] at q
        exact fun vs G' H' Os' s' r t => q (v1 :: vs) G' H' Os' s' ⟨v1, vs, rfl, RF.mono t.gen.mono _ _ f, r⟩ (t1'.trans t)
    · simp only [if_neg hf] at q
theorem ma_cons {Z : Zt} {e : Expr} {es : List Expr} {m : Sm W} {ms : Sm (List W)} {p1 p2 k : Bool} (h : ME Z e m p1 k) (hr : MA Z es ms p2) (hs : starEach (e :: es) Z.X.env = (false, eval e Z.X.env) :: starEach es Z.X.env := by rfl) : MA Z (e :: es) (mCons m ms) (p1 && p2) :=
  pa_imp (pa_cons h hr hs) fun _ _ _ q => tx_cons q

/-- a rule over arguments does what f says -/
def RelA (D : Dn) (r : List V → Hp → VK → Prop) (f : List W → Option W) : Prop := ∀ (G H : Hp) (ws : List W) (vs : List V) (w : W) (Q : VK), Sub G H → RFs D G ws vs → f ws = some w → Ans D G H w Q → r vs H Q
def mArgs (f : List W → Option W) (m : Sm (List W)) : Sm W := Sm.bind m fun ws => lft (f ws)
theorem ta_args {D : Dn} {Wx : WX} {r : List V → Hp → VK → Prop} {f : List W → Option W} {m : Sm (List W)} {p : Bool} (o : RelA D r f) {σ : St} {H : Hp} {Q : VK} (hq : TX D Wx p true (mArgs f m) σ H Q) :
    TA' D Wx p m σ H fun vs H1 => r vs H1 Q := by
  obtain ⟨env, G, Os, s, hq⟩ := hq
  refine ⟨env, G, Os, s, ?_⟩
  unfold mArgs Sm.bind at hq
  cases e1 : m env with
  | bad => rw [e1] at hq; exact hq
  | ex c env1 => rw [e1] at hq; exact hq
  | ok ws env1 =>
    rw [e1] at hq
    intro vs G1 H1 Os1 s1 r1 t1
    unfold lft at hq
    cases ef : f ws with
    | none => simp only [ef] at hq
    | some w =>
      simp only [ef] at hq
      refine o G1 H1 ws vs w Q s1.sub r1 ef fun v G' H' Ow sub r nd gn st => ?_
      refine hq v G' H' Os1 Ow (s1.step st sub) r ⟨s1.apart st nd, gn⟩ ?_
      have z := t1.trans (Stp.grow true (env := env1) (Os := Os1) st)
      rwa [Bool.and_true] at z
/-! ### displays -/
theorem RFs.len {D : Dn} {G : Hp} : ∀ {ws : List W} {vs : List V}, RFs D G ws vs → ws.length = vs.length
  | [], _, h => by rw [show _ = [] from h]; rfl
  | w :: ws, _, h => by
    obtain ⟨v, r, rfl, _, h2⟩ := h
    simp [RFs.len h2]
theorem sub_upd {G H : Hp} {p : Addr} {o : HO} (s : Sub G H) (n : H p = none) : Sub G (upd H p o) := fun a x h => by
  rw [upd_ne (ne_of_none (s a x h) n)]; exact s a x h
theorem sub_upd2 {G H : Hp} {p : Addr} {o : HO} (s : Sub G H) : Sub (upd G p o) (upd H p o) := fun a x h => by
  by_cases e : a = p
  · subst e; rw [upd_same] at h; rw [upd_same]; exact h
  · rw [upd_ne e] at h; rw [upd_ne e]; exact s a x h
theorem sub_new {H : Hp} {p : Addr} {o : HO} (n : H p = none) : Sub H (upd H p o) := sub_upd (Sub.refl H) n
theorem sub_none {G H : Hp} {p : Addr} (s : Sub G H) (n : H p = none) : G p = none := by
  cases e : G p with
  | none => rfl
  | some o => rw [s p o e] at n; cases n
/-- a new object that is told as frozen -/
theorem step_frz {G H : Hp} {p : Addr} {o : HO} (s : Sub G H) (n : H p = none) : Step G H [] (upd G p o) (upd H p o) [] :=
  ⟨sub_new (sub_none s n), fun a x h _ => sub_new n a x h, fun a x h _ _ g => by rw [upd_ne (ne_of_none h n)]; exact g, fun _ z => nomatch z⟩
/-- a new object that is owned -/
theorem step_own {G H : Hp} {p : Addr} {o : HO} (n : H p = none) : Step G H [] G (upd H p o) [p] :=
  ⟨Sub.refl _, fun a x h _ => sub_new n a x h, fun _ _ _ _ _ g => g, fun a ha => .inr (by rw [List.mem_singleton.mp ha]; exact n)⟩
/-- a new list -/
theorem Ans.lst {D : Dn} {G H : Hp} {b : Bool} {ws : List W} {vs : List V} {p : Addr} {Q : VK} (s : Sub G H) (r : RFs D G ws vs) (n : H p = none) (h : Ans D G H (.lst b ws) Q) : Q (.ref p) (upd H p (.lst vs)) := by
  cases b with
  | false =>
    have t := step_frz (o := .lst vs) s n
    exact h _ (upd G p (.lst vs)) _ [] (sub_upd2 s) ⟨rfl, p, vs, rfl, upd_same, RFs.mono t.mono _ _ r⟩ List.nodup_nil (fun _ z => nomatch z) t
  | true =>
    exact h _ G _ [p] (sub_upd s n) ⟨p, vs, rfl, rfl, upd_same, r⟩ (by simp) (fun a ha => by rw [List.mem_singleton.mp ha]; exact sub_none s n) (step_own n)
theorem Ans.tup {D : Dn} {G H : Hp} {ws : List W} {vs : List V} {p : Addr} {Q : VK} (s : Sub G H) (r : RFs D G ws vs) (n : H p = none) (h : Ans D G H (.tup ws) Q) : Q (.ref p) (upd H p (.tup vs)) := by
  have t := step_frz (o := .tup vs) s n
  exact h _ (upd G p (.tup vs)) _ [] (sub_upd2 s) ⟨rfl, p, vs, rfl, SqT.of upd_same, RFs.mono t.mono _ _ r⟩ List.nodup_nil (fun _ z => nomatch z) t
def lstW (b : Bool) (ws : List W) : Option W := if ws.length ≤ sizeLine then some (.lst b ws) else none
def tupW (ws : List W) : Option W := if ws.length ≤ sizeLine then some (.tup ws) else none
section
variable {Z : Zt} {es : List Expr} {m : Sm (List W)} {p : Bool} {pos : Pos}
theorem me_lst (b : Bool) (h : MA Z es m p) : ME Z (.List es pos) (mArgs (lstW b) m) p true := pe_imp (pe_lst h) fun σ H Q q => ta_args (r := fun xs H1 Q => xs.length ≤ sizeLine ∧ ∀ p, H1 p = none → Q (.ref p) (upd H1 p (.lst xs))) (fun G H ws vs w Q s r e q => by
  unfold lstW at e
  by_cases hl : ws.length ≤ sizeLine
  · rw [if_pos hl] at e
    cases e
    exact ⟨by rw [← r.len]; exact hl, fun p n => q.lst s r n⟩
  · rw [if_neg hl] at e; cases e) q
theorem me_tup {k : Nat} (h : MA Z es m p) : ME Z (.Tuple es k pos) (mArgs tupW m) p true := pe_imp (pe_tup h) fun σ H Q q => ta_args (r := fun xs H1 Q => xs.length ≤ sizeLine ∧ ∀ p, H1 p = none → Q (.ref p) (upd H1 p (.tup xs))) (fun G H ws vs w Q s r e q => by
  unfold tupW at e
  by_cases hl : ws.length ≤ sizeLine
  · rw [if_pos hl] at e
    cases e
    exact ⟨by rw [← r.len]; exact hl, fun p n => q.tup s r n⟩
  · rw [if_neg hl] at e; cases e) q
end
end Ev

namespace Ev
open PySem PySem.SeqAt PySem.MeetsSeq
open AutoSeq1 (wpAny_loadPart')
/-! ### a table beside a thing of another kind: never alike -/
section
variable {A : Around} {s : Shared}
def TabAtH (h : Heap) (a : Addr) : Prop := ∃ o es n, h.get? a = some o ∧ o.cls = .type "dict" ∧ o.data = .dict es n
theorem TabAtH.ty {a : Addr} (d : TabAtH s.heap a) : s.TypeIs (.ref a) "dict" := by
  obtain ⟨o, es, n, h, c, _⟩ := d
  exact ⟨o, h, c⟩
theorem tab_declines {prog : Program} {w : World} {E : Value → Shared → Prop} {Q : Value → Shared → Prop} {a : Addr} {v : Value} {T : String} (ta : s.TypeIs (.ref a) "dict") (tv : s.TypeIs v T) (sub : isSubtype (.type T) (.type "dict") = pure false) (hq : Q .notImplemented s) :
    wpAny (model prog w) A (call (.builtin "dict.__eq__") [.ref a, v]) Q E s := by
  refine wpAny_call_entry PySem.F.slot_dict_eq ta PySem.F.entry_dict_eq ?_ (PySem.F.args_dict_eq_2 _ _)
  show wpAny _ _ (Builtin.Dict.dictSlotArgs "__eq__" ⟨[.ref a, v], []⟩ >>= _) _ _ s
  refine wpAny_bind ?_
  unfold Builtin.Dict.dictSlotArgs
  refine wpAny_bind (wpAny_notOrdered_dict ta ?_)
  show wpAny _ _ (pure (Value.ref a, v)) _ _ s
  refine wpAny_pure ?_
  refine wpAny_bind (wpAny_isInstance (T := T) (b := false) tv sub ?_)
  simp only [Bool.not_false, if_true]
  refine wpAny_bind (wpAny_rule ?_)
  exact wpAny_pure ⟨_, rfl, hq⟩
theorem int_declines_dict_bool (b : Bool) (l : Addr) (es : Array DictEntry) (n : Nat) (dd : Option Addr) (sl : Array (Option Value)) :
    Meets (Builtin.«int.__eq__» ⟨[.bool b, .ref l], []⟩) (fun _ R s => s.heap.get? l = some { cls := .type "dict", dict := dd, data := .dict es n, slots := sl } ∧ R (.ok (.ret .notImplemented)) s) :=
  .of_wp fun prog w A R s h => by obtain ⟨hp, g, d, tk, os⟩ := s; obtain ⟨hl, h⟩ := h; wp_walk using wpAny_load hl; exact ⟨_, rfl, h⟩
theorem int_declines_dict_int (b : Int) (u : Tok) (l : Addr) (es : Array DictEntry) (n : Nat) (dd : Option Addr) (sl : Array (Option Value)) :
    Meets (Builtin.«int.__eq__» ⟨[.int b u, .ref l], []⟩) (fun _ R s => s.heap.get? l = some { cls := .type "dict", dict := dd, data := .dict es n, slots := sl } ∧ R (.ok (.ret .notImplemented)) s) :=
  .of_wp fun prog w A R s h => by obtain ⟨hp, g, d, tk, os⟩ := s; obtain ⟨hl, h⟩ := h; wp_walk using wpAny_load hl; exact ⟨_, rfl, h⟩
theorem str_declines_dict (b : Str) (u : Tok) (l : Addr) (es : Array DictEntry) (n : Nat) (dd : Option Addr) (sl : Array (Option Value)) :
    Meets (Builtin.«str.__eq__» ⟨[.str b u, .ref l], []⟩) (fun _ R s => s.heap.get? l = some { cls := .type "dict", dict := dd, data := .dict es n, slots := sl } ∧ R (.ok (.ret .notImplemented)) s) :=
  .of_wp fun prog w A R s h => by obtain ⟨hp, g, d, tk, os⟩ := s; obtain ⟨hl, h⟩ := h; wp_walk using wpAny_load hl; exact ⟨_, rfl, h⟩
theorem list_declines_dict (l b : Addr) (items : Array Value) (n m : Nat) (es : Array DictEntry) (dd dd2 : Option Addr) (sl sl2 : Array (Option Value)) :
    Meets (Builtin.«list.__eq__» ⟨[.ref l, .ref b], []⟩) (fun _ R s => s.heap.get? l = some { cls := .type "list", dict := dd, data := .seq items n, slots := sl } ∧ s.heap.get? b = some { cls := .type "dict", dict := dd2, data := .dict es m, slots := sl2 } ∧ R (.ok (.ret .notImplemented)) s) :=
  .of_wp fun prog w A R s h => by obtain ⟨hp, g, d, tk, os⟩ := s; obtain ⟨hl, hb, h⟩ := h; have f1 := F.sub_dict_list; wp_walk using wpAny_loadPart' hl, wpAny_load hb; exact ⟨_, rfl, h⟩
theorem tuple_declines_dict (l b : Addr) (items : Array Value) (n m : Nat) (es : Array DictEntry) (dd dd2 : Option Addr) (sl sl2 : Array (Option Value)) :
    Meets (Builtin.«tuple.__eq__» ⟨[.ref l, .ref b], []⟩) (fun _ R s => s.heap.get? l = some { cls := .type "tuple", dict := dd, data := .seq items n, slots := sl } ∧ s.heap.get? b = some { cls := .type "dict", dict := dd2, data := .dict es m, slots := sl2 } ∧ R (.ok (.ret .notImplemented)) s) :=
  .of_wp fun prog w A R s h => by obtain ⟨hp, g, d, tk, os⟩ := s; obtain ⟨hl, hb, h⟩ := h; have f1 := F.sub_dict_tuple; wp_walk using wpAny_loadPart' hl, wpAny_load hb; exact ⟨_, rfl, h⟩
theorem Rc_none_tab {b : Addr} (hb : TabAtH s.heap b) (hu : A.units < cLine) : RcAt A s .none (.ref b) false := fun prog w E Q h => by
  obtain ⟨⟨cls, dd, data, sl⟩, es, n, ho, hc, hd⟩ := id hb
  simp only at hc hd
  subst hc hd
  exact rc_eq_decline_or (k := false) rfl ⟨_, ho, rfl⟩ (by decide) F.sub_dict_NoneType F.slot_NoneType_eq F.slot_dict_eq_refl
    (fun _ hq => call_gives F.slot_NoneType_eq rfl F.entry_NoneType_eq (F.args_NoneType_eq_2 _ _) (NoneType___eq___none_ref_0 b) hq)
    (fun _ hq => tab_declines ⟨_, ho, rfl⟩ rfl F.sub_NoneType_dict hq)
    (fun _ hq => wpAny_of_eq (rfl : isSame .none (.ref b) = pure false) hq) (.inr hu) h
theorem Eq_none_tab {b : Addr} (hb : TabAtH s.heap b) (hu : A.units < cLine) : EqAt A s .none (.ref b) false := fun prog w E Q h => by
  unfold eqBool
  refine wpAny_holding ?_
  refine wpAny_ite_split (fun hab => absurd (eq_of_beq hab) nofun) (fun _ => ?_)
  exact wpAny_bind (Rc_none_tab hb hu prog w E _ (wpAny_truthy_bool h))
theorem Rc_bool_tab (x : Bool) {b : Addr} (hb : TabAtH s.heap b) (hu : A.units < cLine) : RcAt A s (.bool x) (.ref b) false := fun prog w E Q h => by
  obtain ⟨⟨cls, dd, data, sl⟩, es, n, ho, hc, hd⟩ := id hb
  simp only at hc hd
  subst hc hd
  exact rc_eq_decline_or (k := false) rfl ⟨_, ho, rfl⟩ (by decide) F.sub_dict_bool F.slot_bool_eq F.slot_dict_eq_refl
    (fun _ hq => call_meets F.slot_bool_eq rfl F.entry_int_eq (F.args_int_eq_2 _ _) (int_declines_dict_bool x b es n dd sl) ⟨ho, hq⟩)
    (fun _ hq => tab_declines ⟨_, ho, rfl⟩ rfl F.sub_bool_dict hq)
    (fun _ hq => wpAny_of_eq (rfl : isSame (.bool x) (.ref b) = pure false) hq) (.inr hu) h
theorem Eq_bool_tab (x : Bool) {b : Addr} (hb : TabAtH s.heap b) (hu : A.units < cLine) : EqAt A s (.bool x) (.ref b) false := fun prog w E Q h => by
  unfold eqBool
  refine wpAny_holding ?_
  refine wpAny_ite_split (fun hab => absurd (eq_of_beq hab) nofun) (fun _ => ?_)
  exact wpAny_bind (Rc_bool_tab x hb hu prog w E _ (wpAny_truthy_bool h))
theorem Rc_int_tab (x : Int) (t : Tok) {b : Addr} (hb : TabAtH s.heap b) (hu : A.units < cLine) : RcAt A s (.int x t) (.ref b) false := fun prog w E Q h => by
  obtain ⟨⟨cls, dd, data, sl⟩, es, n, ho, hc, hd⟩ := id hb
  simp only at hc hd
  subst hc hd
  exact rc_eq_decline_or (k := false) (typeIs_int s x t) ⟨_, ho, rfl⟩ (by decide) F.sub_dict_int F.slot_int_eq F.slot_dict_eq_refl
    (fun _ hq => call_meets F.slot_int_eq (typeIs_int s x t) F.entry_int_eq (F.args_int_eq_2 _ _) (int_declines_dict_int x t b es n dd sl) ⟨ho, hq⟩)
    (fun _ hq => tab_declines ⟨_, ho, rfl⟩ (typeIs_int s x t) F.sub_int_dict hq)
    (fun _ hq => wpAny_of_eq (rfl : isSame (.int x t) (.ref b) = pure false) hq) (.inr hu) h
theorem Eq_int_tab (x : Int) (t : Tok) {b : Addr} (hb : TabAtH s.heap b) (hu : A.units < cLine) : EqAt A s (.int x t) (.ref b) false := fun prog w E Q h => by
  unfold eqBool
  refine wpAny_holding ?_
  refine wpAny_ite_split (fun hab => absurd (eq_of_beq hab) nofun) (fun _ => ?_)
  exact wpAny_bind (Rc_int_tab x t hb hu prog w E _ (wpAny_truthy_bool h))
theorem Rc_str_tab (x : Str) (t : Tok) {b : Addr} (hb : TabAtH s.heap b) (hu : A.units < cLine) : RcAt A s (.str x t) (.ref b) false := fun prog w E Q h => by
  obtain ⟨⟨cls, dd, data, sl⟩, es, n, ho, hc, hd⟩ := id hb
  simp only at hc hd
  subst hc hd
  exact rc_eq_decline_or (k := false) (typeIs_str s x t) ⟨_, ho, rfl⟩ (by decide) F.sub_dict_str F.slot_str_eq F.slot_dict_eq_refl
    (fun _ hq => call_meets F.slot_str_eq (typeIs_str s x t) F.entry_str_eq (F.args_str_eq_2 _ _) (str_declines_dict x t b es n dd sl) ⟨ho, hq⟩)
    (fun _ hq => tab_declines ⟨_, ho, rfl⟩ (typeIs_str s x t) F.sub_str_dict hq)
    (fun _ hq => wpAny_of_eq (rfl : isSame (.str x t) (.ref b) = pure false) hq) (.inr hu) h
theorem Eq_str_tab (x : Str) (t : Tok) {b : Addr} (hb : TabAtH s.heap b) (hu : A.units < cLine) : EqAt A s (.str x t) (.ref b) false := fun prog w E Q h => by
  unfold eqBool
  refine wpAny_holding ?_
  refine wpAny_ite_split (fun hab => absurd (eq_of_beq hab) nofun) (fun _ => ?_)
  exact wpAny_bind (Rc_str_tab x t hb hu prog w E _ (wpAny_truthy_bool h))
theorem ne_list_tab {l b : Addr} {items : Array Value} (hl : s.heap.IsList l items) (hb : TabAtH s.heap b) : l ≠ b := fun e => by
  subst e
  obtain ⟨o, ho, hc, _⟩ := hl
  obtain ⟨o2, _, _, ho2, hc2, _⟩ := hb
  rw [ho] at ho2
  cases ho2
  rw [hc] at hc2
  exact absurd hc2 (by simp)
theorem Rc_list_tab {l b : Addr} {items : Array Value} (hl : s.heap.IsList l items) (hb : TabAtH s.heap b) (hu : A.units < cLine) : RcAt A s (.ref l) (.ref b) false := fun prog w E Q h => by
  have hne := ne_list_tab hl hb
  obtain ⟨⟨cls, dd, data, sl⟩, ho, hc, n, hd⟩ := id hl
  obtain ⟨⟨cls2, dd2, data2, sl2⟩, es, m, ho2, hc2, hd2⟩ := id hb
  simp only at hc hd hc2 hd2
  subst hc hd hc2 hd2
  exact rc_eq_decline_or (k := false) ⟨_, ho, rfl⟩ ⟨_, ho2, rfl⟩ (by decide) F.sub_dict_list F.slot_list_eq F.slot_dict_eq_refl
    (fun _ hq => call_meets F.slot_list_eq ⟨_, ho, rfl⟩ F.entry_list_eq (F.args_list_eq_2 _ _) (list_declines_dict l b items n m es dd dd2 sl sl2) ⟨ho, ho2, hq⟩)
    (fun _ hq => tab_declines ⟨_, ho2, rfl⟩ ⟨_, ho, rfl⟩ F.sub_list_dict hq)
    (fun _ hq => wpAny_isSame_ref_other' hne ho ho2 (by simp) hq) (.inr hu) h
theorem Eq_list_tab {l b : Addr} {items : Array Value} (hl : s.heap.IsList l items) (hb : TabAtH s.heap b) (hu : A.units < cLine) : EqAt A s (.ref l) (.ref b) false := .of_refs (ne_list_tab hl hb) (Rc_list_tab hl hb hu)
theorem ne_tuple_tab {l b : Addr} {items : Array Value} (hl : s.heap.IsTuple l items) (hb : TabAtH s.heap b) : l ≠ b := fun e => by
  subst e
  obtain ⟨o, ho, hc, _⟩ := hl
  obtain ⟨o2, _, _, ho2, hc2, _⟩ := hb
  rw [ho] at ho2
  cases ho2
  rw [hc] at hc2
  exact absurd hc2 (by simp)
theorem Rc_tuple_tab {l b : Addr} {items : Array Value} (hl : s.heap.IsTuple l items) (hb : TabAtH s.heap b) (hu : A.units < cLine) : RcAt A s (.ref l) (.ref b) false := fun prog w E Q h => by
  have hne := ne_tuple_tab hl hb
  obtain ⟨⟨cls, dd, data, sl⟩, ho, hc, n, hd⟩ := id hl
  obtain ⟨⟨cls2, dd2, data2, sl2⟩, es, m, ho2, hc2, hd2⟩ := id hb
  simp only at hc hd hc2 hd2
  subst hc hd hc2 hd2
  exact rc_eq_decline_or (k := false) ⟨_, ho, rfl⟩ ⟨_, ho2, rfl⟩ (by decide) F.sub_dict_tuple F.slot_tuple_eq F.slot_dict_eq_refl
    (fun _ hq => call_meets F.slot_tuple_eq ⟨_, ho, rfl⟩ F.entry_tuple_eq (F.args_tuple_eq_2 _ _) (tuple_declines_dict l b items n m es dd dd2 sl sl2) ⟨ho, ho2, hq⟩)
    (fun _ hq => tab_declines ⟨_, ho2, rfl⟩ ⟨_, ho, rfl⟩ F.sub_tuple_dict hq)
    (fun _ hq => wpAny_isSame_ref_other' hne ho ho2 (by simp) hq) (.inr hu) h
theorem Eq_tuple_tab {l b : Addr} {items : Array Value} (hl : s.heap.IsTuple l items) (hb : TabAtH s.heap b) (hu : A.units < cLine) : EqAt A s (.ref l) (.ref b) false := .of_refs (ne_tuple_tab hl hb) (Rc_tuple_tab hl hb hu)
end
/-! ### a thing without tables beside any thing -/
mutual
theorem eqAt_mix : ∀ (da db : PyData) (A : Around) (s : Shared) (a b : Value) (as bs : List Addr), Reads s.heap a da as → Reads s.heap b db bs → da.plain = true → A.units + da.depth < cLine → EqAt A s a b (PyData.eqv da db)
  | .none, _, A, s, _, _, _, _, ra, rb, _, hu => by
    cases ra
    cases rb with
    | none => exact EqAt.same _
    | bool y => exact EqAt.none_bool y
    | int y u => exact EqAt.none_int y u
    | str y u => exact EqAt.none_str y u
    | list k1 k2 k3 k4 => exact EqAt.none_list ⟨_, k1, k2, _, k3⟩ (by omega)
    | tuple k1 k2 k3 k4 => exact EqAt.none_tuple ⟨_, k1, k2, _, k3⟩ (by omega)
    | dict k1 k2 k3 k4 k5 => exact Eq_none_tab ⟨_, _, _, k1, k2, k3⟩ (by omega)
  | .bool x, _, A, s, _, _, _, _, ra, rb, _, hu => by
    cases ra
    cases rb with
    | none => exact EqAt.bool_none x
    | bool y => exact EqAt.bool_bool x y
    | int y u => exact EqAt.bool_int x y u
    | str y u => exact EqAt.bool_str x y u
    | list k1 k2 k3 k4 => exact EqAt.bool_list x ⟨_, k1, k2, _, k3⟩ (by omega)
    | tuple k1 k2 k3 k4 => exact EqAt.bool_tuple x ⟨_, k1, k2, _, k3⟩ (by omega)
    | dict k1 k2 k3 k4 k5 => exact Eq_bool_tab x ⟨_, _, _, k1, k2, k3⟩ (by omega)
  | .int x, _, A, s, _, _, _, _, ra, rb, _, hu => by
    cases ra with
    | int _ t =>
      cases rb with
      | none => exact EqAt.int_none x t
      | bool y => exact EqAt.int_bool x t y
      | int y u => exact EqAt.int_int x t y u
      | str y u => exact EqAt.int_str x t y u
      | list k1 k2 k3 k4 => exact EqAt.int_list x t ⟨_, k1, k2, _, k3⟩ (by omega)
      | tuple k1 k2 k3 k4 => exact EqAt.int_tuple x t ⟨_, k1, k2, _, k3⟩ (by omega)
      | dict k1 k2 k3 k4 k5 => exact Eq_int_tab x t ⟨_, _, _, k1, k2, k3⟩ (by omega)
  | .str x, _, A, s, _, _, _, _, ra, rb, _, hu => by
    cases ra with
    | str _ t =>
      cases rb with
      | none => exact EqAt.str_none x t
      | bool y => exact EqAt.str_bool x t y
      | int y u => exact EqAt.str_int x t y u
      | str y u => exact EqAt.str_str x t y u
      | list k1 k2 k3 k4 => exact EqAt.str_list x t ⟨_, k1, k2, _, k3⟩ (by omega)
      | tuple k1 k2 k3 k4 => exact EqAt.str_tuple x t ⟨_, k1, k2, _, k3⟩ (by omega)
      | dict k1 k2 k3 k4 k5 => exact Eq_str_tab x t ⟨_, _, _, k1, k2, k3⟩ (by omega)
  | .list xs, db, A, s, _, _, _, _, ra, rb, ha, hu => by
    have hu0 : A.units < cLine := by omega
    have hu1 : A.in1.units + PyData.depthAll xs < cLine := by
      have h : A.units + (PyData.list xs).depth < cLine := hu
      rw [PyData.depth] at h
      show A.units + 1 + PyData.depthAll xs < cLine
      omega
    cases ra with
    | @list l o vs n _ as₁ h1 h2 h3 h4 =>
      have hl : s.heap.IsList l vs := ⟨_, h1, h2, _, h3⟩
      cases rb with
      | none => exact EqAt.list_none hl hu0
      | bool y => exact EqAt.list_bool y hl hu0
      | int y u => exact EqAt.list_int y u hl hu0
      | str y u => exact EqAt.list_str y u hl hu0
      | tuple k1 k2 k3 k4 => exact EqAt.list_tuple hl ⟨_, k1, k2, _, k3⟩ hu0
      | dict k1 k2 k3 k4 k5 => exact Eq_list_tab hl ⟨_, _, _, k1, k2, k3⟩ hu0
      | @list l' o' vs' n' ys bs₁ k1 k2 k3 k4 =>
        have hl' : s.heap.IsList l' vs' := ⟨_, k1, k2, _, k3⟩
        have n1 : vs.size = xs.length := by simpa using ReadsAll.length _ _ _ h4
        have n2 : vs'.size = ys.length := by simpa using ReadsAll.length _ _ _ k4
        show EqAt A s (.ref l) (.ref l') (PyData.eqvAll xs ys)
        by_cases hll : l = l'
        · subst hll
          have e : PyData.list xs = PyData.list ys := plain_unique (.list xs) (.list ys) _ _ _ ha (.list h1 h2 h3 h4) (.list k1 k2 k3 k4)
          injection e with e
          subst e
          rw [eqvAll_refl_plain xs ha]
          exact EqAt.same _
        · by_cases hsz : vs.size = vs'.size
          · rw [← eqvAll_same_length (by omega : xs.length = ys.length), ← n1]
            refine EqAt.of_refs hll (RcAt.lists hl hl' hsz hu0 fun j j1 j2 => ?_)
            have := eqAt_mixAll xs ys A.in1 s vs.toList vs'.toList _ _ h4 k4 ha hu1 j (by simpa using j1) (by simpa using j2)
            simpa using this
          · rw [eqvAll_other_length (by omega : xs.length ≠ ys.length)]
            exact EqAt.of_refs hll (RcAt.lists_lengths hl hl' (by simpa using hsz) hu0)
  | .tuple xs, db, A, s, _, _, _, _, ra, rb, ha, hu => by
    have hu0 : A.units < cLine := by omega
    have hu1 : A.in1.units + PyData.depthAll xs < cLine := by
      have h : A.units + (PyData.tuple xs).depth < cLine := hu
      rw [PyData.depth] at h
      show A.units + 1 + PyData.depthAll xs < cLine
      omega
    cases ra with
    | @tuple l o vs n _ as₁ h1 h2 h3 h4 =>
      have hl : s.heap.IsTuple l vs := ⟨_, h1, h2, _, h3⟩
      cases rb with
      | none => exact EqAt.tuple_none hl hu0
      | bool y => exact EqAt.tuple_bool y hl hu0
      | int y u => exact EqAt.tuple_int y u hl hu0
      | str y u => exact EqAt.tuple_str y u hl hu0
      | list k1 k2 k3 k4 => exact EqAt.tuple_list hl ⟨_, k1, k2, _, k3⟩ hu0
      | dict k1 k2 k3 k4 k5 => exact Eq_tuple_tab hl ⟨_, _, _, k1, k2, k3⟩ hu0
      | @tuple l' o' vs' n' ys bs₁ k1 k2 k3 k4 =>
        have hl' : s.heap.IsTuple l' vs' := ⟨_, k1, k2, _, k3⟩
        have n1 : vs.size = xs.length := by simpa using ReadsAll.length _ _ _ h4
        have n2 : vs'.size = ys.length := by simpa using ReadsAll.length _ _ _ k4
        show EqAt A s (.ref l) (.ref l') (PyData.eqvAll xs ys)
        by_cases hll : l = l'
        · subst hll
          have e : PyData.tuple xs = PyData.tuple ys := plain_unique (.tuple xs) (.tuple ys) _ _ _ ha (.tuple h1 h2 h3 h4) (.tuple k1 k2 k3 k4)
          injection e with e
          subst e
          rw [eqvAll_refl_plain xs ha]
          exact EqAt.same _
        · rw [← eqvAll_eq xs ys, ← n1, ← n2]
          refine EqAt.of_refs hll (RcAt.tuples hl hl' hu0 fun j j1 j2 => ?_)
          have := eqAt_mixAll xs ys A.in1 s vs.toList vs'.toList _ _ h4 k4 ha hu1 j (by simpa using j1) (by simpa using j2)
          simpa using this
  | .dict _, _, _, _, _, _, _, _, _, _, ha, _ => nomatch ha
theorem eqAt_mixAll : ∀ (xs ys : List PyData) (A : Around) (s : Shared) (vs ws : List Value) (as bs : List Addr), ReadsAll s.heap vs xs as → ReadsAll s.heap ws ys bs → PyData.plainAll xs = true →
    A.units + PyData.depthAll xs < cLine → ∀ j (h1 : j < vs.length) (h2 : j < ws.length), EqAt A s vs[j] ws[j] (pairEq xs ys j)
  | [], _, _, _, _, _, _, _, ra, _, _, _, j, h1, _ => by cases ra; exact absurd h1 (Nat.not_lt_zero _)
  | _ :: _, [], _, _, _, _, _, _, _, rb, _, _, j, _, h2 => by cases rb; exact absurd h2 (Nat.not_lt_zero _)
  | x :: xs, y :: ys, A, s, _, _, _, _, ra, rb, ha, hu, j, h1, h2 => by
    have ha' : x.plain = true ∧ PyData.plainAll xs = true := by simpa [PyData.plainAll] using ha
    rw [PyData.depthAll] at hu
    cases ra with
    | cons r rs =>
      cases rb with
      | cons r' rs' =>
        cases j with
        | zero => exact eqAt_mix x y A s _ _ _ _ r r' ha'.1 (by omega)
        | succ j => exact eqAt_mixAll xs ys A s _ _ _ _ rs rs' ha'.2 (by omega) j (Nat.lt_of_succ_lt_succ h1) (Nat.lt_of_succ_lt_succ h2)
end
end Ev

namespace Ev
open PySem PySem.Spec L2

/-! ### values as data -/
def keyD : Key → PyData
  | .inl i => .int i
  | .inr s => .str s
mutual
def W.dat : W → PyData
  | .non => .none
  | .bl b => .bool b
  | .int i => .int i
  | .str s => .str s
  | .tup ws => .tuple (datL ws)
  | .lst _ ws => .list (datL ws)
  | .scr ws => .list (datL ws)
  | .nst ws => .list (datL ws)
  | .ntp ws => .tuple (datL ws)
  | .fdc ks ws => .dict ((ks.map keyD).zip (datL ws))
  | _ => .none
def datL : List W → List PyData
  | [] => []
  | w :: ws => w.dat :: datL ws
end
mutual
theorem plain_of_refl : ∀ d : PyData, PyData.eqv d d = true → d.plain = true
  | .none, _ => rfl
  | .bool _, _ => rfl
  | .int _, _ => rfl
  | .str _, _ => rfl
  | .list xs, h => by
    rw [PyData.eqv] at h
    rw [PyData.plain]
    exact plainAll_of_refl xs h
  | .tuple xs, h => by
    rw [PyData.eqv] at h
    rw [PyData.plain]
    exact plainAll_of_refl xs h
  | .dict _, h => by rw [PyData.eqv] at h; cases h
theorem plainAll_of_refl : ∀ xs : List PyData, PyData.eqvAll xs xs = true → PyData.plainAll xs = true
  | [], _ => rfl
  | x :: xs, h => by
    rw [PyData.eqvAll, Bool.and_eq_true] at h
    rw [PyData.plainAll, plain_of_refl x h.1, plainAll_of_refl xs h.2]
    rfl
end
/-- no table lies within -/
def W.nd (w : W) : Bool := PyData.eqv w.dat w.dat
theorem W.plain {w : W} (h : w.nd = true) : w.dat.plain = true := plain_of_refl _ h
/-! what a value reads as, empty tables among it -/
mutual
inductive Dq (K : PySem.W.Frag) (H : Hp) : V → PyData → Prop
  | non : Dq K H .non .none
  | bl (b : Bool) : Dq K H (.bl b) (.bool b)
  | int (i : Int) : Dq K H (.int i) (.int i)
  | str (x : Str) : Dq K H (.str x) (.str x)
  | lst {a : Addr} {vs : List V} {ds : List PyData} : SqL K H a vs → DqAll K H vs ds → Dq K H (.ref a) (.list ds)
  | tup {a : Addr} {vs : List V} {ds : List PyData} : SqT K H a vs → DqAll K H vs ds → Dq K H (.ref a) (.tuple ds)
  | tab {a : Addr} {ks : List Key} {vs : List V} {ds : List PyData} : ks.length = vs.length → H a = some (.dK (ks.zip vs)) → DqAll K H vs ds → Dq K H (.ref a) (.dict ((ks.map keyD).zip ds))
inductive DqAll (K : PySem.W.Frag) (H : Hp) : List V → List PyData → Prop
  | nil : DqAll K H [] []
  | cons {v : V} {vs : List V} {d : PyData} {ds : List PyData} : Dq K H v d → DqAll K H vs ds → DqAll K H (v :: vs) (d :: ds)
end
theorem Dq.tab_inv {K : PySem.W.Frag} {H : Hp} {v : V} {kvs : List (PyData × PyData)} (h : Dq K H v (.dict kvs)) : ∃ (a : Addr) (ks : List Key) (vs : List V) (ds : List PyData), v = .ref a ∧ ks.length = vs.length ∧ H a = some (.dK (ks.zip vs)) ∧ DqAll K H vs ds ∧ kvs = (ks.map keyD).zip ds := by
  cases h with
  | tab hl ha hd => exact ⟨_, _, _, _, rfl, hl, ha, hd, rfl⟩
theorem DqAll.len {K : PySem.W.Frag} {H : Hp} : ∀ {ds : List PyData} {vs : List V}, DqAll K H vs ds → vs.length = ds.length
  | [], _, h => by cases h; rfl
  | d :: ds, _, h => by
    cases h with
    | cons _ h2 => rw [List.length_cons, List.length_cons, DqAll.len h2]
theorem tab_ents {P : Program} {w : World} {h : Heap} : ∀ {es : List DictEntry} {xs : List (Key × Value)} {ks : List Key} {vs : List V}, ks.length = vs.length → KV (ks.zip vs) xs → Pairs (mixKind P w) es xs → Vals vs (es.map (·.val)) ∧ ∃ as, ReadsAll h (es.map (·.key)) (ks.map keyD) as
  | _, _, [], [], _, r, p => by
    cases r
    cases p
    exact ⟨.nil, _, .nil⟩
  | _, _, [], _ :: _, e, _, _ => nomatch e
  | _, _, _ :: _, [], e, _, _ => nomatch e
  | _, _, k :: ks, v :: vs, e, r, p => by
    rw [List.zip_cons_cons] at r
    cases r with
    | cons r1 r2 =>
      cases p with
      | cons p1 p2 p3 =>
        obtain ⟨h1, as, h2⟩ := tab_ents (Nat.succ.inj e) r2 p3
        obtain ⟨e1, e2⟩ := r1
        rw [List.map_cons, List.map_cons, List.map_cons]
        refine ⟨.cons (by rw [p2]; exact e2) h1, ?_⟩
        rw [← e1] at p1
        rcases keyIs_shape p1 with ⟨i, t, ek, ev⟩ | ⟨x, t, ek, ev⟩
        · cases ek
          rw [ev]
          exact ⟨_, .cons (Reads.int i t) h2⟩
        · cases ek
          rw [ev]
          exact ⟨_, .cons (Reads.str x t) h2⟩
mutual
theorem Dq.reads {X : Cx} {pins : List (Addr × Obj)} {σ : L2.St} {H : Hp} {s : Shared} (I : Inv X pins σ H s) : ∀ (d : PyData) (v : V) (u : Value), Dq X.K H v d → RelV v u → ∃ as, Reads s.heap u d as
  | .none, _, _, h, r => by cases h; cases r; exact ⟨_, Reads.none⟩
  | .bool b, _, _, h, r => by cases h; cases r; exact ⟨_, Reads.bool b⟩
  | .int i, _, _, h, r => by cases h; obtain ⟨t, rfl⟩ := r; exact ⟨_, Reads.int i t⟩
  | .str x, _, _, h, r => by cases h; obtain ⟨t, rfl⟩ := r; exact ⟨_, Reads.str x t⟩
  | .list ds, _, _, h, r => by
    cases h with
    | lst hs ha =>
      cases r
      obtain ⟨its, rv, ⟨o, n, ho, hc, _, hd⟩, _⟩ := I.list hs
      obtain ⟨as, hr⟩ := Dq.readsAll I ds _ its ha rv
      exact ⟨_, Reads.list ho hc hd hr⟩
  | .tuple ds, _, _, h, r => by
    cases h with
    | tup hs ha =>
      cases r
      obtain ⟨its, rv, ⟨o, ho, hc, n, hd⟩, _⟩ := I.tuple hs
      obtain ⟨as, hr⟩ := Dq.readsAll I ds _ its ha rv
      exact ⟨_, Reads.tuple ho hc hd hr⟩
  | .dict kvs, v, u, h, r => by
    obtain ⟨a, ks, vs, ds, rfl, hl, ha, hd, ek⟩ := h.tab_inv
    cases r
    obtain ⟨_, hS, vs', rel, o, es, ep, h1, h2, h3, _, h4, _⟩ := dk_of I.hok ha
    obtain ⟨hv, as, hk⟩ := tab_ents (h := s.heap) hl rel h4
    have ln : (ks.map keyD).length = ds.length := by rw [List.length_map, hl, hd.len]
    have e1 : kvs.map (·.1) = ks.map keyD := by rw [ek]; exact List.map_fst_zip (Nat.le_of_eq ln)
    have e2 : kvs.map (·.2) = ds := by rw [ek]; exact List.map_snd_zip (Nat.le_of_eq ln.symm)
    obtain ⟨bs, q⟩ := Dq.readsKV I kvs vs _ (by rw [e2]; exact hd) hv
    exact ⟨_, Reads.dict h1 h2.1 h3 (by rw [e1]; exact hk) q⟩
theorem Dq.readsAll {X : Cx} {pins : List (Addr × Obj)} {σ : L2.St} {H : Hp} {s : Shared} (I : Inv X pins σ H s) : ∀ (ds : List PyData) (vs : List V) (us : List Value), DqAll X.K H vs ds → Vals vs us → ∃ as, ReadsAll s.heap us ds as
  | [], _, _, h, r => by cases h; cases r; exact ⟨_, ReadsAll.nil⟩
  | d :: ds, _, _, h, r => by
    cases h with
    | cons h1 h2 =>
      cases r with
      | cons r1 r2 =>
        obtain ⟨as, q1⟩ := Dq.reads I d _ _ h1 r1
        obtain ⟨bs, q2⟩ := Dq.readsAll I ds _ _ h2 r2
        exact ⟨_, ReadsAll.cons q1 q2⟩
theorem Dq.readsKV {X : Cx} {pins : List (Addr × Obj)} {σ : L2.St} {H : Hp} {s : Shared} (I : Inv X pins σ H s) : ∀ (kvs : List (PyData × PyData)) (vs : List V) (us : List Value), DqAll X.K H vs (kvs.map (·.2)) → Vals vs us → ∃ as, ReadsAll s.heap us (kvs.map (·.2)) as
  | [], _, _, h, r => by cases h; cases r; exact ⟨_, ReadsAll.nil⟩
  | p :: kvs, _, _, h, r => by
    cases h with
    | cons h1 h2 =>
      cases r with
      | cons r1 r2 =>
        obtain ⟨as, q1⟩ := Dq.readsP I p _ _ h1 r1
        obtain ⟨bs, q2⟩ := Dq.readsKV I kvs _ _ h2 r2
        exact ⟨_, ReadsAll.cons q1 q2⟩
theorem Dq.readsP {X : Cx} {pins : List (Addr × Obj)} {σ : L2.St} {H : Hp} {s : Shared} (I : Inv X pins σ H s) : ∀ (p : PyData × PyData) (v : V) (u : Value), Dq X.K H v p.2 → RelV v u → ∃ as, Reads s.heap u p.2 as
  | (_, d), v, u, h, r => Dq.reads I d v u h r
end
mutual
theorem RF.dp {D : Dn} {H : Hp} : ∀ (w : W) (v : V), RF D H w v → Dq D.K H v w.dat
  | .non, _, h => by cases h; exact .non
  | .bl _, _, h => by cases h; exact .bl _
  | .int _, _, h => by cases h; exact .int _
  | .str _, _, h => by cases h; exact .str _
  | .tup ws, _, h => by
    obtain ⟨a, vs, rfl, h1, h2⟩ := h
    exact .tup h1 (RFs.dp ws vs h2)
  | .lst false ws, _, h => by
    obtain ⟨a, vs, rfl, h1, h2⟩ := h
    exact .lst (SqL.of h1) (RFs.dp ws vs h2)
  | .scr ws, _, h => by
    obtain ⟨a, vs, rfl, h1, h2⟩ := h
    exact .lst h1 (RFs.dp ws vs h2)
  | .dead, _, h => h.elim
  | .lst true _, _, h => h.elim
  | .nst _, _, h => h.elim
  | .ntp _, _, h => h.elim
  | .dct _ _ _, _, h => h.elim
  | .ndc _ _, _, h => h.elim
  | .obj _ _ _, _, h => h.elim
  | .exc _, _, h => h.elim
  | .exm _ _, _, h => h.elim
  | .fdc ks ws, _, h => by
    obtain ⟨a, vs, rfl, hl, h1, h2⟩ := h
    exact .tab hl h1 (RFs.dp ws vs h2)
theorem RFs.dp {D : Dn} {H : Hp} : ∀ (ws : List W) (vs : List V), RFs D H ws vs → DqAll D.K H vs (datL ws)
  | [], _, h => by rw [show _ = [] from h]; exact .nil
  | w :: ws, _, h => by
    obtain ⟨v, r, rfl, h1, h2⟩ := h
    exact .cons (RF.dp w v h1) (RFs.dp ws r h2)
end
mutual
/-- plain data, frozen or owned lists of such -/
def W.fd : W → Bool
  | .lst _ _ => true
  | .nst ws => fds ws
  | .ntp ws => fds ws
  | w => w.frz
def fds : List W → Bool
  | [] => true
  | w :: ws => w.fd && fds ws
end
theorem RO.lstAt {D : Dn} {G H : Hp} {b : Bool} {ws : List W} {v : V} {O : List Addr} (s : Sub G H) (r : RO D G H (.lst b ws) v O) : ∃ a vs, v = .ref a ∧ H a = some (.lst vs) ∧ RFs D G ws vs := by
  cases b with
  | true =>
    obtain ⟨a, vs, rfl, rfl, h1, h2⟩ := r
    exact ⟨a, vs, rfl, h1, h2⟩
  | false =>
    obtain ⟨rfl, a, vs, rfl, h1, h2⟩ := r
    exact ⟨a, vs, rfl, s _ _ h1, h2⟩
mutual
theorem RO.dpW {D : Dn} {G H : Hp} (s : Sub G H) : ∀ (w : W) (v : V) (O : List Addr), RO D G H w v O → w.fd = true → Dq D.K H v w.dat
  | .lst b ws, v, O, r, _ => by
    obtain ⟨a, vs, rfl, h1, h2⟩ := r.lstAt s
    exact .lst (SqL.of h1) (RFs.dp ws vs (RFs.mono s ws vs h2))
  | .nst ws, v, O, r, f => by
    obtain ⟨a, vs, O', rfl, rfl, h1, h2⟩ := r
    exact .lst (SqL.of h1) (ROs.dpW s ws vs O' h2 f)
  | .ntp ws, v, O, r, f => by
    obtain ⟨a, vs, rfl, h1, h2⟩ := r
    exact .tup (s.sqT h1) (ROs.dpW s ws vs O h2 f)
  | .non, v, O, r, _ => RF.dp _ v (RF.mono s _ v r.2)
  | .bl _, v, O, r, _ => RF.dp _ v (RF.mono s _ v r.2)
  | .int _, v, O, r, _ => RF.dp _ v (RF.mono s _ v r.2)
  | .str _, v, O, r, _ => RF.dp _ v (RF.mono s _ v r.2)
  | .tup _, v, O, r, _ => RF.dp _ v (RF.mono s _ v r.2)
  | .scr _, v, O, r, _ => RF.dp _ v (RF.mono s _ v r.2)
  | .dct false _ _, v, O, _, f => nomatch f
  | .dead, _, _, _, f => nomatch f
  | .dct true _ _, _, _, _, f => nomatch f
  | .ndc _ _, _, _, _, f => nomatch f
  | .obj _ _ _, _, _, _, f => nomatch f
  | .exc _, _, _, _, f => nomatch f
  | .exm _ _, _, _, _, f => nomatch f
  | .fdc _ _, v, O, r, _ => RF.dp _ v (RF.mono s _ v r.2)
theorem ROs.dpW {D : Dn} {G H : Hp} (s : Sub G H) : ∀ (ws : List W) (vs : List V) (O : List Addr), ROs D G H ws vs O → fds ws = true → DqAll D.K H vs (datL ws)
  | [], _, _, r, _ => by rw [r.1]; exact .nil
  | w :: ws, _, _, r, f => by
    obtain ⟨v, u, O1, O2, rfl, rfl, h1, h2⟩ := r
    have f' : w.fd = true ∧ fds ws = true := Bool.and_eq_true_iff.mp f
    exact .cons (RO.dpW s w v O1 h1 f'.1) (ROs.dpW s ws u O2 h2 f'.2)
end
theorem RO.dp {D : Dn} {G H : Hp} {w : W} {v : V} {O : List Addr} (s : Sub G H) (r : RO D G H w v O) (h : w.fd = true) : Dq D.K H v w.dat := RO.dpW s w v O r h

/-! ### equality -/
def smallD (a b : W) : Prop := a.dat.depth ≤ 60 ∨ b.dat.depth ≤ 60
instance {a b : W} : Decidable (smallD a b) := inferInstanceAs (Decidable (_ ∨ _))
/-- a list against the empty list -/
def nilR : W → W → Bool
  | .lst _ _, .lst _ [] => true
  | .nst ws, .lst _ [] => fds ws
  | .scr _, .lst _ [] => true
  | _, _ => false
def okE (a b : W) : Bool := nilR a b || ((a.fd && b.fd) && (a.nd && b.nd))
def eqW (a b : W) : Option W := if okE a b = true ∧ smallD a b then some (.bl (PyData.eqv a.dat b.dat)) else none
def neW (a b : W) : Option W := if okE a b = true ∧ smallD a b then some (.bl (!PyData.eqv a.dat b.dat)) else none
theorem smallD.min {a b : W} (h : smallD a b) : min a.dat.depth b.dat.depth ≤ 60 := by
  rcases h with h | h
  · exact Nat.le_trans (Nat.min_le_left _ _) h
  · exact Nat.le_trans (Nat.min_le_right _ _) h
theorem okE_fd {a b : W} (h : okE a b = true) : a.fd = true ∧ b.fd = true := by
  unfold okE at h
  rw [Bool.or_eq_true] at h
  rcases h with h | h
  · unfold nilR at h
    split at h
    · exact ⟨rfl, rfl⟩
    · exact ⟨h, rfl⟩
    · exact ⟨rfl, rfl⟩
    · cases h
  · rw [Bool.and_eq_true, Bool.and_eq_true] at h
    exact h.1
theorem okE_nd {a b : W} (h : okE a b = true) : (∃ ds, a.dat = .list ds ∧ b.dat = .list []) ∨ (a.dat.plain = true ∧ b.dat.plain = true) := by
  unfold okE at h
  rw [Bool.or_eq_true] at h
  rcases h with h | h
  · unfold nilR at h
    split at h
    · exact .inl ⟨_, rfl, rfl⟩
    · exact .inl ⟨_, rfl, rfl⟩
    · exact .inl ⟨_, rfl, rfl⟩
    · cases h
  · rw [Bool.and_eq_true, Bool.and_eq_true, Bool.and_eq_true] at h
    exact .inr ⟨W.plain h.2.1, W.plain h.2.2⟩
theorem eq_okE {prog : Program} {w : World} {A : Around} {E : Value → Shared → Prop} {s : Shared} {a b : Value} {da db : PyData} {as bs : List Addr} {Q : Value → Shared → Prop} (h : (∃ ds, da = .list ds ∧ db = .list []) ∨ (da.plain = true ∧ db.plain = true))
    (ra : Reads s.heap a da as) (rb : Reads s.heap b db bs) (hu : A.units + min da.depth db.depth < cLine) (hq : Q (.bool (PyData.eqv da db)) s) : wpAny (model prog w) A (compareOp .Eq a b) Q E s := by
  rcases h with ⟨ds, rfl, rfl⟩ | ⟨h1, h2⟩
  · cases ds with
    | nil => exact SeqAt.eq_plain ra rb rfl rfl hu hq
    | cons d ds =>
      cases ra with
      | list a1 a2 a3 a4 =>
        cases rb with
        | list b1 b2 b3 b4 =>
          rename_i o1 vs1 n1 as1 _ o2 vs2 n2 as2
          have n1 := SeqAt.ReadsAll.length _ _ _ a4
          have n2 := SeqAt.ReadsAll.length _ _ _ b4
          have z1 : vs1.size = ds.length + 1 := by simpa using n1
          have z2 : vs2.size = 0 := by simpa using n2
          exact SeqAt.eq_list_lengthsAt ⟨_, a1, a2, _, a3⟩ ⟨_, b1, b2, _, b3⟩ (by rw [z1, z2]; simp) (by omega) hq
  · exact SeqAt.eq_plain ra rb h1 h2 hu hq
theorem ne_okE {prog : Program} {w : World} {A : Around} {E : Value → Shared → Prop} {s : Shared} {a b : Value} {da db : PyData} {as bs : List Addr} {Q : Value → Shared → Prop} (h : (∃ ds, da = .list ds ∧ db = .list []) ∨ (da.plain = true ∧ db.plain = true))
    (ra : Reads s.heap a da as) (rb : Reads s.heap b db bs) (hu : A.units + min da.depth db.depth < cLine) (hq : Q (.bool (!PyData.eqv da db)) s) : wpAny (model prog w) A (compareOp .NotEq a b) Q E s := by
  rcases h with ⟨ds, rfl, rfl⟩ | ⟨h1, h2⟩
  · cases ds with
    | nil => exact SeqAt.ne_plain ra rb rfl rfl hu hq
    | cons d ds =>
      cases ra with
      | list a1 a2 a3 a4 =>
        cases rb with
        | list b1 b2 b3 b4 =>
          rename_i o1 vs1 n1 as1 _ o2 vs2 n2 as2
          have n1 := SeqAt.ReadsAll.length _ _ _ a4
          have n2 := SeqAt.ReadsAll.length _ _ _ b4
          have z1 : vs1.size = ds.length + 1 := by simpa using n1
          have z2 : vs2.size = 0 := by simpa using n2
          exact SeqAt.RcNeAt.lists_lengths ⟨_, a1, a2, _, a3⟩ ⟨_, b1, b2, _, b3⟩ (by rw [z1, z2]; simp) (by omega) _ _ _ _ hq
  · exact SeqAt.ne_plain ra rb h1 h2 hu hq
section
variable {Z : Zt} {k : Nat}
theorem op_eqW (hr : Room k Z.X.A) : OpS Z (compareOp .Eq) eqW := fun G H w1 w2 v1 v2 O1 O2 w Q s r1 r2 e q => by
  unfold eqW at e
  by_cases hc : okE w1 w2 = true ∧ smallD w1 w2
  · rw [if_pos hc] at e
    cases e
    obtain ⟨hk, hs⟩ := hc
    have h12 := okE_fd hk
    have d1 := r1.dp s h12.1
    have d2 := r2.dp s h12.2
    refine ⟨fun x y H' Q' => x = v1 ∧ y = v2 ∧ H' = H ∧ Q' (.bl (PyData.eqv w1.dat w2.dat)) H, fun pins st σ H' x y v u Q' I rx ry hh => ?_, rfl, rfl, rfl, q.bl s⟩
    obtain ⟨rfl, rfl, rfl, hq⟩ := hh
    obtain ⟨as, x1⟩ := Dq.reads I _ _ v d1 rx
    obtain ⟨bs, x2⟩ := Dq.reads I _ _ u d2 ry
    have := hs.min
    have := hr.units
    exact eq_okE (okE_nd hk) x1 x2 (by omega) ⟨.bl _, _, I, rfl, hq⟩
  · rw [if_neg hc] at e; cases e
theorem op_neW (hr : Room k Z.X.A) : OpS Z (compareOp .NotEq) neW := fun G H w1 w2 v1 v2 O1 O2 w Q s r1 r2 e q => by
  unfold neW at e
  by_cases hc : okE w1 w2 = true ∧ smallD w1 w2
  · rw [if_pos hc] at e
    cases e
    obtain ⟨hk, hs⟩ := hc
    have h12 := okE_fd hk
    have d1 := r1.dp s h12.1
    have d2 := r2.dp s h12.2
    refine ⟨fun x y H' Q' => x = v1 ∧ y = v2 ∧ H' = H ∧ Q' (.bl (!PyData.eqv w1.dat w2.dat)) H, fun pins st σ H' x y v u Q' I rx ry hh => ?_, rfl, rfl, rfl, q.bl s⟩
    obtain ⟨rfl, rfl, rfl, hq⟩ := hh
    obtain ⟨as, x1⟩ := Dq.reads I _ _ v d1 rx
    obtain ⟨bs, x2⟩ := Dq.reads I _ _ u d2 ry
    have := hs.min
    have := hr.units
    exact ne_okE (okE_nd hk) x1 x2 (by omega) ⟨.bl _, _, I, rfl, hq⟩
  · rw [if_neg hc] at e; cases e
/-- x in c -/
def seqD : W → Option (List PyData)
  | .lst _ ws => some (datL ws)
  | .tup ws => some (datL ws)
  | .scr ws => some (datL ws)
  | _ => none
def inD (x : W) (ds : List PyData) : Bool := ds.any fun y => PyData.eqv y x.dat
/-- in: the things of the list are plain; what is sought is plain, or the list is shallow -/
def okI (x c : W) : Bool := x.fd && (c.nd && (x.nd || decide (c.dat.depth ≤ 60)))
def inW (neg : Bool) (x c : W) : Option W := match c with
  | .str z => match x with
    | .str y => some (.bl (if neg then !(!(Builtin.Str.occurrences z y 0 z.length 1).isEmpty) else !(Builtin.Str.occurrences z y 0 z.length 1).isEmpty))
    | _ => none
  | c => if okI x c = true ∧ x.dat.depth ≤ 60 then (seqD c).map fun ds => .bl (if neg then !inD x ds else inD x ds) else none
theorem okI_fd {x c : W} (h : okI x c = true) : x.fd = true := by
  unfold okI at h
  rw [Bool.and_eq_true] at h
  exact h.1
theorem items_mix {A : Around} {s : Shared} {vs : Array Value} {xs : List PyData} {as bs : List Addr} {x : Value} {d : PyData} (rs : ReadsAll s.heap vs.toList xs as) (rx : Reads s.heap x d bs) (hxs : PyData.plainAll xs = true)
    (hu : A.units + 1 + PyData.depthAll xs < cLine) : ∀ y, y ∈ vs → SeqAt.EqAt A.in1 s y x (PyData.eqv (SeqAt.readOf s.heap y) d) := fun y hy => by
  obtain ⟨dy, cs, ry, hcy, hle⟩ := SeqAt.readsAll_mem_plain xs _ _ hxs rs y (by simpa using hy)
  rw [SeqAt.readOf_plain hcy ry]
  refine eqAt_mix dy d A.in1 s y x _ _ ry rx hcy ?_
  show A.units + 1 + dy.depth < cLine
  omega
theorem items_ok {A : Around} {s : Shared} {vs : Array Value} {xs : List PyData} {as bs : List Addr} {x : Value} {d : PyData} (rs : ReadsAll s.heap vs.toList xs as) (rx : Reads s.heap x d bs) (hxs : PyData.plainAll xs = true)
    (h : d.plain = true ∨ PyData.depthAll xs ≤ 60) (hd : d.depth ≤ 60) (hu : A.units + 64 < cLine) : ∀ y, y ∈ vs → SeqAt.EqAt A.in1 s y x (PyData.eqv (SeqAt.readOf s.heap y) d) := by
  rcases h with h | h
  · have := Nat.min_le_right (PyData.depthAll xs) d.depth
    exact SeqAt.items_plain rs rx hxs h (by omega)
  · exact items_mix rs rx hxs (by omega)
theorem okI_in {x c : W} (h : okI x c = true) : c.dat.plain = true ∧ (x.dat.plain = true ∨ c.dat.depth ≤ 60) := by
  unfold okI at h
  rw [Bool.and_eq_true, Bool.and_eq_true, Bool.or_eq_true] at h
  exact ⟨W.plain h.2.1, h.2.2.imp W.plain of_decide_eq_true⟩
theorem op_notInW (hr : Room k Z.X.A) : OpS Z (compareOp .NotIn) (inW true) := fun G H w1 w2 v1 v2 O1 O2 w Q s r1 r2 e q => by
  by_cases hz : ∃ z, w2 = .str z
  · obtain ⟨z, rfl⟩ := hz
    cases w1 with
    | str y =>
      cases e
      obtain ⟨_, rfl⟩ := r1
      obtain ⟨_, rfl⟩ := r2
      exact ⟨_, L2.op_notIn_str, y, z, rfl, rfl, q.bl s⟩
    | _ => cases e
  · have e' : (if okI w1 w2 = true ∧ w1.dat.depth ≤ 60 then (seqD w2).map fun ds => W.bl (!inD w1 ds) else none) = some w := by
      cases w2 <;> first
        | exact absurd ⟨_, rfl⟩ hz
        | exact e
    by_cases hc : okI w1 w2 = true ∧ w1.dat.depth ≤ 60
    · rw [if_pos hc] at e'
      have d1 := r1.dp s (okI_fd hc.1)
      have hfd : w2.fd = true := by
        cases w2 <;> first
          | rfl
          | (exfalso; exact nomatch e')
      have d2 := r2.dp s hfd
      obtain ⟨ds, hd, hw⟩ : ∃ ds, seqD w2 = some ds ∧ .bl (!inD w1 ds) = w := by
        cases h : seqD w2 with
        | none => rw [h] at e'; cases e'
        | some ds => rw [h] at e'; exact ⟨ds, rfl, Option.some.inj e'⟩
      subst hw
      refine ⟨fun x y H' Q' => x = v1 ∧ y = v2 ∧ H' = H ∧ Q' (.bl (!inD w1 ds)) H, fun pins st σ H' x y v u Q' I rx ry hh => ?_, rfl, rfl, rfl, q.bl s⟩
      obtain ⟨rfl, rfl, rfl, hq⟩ := hh
      obtain ⟨as, x1⟩ := Dq.reads I _ _ v d1 rx
      obtain ⟨bs, x2⟩ := Dq.reads I _ _ u d2 ry
      have := hr.units
      obtain ⟨p1, p2⟩ := okI_in hc.1
      have fin : EP Z.X pins σ Q' (.bool (!ds.any fun y => PyData.eqv y w1.dat)) st := ⟨.bl _, _, I, rfl, hq⟩
      cases w2 with
      | lst b ws =>
        cases hd
        have p1' : PyData.plainAll (datL ws) = true := p1
        have p2' : w1.dat.plain = true ∨ PyData.depthAll (datL ws) ≤ 60 := p2.imp id fun z => by
          have z' : PyData.depthAll (datL ws) + 1 ≤ 60 := z
          omega
        cases x2 with
        | list h1 h2 h3 h4 => exact SeqAt.notIn_listAt _ ⟨_, h1, h2, _, h3⟩ (items_ok h4 x1 p1' p2' hc.2 (by omega)) (by rw [SeqAt.any_plain h4 p1']; exact fin)
      | scr ws =>
        cases hd
        have p1' : PyData.plainAll (datL ws) = true := p1
        have p2' : w1.dat.plain = true ∨ PyData.depthAll (datL ws) ≤ 60 := p2.imp id fun z => by
          have z' : PyData.depthAll (datL ws) + 1 ≤ 60 := z
          omega
        cases x2 with
        | list h1 h2 h3 h4 => exact SeqAt.notIn_listAt _ ⟨_, h1, h2, _, h3⟩ (items_ok h4 x1 p1' p2' hc.2 (by omega)) (by rw [SeqAt.any_plain h4 p1']; exact fin)
      | tup ws =>
        cases hd
        have p1' : PyData.plainAll (datL ws) = true := p1
        have p2' : w1.dat.plain = true ∨ PyData.depthAll (datL ws) ≤ 60 := p2.imp id fun z => by
          have z' : PyData.depthAll (datL ws) + 1 ≤ 60 := z
          omega
        cases x2 with
        | tuple h1 h2 h3 h4 => exact SeqAt.notIn_tupleAt _ ⟨_, h1, h2, _, h3⟩ (items_ok h4 x1 p1' p2' hc.2 (by omega)) (by rw [SeqAt.any_plain h4 p1']; exact fin)
      | _ => cases hd
    · rw [if_neg hc] at e'; cases e'
end

/-! ### order -/
def ltD (a b : W) : Option W := if (a.fd && b.fd) = true ∧ smallD a b ∧ PySem.W.alike a.dat b.dat = true ∧ (match a with | .tup _ => true | _ => false) = true then some (.bl (PySem.W.dataLt a.dat b.dat)) else none
def ltW : W → W → Option W
  | .int i, .int j => some (.bl (decide (i < j)))
  | .str x, .str y => some (.bl (decide (x.cps.toList < y.cps.toList)))
  | .tup xs, .tup ys => ltD (.tup xs) (.tup ys)
  | _, _ => none
def leW : W → W → Option W
  | .int i, .int j => some (.bl (decide (i ≤ j)))
  | _, _ => none
def geW : W → W → Option W
  | .int i, .int j => some (.bl (decide (j ≤ i)))
  | _, _ => none
def intsW : List W → Option (List Int)
  | [] => some []
  | .int i :: ws => (intsW ws).map (i :: ·)
  | _ :: _ => none
theorem intsW_map : ∀ ns : List Int, intsW (ns.map W.int) = some ns
  | [] => rfl
  | n :: ns => by rw [List.map_cons, intsW, intsW_map ns]; rfl
theorem intsW_eq : ∀ {ws : List W} {ns : List Int}, intsW ws = some ns → ws = ns.map W.int
  | [], ns, h => by cases h; rfl
  | .int i :: ws, ns, h => by
    rw [intsW] at h
    cases e : intsW ws with
    | none => rw [e] at h; cases h
    | some ms =>
      rw [e] at h
      have h' : i :: ms = ns := Option.some.inj h
      rw [← h', List.map_cons, intsW_eq e]
theorem RFs.ints {D : Dn} {G : Hp} : ∀ {ns : List Int} {vs : List V}, RFs D G (ns.map W.int) vs → vs = ns.map V.int
  | [], _, h => h
  | n :: ns, _, h => by
    obtain ⟨v, r, rfl, h1, h2⟩ := h
    rw [List.map_cons, RFs.ints h2, show v = .int n from h1]
/-- b > a of tuples of ints -/
def gtW : W → W → Option W
  | .int i, .int j => some (.bl (decide (j < i)))
  | .tup xs, .tup ys => (intsW xs).bind fun ns => (intsW ys).map fun ms => .bl (Ob.lexAt (fun j => decide (ns.getD j 0 = ms.getD j 0)) (fun j => decide (ms.getD j 0 < ns.getD j 0)) (decide (ms.length < ns.length)) 0 (min ns.length ms.length))
  | _, _ => none
section
variable {Z : Zt} {k : Nat}
theorem op_ltW (hr : Room k Z.X.A) : OpS Z (compareOp .Lt) ltW := fun G H w1 w2 v1 v2 O1 O2 w Q s r1 r2 e q => by
  cases w1 with
  | int i =>
    cases w2 with
    | int j =>
      cases e
      obtain ⟨_, rfl⟩ := r1
      obtain ⟨_, rfl⟩ := r2
      exact ⟨_, op_lt, i, j, rfl, rfl, q.bl s⟩
    | _ => cases e
  | str i =>
    cases w2 with
    | str j =>
      cases e
      obtain ⟨_, rfl⟩ := r1
      obtain ⟨_, rfl⟩ := r2
      exact ⟨_, op_lt_str, i, j, rfl, rfl, q.bl s⟩
    | _ => cases e
  | tup xs =>
    cases w2 with
    | tup ys =>
      have e' : ltD (.tup xs) (.tup ys) = some w := e
      unfold ltD at e'
      by_cases hc : ((W.tup xs).fd && (W.tup ys).fd) = true ∧ smallD (.tup xs) (.tup ys) ∧ PySem.W.alike (W.tup xs).dat (W.tup ys).dat = true ∧ true = true
      · rw [if_pos hc] at e'
        cases e'
        obtain ⟨_, hs, ha, _⟩ := hc
        have d1 := r1.dp s rfl
        have d2 := r2.dp s rfl
        refine ⟨fun x y H' Q' => x = v1 ∧ y = v2 ∧ H' = H ∧ Q' (.bl (PySem.W.dataLt (W.tup xs).dat (W.tup ys).dat)) H, fun pins st σ H' x y v u Q' I rx ry hh => ?_, rfl, rfl, rfl, q.bl s⟩
        obtain ⟨rfl, rfl, rfl, hq⟩ := hh
        obtain ⟨as, x1⟩ := Dq.reads I _ _ v d1 rx
        obtain ⟨bs, x2⟩ := Dq.reads I _ _ u d2 ry
        have := hs.min
        have := hr.units
        exact PySem.W.rcLt_alike _ _ Z.X.A st v u as bs x1 x2 ha (fun z => nomatch z) (by omega) _ _ _ _ ⟨.bl _, _, I, rfl, hq⟩
      · rw [if_neg hc] at e'; cases e'
    | _ => cases e
  | _ => cases e
theorem op_gtT {X : Cx} (hu : X.A.units < cLine) : OpR X (compareOp .Gt) (fun x y H Q => ∃ (a b : Addr) (ns ms : List Int), x = .ref a ∧ y = .ref b ∧ SqT X.K H a (ns.map V.int) ∧ SqT X.K H b (ms.map V.int) ∧
    Q (.bl (Ob.lexAt (fun j => decide (ns.getD j 0 = ms.getD j 0)) (fun j => decide (ms.getD j 0 < ns.getD j 0)) (decide (ms.length < ns.length)) 0 (min ns.length ms.length))) H) := by
  intro pins s σ H x y v u Q I rx ry h
  obtain ⟨a, b, ns, ms, rfl, rfl, ha, hb, q⟩ := h
  cases rx
  cases ry
  obtain ⟨its, v1, t1, _⟩ := I.tuple ha
  obtain ⟨its2, v2, t2, _⟩ := I.tuple hb
  have i1 := intsAre_of v1
  have i2 := intsAre_of v2
  have n1 : its.toArray.size = ns.length := by rw [List.size_toArray]; exact i1.length
  have n2 : its2.toArray.size = ms.length := by rw [List.size_toArray]; exact i2.length
  have p1 : ∀ j (h1 : j < its.toArray.size), ∃ t, its.toArray[j] = .int (ns.getD j 0) t := fun j h1 => PyProof.Rows.IntsAre.int_at i1 _ _ (by simp at h1; simp [h1])
  have p2 : ∀ j (h1 : j < its2.toArray.size), ∃ t, its2.toArray[j] = .int (ms.getD j 0) t := fun j h1 => PyProof.Rows.IntsAre.int_at i2 _ _ (by simp at h1; simp [h1])
  have z := Ob.RcOp.tuples_gt (A := X.A) (s := s) (e := fun j => decide (ns.getD j 0 = ms.getD j 0)) (r := fun j => decide (ms.getD j 0 < ns.getD j 0)) t1 t2 hu (fun j h1 h2 => by
    obtain ⟨t, et⟩ := p1 j h1
    obtain ⟨t', et'⟩ := p2 j h2
    rw [et, et']
    have y : (ns.getD j 0 == ms.getD j 0) = decide (ns.getD j 0 = ms.getD j 0) := by rw [Bool.eq_iff_iff]; simp
    show SeqAt.EqAt _ _ _ _ (decide (ns.getD j 0 = ms.getD j 0))
    rw [← y]
    exact SeqAt.EqAt.int_int _ _ _ _) (fun j h1 h2 _ => by
    obtain ⟨t, et⟩ := p1 j h1
    obtain ⟨t', et'⟩ := p2 j h2
    rw [et, et']
    exact Ob.RcOp.gt_int _ _ _ _)
  rw [n1, n2] at z
  exact z X.prog X.w X.xe _ ⟨.bl _, H, I, rfl, q⟩
theorem op_gtW (hr : Room k Z.X.A) : OpS Z (compareOp .Gt) gtW := fun G H w1 w2 v1 v2 O1 O2 w Q s r1 r2 e q => by
  cases w1 with
  | int i =>
    cases w2 with
    | int j =>
      cases e
      obtain ⟨_, rfl⟩ := r1
      obtain ⟨_, rfl⟩ := r2
      exact ⟨_, op_gt, i, j, rfl, rfl, q.bl s⟩
    | _ => cases e
  | tup xs =>
    cases w2 with
    | tup ys =>
      have e' : (intsW xs).bind (fun ns => (intsW ys).map fun ms => W.bl (Ob.lexAt (fun j => decide (ns.getD j 0 = ms.getD j 0)) (fun j => decide (ms.getD j 0 < ns.getD j 0)) (decide (ms.length < ns.length)) 0 (min ns.length ms.length))) = some w := e
      cases h1 : intsW xs with
      | none => rw [h1] at e'; cases e'
      | some ns =>
        cases h2 : intsW ys with
        | none => rw [h1, h2] at e'; cases e'
        | some ms =>
          rw [h1, h2] at e'
          cases e'
          obtain ⟨_, a, vs, rfl, t1, f1⟩ := r1
          obtain ⟨_, b, us, rfl, t2, f2⟩ := r2
          rw [intsW_eq h1] at f1
          rw [intsW_eq h2] at f2
          rw [RFs.ints f1] at t1
          rw [RFs.ints f2] at t2
          exact ⟨_, op_gtT hr.units0, a, b, ns, ms, rfl, rfl, s.sqT t1, s.sqT t2, q.bl s⟩
    | _ => cases e
  | _ => cases e
end
end Ev

namespace Ev
open PySem PySem.Spec L2

/-! ### arithmetic -/
def mulOk (i j : Int) : Prop := (-(2 ^ 64) < i ∧ i < 2 ^ 64) ∨ (-(2 ^ 64) < j ∧ j < 2 ^ 64)
noncomputable instance {i j : Int} : Decidable (mulOk i j) := Classical.propDecidable _
def divOk (j : Int) : Prop := 0 < j ∧ j.natAbs.log2 < 9000
noncomputable instance {j : Int} : Decidable (divOk j) := Classical.propDecidable _
def powOk (i j : Int) : Prop := 0 ≤ j ∧ j ≤ 1000000 ∧ i.natAbs < 2 ^ 64
noncomputable instance {i j : Int} : Decidable (powOk i j) := Classical.propDecidable _
def repOk (n : Nat) (k : Int) : Prop := -(2 ^ 63) ≤ k ∧ k < 2 ^ 63 ∧ n * k.toNat ≤ sizeLine
noncomputable instance {n : Nat} {k : Int} : Decidable (repOk n k) := Classical.propDecidable _
def addW (b : Bool) : W → W → Option W
  | .int i, .int j => some (.int (i + j))
  | .int i, .bl c => some (.int (i + PyProof.Rows.b2i c))
  | .str x, .str y => if x.length + y.length ≤ sizeLine then some (.str (x ++ y)) else none
  | .lst _ xs, .lst _ ys => if xs.length + ys.length ≤ sizeLine then some (.lst b (xs ++ ys)) else none
  | .tup xs, .tup ys => if xs ≠ [] ∧ xs.length + ys.length ≤ sizeLine then some (.tup (xs ++ ys)) else none
  | _, _ => none
def subW : W → W → Option W
  | .int i, .int j => some (.int (i - j))
  | _, _ => none
noncomputable def mulW (b : Bool) : W → W → Option W
  | .int i, .int j => if mulOk i j then some (.int (i * j)) else none
  | .lst _ xs, .int k => if repOk xs.length k then some (.lst b (List.replicate k.toNat xs).flatten) else none
  | _, _ => none
noncomputable def fdivW : W → W → Option W
  | .int i, .int j => if divOk j then some (.int (i / j)) else none
  | _, _ => none
def modW : W → W → Option W
  | .int i, .int j => if 0 < j then some (.int (i % j)) else none
  | _, _ => none
noncomputable def powW : W → W → Option W
  | .int i, .int j => if powOk i j then some (.int (i ^ j.toNat)) else none
  | _, _ => none
theorem RFs.append {D : Dn} {G : Hp} : ∀ {xs ys : List W} {vs us : List V}, RFs D G xs vs → RFs D G ys us → RFs D G (xs ++ ys) (vs ++ us)
  | [], _, _, _, h, k => by rw [show _ = [] from h]; exact k
  | x :: xs, _, _, _, h, k => by
    obtain ⟨v, r, rfl, h1, h2⟩ := h
    exact ⟨v, _, rfl, h1, RFs.append h2 k⟩
theorem RFs.reps {D : Dn} {G : Hp} {xs : List W} {vs : List V} (h : RFs D G xs vs) : ∀ k : Nat, RFs D G (List.replicate k xs).flatten (List.replicate k vs).flatten
  | 0 => rfl
  | k + 1 => by
    rw [List.replicate_succ, List.replicate_succ, List.flatten_cons, List.flatten_cons]
    exact h.append (RFs.reps h k)
section
variable {Z : Zt} {k : Nat}
theorem op_addW {b : Bool} : OpS Z (binaryOp .Add) (addW b) := fun G H w1 w2 v1 v2 O1 O2 w Q s r1 r2 e q => by
  cases w1 with
  | int i =>
    cases w2 with
    | int j =>
      cases e
      obtain ⟨_, rfl⟩ := r1
      obtain ⟨_, rfl⟩ := r2
      exact ⟨_, op_add, i, j, rfl, rfl, q.int s⟩
    | bl c =>
      cases e
      obtain ⟨_, rfl⟩ := r1
      obtain ⟨_, rfl⟩ := r2
      exact ⟨_, op_add_ib, i, c, rfl, rfl, q.int s⟩
    | _ => cases e
  | str x =>
    cases w2 with
    | str y =>
      have e' : (if x.length + y.length ≤ sizeLine then some (W.str (x ++ y)) else none) = some w := e
      by_cases hl : x.length + y.length ≤ sizeLine
      · rw [if_pos hl] at e'
        cases e'
        obtain ⟨_, rfl⟩ := r1
        obtain ⟨_, rfl⟩ := r2
        exact ⟨_, op_add_str, x, y, rfl, rfl, hl, q.str s⟩
      · rw [if_neg hl] at e'; cases e'
    | _ => cases e
  | lst b1 xs =>
    cases w2 with
    | lst b2 ys =>
      have e' : (if xs.length + ys.length ≤ sizeLine then some (W.lst b (xs ++ ys)) else none) = some w := e
      by_cases hl : xs.length + ys.length ≤ sizeLine
      · rw [if_pos hl] at e'
        cases e'
        obtain ⟨a1, vs, rfl, h1, f1⟩ := r1.lstAt s
        obtain ⟨a2, us, rfl, h2, f2⟩ := r2.lstAt s
        exact ⟨_, op_cat, a1, a2, vs, us, rfl, rfl, h1, h2, by rw [← f1.len, ← f2.len]; exact hl, fun p n => q.lst s (f1.append f2) n⟩
      · rw [if_neg hl] at e'; cases e'
    | _ => cases e
  | tup xs =>
    cases w2 with
    | tup ys =>
      have e' : (if xs ≠ [] ∧ xs.length + ys.length ≤ sizeLine then some (W.tup (xs ++ ys)) else none) = some w := e
      by_cases hl : xs ≠ [] ∧ xs.length + ys.length ≤ sizeLine
      · rw [if_pos hl] at e'
        cases e'
        obtain ⟨_, a1, vs, rfl, h1, f1⟩ := r1
        obtain ⟨_, a2, us, rfl, h2, f2⟩ := r2
        refine ⟨_, op_catT, a1, a2, vs, us, rfl, rfl, s.sqT h1, s.sqT h2, ?_, by rw [← f1.len, ← f2.len]; exact hl.2, fun e0 => ?_, fun _ p n => q.tup s (f1.append f2) n⟩
        · intro z
          have := f1.len
          rw [z] at this
          exact hl.1 (List.eq_nil_of_length_eq_zero this)
        · have h0 : ys = [] := List.eq_nil_of_length_eq_zero (by rw [f2.len, e0]; rfl)
          subst h0
          rw [List.append_nil] at q
          exact q.fro s (show RF Z.D G (.tup xs) (.ref a1) from ⟨a1, vs, rfl, h1, f1⟩)
      · rw [if_neg hl] at e'; cases e'
    | _ => cases e
  | _ => cases e
theorem op_subW : OpS Z (binaryOp .Sub) subW := fun G H w1 w2 v1 v2 O1 O2 w Q s r1 r2 e q => by
  cases w1 with
  | int i =>
    cases w2 with
    | int j =>
      cases e
      obtain ⟨_, rfl⟩ := r1
      obtain ⟨_, rfl⟩ := r2
      exact ⟨_, op_sub, i, j, rfl, rfl, q.int s⟩
    | _ => cases e
  | _ => cases e
theorem op_mulW {b : Bool} : OpS Z (binaryOp .Mult) (mulW b) := fun G H w1 w2 v1 v2 O1 O2 w Q s r1 r2 e q => by
  cases w1 with
  | int i =>
    cases w2 with
    | int j =>
      have e' : (if mulOk i j then some (W.int (i * j)) else none) = some w := e
      by_cases hl : mulOk i j
      · rw [if_pos hl] at e'
        cases e'
        obtain ⟨_, rfl⟩ := r1
        obtain ⟨_, rfl⟩ := r2
        exact ⟨_, op_mul, i, j, rfl, rfl, hl, q.int s⟩
      · rw [if_neg hl] at e'; cases e'
    | _ => cases e
  | lst b1 xs =>
    cases w2 with
    | int j =>
      have e' : (if repOk xs.length j then some (W.lst b (List.replicate j.toNat xs).flatten) else none) = some w := e
      by_cases hl : repOk xs.length j
      · rw [if_pos hl] at e'
        cases e'
        obtain ⟨a1, vs, rfl, h1, f1⟩ := r1.lstAt s
        obtain ⟨_, rfl⟩ := r2
        obtain ⟨l1, l2, l3⟩ := hl
        exact ⟨_, op_rep, a1, j, vs, rfl, rfl, h1, l1, l2, by rw [← f1.len]; exact l3, fun p n => q.lst s (f1.reps _) n⟩
      · rw [if_neg hl] at e'; cases e'
    | _ => cases e
  | _ => cases e
theorem op_fdivW' : OpS Z (binaryOp .FloorDiv) fdivW := fun G H w1 w2 v1 v2 O1 O2 w Q s r1 r2 e q => by
  cases w1 with
  | int i =>
    cases w2 with
    | int j =>
      have e' : (if divOk j then some (W.int (i / j)) else none) = some w := e
      by_cases hl : divOk j
      · rw [if_pos hl] at e'
        cases e'
        obtain ⟨_, rfl⟩ := r1
        obtain ⟨_, rfl⟩ := r2
        exact ⟨_, op_fdivW, i, j, rfl, rfl, hl, q.int s⟩
      · rw [if_neg hl] at e'; cases e'
    | _ => cases e
  | _ => cases e
theorem op_modW : OpS Z (binaryOp .Mod) modW := fun G H w1 w2 v1 v2 O1 O2 w Q s r1 r2 e q => by
  cases w1 with
  | int i =>
    cases w2 with
    | int j =>
      have e' : (if 0 < j then some (W.int (i % j)) else none) = some w := e
      by_cases hl : 0 < j
      · rw [if_pos hl] at e'
        cases e'
        obtain ⟨_, rfl⟩ := r1
        obtain ⟨_, rfl⟩ := r2
        exact ⟨_, op_mod, i, j, rfl, rfl, hl, q.int s⟩
      · rw [if_neg hl] at e'; cases e'
    | _ => cases e
  | _ => cases e
theorem op_powW : OpS Z (binaryOp .Pow) powW := fun G H w1 w2 v1 v2 O1 O2 w Q s r1 r2 e q => by
  cases w1 with
  | int i =>
    cases w2 with
    | int j =>
      have e' : (if powOk i j then some (W.int (i ^ j.toNat)) else none) = some w := e
      by_cases hl : powOk i j
      · rw [if_pos hl] at e'
        cases e'
        obtain ⟨_, rfl⟩ := r1
        obtain ⟨_, rfl⟩ := r2
        exact ⟨_, op_pow, i, j, rfl, rfl, hl, q.int s⟩
      · rw [if_neg hl] at e'; cases e'
    | _ => cases e
  | _ => cases e

/-! ### items, parts -/
def ixW : W → W → Option W
  | .lst _ xs, .int i => atI xs i
  | .scr xs, .int i => atI xs i
  | .tup xs, .int i => atI xs i
  | .str z, .int i => if z.length ≤ sizeLine then (atI z.cps.toList i).map fun c => .str ⟨#[c]⟩ else none
  | _, _ => none
def ixAny (X : Cx) : R2 := fun x y H Q => ∃ r : R2, IxR X r ∧ r x y H Q
theorem ix_any {X : Cx} : IxR X (ixAny X) := fun value slice pins s σ H x y v u Q I rx ry ⟨r, ho, q⟩ => ho value slice pins s σ H x y v u Q I rx ry q
theorem RFs.get {D : Dn} {G : Hp} : ∀ {ws : List W} {vs : List V} {i : Nat} {w : W}, RFs D G ws vs → ws[i]? = some w → ∃ v, vs[i]? = some v ∧ RF D G w v
  | [], _, _, _, _, e => by simp at e
  | _ :: _, _, 0, _, h, e => by
    obtain ⟨v, r, rfl, h1, h2⟩ := h
    rw [← Option.some.inj e]
    exact ⟨v, rfl, h1⟩
  | _ :: ws, _, i + 1, _, h, e => by
    obtain ⟨v, r, rfl, h1, h2⟩ := h
    exact RFs.get (i := i) h2 e
theorem RFs.atI {D : Dn} {G : Hp} {ws : List W} {vs : List V} {i : Int} {w : W} (h : RFs D G ws vs) (e : L2.atI ws i = some w) : ∃ v, L2.atI vs i = some v ∧ RF D G w v := by
  unfold L2.atI at e ⊢
  rw [h.len] at e
  cases hn : ixN vs.length i with
  | none => rw [hn] at e; cases e
  | some j =>
    rw [hn] at e
    exact h.get e
theorem rel_ixW : RelS Z.D (ixAny Z.X) ixW := fun G H w1 w2 v1 v2 O1 O2 w Q s r1 r2 e q => by
  cases w1 with
  | lst b xs =>
    cases w2 with
    | int i =>
      obtain ⟨a1, vs, rfl, h1, f1⟩ := r1.lstAt s
      obtain ⟨_, rfl⟩ := r2
      obtain ⟨v, h2, r⟩ := f1.atI e
      exact ⟨_, ix_list, a1, vs, i, v, rfl, rfl, SqL.of h1, h2, q.fro s r⟩
    | _ => cases e
  | scr xs =>
    cases w2 with
    | int i =>
      obtain ⟨_, a1, vs, rfl, h1, f1⟩ := r1
      obtain ⟨_, rfl⟩ := r2
      obtain ⟨v, h2, r⟩ := f1.atI e
      exact ⟨_, ix_list, a1, vs, i, v, rfl, rfl, s.sqL h1, h2, q.fro s r⟩
    | _ => cases e
  | tup xs =>
    cases w2 with
    | int i =>
      obtain ⟨_, a1, vs, rfl, h1, f1⟩ := r1
      obtain ⟨_, rfl⟩ := r2
      obtain ⟨v, h2, r⟩ := f1.atI e
      exact ⟨_, ix_tup, a1, vs, i, v, rfl, rfl, s.sqT h1, h2, q.fro s r⟩
    | _ => cases e
  | str z =>
    cases w2 with
    | int i =>
      have e' : (if z.length ≤ sizeLine then (L2.atI z.cps.toList i).map fun c => W.str ⟨#[c]⟩ else none) = some w := e
      by_cases hl : z.length ≤ sizeLine
      · rw [if_pos hl] at e'
        cases hc : L2.atI z.cps.toList i with
        | none => rw [hc] at e'; cases e'
        | some c =>
          rw [hc] at e'
          cases e'
          obtain ⟨_, rfl⟩ := r1
          obtain ⟨_, rfl⟩ := r2
          exact ⟨_, ix_str, z, i, c, rfl, rfl, hl, hc, q.str s⟩
      · rw [if_neg hl] at e'; cases e'
    | _ => cases e
  | _ => cases e
theorem me_ix {a b : Expr} {m1 m2 : Sm W} {p1 p2 k1 k2 : Bool} {pos : Pos} (ha : ME Z a m1 p1 k1) (hb : ME Z b m2 p2 k2) (hs : PlainIx b := by exact fun _ _ => rfl) : ME Z (.Subscript a b pos) (mBin ixW (k1 || p2) m1 m2) (p1 && p2) true :=
  pe_imp (pe_ix ix_any ha hb hs) fun _ _ _ h => tx_bin rel_ixW h

/-- a part: lo, hi as numbers or left out; f by the two -/
def TOo (D : Dn) (Wx : WX) (p : Bool) (m : Sm (Option Int)) : TO := fun σ H Q => ∃ (env : List W) (G : Hp) (Os : List (List Addr)), StOk D G H env σ Os ∧ match m env with
  | .ok o env' => ∀ G' H' Os', StOk D G' H' env' σ Os' → Stp p env G H Os env' G' H' Os' [] → Q o H'
  | .ex c env' => ∀ G' H' Os', StOk D G' H' env' σ Os' → Stp p env G H Os env' G' H' Os' [] → Wx (.ref (D.CA c)) none σ H'
  | .bad => False
abbrev MO (Z : Zt) (e : Option Expr) (m : Sm (Option Int)) (p : Bool) : Prop := PO Z.X e (TOo Z.D Z.W p m)
theorem po_imp {X : Cx} {e : Option Expr} {t t' : TO} (h : PO X e t) (i : ∀ σ H Q, t' σ H Q → t σ H Q) : PO X e t' := ⟨fun pins s σ H Q I w => h.run pins s σ H Q I (i σ H Q w)⟩
def mNo : Sm (Option Int) := Sm.ret none
def intW : W → Option Int
  | .int i => some i
  | _ => none
def mPart (m : Sm W) : Sm (Option Int) := Sm.bind m fun w => lft ((intW w).map some)
theorem mo_no : MO Z none mNo true := po_imp po_none fun σ H Q q => by
  obtain ⟨env, G, Os, s, q⟩ := q
  exact q G H Os s (Stp.id true)
theorem mo_some {e : Expr} {m : Sm W} {p k : Bool} (h : ME Z e m p k) : MO Z (some e) (mPart m) p := po_imp (po_some h) fun σ H Q q => by
  obtain ⟨env, G, Os, s, q⟩ := q
  refine ⟨env, G, Os, s, ?_⟩
  unfold mPart Sm.bind lft at q
  cases e1 : m env with
  | bad => rw [e1] at q; exact q
  | ex c env1 => rw [e1] at q; exact q
  | ok w env1 =>
    rw [e1] at q
    intro v G' H' Os' Ow s' r o t
    cases w with
    | int i =>
      obtain ⟨_, rfl⟩ := r
      exact ⟨i, rfl, q G' H' Os' s' (t.less kO_less)⟩
    | _ => exact q.elim
def cutL {α : Type} (xs : List α) (lo hi : Option Int) : List α := (xs.drop (HT.sIx xs.length 0 lo)).take (HT.sIx xs.length xs.length hi - HT.sIx xs.length 0 lo)
def cutW (b : Bool) : W → Option Int → Option Int → Option W
  | .lst _ xs, lo, hi => some (.lst b (cutL xs lo hi))
  | .scr xs, lo, hi => some (.lst b (cutL xs lo hi))
  | .str z, lo, hi => if z.length ≤ sizeLine then some (.str (cutS z lo hi)) else none
  | _, _, _ => none
theorem RFs.drop {D : Dn} {G : Hp} : ∀ {ws : List W} {vs : List V} (n : Nat), RFs D G ws vs → RFs D G (ws.drop n) (vs.drop n)
  | _, _, 0, h => h
  | [], _, n + 1, h => by rw [show _ = [] from h]; rfl
  | _ :: ws, _, n + 1, h => by
    obtain ⟨v, r, rfl, h1, h2⟩ := h
    exact RFs.drop n h2
theorem RFs.take {D : Dn} {G : Hp} : ∀ {ws : List W} {vs : List V} (n : Nat), RFs D G ws vs → RFs D G (ws.take n) (vs.take n)
  | _, _, 0, h => rfl
  | [], _, n + 1, h => by rw [show _ = [] from h]; rfl
  | _ :: ws, _, n + 1, h => by
    obtain ⟨v, r, rfl, h1, h2⟩ := h
    exact ⟨v, _, rfl, h1, RFs.take n h2⟩
theorem RFs.cut {D : Dn} {G : Hp} {ws : List W} {vs : List V} (lo hi : Option Int) (h : RFs D G ws vs) : RFs D G (cutL ws lo hi) (cutV vs lo hi) := by
  unfold cutL cutV
  rw [h.len]
  exact (h.drop _).take _
def slAny (X : Cx) : V → Option Int → Option Int → Hp → VK → Prop := fun x lo hi H Q => ∃ r, SlR X r ∧ r x lo hi H Q
theorem sl_any {X : Cx} : SlR X (slAny X) := fun pins s σ H x v vl vu lo hi sl Q I rx h1 h2 h3 ⟨r, ho, q⟩ => ho pins s σ H x v vl vu lo hi sl Q I rx h1 h2 h3 q
def mSlice (b g : Bool) (m : Sm W) (ml mh : Sm (Option Int)) : Sm W := Sm.bind m fun w => Sm.bind ml fun lo => Sm.bind mh fun hi => if (g || w.frz) = true then lft (cutW b w lo hi) else fun _ => .bad
theorem rel_cutW {b : Bool} {G H : Hp} {w1 : W} {v1 : V} {O1 : List Addr} {w : W} {lo hi : Option Int} {Q : VK} (s : Sub G H) (r1 : RO Z.D G H w1 v1 O1) (e : cutW b w1 lo hi = some w) (q : Ans Z.D G H w Q) : slAny Z.X v1 lo hi H Q := by
  cases w1 with
  | lst b1 xs =>
    cases e
    obtain ⟨a1, vs, rfl, h1, f1⟩ := r1.lstAt s
    exact ⟨_, sl_list, a1, vs, rfl, SqL.of h1, fun p n => q.lst s (f1.cut lo hi) n⟩
  | scr xs =>
    cases e
    obtain ⟨_, a1, vs, rfl, h1, f1⟩ := r1
    exact ⟨_, sl_list, a1, vs, rfl, s.sqL h1, fun p n => q.lst s (f1.cut lo hi) n⟩
  | str z =>
    have e' : (if z.length ≤ sizeLine then some (W.str (cutS z lo hi)) else none) = some w := e
    by_cases hl : z.length ≤ sizeLine
    · rw [if_pos hl] at e'
      cases e'
      obtain ⟨_, rfl⟩ := r1
      exact ⟨_, sl_str, z, rfl, hl, q.str s⟩
    · rw [if_neg hl] at e'; cases e'
  | _ => cases e
theorem me_slice (b : Bool) {e : Expr} {lo hi : Option Expr} {m : Sm W} {ml mh : Sm (Option Int)} {p p1 p2 k1 : Bool} {q1 q2 : Pos} (he : ME Z e m p k1) (hl : MO Z lo ml p1) (hh : MO Z hi mh p2) :
    ME Z (.Subscript e (.Slice lo hi none q1) q2) (mSlice b (k1 || (p1 && p2)) m ml mh) (p && (p1 && p2)) true := pe_imp (pe_slice sl_any he hl hh) fun σ H Q hq => by
  obtain ⟨env, G, Os, s, hq⟩ := hq
  refine ⟨env, G, Os, s, ?_⟩
  unfold mSlice Sm.bind at hq
  cases e1 : m env with
  | bad => rw [e1] at hq; exact hq
  | ex c env1 =>
    rw [e1] at hq
    intro G' H' Os' s' t
    exact hq G' H' Os' s' (t.and _)
  | ok w1 env1 =>
    rw [e1] at hq
    intro v1 G1 H1 Os1 O1 s1 r1 o1 t1
    refine ⟨env1, G1, Os1, s1, ?_⟩
    cases e2 : ml env1 with
    | bad => simp only [e2] at hq
    | ex c env2 =>
      simp only [e2] at hq
      intro G' H' Os' s' t
      refine hq G' H' Os' s' ?_
      rw [← Bool.and_assoc]
      exact (t1.trans t).and _
    | ok lo env2 =>
      simp only [e2] at hq
      intro G2 H2 Os2 s2 t2
      refine ⟨env2, G2, Os2, s2, ?_⟩
      cases e3 : mh env2 with
      | bad => simp only [e3] at hq
      | ex c env3 =>
        simp only [e3] at hq
        intro G' H' Os' s' t
        exact hq G' H' Os' s' (t1.trans (t2.trans t))
      | ok hi env3 =>
        simp only [e3] at hq
        intro G3 H3 Os3 s3 t3
        by_cases hg : (k1 || (p1 && p2) || w1.frz) = true
        · rw [if_pos hg] at hq
          unfold lft at hq
          cases ef : cutW b w1 lo hi with
          | none => rw [ef] at hq; exact hq.elim
          | some w =>
            rw [ef] at hq
            have r1' := stay s1 r1 o1 (t2.trans t3) hg
            exact rel_cutW s3.sub r1' ef (Ans.of (p := p && (p1 && p2)) s3 (t1.trans (t2.trans t3)) hq)
        · rw [if_neg hg] at hq
          exact hq.elim
/-- xs[::-1] -/
def revW (b : Bool) : W → Option W
  | .lst _ xs => some (.lst b xs.reverse)
  | _ => none
theorem RFs.rev {D : Dn} {G : Hp} : ∀ {ws : List W} {vs : List V}, RFs D G ws vs → RFs D G ws.reverse vs.reverse
  | [], _, h => by rw [show _ = [] from h]; rfl
  | w :: ws, _, h => by
    obtain ⟨v, r, rfl, h1, h2⟩ := h
    rw [List.reverse_cons, List.reverse_cons]
    exact (RFs.rev h2).append ⟨v, [], rfl, h1, rfl⟩
theorem me_rev (b : Bool) {e : Expr} {m : Sm W} {p k1 : Bool} {j : Nat} {q1 q2 q3 q4 : Pos} (he : ME Z e m p k1) : ME Z (.Subscript e (.Slice none none (some (.UnaryOp .USub (.Constant (.int 1) j q1) q2)) q3) q4) (mUn (revW b) m) p true :=
  pe_imp (pe_revL he) fun σ H Q hq => tx_un (r := fun x H1 Q => ∃ a xs, x = .ref a ∧ SqL Z.X.K H1 a xs ∧ ∀ p, H1 p = none → Q (.ref p) (upd H1 p (.lst xs.reverse))) (fun G H w1 v1 O1 w Q s r1 e q => by
    cases w1 with
    | lst b1 xs =>
      cases e
      obtain ⟨a1, vs, rfl, h1, f1⟩ := r1.lstAt s
      exact ⟨a1, vs, rfl, SqL.of h1, fun p n => q.lst s f1.rev n⟩
    | _ => cases e) hq
end
end Ev

namespace Ev
open PySem PySem.Spec L2

/-! ### built-in functions of one argument -/
def clAny (X : Cx) (f : Value) : List V → Hp → VK → Prop := fun xs H Q => ∃ r, CallR X f r ∧ r xs H Q
theorem cl_any {X : Cx} {f : Value} : CallR X f (clAny X f) := fun pins s σ H xs us Q I rx ⟨r, ho, q⟩ => ho pins s σ H xs us Q I rx q
section
variable {Z : Zt} {k : Nat} {e : Expr} {m : Sm W} {p k1 : Bool} {p1 p2 : Pos}
theorem me_b1 {x : Str} {id : String} {f : W → Option W} (o : RelU Z.D (fun v => clAny Z.X (.builtin id) [v]) f) (hg : Gl Z.X x) (hm : Z.X.mg x = none) (hv : bootBuiltins x = some (.builtin id)) (ha : ME Z e m p k1) (hn : x ≠ "__name__" := by decide) (hdb : (x == ("__debug__" : Str)) = false := by decide)
    (hs : starEach [e] Z.X.env = (false, eval e Z.X.env) :: starEach [] Z.X.env := by rfl) : ME Z (.Call (.Name x p1) [e] [] p2) (mUn f m) p true :=
  pe_imp (pe_callB cl_any hg hm hv (pa_cons ha pa_nil hs) hn hdb hs rfl) fun _ _ _ q => tx_un o q
theorem me_t1 {x : Str} {id : String} {f : W → Option W} (o : RelU Z.D (fun v => clAny Z.X (.type id) [v]) f) (hg : Gl Z.X x) (hm : Z.X.mg x = none) (hv : bootBuiltins x = some (.type id)) (ha : ME Z e m p k1) (hn : x ≠ "__name__" := by decide) (hdb : (x == ("__debug__" : Str)) = false := by decide)
    (hs : starEach [e] Z.X.env = (false, eval e Z.X.env) :: starEach [] Z.X.env := by rfl) : ME Z (.Call (.Name x p1) [e] [] p2) (mUn f m) p true :=
  pe_imp (pe_callTy cl_any hg hm hv (pa_cons ha pa_nil hs) hn hdb hs rfl) fun _ _ _ q => tx_un o q
/-- the items of a thing that is a list or a tuple -/
def seqW : W → Option (List W)
  | .lst _ ws => some ws
  | .scr ws => some ws
  | .tup ws => some ws
  | _ => none
theorem seqW_at {D : Dn} {G H : Hp} {w : W} {v : V} {O : List Addr} {ws : List W} (s : Sub G H) (r : RO D G H w v O) (e : seqW w = some ws) : ∃ a vs, v = .ref a ∧ (SqL D.K H a vs ∨ SqT D.K H a vs) ∧ RFs D G ws vs := by
  cases w with
  | lst b xs =>
    cases e
    obtain ⟨a, vs, rfl, h1, h2⟩ := r.lstAt s
    exact ⟨a, vs, rfl, .inl (SqL.of h1), h2⟩
  | scr xs =>
    cases e
    obtain ⟨_, a, vs, rfl, h1, h2⟩ := r
    exact ⟨a, vs, rfl, .inl (s.sqL h1), h2⟩
  | tup xs =>
    cases e
    obtain ⟨_, a, vs, rfl, h1, h2⟩ := r
    exact ⟨a, vs, rfl, .inr (s.sqT h1), h2⟩
  | _ => cases e
def lisW : W → Option (List W)
  | .lst _ ws => some ws
  | .scr ws => some ws
  | _ => none
theorem lisW_at {D : Dn} {G H : Hp} {w : W} {v : V} {O : List Addr} {ws : List W} (s : Sub G H) (r : RO D G H w v O) (e : lisW w = some ws) : ∃ a vs, v = .ref a ∧ SqL D.K H a vs ∧ RFs D G ws vs := by
  cases w with
  | lst b xs =>
    cases e
    obtain ⟨a, vs, rfl, h1, h2⟩ := r.lstAt s
    exact ⟨a, vs, rfl, SqL.of h1, h2⟩
  | scr xs =>
    cases e
    obtain ⟨_, a, vs, rfl, h1, h2⟩ := r
    exact ⟨a, vs, rfl, s.sqL h1, h2⟩
  | _ => cases e
/-- the list at an owned list of any kind: how long -/
theorem ROs.len {D : Dn} {G H : Hp} : ∀ {ws : List W} {vs : List V} {O : List Addr}, ROs D G H ws vs O → ws.length = vs.length
  | [], _, _, h => by rw [h.1]; rfl
  | w :: ws, _, _, h => by
    obtain ⟨v, r, O1, O2, rfl, rfl, h1, h2⟩ := h
    simp [ROs.len h2]
def lenW : W → Option W
  | .str z => if z.length ≤ sizeLine then some (.int z.length) else none
  | .nst ws => some (.int ws.length)
  | w => (seqW w).map fun ws => .int ws.length
theorem me_len (hm : Z.X.mg "len" = none) (ha : ME Z e m p k1) (hg : Gl Z.X "len" := by rfl) (hs : starEach [e] Z.X.env = (false, eval e Z.X.env) :: starEach [] Z.X.env := by rfl) : ME Z (.Call (.Name "len" p1) [e] [] p2) (mUn lenW m) p true :=
  me_b1 (fun G H w1 v1 O1 w Q s r e q => by
    by_cases hz : ∃ z, w1 = .str z
    · obtain ⟨z, rfl⟩ := hz
      have e' : (if z.length ≤ sizeLine then some (W.int z.length) else none) = some w := e
      by_cases hl : z.length ≤ sizeLine
      · rw [if_pos hl] at e'
        cases e'
        obtain ⟨_, rfl⟩ := r
        exact ⟨_, call_len_str, z, rfl, hl, q.int s⟩
      · rw [if_neg hl] at e'; cases e'
    · by_cases hn : ∃ ws, w1 = .nst ws
      · obtain ⟨ws, rfl⟩ := hn
        cases e
        obtain ⟨a, vs, O', rfl, rfl, h1, h2⟩ := r
        refine ⟨_, call_len_seq, a, vs, rfl, .inl (SqL.of h1), ?_⟩
        rw [← h2.len]
        exact q.int s
      · have e' : (seqW w1).map (fun ws => W.int ws.length) = some w := by
          cases w1 <;> first
            | exact absurd ⟨_, rfl⟩ hz
            | exact absurd ⟨_, rfl⟩ hn
            | exact e
        cases h : seqW w1 with
        | none => rw [h] at e'; cases e'
        | some ws =>
          rw [h] at e'
          cases e'
          obtain ⟨a, vs, rfl, h1, h2⟩ := seqW_at s r h
          refine ⟨_, call_len_seq, a, vs, rfl, h1, ?_⟩
          rw [← h2.len]
          exact q.int s) hg hm PySem.boot_len ha (by decide) (by decide) hs
/-- sum, max, min of a list of ints -/
def sumW (w : W) : Option W := (lisW w).bind fun ws => (intsW ws).map fun ns => .int ns.sum
def absW : W → Option W
  | .int i => some (.int (if i < 0 then -i else i))
  | _ => none
def toIntW : W → Option W
  | .int i => some (.int i)
  | .bl b => some (.int (if b = true then 1 else 0))
  | .str z => if z.length ≤ 640 then (intText? z).map .int else none
  | _ => none
def strOfW : W → Option W
  | .int i => if i.natAbs.log2 < 1920 then some (.str (toString i)) else none
  | _ => none
theorem me_strOf (hm : Z.X.mg "str" = none) (ha : ME Z e m p k1) (hg : Gl Z.X "str" := by rfl) (hs : starEach [e] Z.X.env = (false, eval e Z.X.env) :: starEach [] Z.X.env := by rfl) : ME Z (.Call (.Name "str" p1) [e] [] p2) (mUn strOfW m) p true :=
  me_t1 (fun G H w1 v1 O1 w Q s r e q => by
    cases w1 with
    | int i =>
      have e' : (if i.natAbs.log2 < 1920 then some (W.str (toString i)) else none) = some w := e
      by_cases hl : i.natAbs.log2 < 1920
      · rw [if_pos hl] at e'
        cases e'
        obtain ⟨_, rfl⟩ := r
        exact ⟨_, call_str_int, i, rfl, hl, q.str s⟩
      · rw [if_neg hl] at e'; cases e'
    | _ => cases e) hg hm PyProof.Rows.boot_str ha (by decide) (by decide) hs
/-- list(x), tuple(x) -/
def listOfW (b : Bool) (w : W) : Option W := (seqW w).map (.lst b ·)
theorem me_listOf (b : Bool) (hm : Z.X.mg "list" = none) (ha : ME Z e m p k1) (hg : Gl Z.X "list" := by rfl) (hs : starEach [e] Z.X.env = (false, eval e Z.X.env) :: starEach [] Z.X.env := by rfl) : ME Z (.Call (.Name "list" p1) [e] [] p2) (mUn (listOfW b) m) p true :=
  me_t1 (fun G H w1 v1 O1 w Q s r e q => by
    unfold listOfW at e
    cases h : seqW w1 with
    | none => rw [h] at e; cases e
    | some ws =>
      rw [h] at e
      cases e
      obtain ⟨a, vs, rfl, h3, h4⟩ := seqW_at s r h
      exact ⟨_, call_list_of, a, vs, rfl, h3, fun l n => q.lst s h4 n⟩) hg hm PyProof.Rows.boot_list ha (by decide) (by decide) hs
def tupOfW : W → Option W
  | .tup ws => some (.tup ws)
  | w => (lisW w).map .tup
theorem me_tupOf (hm : Z.X.mg "tuple" = none) (ha : ME Z e m p k1) (hg : Gl Z.X "tuple" := by rfl) (hs : starEach [e] Z.X.env = (false, eval e Z.X.env) :: starEach [] Z.X.env := by rfl) : ME Z (.Call (.Name "tuple" p1) [e] [] p2) (mUn tupOfW m) p true :=
  me_t1 (fun G H w1 v1 O1 w Q s r e q => by
    by_cases ht : ∃ ws, w1 = .tup ws
    · obtain ⟨ws, rfl⟩ := ht
      cases e
      obtain ⟨_, a, vs, rfl, h1, h2⟩ := r
      exact ⟨_, call_tuple_of, a, vs, rfl, .inr ⟨s.sqT h1, q.fro s (show RF Z.D G (.tup ws) (.ref a) from ⟨a, vs, rfl, h1, h2⟩)⟩⟩
    · have e' : (lisW w1).map W.tup = some w := by
        cases w1 <;> first
          | exact absurd ⟨_, rfl⟩ ht
          | exact e
      cases h : lisW w1 with
      | none => rw [h] at e'; cases e'
      | some ws =>
        rw [h] at e'
        cases e'
        obtain ⟨a, vs, rfl, h3, h4⟩ := lisW_at s r h
        exact ⟨_, call_tuple_of, a, vs, rfl, .inl ⟨h3, fun l n => q.tup s h4 n⟩⟩) hg hm PyProof.Rows.boot_tuple ha (by decide) (by decide) hs

/-! ### sorted -/
def leD (a b : W) : Bool := PySem.W.dataLe false W.dat a b
def SortOk (ws : List W) : Prop := PySem.W.AllAlike (ws.map W.dat) ∧ PySem.W.Sortable (ws.map W.dat) ∧ ws.length ≤ sizeLine ∧ ∀ w ∈ ws, w.dat.depth ≤ 60
open Classical in
noncomputable def sortedW (b : Bool) (w : W) : Option W := (lisW w).bind fun ws => if SortOk ws then some (.lst b (ws.mergeSort leD)) else none
theorem RFs.pairs {D : Dn} {G : Hp} : ∀ {ws : List W} {vs : List V}, RFs D G ws vs → ∃ ps : List (V × W), ps.map Prod.fst = vs ∧ ps.map Prod.snd = ws ∧ ∀ q ∈ ps, RF D G q.2 q.1
  | [], _, h => ⟨[], by rw [show _ = [] from h]; rfl, rfl, fun _ z => nomatch z⟩
  | w :: ws, _, h => by
    obtain ⟨v, r, rfl, h1, h2⟩ := h
    obtain ⟨ps, e1, e2, h3⟩ := RFs.pairs h2
    refine ⟨(v, w) :: ps, by rw [List.map_cons, e1], by rw [List.map_cons, e2], fun q hq => ?_⟩
    rcases List.mem_cons.mp hq with rfl | hq
    · exact h1
    · exact h3 q hq
theorem RFs.ofPairs {D : Dn} {G : Hp} : ∀ {ps : List (V × W)}, (∀ q ∈ ps, RF D G q.2 q.1) → RFs D G (ps.map Prod.snd) (ps.map Prod.fst)
  | [], _ => rfl
  | q :: ps, h => ⟨q.1, _, rfl, h q List.mem_cons_self, RFs.ofPairs fun r hr => h r (List.mem_cons_of_mem _ hr)⟩
theorem each_vals : ∀ {ps : List (V × W)} {us : List Value}, Vals (ps.map Prod.fst) us → PySem.W.EachIs (fun u (q : V × W) => RelV q.1 u) us ps
  | [], _, .nil => .nil
  | _ :: ps, _, .cons r t => .cons r (each_vals t)
theorem vals_each : ∀ {ps : List (V × W)} {us : List Value}, PySem.W.EachIs (fun u (q : V × W) => RelV q.1 u) us ps → Vals (ps.map Prod.fst) us
  | _, _, .nil => .nil
  | _, _, .cons r t => .cons r (vals_each t)
theorem each_reads {X : Cx} {pins : List (Addr × Obj)} {σ : St} {H : Hp} {s : Shared} (I : Inv X pins σ H s) : ∀ {ps : List (V × W)} {us : List Value}, (∀ q ∈ ps, Dq X.K H q.1 q.2.dat) → PySem.W.EachIs (fun u (q : V × W) => RelV q.1 u) us ps →
    PySem.W.EachIs (fun u (q : V × W) => ∃ as, PySem.Reads s.heap u q.2.dat as) us ps
  | _, _, _, .nil => .nil
  | q :: ps, _, h, .cons r t => .cons (Dq.reads I _ _ _ (h q List.mem_cons_self) r) (each_reads I (fun q' hq => h q' (List.mem_cons_of_mem _ hq)) t)
theorem sort_snd (ps : List (V × W)) : (ps.mergeSort (PySem.W.dataLe false fun q => q.2.dat)).map Prod.snd = (ps.map Prod.snd).mergeSort leD :=
  PySem.W.sort_maps Prod.snd fun _ _ _ _ => rfl
theorem cr_sortedD {X : Cx} {k : Nat} (hr : Room k X.A) : CallR X (.builtin "sorted") (fun vs H Q => ∃ (a : Addr) (ps : List (V × W)), vs = [.ref a] ∧ SqL X.K H a (ps.map Prod.fst) ∧ (∀ q ∈ ps, Dq X.K H q.1 q.2.dat) ∧ SortOk (ps.map Prod.snd) ∧
    ∀ p, H p = none → Q (.ref p) (upd H p (.lst ((ps.mergeSort (PySem.W.dataLe false fun q => q.2.dat)).map Prod.fst)))) := by
  intro pins s σ H vs us Q I r h
  obtain ⟨a, ps, rfl, hs, hd, ⟨o1, o2, o3, o4⟩, q⟩ := h
  obtain ⟨its, rv, hl, hz⟩ := I.list hs
  rw [Vals.ref1 r]
  have e1 := each_vals rv
  have mm : ps.map (fun q => q.2.dat) = (ps.map Prod.snd).map W.dat := by rw [List.map_map]; rfl
  refine PySem.W.sorted_data (enc := fun q : V × W => q.2.dat) hl.isList e1 (each_reads I hd e1) (by rw [mm]; exact o1) (by rw [mm]; exact o2) (by rw [List.length_map] at o3; exact o3) (fun b hb => ?_) fun out hlen eo => ?_
  · have h60 := o4 b.2 (List.mem_map.mpr ⟨b, hb, rfl⟩)
    have hu := hr.un
    show X.A.units + 2 + b.2.dat.depth < cLine
    omega
  · obtain ⟨ep, he'⟩ := PyProof.Rows.sortedAll_at s.heap its (List.toArray out)
    have hv := vals_each eo
    refine ⟨.ref _, upd H (s.heap.objs.size + 1) (.lst ((ps.mergeSort (PySem.W.dataLe false fun q => q.2.dat)).map Prod.fst)), I.laid (t' := s.toks) (fun _ _ => PyProof.Rows.sortedAll_old) (Nat.le_succ _) ⟨?_, out, ep, hv, he'⟩, rfl, q _ (I.hok.fresh (Nat.le_succ _))⟩
    rw [List.length_map, List.length_mergeSort]
    rw [List.length_map] at o3
    exact o3
theorem me_sorted (b : Bool) (hr : Room k Z.X.A) (hm : Z.X.mg "sorted" = none) (ha : ME Z e m p k1) (hg : Gl Z.X "sorted" := by rfl) (hs : starEach [e] Z.X.env = (false, eval e Z.X.env) :: starEach [] Z.X.env := by rfl) : ME Z (.Call (.Name "sorted" p1) [e] [] p2) (mUn (sortedW b) m) p true :=
  me_b1 (fun G H w1 v1 O1 w Q s r e q => by
    unfold sortedW at e
    cases h : lisW w1 with
    | none => rw [h] at e; cases e
    | some ws =>
      rw [h, Option.bind_some] at e
      by_cases ho : SortOk ws
      · rw [if_pos ho] at e
        cases e
        obtain ⟨a, vs, rfl, h3, h4⟩ := lisW_at s r h
        obtain ⟨ps, rfl, rfl, h5⟩ := h4.pairs
        refine ⟨_, cr_sortedD hr, a, ps, rfl, h3, fun q hq => RF.dp _ _ (RF.mono s _ _ (h5 q hq)), ho, fun l n => ?_⟩
        rw [← sort_snd] at q
        exact q.lst s (RFs.ofPairs fun x hx => h5 x ((List.mergeSort_perm ps _).mem_iff.mp hx)) n
      · rw [if_neg ho] at e; cases e) hg hm PyProof.Rows.boot_sorted ha (by decide) (by decide) hs

/-! ### of two arguments -/
theorem me_b {x : Str} {id : String} {f : List W → Option W} {es : List Expr} {ms : Sm (List W)} (o : RelA Z.D (clAny Z.X (.builtin id)) f) (hg : Gl Z.X x) (hm : Z.X.mg x = none) (hv : bootBuiltins x = some (.builtin id)) (ha : MA Z (e :: es) ms p) (hn : x ≠ "__name__" := by decide) (hdb : (x == ("__debug__" : Str)) = false := by decide)
    (hs : starEach (e :: es) Z.X.env = (false, eval e Z.X.env) :: starEach es Z.X.env := by rfl) (hpl : (backTo p2 (starEach es Z.X.env)).any (·.1) = false := by rfl) : ME Z (.Call (.Name x p1) (e :: es) [] p2) (mArgs f ms) p true :=
  pe_imp (pe_callB cl_any hg hm hv ha hn hdb hs hpl) fun _ _ _ q => ta_args o q
def max2W : List W → Option W
  | [.int i, .int j] => some (.int (if j > i then j else i))
  | _ => none
def min2W : List W → Option W
  | [.int i, .int j] => some (.int (if j < i then j else i))
  | _ => none
theorem RFs.two {D : Dn} {G : Hp} {i j : Int} {vs : List V} (h : RFs D G [.int i, .int j] vs) : vs = [.int i, .int j] := RFs.ints (ns := [i, j]) h
theorem me_max2 {es : List Expr} {ms : Sm (List W)} (hc : Z.X.calm = true) (hm : Z.X.mg "max" = none) (ha : MA Z (e :: es) ms p) (hg : Gl Z.X "max" := by rfl) (hs : starEach (e :: es) Z.X.env = (false, eval e Z.X.env) :: starEach es Z.X.env := by rfl) (hpl : (backTo p2 (starEach es Z.X.env)).any (·.1) = false := by rfl) :
    ME Z (.Call (.Name "max" p1) (e :: es) [] p2) (mArgs max2W ms) p true := me_b (fun G H ws vs w Q s r e q => by
  unfold max2W at e
  split at e
  · cases e
    rw [RFs.two r]
    exact ⟨_, call_max2 hc, _, _, rfl, q.int s⟩
  · cases e) hg hm PyProof.Rows.boot_max ha (by decide) (by decide) hs hpl
theorem me_min2 {es : List Expr} {ms : Sm (List W)} (hc : Z.X.calm = true) (hm : Z.X.mg "min" = none) (ha : MA Z (e :: es) ms p) (hg : Gl Z.X "min" := by rfl) (hs : starEach (e :: es) Z.X.env = (false, eval e Z.X.env) :: starEach es Z.X.env := by rfl) (hpl : (backTo p2 (starEach es Z.X.env)).any (·.1) = false := by rfl) :
    ME Z (.Call (.Name "min" p1) (e :: es) [] p2) (mArgs min2W ms) p true := me_b (fun G H ws vs w Q s r e q => by
  unfold min2W at e
  split at e
  · cases e
    rw [RFs.two r]
    exact ⟨_, call_min2 hc, _, _, rfl, q.int s⟩
  · cases e) hg hm PyProof.Rows.boot_min ha (by decide) (by decide) hs hpl
end
end Ev

namespace Ev
open PySem PySem.Spec L2

/-! ### what a def does, as a function -/
abbrev Fn := List W → Out W
def spOf (D : Dn) (n : Nat) (g : Fn) : Sp := fun vs H Q E => vs.length = n ∧ ∃ (ws : List W) (G : Hp) (O : List Addr), Sub G H ∧ ROs D G H ws vs O ∧ O.Nodup ∧ (∀ a ∈ O, G a = none) ∧ match g ws with
  | .ok w ws' => ∀ v G' H' O' Ow, Sub G' H' → ROs D G' H' ws' vs O' → RO D G' H' w v Ow → (O' ++ Ow).Nodup → (∀ a ∈ O' ++ Ow, G' a = none) → Step G H O G' H' (O' ++ Ow) → Q v H'
  | .ex c ws' => ∀ G' H' O', Sub G' H' → ROs D G' H' ws' vs O' → O'.Nodup → (∀ a ∈ O', G' a = none) → Step G H O G' H' O' → E (.ref (D.CA c)) none H'
  | .bad => False
/-- a def of the module: its name, level, parameters, function -/
def FnT (P : Program) (w : World) (K : PySem.W.Frag) (mg : Str → Option Value) (base : Heap) (CA : Nat → Addr) (x : Str) (n k : Nat) (g : Fn) : Prop :=
  ∃ (f : Addr) (fd : FuncData) (ps : List Str), FnOk P w K mg base (L2.CX P w) k f fd ps (spOf ⟨K, CA⟩ n g) ∧ mg x = some (.ref f) ∧ PySem.W.keepIn K (.ref f) = true ∧ Binds K fd ps []
abbrev FnZ (Z : Zt) (x : Str) (n k : Nat) (g : Fn) : Prop := FnT Z.X.prog Z.X.w Z.X.K Z.X.mg Z.X.base Z.CA x n k g

/-! ### a call, all by value -/
def mCallP (g : Fn) (m : Sm (List W)) : Sm W := Sm.bind m fun ws env => match g ws with
  | .ok w _ => .ok w env
  | .ex c _ => .ex c env
  | .bad => .bad
theorem RFs.toO {D : Dn} {G H : Hp} : ∀ {ws : List W} {vs : List V}, RFs D G ws vs → ROs D G H ws vs []
  | [], _, h => ⟨h, rfl⟩
  | w :: ws, _, h => by
    obtain ⟨v, r, rfl, h1, h2⟩ := h
    exact ⟨v, r, [], [], rfl, rfl, RO.ofF h1, RFs.toO h2⟩
theorem Stp.ofP {p : Bool} {env env1 : List W} {σ : St} {G H G1 H1 G2 H2 : Hp} {Os Os1 : List (List Addr)} {Ow : List Addr} (a : Stp p env G H Os env1 G1 H1 Os1 []) (t : Step G1 H1 [] G2 H2 Ow) : Stp p env G H Os env1 G2 H2 Os1 Ow := by
  have z := a.trans (Stp.grow true (env := env1) (Os := Os1) t)
  rwa [Bool.and_true] at z
section
variable {Z : Zt} {x : Str} {n k : Nat} {g : Fn} {e : Expr} {es : List Expr} {p : Bool} {p1 p2 : Pos}
theorem me_callP {m : Sm (List W)} (F : FnZ Z x n k g) (hr : Room k Z.X.A) (tk : Takes Z.X Z.W) (ha : MA Z (e :: es) m p) (hg : Gl Z.X x) (hdb : (x == ("__debug__" : Str)) = false := by decide)
    (he : starEach (e :: es) Z.X.env = (false, eval e Z.X.env) :: starEach es Z.X.env := by rfl) (hpl : (backTo p2 (starEach es Z.X.env)).any (·.1) = false := by rfl) (hn : (e :: es).length = n := by rfl)
    : ME Z (.Call (.Name x p1) (e :: es) [] p2) (mCallP g (Sm.bind m fun ws => if ws.length = n then Sm.ret ws else fun _ => .bad)) p true := by
  obtain ⟨f, fd, ps, F, hm, hk, hb⟩ := F
  refine pe_imp (pe_callS F hr hg hm hk hb (fun σ => passAt tk σ) ha hdb he hpl) fun σ H Q q => ?_
  obtain ⟨env, G, Os, s, q⟩ := q
  refine ⟨env, G, Os, s, ?_⟩
  unfold mCallP Sm.bind at q
  cases e1 : m env with
  | bad => rw [e1] at q; exact q
  | ex c env1 => rw [e1] at q; exact q
  | ok ws env1 =>
    rw [e1] at q
    intro vs G1 H1 Os1 s1 r1 t1
    by_cases hl : ws.length = n
    · simp only [if_pos hl, Sm.ret] at q
      refine ⟨by rw [← r1.len]; exact hl, ws, G1, [], s1.sub, r1.toO, List.nodup_nil, fun _ z => (nomatch z), ?_⟩
      cases e2 : g ws with
      | bad => simp only [e2] at q
      | ex c ws' =>
        simp only [e2] at q
        intro G' H' O' sub _ _ _ st
        have st' := st.less (O2 := []) fun _ z => nomatch z
        exact q G' H' Os1 (s1.step st' sub) (t1.ofP (σ := σ) st')
      | ok w ws' =>
        simp only [e2] at q
        intro v G' H' O' Ow sub _ r nd gn st
        have st' := st.less (O2 := Ow) fun a ha => List.mem_append_right _ ha
        have nd' : Ow.Nodup := (List.nodup_append.mp nd).2.1
        refine q v G' H' Os1 Ow (s1.step st' sub) r ⟨s1.apart st' nd', fun a ha => gn a (List.mem_append_right _ ha)⟩ (t1.ofP (σ := σ) st')
    · simp only [if_neg hl] at q
end

/-! ### a call with things of the caller's own -/
inductive AV where
  | v (w : W)
  | io (i : Nat)
/-- what may be handed on: what is frozen, and an error that was caught -/
def RP (D : Dn) (G : Hp) (w : W) (v : V) : Prop := RF D G w v ∨ (∃ c, w = .exc c ∧ ∃ a, v = .ref a ∧ G a = some (ExC (D.CA c) a))
theorem RP.mono {D : Dn} {G G' : Hp} (e : Sub G G') {w : W} {v : V} (h : RP D G w v) : RP D G' w v := h.imp (RF.mono e _ _) fun ⟨c, h1, a, h2, h3⟩ => ⟨c, h1, a, h2, e _ _ h3⟩
theorem RP.toO {D : Dn} {G H : Hp} {w : W} {v : V} (h : RP D G w v) : RO D G H w v [] := by
  rcases h with h | ⟨c, rfl, a, rfl, h3⟩
  · exact RO.ofF h
  · exact ⟨rfl, a, rfl, h3⟩
def AVs (D : Dn) (G : Hp) (σ : St) : List AV → List V → Prop
  | [], vs => vs = []
  | .v w :: as, vs => ∃ x r, vs = x :: r ∧ RP D G w x ∧ AVs D G σ as r
  | .io i :: as, vs => ∃ x r, vs = x :: r ∧ σ[i]? = some (some x) ∧ AVs D G σ as r
theorem AVs.mono {D : Dn} {G G' : Hp} {σ : St} (e : Sub G G') : ∀ {as : List AV} {vs : List V}, AVs D G σ as vs → AVs D G' σ as vs
  | [], _, h => h
  | .v w :: as, _, h => by
    obtain ⟨x, r, rfl, h1, h2⟩ := h
    exact ⟨x, r, rfl, h1.mono e, h2.mono e⟩
  | .io i :: as, _, h => by
    obtain ⟨x, r, rfl, h1, h2⟩ := h
    exact ⟨x, r, rfl, h1, h2.mono e⟩
theorem AVs.len {D : Dn} {G : Hp} {σ : St} : ∀ {as : List AV} {vs : List V}, AVs D G σ as vs → as.length = vs.length
  | [], _, h => by rw [show _ = [] from h]; rfl
  | .v w :: as, _, h => by
    obtain ⟨x, r, rfl, h1, h2⟩ := h
    simp [AVs.len h2]
  | .io i :: as, _, h => by
    obtain ⟨x, r, rfl, h1, h2⟩ := h
    simp [AVs.len h2]
def TAr (D : Dn) (Wx : WX) (p : Bool) (m : Sm (List AV)) : TA := fun σ H Q => ∃ (env : List W) (G : Hp) (Os : List (List Addr)), StOk D G H env σ Os ∧ match m env with
  | .ok as env' => ∀ vs G' H' Os', StOk D G' H' env' σ Os' → AVs D G' σ as vs → Stp p env G H Os env' G' H' Os' [] → Q vs H'
  | .ex c env' => ∀ G' H' Os', StOk D G' H' env' σ Os' → Stp p env G H Os env' G' H' Os' [] → Wx (.ref (D.CA c)) none σ H'
  | .bad => False
abbrev MAr (Z : Zt) (es : List Expr) (m : Sm (List AV)) (p : Bool) : Prop := PA Z.X es (TAr Z.D Z.W p m)
def rNil : Sm (List AV) := Sm.ret []
def rVal (m : Sm W) (ms : Sm (List AV)) : Sm (List AV) := Sm.bind m fun w => if w.frz = true then Sm.bind ms fun as => Sm.ret (.v w :: as) else fun _ => .bad
def W.pas : W → Bool
  | .exc _ => true
  | w => w.frz
def rValX (m : Sm W) (ms : Sm (List AV)) : Sm (List AV) := Sm.bind m fun w => if w.pas = true then Sm.bind ms fun as => Sm.ret (.v w :: as) else fun _ => .bad
def rIo (i : Nat) (ms : Sm (List AV)) : Sm (List AV) := Sm.bind ms fun as => Sm.ret (.io i :: as)
section
variable {Z : Zt} {e : Expr} {es : List Expr} {ms : Sm (List AV)} {p1 p2 k : Bool}
theorem mr_nil : MAr Z [] rNil true := pa_imp pa_nil fun σ H Q q => by
  obtain ⟨env, G, Os, s, q⟩ := q
  exact q [] G H Os s rfl (Stp.id true)
theorem mr_val {m : Sm W} (h : ME Z e m p1 k) (hr : MAr Z es ms p2) (hs : starEach (e :: es) Z.X.env = (false, eval e Z.X.env) :: starEach es Z.X.env := by rfl) : MAr Z (e :: es) (rVal m ms) (p1 && p2) :=
  pa_imp (pa_cons h hr hs) fun σ H Q q => by
    obtain ⟨env, G, Os, s, q⟩ := q
    refine ⟨env, G, Os, s, ?_⟩
    unfold rVal Sm.bind at q
    cases e1 : m env with
    | bad => rw [e1] at q; exact q
    | ex c env1 =>
      rw [e1] at q
      exact fun G' H' Os' s' t => q G' H' Os' s' (t.and p2)
    | ok w env1 =>
      rw [e1] at q
      intro v1 G1 H1 Os1 O1 s1 r1 o1 t1
      by_cases hf : w.frz = true
      · simp only [if_pos hf] at q
        obtain ⟨rfl, f⟩ := r1.toF hf
        have t1' : Stp p1 env G H Os env1 G1 H1 Os1 [] := t1.less kO_less
        refine ⟨env1, G1, Os1, s1, ?_⟩
        cases e2 : ms env1 with
        | bad => simp only [e2] at q
        | ex c env2 =>
          simp only [e2] at q
          exact fun G' H' Os' s' t => q G' H' Os' s' (t1'.trans t)
        | ok ws env2 =>
          simp only [e2] at q
          exact fun vs G' H' Os' s' r t => q (v1 :: vs) G' H' Os' s' ⟨v1, vs, rfl, RP.mono t.gen.mono (.inl f), r⟩ (t1'.trans t)
      · simp only [if_neg hf] at q
theorem mr_io (i : Nat) (h : PE Z.X e (tVar i)) (hr : MAr Z es ms p2) (hs : starEach (e :: es) Z.X.env = (false, eval e Z.X.env) :: starEach es Z.X.env := by rfl) : MAr Z (e :: es) (Sm.bind (mVar i) fun _ => rIo i ms) p2 :=
  pa_imp (pa_cons h hr hs) fun σ H Q q => by
    obtain ⟨env, G, Os, s, q⟩ := q
    unfold Sm.bind mVar at q
    cases e1 : env[i]? with
    | none => rw [e1] at q; exact q.elim
    | some w =>
      obtain ⟨sv, O, h1, h2, h3⟩ := s.sl.at e1
      rcases h3 with ⟨v, rfl, r⟩ | ⟨rfl, _⟩
      · refine ⟨v, h1, env, G, Os, s, ?_⟩
        have go : (match rIo i ms env with
          | .ok as env' => ∀ vs G' H' Os', StOk Z.D G' H' env' σ Os' → AVs Z.D G' σ as vs → Stp p2 env G H Os env' G' H' Os' [] → Q vs H'
          | .ex c env' => ∀ G' H' Os', StOk Z.D G' H' env' σ Os' → Stp p2 env G H Os env' G' H' Os' [] → Z.W (.ref (Z.D.CA c)) none σ H'
          | .bad => False) := by
          rw [e1] at q
          cases w <;> first
            | exact q.elim
            | exact q
        unfold rIo Sm.bind at go
        cases e2 : ms env with
        | bad => rw [e2] at go; exact go
        | ex c env2 => rw [e2] at go; exact go
        | ok as env2 =>
          rw [e2] at go
          exact fun vs G' H' Os' s' r t => go (v :: vs) G' H' Os' s' ⟨v, vs, rfl, h1, r⟩ t
      · rw [e1] at q; exact q.elim
end
def takeA : List W → List AV → Option (List W × List W)
  | env, [] => some ([], env)
  | env, .v w :: as => (takeA env as).map fun r => (w :: r.1, r.2)
  | env, .io i :: as => match env[i]? with
    | some .dead => none
    | some w => (takeA (env.set i .dead) as).map fun r => (w :: r.1, r.2)
    | none => none
def putA : List W → List AV → List W → List W
  | env, .io i :: as, w :: ws => putA (env.set i w) as ws
  | env, .v _ :: as, _ :: ws => putA env as ws
  | env, _, _ => env
theorem takeA_ok {D : Dn} {G H : Hp} {σ : St} : ∀ {as : List AV} {vs : List V} {env env0 : List W} {ws : List W} {Os : List (List Addr)}, Sl D G H env σ Os → AVs D G σ as vs → takeA env as = some (ws, env0) →
    ∃ Os0 O, Sl D G H env0 σ Os0 ∧ ROs D G H ws vs O ∧ (Os0.flatten ++ O).Perm Os.flatten
  | [], vs, env, env0, ws, Os, s, h, e => by
    cases e
    rw [show vs = [] from h]
    exact ⟨Os, [], s, ⟨rfl, rfl⟩, by rw [List.append_nil]⟩
  | .v w :: as, vs, env, env0, ws, Os, s, h, e => by
    obtain ⟨x, r, rfl, h1, h2⟩ := h
    have e' : (takeA env as).map (fun r => (w :: r.1, r.2)) = some (ws, env0) := e
    cases e2 : takeA env as with
    | none => rw [e2] at e'; cases e'
    | some q =>
      rw [e2] at e'
      cases e'
      obtain ⟨Os0, O, a1, a2, a3⟩ := takeA_ok s h2 e2
      exact ⟨Os0, O, a1, ⟨x, r, [], O, rfl, rfl, h1.toO, a2⟩, a3⟩
  | .io i :: as, vs, env, env0, ws, Os, s, h, e => by
    obtain ⟨x, r, rfl, h1, h2⟩ := h
    cases e1 : env[i]? with
    | none => simp only [takeA, e1] at e; cases e
    | some w =>
      obtain ⟨sv, Oi, g1, g2, g3⟩ := s.at e1
      rcases g3 with ⟨v, rfl, ro⟩ | ⟨rfl, _⟩
      · rw [h1] at g1
        cases g1
        have e' : (takeA (env.set i .dead) as).map (fun r => (w :: r.1, r.2)) = some (ws, env0) := by
          simp only [takeA, e1] at e
          cases w <;> first
            | exact e
            | (cases e)
        cases e2 : takeA (env.set i .dead) as with
        | none => rw [e2] at e'; cases e'
        | some q =>
          rw [e2] at e'
          cases e'
          have s' : Sl D G H (env.set i .dead) σ (Os.set i []) := by
            have z := Sl.set (D := D) (G := G) (H := H) (w := .dead) (s := some x) (O := []) (.inr ⟨rfl, rfl⟩) i s
            rwa [set_self h1] at z
          obtain ⟨Os0, O, a1, a2, a3⟩ := takeA_ok s' h2 e2
          refine ⟨Os0, Oi ++ O, a1, ⟨x, r, Oi, O, rfl, rfl, ro, a2⟩, ?_⟩
          have pm := flat_set (O' := []) g2
          rw [List.append_nil] at pm
          have h3 : (Os0.flatten ++ (Oi ++ O)).Perm ((Os0.flatten ++ O) ++ Oi) := by
            rw [List.append_assoc]
            exact List.Perm.append_left _ List.perm_append_comm
          exact h3.trans ((a3.append_right _).trans pm)
      · simp only [takeA, e1] at e; cases e
theorem putA_ok {D : Dn} {G H : Hp} {σ : St} {T : List Addr} : ∀ {as : List AV} {vs : List V} {env : List W} {ws : List W} {Os : List (List Addr)} {O : List Addr}, Sl D G H env σ Os → AVs D G σ as vs → ROs D G H ws vs O → (Os.flatten ++ (O ++ T)).Nodup →
    ∃ Os2, Sl D G H (putA env as ws) σ Os2 ∧ (Os2.flatten ++ T).Nodup ∧ ∀ a ∈ Os2.flatten, a ∈ Os.flatten ∨ a ∈ O
  | [], vs, env, ws, Os, O, s, h, r, nd => by
    have e : vs = [] := h
    subst e
    have e2 : ws = [] := List.eq_nil_of_length_eq_zero r.len
    subst e2
    obtain ⟨_, rfl⟩ := r
    exact ⟨Os, s, nd, fun a ha => .inl ha⟩
  | .v w :: as, vs, env, ws, Os, O, s, h, r, nd => by
    obtain ⟨x, r', rfl, h1, h2⟩ := h
    cases ws with
    | nil => exact nomatch r.1
    | cons w2 ws =>
      obtain ⟨v, r2, O1, O2, ev, rfl, h3, h4⟩ := r
      cases ev
      have nd' : (Os.flatten ++ (O2 ++ T)).Nodup := nd.sublist (List.Sublist.append (List.Sublist.refl _) (by rw [List.append_assoc]; exact List.sublist_append_right _ _))
      obtain ⟨Os2, a1, a2, a3⟩ := putA_ok s h2 h4 nd'
      exact ⟨Os2, a1, a2, fun a ha => (a3 a ha).imp id (List.mem_append_right _)⟩
  | .io i :: as, vs, env, ws, Os, O, s, h, r, nd => by
    obtain ⟨x, r', rfl, h1, h2⟩ := h
    cases ws with
    | nil => exact nomatch r.1
    | cons w2 ws =>
      obtain ⟨v, r2, O1, O2, ev, rfl, h3, h4⟩ := r
      cases ev
      have s' : Sl D G H (env.set i w2) σ (Os.set i O1) := by
        have z := Sl.set (D := D) (G := G) (H := H) (w := w2) (s := some x) (O := O1) (.inl ⟨x, rfl, h3⟩) i s
        rwa [set_self h1] at z
      have hi : i < Os.length := by
        rw [s.len.2]
        exact (List.getElem?_eq_some_iff.mp h1).1
      have g2 : Os[i]? = some Os[i] := List.getElem?_eq_getElem hi
      have pm := flat_set (O' := O1) g2
      have nd' : ((Os.set i O1).flatten ++ (O2 ++ T)).Nodup := by
        have q : ((Os.set i O1).flatten ++ Os[i] ++ (O2 ++ T)).Perm (Os.flatten ++ (O1 ++ O2 ++ T)) := by
          rw [List.append_assoc O1, ← List.append_assoc Os.flatten]
          exact pm.append_right _
        have q2 := q.nodup_iff.mpr nd
        rw [List.append_assoc] at q2
        exact q2.sublist (List.Sublist.append (List.Sublist.refl _) (List.sublist_append_right _ _))
      obtain ⟨Os2, a1, a2, a3⟩ := putA_ok s' h2 h4 nd'
      refine ⟨Os2, a1, a2, fun a ha => ?_⟩
      rcases a3 a ha with z | z
      · rcases List.mem_append.mp (pm.mem_iff.mp (List.mem_append_left _ z)) with y | y
        · exact .inl y
        · exact .inr (List.mem_append_left _ y)
      · exact .inr (List.mem_append_right _ z)
def mCall (g : Fn) (n : Nat) (m : Sm (List AV)) : Sm W := Sm.bind m fun as env => if as.length = n then match takeA env as with
  | none => .bad
  | some (ws, env0) => match g ws with
    | .ok w ws' => .ok w (putA env0 as ws')
    | .ex c ws' => .ex c (putA env0 as ws')
    | .bad => .bad
  else .bad
section
variable {Z : Zt} {x : Str} {n k : Nat} {g : Fn} {e : Expr} {es : List Expr} {p : Bool} {p1 p2 : Pos}
theorem me_call {m : Sm (List AV)} (F : FnZ Z x n k g) (hr : Room k Z.X.A) (tk : Takes Z.X Z.W) (ha : MAr Z (e :: es) m p) (hg : Gl Z.X x) (hdb : (x == ("__debug__" : Str)) = false := by decide)
    (he : starEach (e :: es) Z.X.env = (false, eval e Z.X.env) :: starEach es Z.X.env := by rfl) (hpl : (backTo p2 (starEach es Z.X.env)).any (·.1) = false := by rfl)
    : ME Z (.Call (.Name x p1) (e :: es) [] p2) (mCall g n m) false true := by
  obtain ⟨f, fd, ps, F, hm, hk, hb⟩ := F
  refine pe_imp (pe_callS F hr hg hm hk hb (fun σ => passAt tk σ) ha hdb he hpl) fun σ H Q q => ?_
  obtain ⟨env, G, Os, s, q⟩ := q
  refine ⟨env, G, Os, s, ?_⟩
  unfold mCall Sm.bind at q
  cases e1 : m env with
  | bad => rw [e1] at q; exact q
  | ex c env1 =>
    rw [e1] at q
    exact fun G' H' Os' s' t => q G' H' Os' s' t.gen
  | ok as env1 =>
    rw [e1] at q
    intro vs G1 H1 Os1 s1 r1 t1
    by_cases hl : as.length = n
    · simp only [if_pos hl] at q
      cases e2 : takeA env1 as with
      | none => simp only [e2] at q
      | some qq =>
        obtain ⟨ws, env0⟩ := qq
        simp only [e2] at q
        obtain ⟨Os0, O, a1, a2, a3⟩ := takeA_ok s1.sl r1 e2
        have ndO : (Os0.flatten ++ O).Nodup := a3.nodup_iff.mpr s1.nd
        have inO : ∀ a ∈ O, a ∈ Os1.flatten := fun a ha => a3.mem_iff.mp (List.mem_append_right _ ha)
        have in0 : ∀ a ∈ Os0.flatten, a ∈ Os1.flatten := fun a ha => a3.mem_iff.mp (List.mem_append_left _ ha)
        have no0 : ∀ a ∈ Os0.flatten, a ∉ O := fun a ha hb => (List.nodup_append.mp ndO).2.2 a ha a hb rfl
        refine ⟨by rw [← r1.len]; exact hl, ws, G1, O, s1.sub, a2, (List.nodup_append.mp ndO).2.1, fun a ha => s1.gn a (inO a ha), ?_⟩
        -- the state behind the call
        have after : ∀ {ws' : List W} {G' H' : Hp} {O' Ow : List Addr}, Sub G' H' → ROs Z.D G' H' ws' vs O' → (O' ++ Ow).Nodup → (∀ a ∈ O' ++ Ow, G' a = none) → Step G1 H1 O G' H' (O' ++ Ow) →
            ∃ Os', StOk Z.D G' H' (putA env0 as ws') σ Os' ∧ (Os'.flatten ++ Ow).Nodup ∧ Step G1 H1 Os1.flatten G' H' (Os'.flatten ++ Ow) := by
          intro ws' G' H' O' Ow sub ro nd gn st
          have s0 : Sl Z.D G' H' env0 σ Os0 := a1.mono st.mono fun a ha o ho => st.keep a o ho (no0 a ha)
          have nd0 : (Os0.flatten ++ (O' ++ Ow)).Nodup := by
            refine List.nodup_append.mpr ⟨(List.nodup_append.mp ndO).1, nd, fun a ha b hb eab => ?_⟩
            subst eab
            rcases st.new a hb with z | z
            · exact no0 a ha z
            · obtain ⟨o, ho⟩ := s1.there a (in0 a ha)
              rw [ho] at z; cases z
          obtain ⟨Os', b1, b2, b3⟩ := putA_ok s0 (r1.mono st.mono) ro nd0
          have gn0 : ∀ a ∈ Os0.flatten, G' a = none := fun a ha => by
            obtain ⟨o, ho, nt⟩ := s1.thn a (in0 a ha)
            exact st.gnew a o ho (no0 a ha) nt (s1.gn a (in0 a ha))
          refine ⟨Os', ⟨b1, sub, fun a ha => ?_, (List.nodup_append.mp b2).1⟩, b2, ⟨st.mono, fun a o h1 h2 => st.keep a o h1 fun z => h2 (inO a z), fun a o h1 h2 nt => st.gnew a o h1 (fun z => h2 (inO a z)) nt, fun a ha => ?_⟩⟩
          · rcases b3 a ha with z | z
            · exact gn0 a z
            · exact gn a (List.mem_append_left _ z)
          · rcases List.mem_append.mp ha with z | z
            · rcases b3 a z with y | y
              · exact .inl (in0 a y)
              · exact (st.new a (List.mem_append_left _ y)).imp (inO a) id
            · exact (st.new a (List.mem_append_right _ z)).imp (inO a) id
        have t1' : Step G H Os.flatten G1 H1 Os1.flatten := t1.gen.less fun a ha => List.mem_append_left _ ha
        cases e3 : g ws with
        | bad => simp only [e3] at q
        | ex c ws' =>
          simp only [e3] at q
          intro G' H' O' sub ro nd gn st
          obtain ⟨Os', c1, c2, c3⟩ := after (Ow := []) sub ro (by rw [List.append_nil]; exact nd) (by rw [List.append_nil]; exact gn) (by rw [List.append_nil]; exact st)
          exact q G' H' Os' c1 (t1'.trans c3)
        | ok w ws' =>
          simp only [e3] at q
          intro v G' H' O' Ow sub ro r nd gn st
          obtain ⟨Os', c1, c2, c3⟩ := after sub ro nd gn st
          exact q v G' H' Os' Ow c1 r ⟨c2, fun a ha => gn a (List.mem_append_right _ ha)⟩ (t1'.trans c3)
    · simp only [if_neg hl] at q
end

/-! ### frozen -/
/-- what is new and owned is told as frozen -/
def W.fz : W → W
  | .lst _ ws => .lst false ws
  | w => w
def mFz (m : Sm W) : Sm W := Sm.bind m fun w => match w.fz.frz with
  | true => Sm.ret w.fz
  | false => fun _ => .bad
theorem tx_fz {D : Dn} {Wx : WX} {m : Sm W} {p : Bool} {σ : St} {H : Hp} {Q : VK} (q : TX D Wx p true (mFz m) σ H Q) : TX D Wx p true m σ H Q := by
  obtain ⟨env, G, Os, s, q⟩ := q
  refine ⟨env, G, Os, s, ?_⟩
  unfold mFz Sm.bind at q
  cases e1 : m env with
  | bad => rw [e1] at q; exact q
  | ex c env1 => rw [e1] at q; exact q
  | ok w env1 =>
    rw [e1] at q
    intro v G' H' Os' Ow s' r o t
    by_cases hf : w.frz = true
    · have e2 : w.fz = w := by
        cases w <;> first
          | rfl
          | (rename_i b _; cases b <;> first | rfl | exact nomatch hf)
      simp only [e2, hf] at q
      exact q v G' H' Os' Ow s' r o t
    · have key : ∃ ws, w = .lst true ws ∨ w.fz.frz = false := by
        cases w <;> first
          | exact ⟨[], .inr rfl⟩
          | exact absurd rfl hf
          | (rename_i b ws; cases b <;> first | exact ⟨ws, .inl rfl⟩ | exact ⟨[], .inr rfl⟩ | exact absurd rfl hf)
          | (rename_i b ks ws; cases b <;> first | exact ⟨[], .inr rfl⟩ | exact absurd rfl hf)
      obtain ⟨ws, rfl | hff⟩ := key
      · obtain ⟨a, vs, rfl, rfl, h1, h2⟩ := r
        have ha : G' a = none := o.2 a List.mem_cons_self
        have na : ∀ b ∈ Os'.flatten, b ≠ a := fun b hb eab => (List.nodup_append.mp o.1).2.2 b hb a List.mem_cons_self eab
        have mono : Sub G' (upd G' a (.lst vs)) := sub_new ha
        have sub : Sub (upd G' a (.lst vs)) H' := fun b x hb => by
          by_cases e : b = a
          · subst e; rw [upd_same] at hb; cases hb; exact h1
          · rw [upd_ne e] at hb; exact s'.sub b x hb
        have s2 : StOk D (upd G' a (.lst vs)) H' env1 σ Os' := ⟨s'.sl.mono mono fun _ _ _ h => h, sub, fun b hb => by rw [upd_ne (na b hb)]; exact s'.gn b hb, s'.nd⟩
        refine q (.ref a) (upd G' a (.lst vs)) H' Os' [] s2 ⟨rfl, a, vs, rfl, upd_same, RFs.mono mono _ _ h2⟩ (OwnK.nil s2) ?_
        have st : ∀ {O O' : List Addr}, a ∈ O' → Step G H O G' H' O' → (∀ b ∈ O', b ∈ O ∨ H b = none) → (∀ b, H b = none → b = a → True) → True := fun _ _ _ _ => trivial
        cases p with
        | true =>
          obtain ⟨e1, e2, t⟩ := t
          refine ⟨e1, e2, t.mono.trans mono, t.keep, fun b x hb hn nt hg => ?_, fun _ z => nomatch z⟩
          have z := t.gnew b x hb hn nt hg
          have nb : b ≠ a := fun e => by
            subst e
            rcases t.new b List.mem_cons_self with y | y
            · cases y
            · rw [hb] at y; cases y
          rw [upd_ne nb]; exact z
        | false =>
          have t' : Step G H Os.flatten G' H' (Os'.flatten ++ [a]) := t
          show Step G H Os.flatten _ H' (Os'.flatten ++ [])
          refine ⟨t'.mono.trans mono, t'.keep, fun b x hb hn nt hg => ?_, fun b hb => t'.new b (by rw [List.append_nil] at hb; exact List.mem_append_left _ hb)⟩
          have z := t'.gnew b x hb hn nt hg
          have nb : b ≠ a := fun e => by
            subst e
            rcases t'.new b (List.mem_append_right _ List.mem_cons_self) with y | y
            · exact hn y
            · rw [hb] at y; cases y
          rw [upd_ne nb]; exact z
      · simp only [hff] at q
theorem me_fz {Z : Zt} {e : Expr} {m : Sm W} {p : Bool} (h : ME Z e m p true) : ME Z e (mFz m) p true := pe_imp h fun _ _ _ q => tx_fz q
end Ev

namespace Ev
open PySem PySem.Spec L2

/-! ### statements -/
inductive Fl where
  | nx | bk | ct
  | rt (w : W)
def IoS (io : Nat → Bool) (σ σ' : St) : Prop := ∀ i, io i = true → σ'[i]? = σ[i]?
theorem IoS.refl {io : Nat → Bool} (σ : St) : IoS io σ σ := fun _ _ => rfl
theorem IoS.trans {io : Nat → Bool} {σ σ1 σ2 : St} (a : IoS io σ σ1) (b : IoS io σ1 σ2) : IoS io σ σ2 := fun i h => (b i h).trans (a i h)
theorem IoS.set {io : Nat → Bool} {σ : St} {i : Nat} {v : Option V} (h : io i = false) : IoS io σ (σ.set i v) := fun j hj => by
  have : i ≠ j := fun e => by subst e; rw [h] at hj; cases hj
  rw [List.getElem?_set_ne this]
def PostS (D : Dn) (Wx : WX) (io : Nat → Bool) (E : Ends) (σ : St) (G H : Hp) (Os : List (List Addr)) : Out Fl → Prop
  | .ok .nx env' => ∀ σ' G' H' Os', StOk D G' H' env' σ' Os' → Step G H Os.flatten G' H' Os'.flatten → IoS io σ σ' → E.nx σ' H'
  | .ok .bk env' => ∀ σ' G' H' Os', StOk D G' H' env' σ' Os' → Step G H Os.flatten G' H' Os'.flatten → IoS io σ σ' → E.bk σ' H'
  | .ok .ct env' => ∀ σ' G' H' Os', StOk D G' H' env' σ' Os' → Step G H Os.flatten G' H' Os'.flatten → IoS io σ σ' → E.ct σ' H'
  | .ok (.rt w) env' => ∀ v σ' G' H' Os' Ow, StOk D G' H' env' σ' Os' → RO D G' H' w v Ow → OwnK true Os' Ow G' → Step G H Os.flatten G' H' (Os'.flatten ++ Ow) → IoS io σ σ' → E.rt v H'
  | .ex c env' => ∀ σ' G' H' Os', StOk D G' H' env' σ' Os' → Step G H Os.flatten G' H' Os'.flatten → IoS io σ σ' → Wx (.ref (D.CA c)) none σ' H'
  | .bad => False
def TSx (D : Dn) (Wx : WX) (io : Nat → Bool) (m : Sm Fl) : TS := fun E σ H => ∃ (env : List W) (G : Hp) (Os : List (List Addr)), StOk D G H env σ Os ∧ PostS D Wx io E σ G H Os (m env)
abbrev MS (Z : Zt) (st : Stmt) (m : Sm Fl) : Prop := PS Z.X st (TSx Z.D Z.W Z.io m)
abbrev MSs (Z : Zt) (st : List Stmt) (m : Sm Fl) : Prop := PSs Z.X st (TSx Z.D Z.W Z.io m)
theorem ps_imp {X : Cx} {e : Stmt} {t t' : TS} (h : PS X e t) (i : ∀ D σ H, t' D σ H → t D σ H) : PS X e t' := ⟨fun pins s σ H D I w => h.run pins s σ H D I (i D σ H w)⟩
theorem pss_imp {X : Cx} {e : List Stmt} {t t' : TS} (h : PSs X e t) (i : ∀ D σ H, t' D σ H → t D σ H) : PSs X e t' := ⟨fun pins s σ H D I w => h.run pins s σ H D I (i D σ H w)⟩
theorem Stp.st {p : Bool} {env env' : List W} {G H G' H' : Hp} {Os Os' : List (List Addr)} {Ow : List Addr} (h : Stp p env G H Os env' G' H' Os' Ow) : Step G H Os.flatten G' H' Os'.flatten := h.gen.less fun a ha => List.mem_append_left _ ha

/-- the state goes on: from a place reached to the end -/
theorem PostS.on {D : Dn} {Wx : WX} {io : Nat → Bool} {E : Ends} {σ σ1 : St} {G H G1 H1 : Hp} {Os Os1 : List (List Addr)} (t1 : Step G H Os.flatten G1 H1 Os1.flatten) (i1 : IoS io σ σ1) : ∀ {o : Out Fl}, PostS D Wx io E σ G H Os o → PostS D Wx io E σ1 G1 H1 Os1 o
  | .bad, h => h
  | .ex _ _, h => fun σ' G' H' Os' s t i => h σ' G' H' Os' s (t1.trans t) (i1.trans i)
  | .ok .nx _, h => fun σ' G' H' Os' s t i => h σ' G' H' Os' s (t1.trans t) (i1.trans i)
  | .ok .bk _, h => fun σ' G' H' Os' s t i => h σ' G' H' Os' s (t1.trans t) (i1.trans i)
  | .ok .ct _, h => fun σ' G' H' Os' s t i => h σ' G' H' Os' s (t1.trans t) (i1.trans i)
  | .ok (.rt w) _, h => fun v σ' G' H' Os' Ow s r o t i => h v σ' G' H' Os' Ow s r o (t1.trans t) (i1.trans i)
theorem TSx.on {D : Dn} {Wx : WX} {io : Nat → Bool} {m : Sm Fl} {E : Ends} {σ σ1 : St} {env1 : List W} {G H G1 H1 : Hp} {Os Os1 : List (List Addr)} (s1 : StOk D G1 H1 env1 σ1 Os1) (t1 : Step G H Os.flatten G1 H1 Os1.flatten) (i1 : IoS io σ σ1)
    (h : PostS D Wx io E σ G H Os (m env1)) : TSx D Wx io m E σ1 H1 := ⟨env1, G1, Os1, s1, h.on t1 i1⟩

def sNil : Sm Fl := Sm.ret .nx
def sSeq (m1 m2 : Sm Fl) : Sm Fl := Sm.bind m1 fun fl => match fl with
  | .nx => m2
  | fl => Sm.ret fl
section
variable {Z : Zt} {st : Stmt} {rest : List Stmt} {m m1 m2 : Sm Fl} {pos : Pos}
theorem mss_nil : MSs Z [] sNil := pss_imp pss_nil fun E σ H q => by
  obtain ⟨env, G, Os, s, q⟩ := q
  exact q σ G H Os s (Step.refl _ _ _) (IoS.refl _)
theorem mss_one (h : MS Z st m) : MSs Z [st] m := pss_one h
theorem mss_cons (h1 : MS Z st m1) (h2 : MSs Z rest m2) : MSs Z (st :: rest) (sSeq m1 m2) := pss_imp (pss_cons h1 h2) fun E σ H q => by
  obtain ⟨env, G, Os, s, q⟩ := q
  refine ⟨env, G, Os, s, ?_⟩
  unfold sSeq Sm.bind at q
  cases e : m1 env with
  | bad => rw [e] at q; exact q
  | ex c env1 => rw [e] at q; exact q
  | ok fl env1 =>
    rw [e] at q
    cases fl with
    | nx => exact fun σ1 G1 H1 Os1 s1 t1 i1 => TSx.on s1 t1 i1 q
    | bk => exact q
    | ct => exact q
    | rt w => exact q
def sIf (c : Sm Bool) (a b : Sm Fl) : Sm Fl := Sm.bind c fun t => if t = true then a else b
theorem ms_if {c : Expr} {a b : List Stmt} {mc : Sm Bool} {p : Bool} (hc : MT Z c mc p) (ha : MSs Z a m1) (hb : MSs Z b m2) : MS Z (.If c a b pos) (sIf mc m1 m2) := ps_imp (ps_if hc ha hb) fun E σ H q => by
  obtain ⟨env, G, Os, s, q⟩ := q
  refine ⟨env, G, Os, s, ?_⟩
  unfold sIf Sm.bind at q
  cases e : mc env with
  | bad => rw [e] at q; exact q
  | ex c env1 =>
    rw [e] at q
    exact fun G' H' Os' s' t => q σ G' H' Os' s' t.st (IoS.refl _)
  | ok b env1 =>
    rw [e] at q
    intro G1 H1 Os1 s1 t1
    cases b with
    | true =>
      rw [if_pos rfl]
      exact TSx.on s1 t1.st (IoS.refl _) q
    | false =>
      rw [if_neg Bool.false_ne_true]
      exact TSx.on s1 t1.st (IoS.refl _) q
def sDrop (m : Sm W) : Sm Fl := Sm.bind m fun _ => Sm.ret .nx
def sRet (k : Bool) (m : Sm W) : Sm Fl := Sm.bind m fun w => if (k || w.frz) = true then Sm.ret (.rt w) else fun _ => .bad
theorem frz_own {D : Dn} {k : Bool} {w : W} {v : V} {env : List W} {σ : St} {G H : Hp} {Os : List (List Addr)} {Ow : List Addr} (s : StOk D G H env σ Os) (r : RO D G H w v Ow) (o : OwnK k Os Ow G) (h : (k || w.frz) = true) : OwnK true Os Ow G := by
  cases k with
  | true => exact o
  | false =>
    rw [Bool.false_or] at h
    obtain ⟨rfl, _⟩ := r.toF h
    exact OwnK.nil s
theorem kO_of {D : Dn} {G H : Hp} {k : Bool} {w : W} {v : V} {Ow : List Addr} (r : RO D G H w v Ow) (h : (k || w.frz) = true) : ∀ a ∈ Ow, a ∈ kO k Ow := by
  cases k with
  | true => exact fun a ha => ha
  | false =>
    rw [Bool.false_or] at h
    obtain ⟨rfl, _⟩ := r.toF h
    exact fun a ha => ha
variable {e : Expr} {me : Sm W} {p k : Bool}
theorem ms_expr (he : ME Z e me p k) (hs : swapsWith e none pos.line Z.X.env = pure false := by rfl) : MS Z (.Expr e pos) (sDrop me) := ps_imp (ps_expr he hs) fun E σ H q => by
  obtain ⟨env, G, Os, s, q⟩ := q
  refine ⟨env, G, Os, s, ?_⟩
  unfold sDrop Sm.bind at q
  cases e : me env with
  | bad => rw [e] at q; exact q
  | ex c env1 =>
    rw [e] at q
    exact fun G' H' Os' s' t => q σ G' H' Os' s' t.st (IoS.refl _)
  | ok w env1 =>
    rw [e] at q
    exact fun v G' H' Os' Ow s' r o t => q σ G' H' Os' s' t.st (IoS.refl _)
theorem ms_ret (he : ME Z e me p k) : MS Z (.Return (some e) pos) (sRet k me) := ps_imp (ps_ret he) fun E σ H q => by
  obtain ⟨env, G, Os, s, q⟩ := q
  refine ⟨env, G, Os, s, ?_⟩
  unfold sRet Sm.bind at q
  cases e : me env with
  | bad => rw [e] at q; exact q
  | ex c env1 =>
    rw [e] at q
    exact fun G' H' Os' s' t => q σ G' H' Os' s' t.st (IoS.refl _)
  | ok w env1 =>
    rw [e] at q
    intro v G' H' Os' Ow s' r o t
    by_cases hf : (k || w.frz) = true
    · simp only [if_pos hf] at q
      refine q v σ G' H' Os' Ow s' r (frz_own s' r o hf) (t.gen.less fun a ha => ?_) (IoS.refl _)
      exact (List.mem_append.mp ha).elim (List.mem_append_left _) fun z => List.mem_append_right _ (kO_of r hf a z)
    · simp only [if_neg hf] at q
      exact q.elim
/-! ### stores to names -/
def sSet (i : Nat) (k : Bool) (m : Sm W) : Sm Fl := Sm.bind m fun w env => if (k || w.frz) = true then .ok .nx (env.set i w) else .bad
theorem flat_upd {Os : List (List Addr)} {i : Nat} {O : List Addr} (hi : i < Os.length) : ((Os.set i O).flatten ++ Os[i]).Perm (Os.flatten ++ O) := flat_set (List.getElem?_eq_getElem hi)
/-- a name's slot is given what is new -/
theorem StOk.put {D : Dn} {G H : Hp} {env : List W} {σ : St} {Os : List (List Addr)} {w : W} {v : V} {Ow : List Addr} (i : Nat) (hi : i < σ.length) (s : StOk D G H env σ Os) (r : RO D G H w v Ow) (o : OwnK true Os Ow G) :
    StOk D G H (env.set i w) (σ.set i (some v)) (Os.set i Ow) ∧ ∀ a ∈ (Os.set i Ow).flatten, a ∈ Os.flatten ++ Ow := by
  have pm := flat_upd (O := Ow) (by rw [s.sl.len.2]; exact hi : i < Os.length)
  have inn : ∀ a ∈ (Os.set i Ow).flatten, a ∈ Os.flatten ++ Ow := fun a ha => pm.mem_iff.mp (List.mem_append_left _ ha)
  refine ⟨⟨Sl.set (.inl ⟨v, rfl, r⟩) i s.sl, s.sub, fun a ha => ?_, (List.nodup_append.mp (pm.nodup_iff.mpr o.1)).1⟩, inn⟩
  rcases List.mem_append.mp (inn a ha) with z | z
  · exact s.gn a z
  · exact o.2 a z
theorem ms_set {i : Nat} {x : Str} {p2 : Pos} (hN : Z.X.N.Nodup) (he : ME Z e me p k) (hi : Z.X.N[i]? = some x := by rfl) (hx : Loc Z.X.env.scope x := by first | exact Or.inl rfl | exact Or.inr rfl) (hio : Z.io i = false := by rfl) (hs : swapsWith e (some (.Name x p2)) pos.line Z.X.env = pure false := by rfl)
    (hf : Z.X.fn x = true ∨ Z.X.env.scope.names.lookup x = some .local := by first | exact .inl rfl | exact .inr rfl | assumption) : MS Z (.Assign [.Name x p2] e pos) (sSet i k me) := by
  have core := ps_set (X := Z.X) (i := i) (pos' := p2) (pos := pos) hN hi hx he hs hf
  refine ⟨fun pins sh σ H D I q => ?_⟩
  have hlen := I.len
  refine core.run pins sh σ H D I ?_
  obtain ⟨env, G, Os, s, q⟩ := q
  refine ⟨env, G, Os, s, ?_⟩
  unfold sSet Sm.bind at q
  cases e : me env with
  | bad => rw [e] at q; exact q
  | ex c env1 =>
    rw [e] at q
    exact fun G' H' Os' s' t => q σ G' H' Os' s' t.st (IoS.refl _)
  | ok w env1 =>
    rw [e] at q
    intro v G' H' Os' Ow s' r o t
    by_cases hf : (k || w.frz) = true
    · simp only [if_pos hf] at q
      obtain ⟨s2, inn⟩ := s'.put i (by rw [hlen]; exact (List.getElem?_eq_some_iff.mp hi).1) r (frz_own s' r o hf)
      refine q (σ.set i (some v)) G' H' (Os'.set i Ow) s2 (t.gen.less fun a ha => ?_) (IoS.set hio)
      exact (List.mem_append.mp (inn a ha)).elim (List.mem_append_left _) fun z => List.mem_append_right _ (kO_of r hf a z)
    · simp only [if_neg hf] at q
      exact q.elim

end

/-! ### targets: a name; names in a tuple -/
/-- store frozen things by a target -/
abbrev Tg := W → List W → Option (List W)
def TGx (D : Dn) (io : Nat → Bool) (f : Tg) : TG := fun v σ H Q => ∃ (env : List W) (G : Hp) (Os : List (List Addr)) (w : W) (env' : List W), StOk D G H env σ Os ∧ RF D G w v ∧ f w env = some env' ∧ ∀ σ' Os', StOk D G H env' σ' Os' → (∀ a ∈ Os'.flatten, a ∈ Os.flatten) → IoS io σ σ' → σ'.length = σ.length → Q σ' H
abbrev MG (Z : Zt) (t : Expr) (f : Tg) : Prop := PG Z.X t (TGx Z.D Z.io f)
theorem pg_imp {X : Cx} {e : Expr} {t t' : TG} (h : PG X e t) (i : ∀ v σ H Q, t' v σ H Q → t v σ H Q) : PG X e t' := ⟨fun pins s σ H v u Q I r w => h.run pins s σ H v u Q I r (i v σ H Q w)⟩
theorem flat_sub : ∀ {Os : List (List Addr)} {i : Nat}, ∀ a ∈ (Os.set i []).flatten, a ∈ Os.flatten
  | [], _, _, h => h
  | P :: Os, 0, a, h => by
    rw [List.set_cons_zero, List.flatten_cons, List.nil_append] at h
    rw [List.flatten_cons]; exact List.mem_append_right _ h
  | P :: Os, i + 1, a, h => by
    rw [List.set_cons_succ, List.flatten_cons] at h
    rw [List.flatten_cons]
    exact (List.mem_append.mp h).elim (List.mem_append_left _) fun z => List.mem_append_right _ (flat_sub a z)
theorem flat_nd : ∀ {Os : List (List Addr)} {i : Nat}, Os.flatten.Nodup → (Os.set i []).flatten.Nodup
  | [], _, h => h
  | P :: Os, 0, h => by
    rw [List.set_cons_zero, List.flatten_cons, List.nil_append]
    rw [List.flatten_cons] at h
    exact (List.nodup_append.mp h).2.1
  | P :: Os, i + 1, h => by
    rw [List.set_cons_succ, List.flatten_cons]
    rw [List.flatten_cons] at h
    obtain ⟨h1, h2, h3⟩ := List.nodup_append.mp h
    exact List.nodup_append.mpr ⟨h1, flat_nd h2, fun a ha b hb => h3 a ha b (flat_sub b hb)⟩
theorem StOk.putF {D : Dn} {G H : Hp} {env : List W} {σ : St} {Os : List (List Addr)} {w : W} {v : V} (i : Nat) (s : StOk D G H env σ Os) (r : RF D G w v) : StOk D G H (env.set i w) (σ.set i (some v)) (Os.set i []) :=
  ⟨Sl.set (.inl ⟨v, rfl, RO.ofF r⟩) i s.sl, s.sub, fun a ha => s.gn a (flat_sub a ha), flat_nd s.nd⟩
def tgN (i : Nat) : Tg := fun w env => some (env.set i w)
def tgL : List Nat → List W → List W → Option (List W)
  | [], [], env => some env
  | i :: is, w :: ws, env => tgL is ws (env.set i w)
  | _, _, _ => none
def tgT (is : List Nat) : Tg := fun w env => match w with
  | .tup ws => tgL is ws env
  | _ => none
theorem mg_name {Z : Zt} {i : Nat} {x : Str} {pos : Pos} (hN : Z.X.N.Nodup) (hi : Z.X.N[i]? = some x := by rfl) (hx : Loc Z.X.env.scope x := by first | exact Or.inl rfl | exact Or.inr rfl) (hio : Z.io i = false := by rfl)
    (hf : Z.X.fn x = true ∨ Z.X.env.scope.names.lookup x = some .local := by first | exact .inl rfl | exact .inr rfl | assumption) : MG Z (.Name x pos) (tgN i) := pg_imp (pg_name hN hi hx hf) fun v σ H Q q => by
  obtain ⟨env, G, Os, w, env', s, r, e, q⟩ := q
  cases e
  exact q _ _ (s.putF i r) (fun a ha => flat_sub a ha) (IoS.set hio) (List.length_set)
def MGs (Z : Zt) (ts : List Expr) (is : List Nat) : Prop := PGs Z.X ts (fun vs σ H Q => ∃ (env : List W) (G : Hp) (Os : List (List Addr)) (ws : List W) (env' : List W), StOk Z.D G H env σ Os ∧ RFs Z.D G ws vs ∧ tgL is ws env = some env' ∧ ∀ σ' Os', StOk Z.D G H env' σ' Os' → (∀ a ∈ Os'.flatten, a ∈ Os.flatten) → IoS Z.io σ σ' → σ'.length = σ.length → Q σ' H)
theorem pgs_imp {X : Cx} {e : List Expr} {t t' : TGs} (h : PGs X e t) (i : ∀ v σ H Q, t' v σ H Q → t v σ H Q) : PGs X e t' := ⟨fun pins s σ H v u Q I r w => h.run pins s σ H v u Q I r (i v σ H Q w)⟩
theorem mgs_nil {Z : Zt} : MGs Z [] [] := pgs_imp pgs_nil fun vs σ H Q q => by
  obtain ⟨env, G, Os, ws, env', s, r, e, q⟩ := q
  cases ws with
  | nil =>
    cases e
    exact ⟨r, q σ Os s (fun _ h => h) (IoS.refl _) rfl⟩
  | cons _ _ => cases e
theorem mgs_cons {Z : Zt} {i : Nat} {is : List Nat} {x : Str} {pos : Pos} {ts : List Expr} (hN : Z.X.N.Nodup) (ht : MGs Z ts is) (hi : Z.X.N[i]? = some x := by rfl) (hx : Loc Z.X.env.scope x := by first | exact Or.inl rfl | exact Or.inr rfl) (hio : Z.io i = false := by rfl)
    (hf : Z.X.fn x = true ∨ Z.X.env.scope.names.lookup x = some .local := by first | exact .inl rfl | exact .inr rfl | assumption) (hs : (assignEach (.Name x pos :: ts) Z.X.env).map (·.2) = assign (.Name x pos) Z.X.env :: (assignEach ts Z.X.env).map (·.2) := by rfl) :
    MGs Z (.Name x pos :: ts) (i :: is) := pgs_imp (pgs_cons (pg_name hN hi hx hf) ht hs) fun vs σ H Q q => by
  obtain ⟨env, G, Os, ws, env', s, r, e, q⟩ := q
  cases ws with
  | nil => cases e
  | cons w ws =>
    obtain ⟨v, us, rfl, h1, h2⟩ := r
    refine ⟨v, us, rfl, ?_⟩
    exact ⟨env.set i w, G, Os.set i [], ws, env', s.putF i h1, h2, e, fun σ' Os' s' hsub io' hl => q σ' Os' s' (fun a ha => flat_sub a (hsub a ha)) ((IoS.set hio).trans io') (hl.trans List.length_set)⟩
theorem mg_tup {Z : Zt} {es : List Expr} {is : List Nat} {k : Nat} {pos : Pos} (hc : Z.X.calm = true) (h : MGs Z es is) (hn : (assignEach es Z.X.env).length = is.length := by rfl) (hst : (assignEach es Z.X.env).findIdx? (·.1) = none := by rfl) : MG Z (.Tuple es k pos) (tgT is) :=
  pg_imp (pg_tup hc h hn hst) fun v σ H Q q => by
    obtain ⟨env, G, Os, w, env', s, r, e, q⟩ := q
    cases w with
    | tup ws =>
      obtain ⟨a, vs, rfl, h1, h2⟩ := r
      refine ⟨a, vs, rfl, s.sub.sqT h1, ?_, env, G, Os, ws, env', s, h2, e, q⟩
      rw [← h2.len]
      have key : ∀ (is : List Nat) (ws env env' : List W), tgL is ws env = some env' → ws.length = is.length := by
        intro is
        induction is with
        | nil =>
          intro ws env env' h
          cases ws with
          | nil => rfl
          | cons _ _ => cases h
        | cons i is ih =>
          intro ws env env' h
          cases ws with
          | nil => cases h
          | cons w ws => simp [ih ws _ _ h]
      exact key is ws env env' e
    | _ => cases e
/-- target = e -/
def sAsg (f : Tg) (m : Sm W) : Sm Fl := Sm.bind m fun w env => if w.frz = true then match f w env with
  | some env' => .ok .nx env'
  | none => .bad
  else .bad
/-- x += e of ints -/
def sAug (i : Nat) (f : Int → Int → Int) (m : Sm W) : Sm Fl := fun env => match env[i]? with
  | some (.int a) => match m env with
    | .ok (.int b) env' => .ok .nx (env'.set i (.int (f a b)))
    | .ok _ _ => .bad
    | .ex c env' => .ex c env'
    | .bad => .bad
  | _ => .bad
/-! ### what is walked -/
def Walks (D : Dn) (J : It) (ws : List W) (G0 : Hp) : Prop := ∀ (i : Nat) (G H : Hp), Sub G0 G → Sub G H →
  (∀ x, ws[i]? = some x → J.go i H ∧ ∀ v H', J.yld i H v H' → ∃ G', Step G H [] G' H' [] ∧ Sub G' H' ∧ RF D G' x v) ∧ (ws.length ≤ i → J.stop i H)
def TIx (D : Dn) (Wx : WX) (p : Bool) (m : Sm (List W)) : TI := fun σ H R => ∃ (env : List W) (G : Hp) (Os : List (List Addr)), StOk D G H env σ Os ∧ match m env with
  | .ok ws env' => ∀ J G' H' Os', StOk D G' H' env' σ Os' → Stp p env G H Os env' G' H' Os' [] → Walks D J ws G' → R J H'
  | .ex c env' => ∀ G' H' Os', StOk D G' H' env' σ Os' → Stp p env G H Os env' G' H' Os' [] → Wx (.ref (D.CA c)) none σ H'
  | .bad => False
abbrev MI (Z : Zt) (tg it : Expr) (m : Sm (List W)) (p : Bool) : Prop := PI Z.X tg it (TIx Z.D Z.W p m)
theorem pi_imp {X : Cx} {tg e : Expr} {t t' : TI} (h : PI X tg e t) (i : ∀ σ H R, t' σ H R → t σ H R) : PI X tg e t' := ⟨fun pins s σ H R I w => h.run pins s σ H R I (i σ H R w)⟩
/-- the items of a frozen list -/
def frzL : W → Option (List W)
  | .lst false ws => some ws
  | .scr ws => some ws
  | _ => none
theorem walks_list {D : Dn} {G0 : Hp} {a : Addr} {ws : List W} {vs : List V} (h : SqL D.K G0 a vs) (r : RFs D G0 ws vs) : Walks D (Itl D.K a) ws G0 := fun i G H s0 s => by
  have hs : SqL D.K H a vs := s.sqL (s0.sqL h)
  refine ⟨fun x e => ?_, fun hl => ⟨vs, hs, by rw [← r.len]; exact hl⟩⟩
  obtain ⟨v, h1, h2⟩ := r.get e
  refine ⟨⟨vs, v, hs, h1⟩, fun v' H' y => ?_⟩
  obtain ⟨rfl, y⟩ := y
  have e2 : v' = v := Option.some.inj ((y vs hs).symm.trans h1)
  subst e2
  exact ⟨G, Step.refl _ _ _, s, RF.mono s0 _ _ h2⟩
def iLst (m : Sm W) : Sm (List W) := Sm.bind m fun w => lft (frzL w)
theorem mi_list {Z : Zt} {tg e : Expr} {m : Sm W} {p k : Bool} (h : ME Z e m p k) : MI Z tg e (iLst m) p := pi_imp (pi_list h) fun σ H R q => by
  obtain ⟨env, G, Os, s, q⟩ := q
  refine ⟨env, G, Os, s, ?_⟩
  unfold iLst Sm.bind lft at q
  cases e : m env with
  | bad => rw [e] at q; exact q
  | ex c env1 => rw [e] at q; exact q
  | ok w env1 =>
    rw [e] at q
    intro v G' H' Os' Ow s' r o t
    have t' := t.less (O2 := []) kO_less
    cases w with
    | lst b ws =>
      cases b with
      | true => exact q.elim
      | false =>
        obtain ⟨rfl, a, vs, rfl, h1, h2⟩ := r
        exact ⟨a, rfl, ⟨vs, SqL.of (s'.sub _ _ h1)⟩, q _ G' H' Os' s' t' (walks_list (SqL.of h1) h2)⟩
    | scr ws =>
      obtain ⟨rfl, a, vs, rfl, h1, h2⟩ := r
      exact ⟨a, rfl, ⟨vs, s'.sub.sqL h1⟩, q _ G' H' Os' s' t' (walks_list h1 h2)⟩
    | _ => exact q.elim
/-- ranges -/
def rngL (lo : Int) (n : Nat) : List W := (List.range n).map fun i => .int (lo + (i : Nat))
theorem walks_rng {D : Dn} {G0 : Hp} {lo : Int} {n : Nat} : Walks D (Itr lo n) (rngL lo n) G0 := fun i G H s0 s => by
  have hlen : (rngL lo n).length = n := by unfold rngL; rw [List.length_map, List.length_range]
  refine ⟨fun x e => ?_, fun hl => by rw [hlen] at hl; exact hl⟩
  have hi : i < n := by rw [← hlen]; exact (List.getElem?_eq_some_iff.mp e).1
  refine ⟨hi, fun v H' y => ?_⟩
  obtain ⟨rfl, rfl⟩ := y
  refine ⟨G, Step.refl _ _ _, s, ?_⟩
  unfold rngL at e
  rw [List.getElem?_map, List.getElem?_range hi] at e
  cases e
  rfl
def rngOk (i : Int) : Prop := -(2 ^ 62) ≤ i ∧ i < 2 ^ 62
noncomputable instance {i : Int} : Decidable (rngOk i) := Classical.propDecidable _
noncomputable def rng1 : List W → Option (List W)
  | [.int j] => if rngOk j then some (rngL 0 j.toNat) else none
  | _ => none
noncomputable def rng2 : List W → Option (List W)
  | [.int i, .int j] => if rngOk i ∧ rngOk j then some (rngL i (j - i).toNat) else none
  | _ => none
def iArgs (f : List W → Option (List W)) (m : Sm (List W)) : Sm (List W) := Sm.bind m fun ws => lft (f ws)
theorem ta_iter {D : Dn} {Wx : WX} {f : List W → Option (List W)} {m : Sm (List W)} {p : Bool} {σ : St} {H : Hp} {R : It → Hp → Prop} {r : List V → Hp → (It → Hp → Prop) → Prop}
    (o : ∀ (G H : Hp) (ws xs : List W) (vs : List V) (R : It → Hp → Prop), Sub G H → RFs D G ws vs → f ws = some xs → (∀ J, Walks D J xs G → R J H) → r vs H R) (q : TIx D Wx p (iArgs f m) σ H R) : TA' D Wx p m σ H fun vs H1 => r vs H1 R := by
  obtain ⟨env, G, Os, s, q⟩ := q
  refine ⟨env, G, Os, s, ?_⟩
  unfold iArgs Sm.bind lft at q
  cases e : m env with
  | bad => rw [e] at q; exact q
  | ex c env1 => rw [e] at q; exact q
  | ok ws env1 =>
    rw [e] at q
    intro vs G' H' Os' s' rr t
    cases e2 : f ws with
    | none => simp only [e2] at q
    | some xs =>
      simp only [e2] at q
      exact o G' H' ws xs vs R s'.sub rr e2 fun J w => q J G' H' Os' s' t w
section
variable {Z : Zt} {tg a b c : Expr} {m : Sm (List W)} {p : Bool} {p1 p2 : Pos}
theorem RFs.int1 {D : Dn} {G : Hp} {i : Int} {vs : List V} (h : RFs D G [.int i] vs) : vs = [.int i] := RFs.ints (ns := [i]) h
theorem mi_range1 (hm : Z.X.mg "range" = none) (ha : MA Z [a] m p) (hg : Gl Z.X "range" := by rfl) (hs : starEach [a] Z.X.env = [(false, eval a Z.X.env)] := by rfl) : MI Z tg (.Call (.Name "range" p1) [a] [] p2) (iArgs rng1 m) p :=
  pi_imp (pi_range1 hg hm ha hs) fun σ H R q => ta_iter (r := fun vs H1 R => ∃ j : Int, vs = [.int j] ∧ -(2 ^ 62) ≤ j ∧ j < 2 ^ 62 ∧ R (Itr 0 j.toNat) H1) (fun G H ws xs vs R s r e q => by
    unfold rng1 at e
    split at e
    · rename_i j
      by_cases h : rngOk j
      · rw [if_pos h] at e
        cases e
        exact ⟨j, r.int1, h.1, h.2, q _ walks_rng⟩
      · rw [if_neg h] at e; cases e
    · cases e) q
def enumL : List W → Option (List W)
  | [w] => (frzL w).map fun ws => ws.zipIdx.map fun q => .tup [.int (q.2 : Nat), q.1]
  | _ => none
theorem frzL_at {D : Dn} {G : Hp} {w : W} {v : V} {ws : List W} (r : RF D G w v) (e : frzL w = some ws) : ∃ a vs, v = .ref a ∧ SqL D.K G a vs ∧ RFs D G ws vs := by
  cases w with
  | lst b xs =>
    cases b with
    | true => cases e
    | false =>
      cases e
      obtain ⟨a, vs, rfl, h1, h2⟩ := r
      exact ⟨a, vs, rfl, SqL.of h1, h2⟩
  | scr xs =>
    cases e
    obtain ⟨a, vs, rfl, h1, h2⟩ := r
    exact ⟨a, vs, rfl, h1, h2⟩
  | _ => cases e
theorem walks_zip {D : Dn} {G0 : Hp} {a b : Addr} {ws xs : List W} {vs us : List V} (h : SqL D.K G0 a vs) (r : RFs D G0 ws vs) (h' : SqL D.K G0 b us) (r' : RFs D G0 xs us) : Walks D (Itz D.K a b) ((ws.zip xs).map fun q => .tup [q.1, q.2]) G0 := fun i G H s0 s => by
  have hs : SqL D.K H a vs := s.sqL (s0.sqL h)
  have hs' : SqL D.K H b us := s.sqL (s0.sqL h')
  refine ⟨fun x e => ?_, fun hl => ⟨vs, us, hs, hs', ?_⟩⟩
  · rw [List.getElem?_map] at e
    cases e1 : (ws.zip xs)[i]? with
    | none => rw [e1] at e; cases e
    | some w =>
      rw [e1] at e
      cases e
      obtain ⟨k1, k2⟩ := List.getElem?_zip_eq_some.mp e1
      obtain ⟨v, h1, h2⟩ := r.get k1
      obtain ⟨u, g1, g2⟩ := r'.get k2
      refine ⟨⟨vs, us, v, u, hs, hs', h1, g1⟩, fun v' H' y => ?_⟩
      obtain ⟨T, x, y', rfl, nT, rfl, y1, y2⟩ := y
      have e2 : x = v := Option.some.inj ((y1 vs hs).symm.trans h1)
      have e3 : y' = u := Option.some.inj ((y2 us hs').symm.trans g1)
      subst e2 e3
      have st := step_frz (o := .tup [x, y']) s nT
      refine ⟨_, st, sub_upd2 s, T, _, rfl, SqT.of upd_same, ?_⟩
      exact ⟨_, _, rfl, RF.mono (s0.trans st.mono) _ _ h2, _, _, rfl, RF.mono (s0.trans st.mono) _ _ g2, rfl⟩
  · rw [List.length_map, List.length_zip] at hl
    rw [← r.len, ← r'.len]
    omega
def zipL : List W → Option (List W)
  | [w, x] => (frzL w).bind fun ws => (frzL x).map fun xs => (ws.zip xs).map fun q => .tup [q.1, q.2]
  | _ => none
end
end Ev

namespace Ev
open PySem PySem.Spec L2

/-! ### slots forgotten -/
def killE : List Nat → List W → List W
  | [], env => env
  | i :: is, env => killE is (env.set i .dead)
def killO : List Nat → List (List Addr) → List (List Addr)
  | [], Os => Os
  | i :: is, Os => killO is (Os.set i [])
theorem Sl.kill1 {D : Dn} {G H : Hp} : ∀ {env : List W} {σ : St} {Os : List (List Addr)} (i : Nat), Sl D G H env σ Os → Sl D G H (env.set i .dead) σ (Os.set i [])
  | [], _, _, _, h => by rw [h.1, h.2]; exact ⟨rfl, rfl⟩
  | _ :: env, _, _, 0, h => by
    obtain ⟨s', σ', O', Os', rfl, rfl, h1, h2⟩ := h
    exact ⟨s', σ', [], Os', rfl, rfl, .inr ⟨rfl, rfl⟩, h2⟩
  | _ :: env, _, _, i + 1, h => by
    obtain ⟨s', σ', O', Os', rfl, rfl, h1, h2⟩ := h
    exact ⟨s', σ', O', _, rfl, rfl, h1, Sl.kill1 i h2⟩
theorem killO_sub : ∀ {is : List Nat} {Os : List (List Addr)}, ∀ a ∈ (killO is Os).flatten, a ∈ Os.flatten
  | [], _, _, h => h
  | i :: is, Os, a, h => flat_sub a (killO_sub a h)
theorem killO_nd : ∀ {is : List Nat} {Os : List (List Addr)}, Os.flatten.Nodup → (killO is Os).flatten.Nodup
  | [], _, h => h
  | i :: is, Os, h => killO_nd (is := is) (Os := Os.set i []) (flat_nd h)
theorem Sl.kill {D : Dn} {G H : Hp} : ∀ (is : List Nat) {env : List W} {σ : St} {Os : List (List Addr)}, Sl D G H env σ Os → Sl D G H (killE is env) σ (killO is Os)
  | [], _, _, _, h => h
  | i :: is, _, _, _, h => Sl.kill is (h.kill1 i)
theorem StOk.kill {D : Dn} {G H : Hp} {env : List W} {σ : St} {Os : List (List Addr)} (is : List Nat) (s : StOk D G H env σ Os) : StOk D G H (killE is env) σ (killO is Os) :=
  ⟨s.sl.kill is, s.sub, fun a ha => s.gn a (killO_sub a ha), killO_nd s.nd⟩

/-! ### for -/
def mFor (f : Tg) (body : Sm Fl) (kill : List Nat) : List W → Sm Fl
  | [], env => .ok .nx env
  | x :: xs, env => match f x env with
    | none => .bad
    | some env1 => match body env1 with
      | .ok .nx env2 => mFor f body kill xs (killE kill env2)
      | .ok .ct env2 => mFor f body kill xs (killE kill env2)
      | .ok .bk env2 => .ok .nx env2
      | .ok (.rt w) env2 => .ok (.rt w) env2
      | .ex c env2 => .ex c env2
      | .bad => .bad
def sFor (f : Tg) (body : Sm Fl) (kill : List Nat) (mi : Sm (List W)) : Sm Fl := Sm.bind mi fun ws => mFor f body kill ws
theorem ms_for {Z : Zt} {tg it : Expr} {body : List Stmt} {f : Tg} {mb : Sm Fl} {mi : Sm (List W)} {p : Bool} {pos : Pos} (kill : List Nat) (hp : PassesOwn (model Z.X.prog Z.X.w) Z.X.A Z.X.env Z.X.xe) (hc : Z.X.calm = true) (hi : MI Z tg it mi p) (hg : MG Z tg f) (hb : MSs Z body mb)
    (hs : ∀ x, foldedSetIterable it Z.X.env x = pure x := by intro _; rfl) : MS Z (.For tg it body [] pos) (sFor f mb kill mi) := ps_imp (ps_for hp hc hi hg hb hs) fun E σ H q => by
  obtain ⟨env, G, Os, s, q⟩ := q
  refine ⟨env, G, Os, s, ?_⟩
  unfold sFor Sm.bind at q
  cases e : mi env with
  | bad => rw [e] at q; exact q
  | ex c env1 =>
    rw [e] at q
    exact fun G' H' Os' s' t => q σ G' H' Os' s' t.st (IoS.refl _)
  | ok ws env1 =>
    rw [e] at q
    intro J G1 H1 Os1 s1 t1 wk
    have q1 : PostS Z.D Z.W Z.io E σ G1 H1 Os1 (mFor f mb kill ws env1) := PostS.on t1.st (IoS.refl _) q
    refine ⟨fun i m σ' H' => m = ws.length - i ∧ i ≤ ws.length ∧ ∃ env' G' Os', StOk Z.D G' H' env' σ' Os' ∧ Sub G1 G' ∧ PostS Z.D Z.W Z.io E σ' G' H' Os' (mFor f mb kill (ws.drop i) env'),
      ⟨ws.length, rfl, Nat.zero_le _, env1, G1, Os1, s1, Sub.refl _, q1⟩, ?_⟩
    rintro i m σ2 H2 ⟨rfl, hi, env2, G2, Os2, s2, sub, q2⟩
    obtain ⟨w1, w2⟩ := wk i G2 H2 sub s2.sub
    by_cases hl : i < ws.length
    · have ei : ws[i]? = some ws[i] := List.getElem?_eq_getElem hl
      obtain ⟨go, yl⟩ := w1 _ ei
      rw [List.drop_eq_getElem_cons hl] at q2
      refine .inr ⟨go, fun σ3 H3 => ∃ env3 G3 Os3, StOk Z.D G3 H3 env3 σ3 Os3 ∧ Sub G1 G3 ∧ PostS Z.D Z.W Z.io E σ3 G3 H3 Os3 (mFor f mb kill (ws.drop (i + 1)) env3), fun σ3 H3 ⟨env3, G3, Os3, s3, sub3, q3⟩ => ⟨ws.length - (i + 1), by omega, rfl, hl, env3, G3, Os3, s3, sub3, q3⟩, fun v H3 y => ?_⟩
      obtain ⟨G3, t3, sub3, r3⟩ := yl v H3 y
      have s3 := s2.step t3 sub3
      unfold mFor at q2
      cases ef : f ws[i] env2 with
      | none => simp only [ef] at q2; exact q2.elim
      | some env3 =>
        simp only [ef] at q2
        have t3' : Step G2 H2 Os2.flatten G3 H3 Os2.flatten := by
          have z := t3.pure0 (O := Os2.flatten)
          rwa [List.append_nil] at z
        refine ⟨env2, G3, Os2, ws[i], env3, s3, r3, ef, fun σ4 Os4 s4 hsub io4 _ => ⟨env3, G3, Os4, s4, ?_⟩⟩
        have t4 : Step G2 H2 Os2.flatten G3 H3 Os4.flatten := t3'.less hsub
        have again : ∀ {env5 : List W}, PostS Z.D Z.W Z.io E σ2 G2 H2 Os2 (mFor f mb kill (ws.drop (i + 1)) (killE kill env5)) → ∀ σ' G' H' Os', StOk Z.D G' H' env5 σ' Os' → Step G3 H3 Os4.flatten G' H' Os'.flatten → IoS Z.io σ4 σ' →
            ∃ env3 G3 Os3, StOk Z.D G3 H' env3 σ' Os3 ∧ Sub G1 G3 ∧ PostS Z.D Z.W Z.io E σ' G3 H' Os3 (mFor f mb kill (ws.drop (i + 1)) env3) := fun {env5} q5 σ' G' H' Os' s' t' io' => by
          refine ⟨killE kill env5, G', killO kill Os', s'.kill kill, (sub.trans t3.mono).trans t'.mono, ?_⟩
          exact PostS.on ((t4.trans t').less fun a ha => killO_sub a ha) (io4.trans io') q5
        cases eb : mb env3 with
        | bad => simp only [eb] at q2; exact q2
        | ex c env5 =>
          simp only [eb] at q2
          exact fun σ' G' H' Os' s' t' io' => q2 σ' G' H' Os' s' (t4.trans t') (io4.trans io')
        | ok fl env5 =>
          cases fl with
          | nx => simp only [eb] at q2; exact again q2
          | ct => simp only [eb] at q2; exact again q2
          | bk =>
            simp only [eb] at q2
            exact fun σ' G' H' Os' s' t' io' => q2 σ' G' H' Os' s' (t4.trans t') (io4.trans io')
          | rt w =>
            simp only [eb] at q2
            exact fun v σ' G' H' Os' Ow s' r o t' io' => q2 v σ' G' H' Os' Ow s' r o (t4.trans t') (io4.trans io')
    · have e2 : i = ws.length := by omega
      subst e2
      rw [List.drop_length] at q2
      exact .inl ⟨w2 (Nat.le_refl _), q2 σ2 G2 H2 Os2 s2 (Step.refl _ _ _) (IoS.refl _)⟩

/-! ### comprehensions -/
theorem Sl.ofAt {D : Dn} {G H : Hp} : ∀ {env : List W} {σ : St} {Os : List (List Addr)}, env.length = σ.length → Os.length = σ.length → (∀ (i : Nat) (w : W) (s : Option V) (O : List Addr), env[i]? = some w → σ[i]? = some s → Os[i]? = some O → SR D G H w s O) → Sl D G H env σ Os
  | [], σ, Os, h1, h2, _ => by
    have e1 : σ = [] := List.eq_nil_of_length_eq_zero h1.symm
    subst e1
    exact ⟨rfl, List.eq_nil_of_length_eq_zero h2⟩
  | w :: env, [], _, h1, _, _ => nomatch h1
  | w :: env, s :: σ, [], _, h2, _ => nomatch h2
  | w :: env, s :: σ, O :: Os, h1, h2, h => ⟨s, σ, O, Os, rfl, rfl, h 0 w s O rfl rfl rfl, Sl.ofAt (Nat.succ.inj h1) (Nat.succ.inj h2) fun i w' s' O' a b c => h (i + 1) w' s' O' a b c⟩
theorem killE_at : ∀ {is : List Nat} {env : List W} {i : Nat}, i ∉ is → (killE is env)[i]? = env[i]?
  | [], _, _, _ => rfl
  | j :: is, env, i, h => by
    rw [killE, killE_at (List.not_mem_of_not_mem_cons h), List.getElem?_set_ne (fun e => h (by rw [e]; exact List.mem_cons_self))]
theorem killO_at : ∀ {is : List Nat} {Os : List (List Addr)} {i : Nat}, i ∉ is → (killO is Os)[i]? = Os[i]?
  | [], _, _, _ => rfl
  | j :: is, env, i, h => by
    rw [killO, killO_at (List.not_mem_of_not_mem_cons h), List.getElem?_set_ne (fun e => h (by rw [e]; exact List.mem_cons_self))]
theorem killE_len : ∀ {is : List Nat} {env : List W}, (killE is env).length = env.length
  | [], _ => rfl
  | j :: is, env => by rw [killE, killE_len, List.length_set]
theorem killO_len : ∀ {is : List Nat} {env : List (List Addr)}, (killO is env).length = env.length
  | [], _ => rfl
  | j :: is, env => by rw [killO, killO_len, List.length_set]
theorem killE_in : ∀ {is : List Nat} {env : List W} {i : Nat} {w : W}, i ∈ is → (killE is env)[i]? = some w → w = .dead
  | j :: is, env, i, w, h, e => by
    by_cases hi : i ∈ is
    · exact killE_in (env := env.set j .dead) hi e
    · rw [killE, killE_at hi] at e
      have ej : i = j := (List.mem_cons.mp h).resolve_right hi
      subst ej
      by_cases hl : i < env.length
      · rw [List.getElem?_set_self hl] at e; exact (Option.some.inj e).symm
      · rw [List.getElem?_eq_none (by rw [List.length_set]; omega)] at e; cases e
theorem killO_in : ∀ {is : List Nat} {env : List (List Addr)} {i : Nat} {w : List Addr}, i ∈ is → (killO is env)[i]? = some w → w = []
  | j :: is, env, i, w, h, e => by
    by_cases hi : i ∈ is
    · exact killO_in (env := env.set j []) hi e
    · rw [killO, killO_at hi] at e
      have ej : i = j := (List.mem_cons.mp h).resolve_right hi
      subst ej
      by_cases hl : i < env.length
      · rw [List.getElem?_set_self hl] at e; exact (Option.some.inj e).symm
      · rw [List.getElem?_eq_none (by rw [List.length_set]; omega)] at e; cases e
/-- the killed slots may hold what they will -/
theorem Sl.re {D : Dn} {G H : Hp} {env : List W} {σ σ' : St} {Os : List (List Addr)} {vs : List Nat} (s : Sl D G H env σ Os) (hl : σ'.length = σ.length) (h : ∀ i, i ∉ vs → σ'[i]? = σ[i]?) : Sl D G H (killE vs env) σ' (killO vs Os) := by
  obtain ⟨l1, l2⟩ := s.len
  refine Sl.ofAt (by rw [killE_len, hl]; exact l1) (by rw [killO_len, hl]; exact l2) fun i w x O e1 e2 e3 => ?_
  by_cases hi : i ∈ vs
  · exact .inr ⟨killE_in hi e1, killO_in hi e3⟩
  · rw [killE_at hi] at e1
    rw [killO_at hi] at e3
    rw [h i hi] at e2
    obtain ⟨x', O', g1, g2, g3⟩ := s.at e1
    rw [e2] at g1
    rw [e3] at g2
    cases g1
    cases g2
    exact g3
theorem StOk.re {D : Dn} {G H : Hp} {env : List W} {σ σ' : St} {Os : List (List Addr)} {vs : List Nat} (s : StOk D G H env σ Os) (hl : σ'.length = σ.length) (h : ∀ i, i ∉ vs → σ'[i]? = σ[i]?) : StOk D G H (killE vs env) σ' (killO vs Os) :=
  ⟨s.sl.re hl h, s.sub, fun a ha => s.gn a (killO_sub a ha), killO_nd s.nd⟩
theorem wipe_at {σ : St} : ∀ {vs : List Nat} {i : Nat}, i ∉ vs → (wipe σ vs)[i]? = σ[i]?
  | [], _, _ => rfl
  | j :: vs, i, h => by
    show ((wipe σ vs).set j none)[i]? = _
    rw [List.getElem?_set_ne (fun e => h (by rw [e]; exact List.mem_cons_self)), wipe_at (List.not_mem_of_not_mem_cons h)]
theorem wipe_in {σ : St} : ∀ {vs : List Nat} {i : Nat}, i ∈ vs → i < σ.length → (wipe σ vs)[i]? = some none
  | j :: vs, i, h, hl => by
    show ((wipe σ vs).set j none)[i]? = _
    by_cases e : j = i
    · subst e
      rw [List.getElem?_set_self (by rw [wipe_length]; exact hl)]
    · rw [List.getElem?_set_ne e]
      exact wipe_in ((List.mem_cons.mp h).resolve_left (fun z => e z.symm)) hl
theorem wipe_eq {σ σ' : St} {vs : List Nat} (hl : σ'.length = σ.length) (h : ∀ i, i ∉ vs → σ'[i]? = σ[i]?) : wipe σ' vs = wipe σ vs := by
  refine List.ext_getElem? fun i => ?_
  by_cases hi : i ∈ vs
  · by_cases hb : i < σ.length
    · rw [wipe_in hi hb, wipe_in hi (by rw [hl]; exact hb)]
    · rw [List.getElem?_eq_none (by rw [wipe_length]; omega), List.getElem?_eq_none (by rw [wipe_length]; omega)]
  · rw [wipe_at hi, wipe_at hi, h i hi]

def mLc (f : Tg) (tt : Sm Bool) (te : Sm W) (vs : List Nat) : List W → List W → Sm (List W)
  | [], acc, env => .ok acc (killE vs env)
  | x :: xs, acc, env => match f x (killE vs env) with
    | none => .bad
    | some env1 => match tt env1 with
      | .ok false env2 => mLc f tt te vs xs acc env2
      | .ok true env2 => match te env2 with
        | .ok y env3 => if y.frz = true ∧ acc.length < sizeLine then mLc f tt te vs xs (acc ++ [y]) env3 else .bad
        | _ => .bad
      | _ => .bad
def mComp (p : Bool) (f : Tg) (tt : Sm Bool) (te : Sm W) (vs : List Nat) (mi : Sm (List W)) : Sm W := Sm.bind mi fun ws env => match mLc f tt te vs ws [] env with
  | .ok ys env' => .ok (.lst true ys) (cond p env env')
  | _ => .bad
abbrev W0 : WX := fun _ _ _ _ => False
abbrev ioB (vs : List Nat) : Nat → Bool := fun i => !vs.contains i
theorem step_updNew {G H G' H' : Hp} {O O' : List Addr} {d : Addr} {o : HO} (t : Step G H O G' H' O') (n : H d = none) : Step G H O G' (upd H' d o) O' :=
  ⟨t.mono, fun a x h hn => by rw [upd_ne (ne_of_none h n)]; exact t.keep a x h hn, t.gnew, t.new⟩
theorem StOk.updD {D : Dn} {G H : Hp} {env : List W} {σ : St} {Os : List (List Addr)} {d : Addr} {o : HO} (s : StOk D G H env σ Os) (g : G d = none) (n : d ∉ Os.flatten) : StOk D G (upd H d o) env σ Os :=
  ⟨s.sl.mono (Sub.refl _) fun a ha x h => by rw [upd_ne (fun e => n (by rw [← e]; exact ha))]; exact h, fun a x h => by rw [upd_ne (ne_of_none h g)]; exact s.sub a x h, s.gn, s.nd⟩
/-- what the walk of a comprehension keeps -/
structure LcI (D : Dn) (p : Bool) (vs : List Nat) (G1 H1 : Hp) (Os1 : List (List Addr)) (d : Addr) (σ : St) (acc : List W) (env : List W) (H : Hp) (G : Hp) (Os : List (List Addr)) (σ2 : St) : Prop where
  st : StOk D G H env σ2 Os
  len : σ2.length = σ.length
  out : ∀ i, i ∉ vs → σ2[i]? = σ[i]?
  dg : G d = none
  dn : d ∉ Os.flatten
  dl : ∃ va, H d = some (.lst va) ∧ RFs D G acc va
  step : Step G1 H1 (cond p [] Os1.flatten) G H (cond p [] Os.flatten)
theorem LcI.next {D : Dn} {p q : Bool} {vs : List Nat} {G1 H1 : Hp} {Os1 : List (List Addr)} {d : Addr} {σ : St} {acc env : List W} {H G : Hp} {Os : List (List Addr)} {σ2 : St} {env' : List W} {G' H' : Hp} {Os' : List (List Addr)}
    (I : LcI D p vs G1 H1 Os1 d σ acc env H G Os σ2) (hpq : p = true → q = true) (s : StOk D G' H' env' σ2 Os') (t : Stp q env G H Os env' G' H' Os' []) : LcI D p vs G1 H1 Os1 d σ acc env' H' G' Os' σ2 := by
  obtain ⟨va, hd, ra⟩ := I.dl
  have tg := t.st
  refine ⟨s, I.len, I.out, tg.gnew d _ hd I.dn (fun _ z => nomatch z) I.dg, fun z => ?_, ⟨va, tg.keep d _ hd I.dn, RFs.mono tg.mono _ _ ra⟩, ?_⟩
  · rcases tg.new d z with y | y
    · exact I.dn y
    · rw [hd] at y; cases y
  · cases p with
    | true =>
      have hq := hpq rfl
      subst hq
      exact I.step.trans t.2.2
    | false => exact I.step.trans tg
theorem tx_lc {D : Dn} {Wx : WX} {f : Tg} {tt : Sm Bool} {te : Sm W} {mi : Sm (List W)} {vs : List Nat} {p pt pe kk : Bool} {σ : St} {H : Hp} {Q : VK}
    (q : TX D Wx (p && (pt && pe)) true (mComp (pt && pe) f tt te vs mi) σ H Q) : tLc (TIx D Wx p mi) (TGx D (ioB vs) f) (TT' D W0 pt tt) (TX D W0 pe kk te) vs σ H Q := by
  obtain ⟨env, G, Os, s, q⟩ := q
  refine ⟨env, G, Os, s, ?_⟩
  unfold mComp Sm.bind at q
  cases e : mi env with
  | bad => rw [e] at q; exact q
  | ex c env1 =>
    rw [e] at q
    exact fun G' H' Os' s' t => q G' H' Os' s' (t.and _)
  | ok ws env1 =>
    rw [e] at q
    intro J G1 H1 Os1 s1 t1 wk d hd
    generalize hp' : (pt && pe) = pb at q
    have gd1 : G1 d = none := sub_none s1.sub hd
    have dn1 : d ∉ Os1.flatten := fun z => s1.sl.there d z hd
    -- what is to be reached
    let Fin : List W → Out (List W) → Prop := fun _ o => ∃ ys env', o = .ok ys env'
    obtain ⟨ys, envF, eF⟩ : ∃ ys env', mLc f tt te vs ws [] env1 = .ok ys env' := by
      cases eo : mLc f tt te vs ws [] env1 with
      | ok ys env' => exact ⟨ys, env', rfl⟩
      | ex c env' => simp only [eo] at q
      | bad => simp only [eo] at q
    simp only [eF] at q
    refine ⟨fun i m H' => m = ws.length - i ∧ i ≤ ws.length ∧ ∃ env' G' Os' σ' acc, LcI D pb vs G1 H1 Os1 d σ acc env' H' G' Os' σ' ∧ Sub G1 G' ∧ mLc f tt te vs (ws.drop i) acc env' = .ok ys envF, ⟨ws.length, rfl, Nat.zero_le _, env1, G1, Os1, σ, [], ?_, Sub.refl _, eF⟩, ?_⟩
    · refine ⟨s1.updD gd1 dn1, rfl, fun _ _ => rfl, gd1, dn1, ⟨[], upd_same, rfl⟩, step_updNew (Step.less (Step.refl _ _ _) ?_) hd⟩
      cases pb <;> exact fun x hx => hx
    rintro i m H2 ⟨rfl, hi, env2, G2, Os2, σ2, acc, I, sub2, e2⟩
    obtain ⟨w1, w2⟩ := wk i G2 H2 sub2 I.st.sub
    by_cases hl : i < ws.length
    · have ei : ws[i]? = some ws[i] := List.getElem?_eq_getElem hl
      obtain ⟨go, yl⟩ := w1 _ ei
      rw [List.drop_eq_getElem_cons hl] at e2
      refine .inr ⟨go, fun H' => ∃ env' G' Os' σ' acc, LcI D pb vs G1 H1 Os1 d σ acc env' H' G' Os' σ' ∧ Sub G1 G' ∧ mLc f tt te vs (ws.drop (i + 1)) acc env' = .ok ys envF, fun H' h => ⟨ws.length - (i + 1), by omega, rfl, hl, h⟩, fun v H3 y => ?_⟩
      obtain ⟨G3, t3, sub3, r3⟩ := yl v H3 y
      unfold mLc at e2
      cases ef : f ws[i] (killE vs env2) with
      | none => simp only [ef] at e2; cases e2
      | some env3 =>
        simp only [ef] at e2
        -- the item comes
        have I3 : LcI D pb vs G1 H1 Os1 d σ acc env2 H3 G3 Os2 σ2 := I.next (q := true) (fun _ => rfl) (I.st.step t3 sub3) ⟨rfl, rfl, t3⟩
        have s3 : StOk D G3 H3 (killE vs env2) (wipe σ vs) (killO vs Os2) := I3.st.re (by rw [wipe_length]; exact I.len.symm) fun j hj => by rw [wipe_at hj, I.out j hj]
        refine ⟨killE vs env2, G3, killO vs Os2, ws[i], env3, s3, r3, ef, fun σ4 Os4 s4 hsub io4 len4 => ?_⟩
        rw [wipe_length] at len4
        have out4 : ∀ j, j ∉ vs → σ4[j]? = σ[j]? := fun j hj => by
          have hio : ioB vs j = true := by
            show (!vs.contains j) = true
            rw [Bool.not_eq_true', List.contains_eq_mem, decide_eq_false_iff_not]
            exact hj
          rw [io4 j hio, wipe_at hj]
        have hsub2 : ∀ a ∈ Os4.flatten, a ∈ Os2.flatten := fun a ha => killO_sub a (hsub a ha)
        obtain ⟨va, hda, rva⟩ := I3.dl
        have I4 : LcI D pb vs G1 H1 Os1 d σ acc env3 H3 G3 Os4 σ4 := ⟨s4, len4, out4, I3.dg, fun z => I3.dn (hsub2 d z), ⟨va, hda, rva⟩, I3.step.less (by cases pb <;> first | exact hsub2 | exact fun x hx => hx)⟩
        refine ⟨wipe_eq len4 out4, env3, G3, Os4, s4, ?_⟩
        have hpt : pb = true → pt = true := fun z => by rw [← hp'] at z; exact (Bool.and_eq_true_iff.mp z).1
        have hpe : pb = true → pe = true := fun z => by rw [← hp'] at z; exact (Bool.and_eq_true_iff.mp z).2
        cases et : tt env3 with
        | bad => simp only [et] at e2; cases e2
        | ex c env4 => simp only [et] at e2; cases e2
        | ok b env4 =>
          intro G5 H5 Os5 s5 t5
          have I5 := I4.next hpt s5 t5
          have sub5 : Sub G1 G5 := (sub2.trans t3.mono).trans t5.gen.mono
          cases b with
          | false =>
            rw [if_neg Bool.false_ne_true]
            simp only [et] at e2
            exact ⟨env4, G5, Os5, σ4, acc, I5, sub5, e2⟩
          | true =>
            rw [if_pos rfl]
            simp only [et] at e2
            refine ⟨env4, G5, Os5, s5, ?_⟩
            cases ee : te env4 with
            | bad => simp only [ee] at e2; cases e2
            | ex c env6 => simp only [ee] at e2; cases e2
            | ok y env6 =>
              simp only [ee] at e2
              intro v6 G6 H6 Os6 Ow s6 r6 o6 t6
              by_cases hy : y.frz = true ∧ acc.length < sizeLine
              · rw [if_pos hy] at e2
                obtain ⟨rfl, rf⟩ := r6.toF hy.1
                have t6' : Stp pe env4 G5 H5 Os5 env6 G6 H6 Os6 [] := t6.less kO_less
                have I6 := I5.next hpe s6 t6'
                obtain ⟨va6, hd6, rva6⟩ := I6.dl
                refine ⟨va6, hd6, by rw [← rva6.len]; exact hy.2, env6, G6, Os6, σ4, acc ++ [y], ?_, sub5.trans t6'.gen.mono, e2⟩
                refine ⟨s6.updD I6.dg I6.dn, len4, out4, I6.dg, I6.dn, ⟨va6 ++ [v6], upd_same, rva6.append ⟨v6, [], rfl, rf, rfl⟩⟩, step_updNew I6.step hd⟩
              · rw [if_neg hy] at e2; cases e2
    · have e3 : i = ws.length := by omega
      subst e3
      rw [List.drop_length] at e2
      refine .inl ⟨w2 (Nat.le_refl _), ?_⟩
      cases e2
      obtain ⟨va, hda, rva⟩ := I.dl
      have sK : StOk D G2 H2 (killE vs env2) σ (killO vs Os2) := I.st.re I.len.symm fun j hj => (I.out j hj).symm
      cases pb with
      | true =>
        have st : Step G1 H1 [] G2 H2 [d] := ⟨I.step.mono, I.step.keep, I.step.gnew, fun a ha => .inr (by rw [List.mem_singleton.mp ha]; exact hd)⟩
        have sF : StOk D G2 H2 env1 σ Os1 := s1.step st I.st.sub
        refine q (.ref d) G2 H2 Os1 [d] sF ⟨d, va, rfl, rfl, hda, rva⟩ ⟨s1.apart st (by simp), fun a ha => by rw [List.mem_singleton.mp ha]; exact I.dg⟩ ?_
        rw [Bool.and_true]
        exact t1.ofP (σ := σ) st
      | false =>
        have dk : d ∉ (killO vs Os2).flatten := fun z => I.dn (killO_sub d z)
        refine q (.ref d) G2 H2 (killO vs Os2) [d] sK ⟨d, va, rfl, rfl, hda, rva⟩ ⟨List.nodup_append.mpr ⟨sK.nd, by simp, fun a ha b hb e => by rw [List.mem_singleton.mp hb] at e; subst e; exact dk ha⟩, fun a ha => by rw [List.mem_singleton.mp ha]; exact I.dg⟩ ?_
        rw [Bool.and_false]
        have st : Step G1 H1 Os1.flatten G2 H2 ((killO vs Os2).flatten ++ [d]) := ⟨I.step.mono, I.step.keep, I.step.gnew, fun a ha => by
          rcases List.mem_append.mp ha with z | z
          · exact I.step.new a (killO_sub a z)
          · exact .inr (by rw [List.mem_singleton.mp z]; exact hd)⟩
        exact t1.st.trans st
end Ev

namespace Ev
open PySem PySem.Spec L2

/-! ### comprehensions as expressions, as values of a name -/
abbrev Zt.blk (Z : Zt) (s : Shared) (H : Hp) (scope : Scope) (C : Addr) (cl : List (Str × Addr)) (fp : List Addr) (vs : List Nat) : Zt := ⟨Z.X.blk s H scope (compEnvC scope cl C Z.X.env) fp, Z.CA, W0, ioB vs⟩
abbrev MTs (Z : Zt) (ifs : List Expr) (m : Sm Bool) (p : Bool) : Prop := PTs Z.X ifs (TT' Z.D Z.W p m)
theorem mts_nil {Z : Zt} : MTs Z [] (Sm.ret true) true := ⟨fun pins s σ H Q I q => by
  obtain ⟨env, G, Os, st, q⟩ := q
  exact pts_nil.run pins s σ H Q I (q G H Os st (Stp.id true))⟩
theorem mts_one {Z : Zt} {c : Expr} {m : Sm Bool} {p : Bool} (h : MT Z c m p) : MTs Z [c] m p := pts_one h
theorem me_lc {Z : Zt} {elt tg iter : Expr} {ifs : List Expr} {scope : Scope} {own : List (Str × Nat)} {pos : Pos} {f : Tg} {mt : Sm Bool} {me : Sm W} {mi : Sm (List W)} {p pt pe k : Bool} (hc : Z.X.calm = true) (hN : Z.X.N.Nodup) (hi : MI Z tg iter mi p) (ok : BlkOk Z.X.N Z.X.env.scope scope own)
    (hg : ∀ (s : Shared) (H : Hp) (C : Addr) (cl : List (Str × Addr)) (fp : List Addr), MG (Z.blk s H scope C cl fp (own.map (·.2))) tg f) (ht : ∀ (s : Shared) (H : Hp) (C : Addr) (cl : List (Str × Addr)) (fp : List Addr), MTs (Z.blk s H scope C cl fp (own.map (·.2))) ifs mt pt)
    (he : ∀ (s : Shared) (H : Hp) (C : Addr) (cl : List (Str × Addr)) (fp : List Addr), ME (Z.blk s H scope C cl fp (own.map (·.2))) elt me pe k) (hs : ∀ x, foldedSetIterable iter Z.X.env x = pure x := by intro _; rfl) :
    ME Z (.ListComp elt [⟨tg, iter, ifs, 0⟩] scope pos) (mComp (pt && pe) f mt me (own.map (·.2)) mi) (p && (pt && pe)) true := pe_imp (pe_lc hc hN hi ok hg ht he hs) fun σ H Q q => tx_lc q
theorem ms_setLc {Z : Zt} {i : Nat} {y : Str} {py : Pos} {elt tg iter : Expr} {ifs : List Expr} {scope : Scope} {own : List (Str × Nat)} {pos spos : Pos} {f : Tg} {mt : Sm Bool} {me : Sm W} {mi : Sm (List W)} {p pt pe k : Bool} (b : Bool) (hc : Z.X.calm = true) (hN : Z.X.N.Nodup) (hi : MI Z tg iter mi p) (ok : BlkOk Z.X.N Z.X.env.scope scope own)
    (hg : ∀ (s : Shared) (H : Hp) (C : Addr) (cl : List (Str × Addr)) (fp : List Addr), MG (Z.blk s H scope C cl fp (own.map (·.2))) tg f) (ht : ∀ (s : Shared) (H : Hp) (C : Addr) (cl : List (Str × Addr)) (fp : List Addr), MTs (Z.blk s H scope C cl fp (own.map (·.2))) ifs mt pt)
    (he : ∀ (s : Shared) (H : Hp) (C : Addr) (cl : List (Str × Addr)) (fp : List Addr), ME (Z.blk s H scope C cl fp (own.map (·.2))) elt me pe k)
    (hy : Z.X.N[i]? = some y := by rfl) (hyl : Z.X.env.scope.names.lookup y = some .local := by rfl) (hio : Z.io i = false := by rfl)
    (hsw : swapsWith (.ListComp elt [⟨tg, iter, ifs, 0⟩] scope pos) (some (.Name y py)) spos.line Z.X.env = pure true := by exact sw_true rfl rfl rfl (by decide +kernel)) (hs : ∀ x, foldedSetIterable iter Z.X.env x = pure x := by intro _; rfl) :
    MS Z (.Assign [.Name y py] (.ListComp elt [⟨tg, iter, ifs, 0⟩] scope pos) spos) (sSet i true (cond b (mComp (pt && pe) f mt me (own.map (·.2)) mi) (mFz (mComp (pt && pe) f mt me (own.map (·.2)) mi)))) := by
  have core := ps_setLc (X := Z.X) (i := i) (py := py) (spos := spos) (pos := pos) (g := TGx Z.D (ioB (own.map (·.2))) f) (tt := TT' Z.D W0 pt mt) (te := TX Z.D W0 pe k me) hc hN hy hyl hsw hi ok hg ht he hs
  refine ⟨fun pins sh σ H D I q => ?_⟩
  have hlen := I.len
  refine core.run pins sh σ H D I ?_
  have fin : ∀ {m : Sm W} {p : Bool}, TSx Z.D Z.W Z.io (sSet i true m) D σ H → TX Z.D Z.W p true m σ H fun v H' => D.nx (σ.set i (some v)) H' := by
    intro m p q
    obtain ⟨env, G, Os, s, q⟩ := q
    refine ⟨env, G, Os, s, ?_⟩
    unfold sSet Sm.bind at q
    cases e : m env with
    | bad => rw [e] at q; exact q
    | ex c env1 =>
      rw [e] at q
      exact fun G' H' Os' s' t => q σ G' H' Os' s' t.st (IoS.refl _)
    | ok w env1 =>
      rw [e] at q
      intro v G' H' Os' Ow s' r o t
      simp only [Bool.true_or, if_true] at q
      obtain ⟨s2, inn⟩ := s'.put i (by rw [hlen]; exact (List.getElem?_eq_some_iff.mp hy).1) r o
      exact q (σ.set i (some v)) G' H' (Os'.set i Ow) s2 (t.gen.less inn) (IoS.set hio)
  cases b with
  | true => exact tx_lc (Q := fun v H' => D.nx (σ.set i (some v)) H') (fin (p := p && (pt && pe)) q)
  | false =>
    have z := fin (p := p && (pt && pe)) q
    -- frozen: by me_fz's reading
    refine tx_lc (Q := fun v H' => D.nx (σ.set i (some v)) H') ?_
    exact tx_fz z
end Ev

namespace Ev
open PySem PySem.Spec L2

/-! ### an owned list at a slot, changed -/
theorem Sl.atOwn {D : Dn} {G H : Hp} {env : List W} {σ : St} {Os : List (List Addr)} {i : Nat} {xs : List W} (s : Sl D G H env σ Os) (e : env[i]? = some (.lst true xs)) : ∃ a vs, σ[i]? = some (some (.ref a)) ∧ Os[i]? = some [a] ∧ H a = some (.lst vs) ∧ RFs D G xs vs := by
  obtain ⟨sv, O, h1, h2, h3⟩ := s.at e
  rcases h3 with ⟨v, rfl, a, vs, rfl, rfl, h4, h5⟩ | ⟨z, _⟩
  · exact ⟨a, vs, h1, h2, h4, h5⟩
  · cases z
theorem once {i : Nat} {a : Addr} : ∀ {Os : List (List Addr)}, Os.flatten.Nodup → Os[i]? = some [a] → a ∉ (Os.set i []).flatten := fun {Os} nd e z => by
  have pm := flat_set (O' := []) e
  rw [List.append_nil] at pm
  exact (List.nodup_append.mp (pm.nodup_iff.mpr nd)).2.2 a z a List.mem_cons_self rfl
theorem StOk.mut {D : Dn} {G H : Hp} {env : List W} {σ : St} {Os : List (List Addr)} {i : Nat} {a : Addr} {vs vs' : List V} {xs' : List W} (s : StOk D G H env σ Os) (h1 : σ[i]? = some (some (.ref a))) (h2 : Os[i]? = some [a]) (h3 : H a = some (.lst vs)) (r : RFs D G xs' vs') :
    StOk D G (upd H a (.lst vs')) (env.set i (.lst true xs')) σ Os ∧ Step G H Os.flatten G (upd H a (.lst vs')) Os.flatten := by
  have ha : a ∈ Os.flatten := List.mem_flatten.mpr ⟨_, List.mem_of_getElem? h2, List.mem_cons_self⟩
  have ga : G a = none := s.gn a ha
  have no := once s.nd h2
  constructor
  · refine ⟨?_, fun b x hb => ?_, s.gn, s.nd⟩
    · have s0 : Sl D G (upd H a (.lst vs')) (env.set i .dead) σ (Os.set i []) := (s.sl.kill1 i).mono (Sub.refl _) fun b hb x hx => by
        rw [upd_ne (fun e => no (by rw [← e]; exact hb))]; exact hx
      have s1 := Sl.set (D := D) (G := G) (H := upd H a (.lst vs')) (w := .lst true xs') (s := some (.ref a)) (O := [a]) (.inl ⟨.ref a, rfl, a, vs', rfl, rfl, upd_same, r⟩) i s0
      rw [set_self h1] at s1
      rw [List.set_set, List.set_set, set_self h2] at s1
      exact s1
    · rw [upd_ne (ne_of_none hb ga)]; exact s.sub b x hb
  · exact ⟨Sub.refl _, fun b x hb hn => by rw [upd_ne (fun e => hn (by rw [e]; exact ha))]; exact hb, fun _ _ _ _ _ h => h, fun _ h => .inl h⟩
/-- a method that changes a list's items: its answer, the items behind it -/
abbrev MutF := List W → List W → Option (W × List W)
def MutS (Z : Zt) (id : String) (F : MutF) : Prop := ∃ r, MtR Z.X id r ∧ ∀ (G H : Hp) (a : Addr) (xs ws : List W) (vs us : List V) (w : W) (xs' : List W) (Q : VK), Sub G H → H a = some (.lst vs) → RFs Z.D G xs vs → RFs Z.D G ws us → F xs ws = some (w, xs') →
  (∀ v vs', RF Z.D G w v → RFs Z.D G xs' vs' → Q v (upd H a (.lst vs'))) → r (.ref a) us H Q
def mMut (i : Nat) (F : MutF) (m : Sm (List W)) : Sm W := fun env => match env[i]? with
  | some (.lst true _) => match m env with
    | .ok ws env1 => match env1[i]? with
      | some (.lst true xs) => match F xs ws with
        | some (w, xs') => .ok w (env1.set i (.lst true xs'))
        | none => .bad
      | _ => .bad
    | .ex c env1 => .ex c env1
    | .bad => .bad
  | _ => .bad
theorem tx_mut {Z : Zt} {id : String} {i : Nat} {F : MutF} {m : Sm (List W)} {p : Bool} {σ : St} {H : Hp} {Q : VK} {r : V → List V → Hp → VK → Prop}
    (hr : ∀ (G H : Hp) (a : Addr) (xs ws : List W) (vs us : List V) (w : W) (xs' : List W) (Q : VK), Sub G H → H a = some (.lst vs) → RFs Z.D G xs vs → RFs Z.D G ws us → F xs ws = some (w, xs') → (∀ v vs', RF Z.D G w v → RFs Z.D G xs' vs' → Q v (upd H a (.lst vs'))) → r (.ref a) us H Q)
    (q : TX Z.D Z.W false true (mMut i F m) σ H Q) : tVar i σ H fun x H1 => tyV Z.X.K "list" x H1 ∧ TA' Z.D Z.W p m σ H1 fun us H2 => r x us H2 Q := by
  obtain ⟨env, G, Os, s, q⟩ := q
  unfold mMut at q
  cases e : env[i]? with
  | none => rw [e] at q; exact q.elim
  | some w0 =>
    have key : ∃ xs0, w0 = .lst true xs0 := by
      rw [e] at q
      cases w0 <;> first
        | exact q.elim
        | (rename_i b _; cases b <;> first | exact q.elim | exact ⟨_, rfl⟩)
    obtain ⟨xs0, rfl⟩ := key
    rw [e] at q
    obtain ⟨a, vs0, h1, h2, h3, h4⟩ := s.sl.atOwn e
    refine ⟨.ref a, h1, .inl ⟨rfl, _, SqL.of h3⟩, env, G, Os, s, ?_⟩
    cases em : m env with
    | bad => simp only [em] at q
    | ex c env1 =>
      simp only [em] at q
      exact fun G' H' Os' s' t => q G' H' Os' s' t.gen
    | ok ws env1 =>
      simp only [em] at q
      intro us G1 H1 Os1 s1 r1 t1
      cases e1 : env1[i]? with
      | none => simp only [e1] at q
      | some w1 =>
        have key1 : ∃ xs1, w1 = .lst true xs1 := by
          cases w1 <;> first
            | (exfalso; simp only [e1] at q; done)
            | (rename_i b _; cases b <;> first | (exfalso; simp only [e1] at q; done) | exact ⟨_, rfl⟩)
        obtain ⟨xs1, rfl⟩ := key1
        simp only [e1] at q
        obtain ⟨a', vs1, g1, g2, g3, g4⟩ := s1.sl.atOwn e1
        rw [h1] at g1
        cases g1
        cases eF : F xs1 ws with
        | none => simp only [eF] at q
        | some ww =>
          obtain ⟨w, xs'⟩ := ww
          simp only [eF] at q
          refine hr G1 H1 a xs1 ws vs1 us w xs' Q s1.sub g3 g4 r1 eF fun v vs' rv rvs => ?_
          obtain ⟨s2, t2⟩ := s1.mut h1 g2 g3 rvs
          refine q v G1 _ Os1 [] s2 (RO.ofF rv) (OwnK.nil s2) ?_
          show Step G H Os.flatten G1 _ (Os1.flatten ++ [])
          rw [List.append_nil]
          exact t1.st.trans t2
section
variable {Z : Zt} {o e : Expr} {es : List Expr} {i : Nat} {F : MutF} {m : Sm (List W)} {p : Bool} {name : Str} {id : String} {apos cpos : Pos}
theorem me_mut (slot : Slot "list" name id) (hty : typeOf (.builtin id) = pure (.type "method_descriptor")) (hm : MutS Z id F) (ho : PE Z.X o (tVar i)) (ha : MA Z (e :: es) m p)
    (hbase : attributeBase o name Z.X.env (eval o Z.X.env) = eval o Z.X.env := by rfl)
    (hfew : ((backTo cpos (starEach (e :: es) Z.X.env)).all (fun x => !x.1) && (backToKw cpos (keywordEach [] Z.X.env)).all (fun x => x.1.isSome)
      && decide ((e :: es).length + ([] : List Keyword).length + (if ([] : List Keyword).isEmpty then 0 else 1) < 30)) = true := by rfl)
    (hline : (apos.endLine == cpos.line) = true := by rfl) (hs : starEach (e :: es) Z.X.env = (false, eval e Z.X.env) :: starEach es Z.X.env := by rfl) (hplain : (backTo cpos (starEach es Z.X.env)).any (·.1) = false := by rfl) :
    ME Z (.Call (.Attribute o name apos) (e :: es) [] cpos) (mMut i F m) false true := by
  obtain ⟨r, h1, h2⟩ := hm
  exact pe_imp (pe_bm PySem.F.plainAttrs_list slot hty h1 ho ha hbase hfew hline hs hplain) fun σ H Q q => tx_mut (id := id) h2 q
def fAppend : MutF := fun xs ws => match ws with
  | [w] => if xs.length < sizeLine then some (.non, xs ++ [w]) else none
  | _ => none
def fExtend : MutF := fun xs ws => match ws with
  | [.lst false ys] => if xs.length + ys.length ≤ sizeLine then some (.non, xs ++ ys) else none
  | _ => none
def fPop : MutF := fun xs ws => match ws with
  | [] => (xs[xs.length - 1]?).map fun w => (w, xs.dropLast)
  | _ => none
def fInsert : MutF := fun xs ws => match ws with
  | [.int i, y] => if xs.length < sizeLine ∧ 0 ≤ i ∧ i < 2 ^ 63 then some (.non, xs.take i.toNat ++ [y] ++ xs.drop i.toNat) else none
  | _ => none
theorem RFs.dropLast {D : Dn} {G : Hp} {ws : List W} {vs : List V} (h : RFs D G ws vs) : RFs D G ws.dropLast vs.dropLast := by
  rw [List.dropLast_eq_take, List.dropLast_eq_take, h.len]
  exact h.take _
theorem mut_insert : MutS Z "list.insert" fInsert := ⟨_, mt_insert, fun G H a xs ws vs us w xs' Q s h r1 r2 e q => by
  unfold fInsert at e
  split at e
  · rename_i j y
    by_cases hl : xs.length < sizeLine ∧ 0 ≤ j ∧ j < 2 ^ 63
    · rw [if_pos hl] at e
      cases e
      obtain ⟨u, _, rfl, h1, u2, _, rfl, h2, h3⟩ := r2
      cases h3
      cases h1
      exact ⟨a, vs, j, u2, rfl, rfl, h, by rw [← r1.len]; exact hl.1, hl.2.1, hl.2.2, q .non (vs.take j.toNat ++ [u2] ++ vs.drop j.toNat) rfl (((r1.take _).append (show RFs Z.D G [y] [u2] from ⟨u2, [], rfl, h2, rfl⟩)).append (r1.drop _))⟩
    · rw [if_neg hl] at e; cases e
  · cases e⟩
theorem me_insert (ho : PE Z.X o (tVar i)) (ha : MA Z (e :: es) m p) (hbase : attributeBase o "insert" Z.X.env (eval o Z.X.env) = eval o Z.X.env := by rfl)
    (hfew : ((backTo cpos (starEach (e :: es) Z.X.env)).all (fun x => !x.1) && (backToKw cpos (keywordEach [] Z.X.env)).all (fun x => x.1.isSome)
      && decide ((e :: es).length + ([] : List Keyword).length + (if ([] : List Keyword).isEmpty then 0 else 1) < 30)) = true := by rfl)
    (hline : (apos.endLine == cpos.line) = true := by rfl) (hs : starEach (e :: es) Z.X.env = (false, eval e Z.X.env) :: starEach es Z.X.env := by rfl) (hplain : (backTo cpos (starEach es Z.X.env)).any (·.1) = false := by rfl) :
    ME Z (.Call (.Attribute o "insert" apos) (e :: es) [] cpos) (mMut i fInsert m) false true := me_mut PySem.F.slot_list_insert PySem.F.type_list_insert mut_insert ho ha hbase hfew hline hs hplain
end

/-! ### x[e1] = e2, x an owned list of the frame -/
def stoAt (i : Nat) (w j : W) (env : List W) : Out Fl := match env[i]? with
  | some (.lst true xs) => match j with
    | .int n => match ixN xs.length n with
      | some k => .ok .nx (env.set i (.lst true (xs.set k w)))
      | none => .bad
    | _ => .bad
  | _ => .bad
def sSto (i : Nat) (mi me : Sm W) : Sm Fl := Sm.bind me fun w env => if w.frz = true then match env[i]? with
  | some (.lst true _) => Sm.bind mi (fun j => stoAt i w j) env
  | _ => .bad
  else .bad
theorem RFs.set {D : Dn} {G : Hp} {w : W} {v : V} (r : RF D G w v) : ∀ {ws : List W} {vs : List V} (k : Nat), RFs D G ws vs → RFs D G (ws.set k w) (vs.set k v)
  | [], _, k, h => by rw [show _ = [] from h]; exact rfl
  | _ :: _, _, 0, h => by
    obtain ⟨u, us, rfl, h1, h2⟩ := h
    exact ⟨v, us, rfl, r, h2⟩
  | _ :: _, _, k + 1, h => by
    obtain ⟨u, us, rfl, h1, h2⟩ := h
    exact ⟨u, _, rfl, h1, RFs.set r k h2⟩
theorem ms_sto {Z : Zt} {o ix e : Expr} {i : Nat} {mi me : Sm W} {p1 p2 k1 k2 : Bool} {pos spos : Pos} (he : ME Z e me p2 k2) (ho : PE Z.X o (tVar i)) (hi : ME Z ix mi p1 k1)
    (ha : ∀ v, assign (.Subscript o ix spos) Z.X.env v = (do
      let ov ← holding [v] (eval o Z.X.env)
      let iv ← holding [v, ov] (eval ix Z.X.env)
      standAt spos
      holding [v, ov, iv] (setItem ov iv v)
      release [v, ov, iv] []) := by intro _; rfl)
    (hs : swapsWithSole [.Subscript o ix spos] e pos.line Z.X.env = pure false := by rfl) (hw : swappedStores [.Subscript o ix spos] e Z.X.env = pure none := by rfl)
    (h1 : (assignEach [.Subscript o ix spos] Z.X.env).map (·.2) = [assign (.Subscript o ix spos) Z.X.env] := by rfl) : MS Z (.Assign [.Subscript o ix spos] e pos) (sSto i mi me) :=
  ps_imp (ps_asg he (pg_sub ho hi set_list ha) hs hw h1) fun E σ H q => by
    obtain ⟨env, G, Os, s, q⟩ := q
    refine ⟨env, G, Os, s, ?_⟩
    unfold sSto Sm.bind at q
    cases e : me env with
    | bad => rw [e] at q; exact q
    | ex c env1 =>
      rw [e] at q
      exact fun G' H' Os' s' t => q σ G' H' Os' s' t.st (IoS.refl _)
    | ok w env1 =>
      rw [e] at q
      intro v G1 H1 Os1 Ow s1 r o t
      by_cases hf : w.frz = true
      · simp only [if_pos hf] at q
        obtain ⟨rfl, rf⟩ := r.toF hf
        cases e0 : env1[i]? with
        | none => simp only [e0] at q; exact q.elim
        | some w0 =>
          have key : ∃ xs0, w0 = .lst true xs0 := by
            cases w0 <;> first
              | (simp only [e0] at q; exact q.elim)
              | (rename_i b _; cases b <;> first | (simp only [e0] at q; exact q.elim) | exact ⟨_, rfl⟩)
          obtain ⟨xs0, rfl⟩ := key
          obtain ⟨a, vs0, h1, h2, h3, h4⟩ := s1.sl.atOwn e0
          simp only [e0] at q
          refine ⟨.ref a, h1, env1, G1, Os1, s1, ?_⟩
          cases e2 : mi env1 with
          | bad => simp only [e2] at q; exact q.elim
          | ex c env2 =>
            simp only [e2] at q
            exact fun G' H' Os' s' t' => q σ G' H' Os' s' (t.st.trans t'.st) (IoS.refl _)
          | ok j env2 =>
            simp only [e2] at q
            intro jv G2 H2 Os2 Oj s2 rj oj t2
            unfold stoAt at q
            cases e3 : env2[i]? with
            | none => simp only [e3] at q; exact q.elim
            | some w1 =>
              have key1 : ∃ xs1, w1 = .lst true xs1 := by
                cases w1 <;> first
                  | (simp only [e3] at q; exact q.elim)
                  | (rename_i b _; cases b <;> first | (simp only [e3] at q; exact q.elim) | exact ⟨_, rfl⟩)
              obtain ⟨xs1, rfl⟩ := key1
              simp only [e3] at q
              obtain ⟨a', vs1, g1, g2, g3, g4⟩ := s2.sl.atOwn e3
              rw [h1] at g1
              cases g1
              cases j with
              | int n =>
                cases e4 : ixN xs1.length n with
                | none => simp only [e4] at q; exact q.elim
                | some k =>
                  simp only [e4] at q
                  obtain ⟨_, rfl⟩ := rj
                  obtain ⟨s3, t3⟩ := s2.mut h1 g2 g3 (g4.set (RF.mono t2.gen.mono _ _ rf) k)
                  exact ⟨a, vs1, n, k, rfl, rfl, g3, by rw [← g4.len]; exact e4, q σ G2 _ Os2 s3 ((t.st.trans t2.st).trans t3) (IoS.refl _)⟩
              | _ => simp only at q; exact q.elim
      · simp only [if_neg hf] at q
        exact q.elim
end Ev

namespace Ev
open PySem PySem.Spec L2

/-! ### a slot seen as frozen from here on -/
def gFz (i : Nat) : Sm Unit := fun env => match env[i]? with
  | some (.lst true xs) => .ok () (env.set i (.lst false xs))
  | _ => .bad
def sGo (g : Sm Unit) (m : Sm Fl) : Sm Fl := Sm.bind g fun _ => m
theorem StOk.fz {D : Dn} {G H : Hp} {env : List W} {σ : St} {Os : List (List Addr)} {i : Nat} {xs : List W} (s : StOk D G H env σ Os) (e : env[i]? = some (.lst true xs)) :
    ∃ G', StOk D G' H (env.set i (.lst false xs)) σ (Os.set i []) ∧ Step G H Os.flatten G' H (Os.set i []).flatten := by
  obtain ⟨a, vs, h1, h2, h3, h4⟩ := s.sl.atOwn e
  have ha : a ∈ Os.flatten := List.mem_flatten.mpr ⟨_, List.mem_of_getElem? h2, List.mem_cons_self⟩
  have ga := s.gn a ha
  have mono : Sub G (upd G a (.lst vs)) := sub_new ga
  have no := once s.nd h2
  refine ⟨upd G a (.lst vs), ⟨?_, fun b x hb => ?_, fun b hb => ?_, flat_nd s.nd⟩, mono, fun b x hb _ => hb, fun b x hb hn _ g => ?_, fun b hb => .inl (flat_sub b hb)⟩
  · have s0 : Sl D (upd G a (.lst vs)) H env σ Os := s.sl.mono mono fun _ _ _ h => h
    have z := Sl.set (D := D) (G := upd G a (.lst vs)) (H := H) (w := .lst false xs) (s := some (.ref a)) (O := []) (.inl ⟨.ref a, rfl, rfl, a, vs, rfl, upd_same, RFs.mono mono _ _ h4⟩) i s0
    rwa [set_self h1] at z
  · by_cases eb : b = a
    · subst eb
      rw [upd_same] at hb
      cases hb
      exact h3
    · rw [upd_ne eb] at hb; exact s.sub b x hb
  · have nb : b ≠ a := fun e => no (by rw [← e]; exact hb)
    rw [upd_ne nb]; exact s.gn b (flat_sub b hb)
  · have nb : b ≠ a := fun e => hn (by rw [e]; exact ha)
    rw [upd_ne nb]; exact g
/-! ### raise -/
structure ClsT (K : PySem.W.Frag) (mg : Str → Option Value) (CA : Nat → Addr) (x : Str) (c : Nat) : Prop where
  g : mg x = some (.ref (CA c))
  x : PySem.W.excIn K (CA c) [.type "ValueError", .type "Exception", .type "BaseException", .type "object"] "ValueError.__new__" = true
  k : PySem.W.keepIn K (.ref (CA c)) = true
  b : PySem.W.subIn K (.ref (CA c)) (.type "BaseException") = some true
  t : PySem.W.typeIn K (.ref (CA c)) = some (.type "type")
def sRaise (c : Nat) : Sm Fl := fun env => .ex c env
/-! ### a def by its body -/
def maskL : List Bool → List W → List W
  | [], _ => []
  | b :: bs, [] => .dead :: maskL bs []
  | b :: bs, w :: env => cond b w .dead :: maskL bs env
def fnSem (N : Nat) (io : List Bool) (body : Sm Fl) : Fn := fun ws => match body (ws ++ List.replicate (N - ws.length) .dead) with
  | .ok (.rt w) env => .ok w (maskL io env)
  | .ok .nx env => .ok .non (maskL io env)
  | .ok _ _ => .bad
  | .ex c env => .ex c (maskL io env)
  | .bad => .bad
def ioF (io : List Bool) : Nat → Bool := fun i => io.getD i false
theorem ROs.slots {D : Dn} {G H : Hp} : ∀ {ws : List W} {vs : List V} {O : List Addr}, ROs D G H ws vs O → ∃ Os, Os.flatten = O ∧ Sl D G H ws (vs.map some) Os
  | [], _, _, h => ⟨[], by rw [h.2]; rfl, by rw [h.1]; exact ⟨rfl, rfl⟩⟩
  | w :: ws, _, _, h => by
    obtain ⟨v, r, O1, O2, rfl, rfl, h1, h2⟩ := h
    obtain ⟨Os, e, s⟩ := ROs.slots h2
    exact ⟨O1 :: Os, by rw [List.flatten_cons, e], some v, _, O1, Os, rfl, rfl, .inl ⟨v, rfl, h1⟩, s⟩
theorem Sl.app {D : Dn} {G H : Hp} : ∀ {env env' : List W} {σ σ' : St} {Os Os' : List (List Addr)}, Sl D G H env σ Os → Sl D G H env' σ' Os' → Sl D G H (env ++ env') (σ ++ σ') (Os ++ Os')
  | [], _, _, _, _, _, h, k => by rw [h.1, h.2]; exact k
  | w :: env, _, _, _, _, _, h, k => by
    obtain ⟨s, σ', O, Os', rfl, rfl, h1, h2⟩ := h
    exact ⟨s, _, O, _, rfl, rfl, h1, Sl.app h2 k⟩
theorem Sl.deads {D : Dn} {G H : Hp} : ∀ n : Nat, Sl D G H (List.replicate n .dead) (List.replicate n none) (List.replicate n [])
  | 0 => ⟨rfl, rfl⟩
  | n + 1 => ⟨none, _, [], _, rfl, rfl, .inr ⟨rfl, rfl⟩, Sl.deads n⟩
theorem flat_reps : ∀ n : Nat, (List.replicate n ([] : List Addr)).flatten = []
  | 0 => rfl
  | n + 1 => by rw [List.replicate_succ, List.flatten_cons, flat_reps n]; rfl
/-- at the end: what the parameters' things hold -/
theorem Sl.mask {D : Dn} {G H : Hp} : ∀ {io : List Bool} {env : List W} {σ' : St} {Os : List (List Addr)} {vs : List V}, Sl D G H env σ' Os → vs.length = io.length → (∀ i, io.getD i false = true → σ'[i]? = some vs[i]?) →
    ∃ O, ROs D G H (maskL io env) vs O ∧ List.Sublist O Os.flatten
  | [], env, σ', Os, vs, s, hl, h => by
    have e : vs = [] := List.eq_nil_of_length_eq_zero hl
    subst e
    exact ⟨[], ⟨rfl, rfl⟩, List.nil_sublist _⟩
  | b :: io, [], σ', Os, v :: vs, s, hl, h => by
    obtain ⟨rfl, rfl⟩ := s
    obtain ⟨O, r, sub⟩ := Sl.mask (io := io) (env := []) (σ' := []) (Os := []) (vs := vs) ⟨rfl, rfl⟩ (Nat.succ.inj hl) fun i hi => by
      have z := h (i + 1) hi
      simp at z
    exact ⟨O, ⟨v, vs, [], O, rfl, rfl, rfl, r⟩, sub⟩
  | b :: io, w :: env, σ', Os, v :: vs, s, hl, h => by
    obtain ⟨sv, σ2, O1, Os2, rfl, rfl, h1, h2⟩ := s
    obtain ⟨O, r, sub⟩ := Sl.mask (io := io) h2 (Nat.succ.inj hl) fun i hi => by
      have z := h (i + 1) hi
      simpa using z
    cases b with
    | false => exact ⟨O, ⟨v, vs, [], O, rfl, rfl, rfl, r⟩, by rw [List.flatten_cons]; exact sub.trans (List.sublist_append_right _ _)⟩
    | true =>
      have z := h 0 rfl
      simp at z
      rcases h1 with ⟨v', e1, h1⟩ | ⟨e1, e2⟩
      · rw [z] at e1
        cases e1
        exact ⟨O1 ++ O, ⟨v, vs, O1, O, rfl, rfl, h1, r⟩, by rw [List.flatten_cons]; exact sub.append_left _⟩
      · subst e1 e2
        exact ⟨O, ⟨v, vs, [], O, rfl, rfl, rfl, r⟩, by rw [List.flatten_cons]; exact sub⟩
  | b :: io, env, σ', Os, [], s, hl, h => nomatch hl
/-- the configuration of a def's body -/
abbrev Zf (P : Program) (w : World) (K : PySem.W.Frag) (mg : Str → Option Value) (base : Heap) (CA : Nat → Addr) (N : List Str) (qual : Str) (scope : Scope) (f : Addr) (cd : Value) (A : Around) (outer : List Env) (s : Shared) (H : Hp) (E : XK) (io : List Bool) : Zt :=
  ⟨cxOf (L2.CX P w) P w K mg base N qual scope f cd A outer s H E, CA, fun cls d _ H' => E cls d H', ioF io⟩
theorem fn_body {P : Program} {w : World} {K : PySem.W.Frag} {mg : Str → Option Value} {base : Heap} {CA : Nat → Addr} {x qual : Str} {st : Stmt} {f : Addr} {fd : FuncData} {N ps : List Str} {k : Nat} {io : List Bool} {body : Sm Fl} {nN : Nat} (F : Fun K x qual st f fd) (S : FnScope N ps (defScope st)) (hn : N.length = nN)
    (hio : io.length = ps.length) (hbody : ∀ (cdv : Value) (A : Around) (outer : List Env) (s : Shared) (H : Hp) (E : XK), Room k (A.deeper (PyProof.Rows.envOfC qual (defScope st) s.heap.objs.size f cdv)) →
      MSs (Zf P w K mg base CA N qual (defScope st) f cdv A outer s H E io) (defBody st) body) : FnOk P w K mg base (L2.CX P w) (k + 1) f fd ps (spOf ⟨K, CA⟩ ps.length (fnSem nN io body)) := by
  refine F.okX S (fun vs H Q E h => h.1) fun cdv A outer s H vs Q E hr hsp => ⟨_, hbody cdv A outer s H E hr, ?_⟩
  obtain ⟨hl, ws, G, O, sub, ro, nd, gn, q⟩ := hsp
  obtain ⟨Os, e, sl⟩ := ro.slots
  have lw : ws.length = vs.length := ro.len
  have hlN : ps.length ≤ N.length := by have := congrArg List.length S.pre; rw [List.length_take] at this; omega
  refine ⟨ws ++ List.replicate (nN - ws.length) .dead, G, Os ++ List.replicate (nN - ws.length) [], ⟨?_, sub, ?_, ?_⟩, ?_⟩
  · have z := sl.app (Sl.deads (D := ⟨K, CA⟩) (G := G) (H := H) (nN - ws.length))
    unfold L2.start
    rw [hn, ← lw]
    exact z
  · rw [List.flatten_append, flat_reps, List.append_nil, e]; exact gn
  · rw [List.flatten_append, flat_reps, List.append_nil, e]; exact nd
  have fO : (Os ++ List.replicate (nN - ws.length) ([] : List Addr)).flatten = O := by rw [List.flatten_append, flat_reps, List.append_nil, e]
  have slot : ∀ {σ' : St}, IoS (ioF io) (start N vs) σ' → ∀ i, io.getD i false = true → σ'[i]? = some vs[i]? := fun {σ'} h i hi => by
    rw [h i hi]
    have hi' : i < io.length := by
      rcases Nat.lt_or_ge i io.length with z | z
      · exact z
      · rw [List.getD_eq_getElem?_getD, List.getElem?_eq_none z] at hi; cases hi
    have hv : i < vs.length := by rw [hl, ← hio]; exact hi'
    unfold L2.start
    rw [List.getElem?_append_left (by rw [List.length_map]; exact hv), List.getElem?_map, List.getElem?_eq_getElem hv]
    rfl
  have fin : ∀ {env' : List W} {σ' : St} {G' H' : Hp} {Os' : List (List Addr)} {Ow : List Addr}, StOk ⟨K, CA⟩ G' H' env' σ' Os' → (Os'.flatten ++ Ow).Nodup → (∀ a ∈ Ow, G' a = none) → Step G H O G' H' (Os'.flatten ++ Ow) → IoS (ioF io) (start N vs) σ' →
      ∃ O', ROs ⟨K, CA⟩ G' H' (maskL io env') vs O' ∧ (O' ++ Ow).Nodup ∧ (∀ a ∈ O' ++ Ow, G' a = none) ∧ Step G H O G' H' (O' ++ Ow) := fun {env' σ' G' H' Os' Ow} s nd gn st io' => by
    obtain ⟨O', r, sl⟩ := s.sl.mask (by rw [hl, hio]) (slot io')
    have s2 : List.Sublist (O' ++ Ow) (Os'.flatten ++ Ow) := List.Sublist.append sl (List.Sublist.refl _)
    refine ⟨O', r, nd.sublist s2, fun a ha => ?_, st.less fun a ha => s2.subset ha⟩
    rcases List.mem_append.mp ha with z | z
    · exact s.gn a (sl.subset z)
    · exact gn a z
  unfold fnSem at q
  cases eb : body (ws ++ List.replicate (nN - ws.length) .dead) with
  | bad => simp only [eb] at q
  | ex c env' =>
    simp only [eb] at q
    intro σ' G' H' Os' s' t io'
    rw [fO] at t
    obtain ⟨O', a1, a2, a3, a4⟩ := fin (Ow := []) s' (by rw [List.append_nil]; exact s'.nd) (fun _ z => nomatch z) (by rw [List.append_nil]; exact t) io'
    rw [List.append_nil] at a2 a3 a4
    exact q G' H' O' s'.sub a1 a2 a3 a4
  | ok fl env' =>
    cases fl with
    | nx =>
      simp only [eb] at q
      intro σ' G' H' Os' s' t io'
      rw [fO] at t
      obtain ⟨O', a1, a2, a3, a4⟩ := fin (Ow := []) s' (by rw [List.append_nil]; exact s'.nd) (fun _ z => nomatch z) (by rw [List.append_nil]; exact t) io'
      exact q .non G' H' O' [] s'.sub a1 ⟨rfl, rfl⟩ a2 a3 a4
    | bk => simp only [eb] at q
    | ct => simp only [eb] at q
    | rt w =>
      simp only [eb] at q
      intro v σ' G' H' Os' Ow s' r o t io'
      rw [fO] at t
      obtain ⟨O', a1, a2, a3, a4⟩ := fin s' o.1 o.2 t io'
      exact q v G' H' O' Ow s'.sub a1 r a2 a3 a4
/-- a def of the module, by its body -/
theorem fnt_body {P : Program} {w : World} {K : PySem.W.Frag} {mg : Str → Option Value} {base : Heap} {CA : Nat → Addr} {x qual : Str} {st : Stmt} {f : Addr} {fd : FuncData} {N ps : List Str} {k n : Nat} {io : List Bool} {body : Sm Fl} {nN : Nat} (F : Fun K x qual st f fd) (g : mg x = some (.ref f)) (hb : Binds K fd ps []) (S : FnScope N ps (defScope st)) (hn : N.length = nN)
    (hio : io.length = ps.length) (hps : ps.length = n) (hbody : ∀ (cdv : Value) (A : Around) (outer : List Env) (s : Shared) (H : Hp) (E : XK), Room k (A.deeper (PyProof.Rows.envOfC qual (defScope st) s.heap.objs.size f cdv)) →
      MSs (Zf P w K mg base CA N qual (defScope st) f cdv A outer s H E io) (defBody st) body) : FnT P w K mg base CA x n (k + 1) (fnSem nN io body) := by
  subst hps
  exact ⟨f, fd, ps, fn_body F S hn hio hbody, g, F.kp, hb⟩
/-- what a body may use -/
theorem zf_takes {P : Program} {w : World} {K : PySem.W.Frag} {mg : Str → Option Value} {base : Heap} {CA : Nat → Addr} {N : List Str} {qual : Str} {scope : Scope} {f : Addr} {cd : Value} {A : Around} {outer : List Env} {s : Shared} {H : Hp} {E : XK} {io : List Bool} :
    Takes (Zf P w K mg base CA N qual scope f cd A outer s H E io).X (Zf P w K mg base CA N qual scope f cd A outer s H E io).W := takes_of rfl rfl rfl rfl
theorem zf_pass {P : Program} {w : World} {K : PySem.W.Frag} {mg : Str → Option Value} {base : Heap} {CA : Nat → Addr} {N : List Str} {qual : Str} {scope : Scope} {f : Addr} {cd : Value} {A : Around} {outer : List Env} {s : Shared} {H : Hp} {E : XK} {io : List Bool} :
    PassesOwn (model (Zf P w K mg base CA N qual scope f cd A outer s H E io).X.prog (Zf P w K mg base CA N qual scope f cd A outer s H E io).X.w) (Zf P w K mg base CA N qual scope f cd A outer s H E io).X.A (Zf P w K mg base CA N qual scope f cd A outer s H E io).X.env (Zf P w K mg base CA N qual scope f cd A outer s H E io).X.xe := passes_of rfl
theorem blk_takes {Z : Zt} {s : Shared} {H : Hp} {scope : Scope} {C : Addr} {cl : List (Str × Addr)} {fp : List Addr} {vs : List Nat} : Takes (Z.blk s H scope C cl fp vs).X (Z.blk s H scope C cl fp vs).W := takes0
end Ev

namespace Ev
open PySem PySem.Spec L2

end Ev

namespace Ev
open PySem PySem.Spec L2

def sTry (acc : Nat → Option Bool) (i j : Nat) (mb : Sm Fl) : Sm Fl := fun env => match mb env with
  | .ex x env1 => match acc x with
    | some true => .ok .nx ((env1.set j (.exc x)).set i .dead)
    | some false => .ex x env1
    | none => .bad
  | o => o
/-! ### a call that looks at owned lists -/
mutual
def W.flat : W → Bool
  | .non => true
  | .bl _ => true
  | .int _ => true
  | .str _ => true
  | .tup ws => flats ws
  | _ => false
def flats : List W → Bool
  | [] => true
  | w :: ws => w.flat && flats ws
end
mutual
theorem RF.thin {D : Dn} {G G' : Hp} (h : ∀ a vs, SqT D.K G a vs → SqT D.K G' a vs) : ∀ (w : W) (v : V), w.flat = true → RF D G w v → RF D G' w v
  | .non, _, _, r => r
  | .bl _, _, _, r => r
  | .int _, _, _, r => r
  | .str _, _, _, r => r
  | .tup ws, _, f, r => by
    obtain ⟨a, vs, rfl, r1, r2⟩ := r
    exact ⟨a, vs, rfl, h a vs r1, RFs.thin h ws vs f r2⟩
  | .lst _ _, _, f, _ => nomatch f
  | .scr _, _, f, _ => nomatch f
  | .nst _, _, f, _ => nomatch f
  | .ntp _, _, f, _ => nomatch f
  | .dct _ _ _, _, f, _ => nomatch f
  | .ndc _ _, _, f, _ => nomatch f
  | .obj _ _ _, _, f, _ => nomatch f
  | .exc _, _, f, _ => nomatch f
  | .exm _ _, _, f, _ => nomatch f
  | .fdc _ _, _, f, _ => nomatch f
  | .dead, _, f, _ => nomatch f
theorem RFs.thin {D : Dn} {G G' : Hp} (h : ∀ a vs, SqT D.K G a vs → SqT D.K G' a vs) : ∀ (ws : List W) (vs : List V), flats ws = true → RFs D G ws vs → RFs D G' ws vs
  | [], _, _, r => r
  | w :: ws, _, f, r => by
    obtain ⟨v, us, rfl, r1, r2⟩ := r
    have f' : w.flat = true ∧ flats ws = true := Bool.and_eq_true_iff.mp f
    exact ⟨v, us, rfl, RF.thin h w v f'.1 r1, RFs.thin h ws us f'.2 r2⟩
end
theorem W.flat_frz : ∀ {w : W}, w.flat = true → w.frz = true
  | .non, _ => rfl
  | .bl _, _ => rfl
  | .int _, _ => rfl
  | .str _, _ => rfl
  | .tup _, _ => rfl
open Classical in
/-- what is frozen, and the owned lists as they stand -/
noncomputable def lentH (G H : Hp) (L : List Addr) : Hp := fun a => match G a with
  | some o => some o
  | none => if a ∈ L then H a else none
/-! ### frozen through and through -/
mutual
def W.fzD : W → W
  | .lst _ ws => .lst false ws
  | .nst ws => .lst false (fzDs ws)
  | .ntp ws => .tup (fzDs ws)
  | w => w
def fzDs : List W → List W
  | [] => []
  | w :: ws => w.fzD :: fzDs ws
end
mutual
def W.fzOk : W → Bool
  | .lst _ _ => true
  | .nst ws => fzOks ws
  | .ntp ws => fzOks ws
  | w => w.frz
def fzOks : List W → Bool
  | [] => true
  | w :: ws => w.fzOk && fzOks ws
end
theorem fzDs_map : ∀ ws : List W, fzDs ws = ws.map W.fzD
  | [] => rfl
  | w :: ws => by rw [fzDs, List.map_cons, fzDs_map ws]
theorem lent_mono {G H : Hp} {S : List Addr} : Sub G (lentH G H S) := fun a o h => by unfold lentH; rw [h]
theorem lent_own {G H : Hp} {S : List Addr} {a : Addr} (hs : a ∈ S) (g : G a = none) : lentH G H S a = H a := by
  unfold lentH
  rw [g]
  show (if a ∈ S then H a else none) = H a
  rw [if_pos hs]
mutual
theorem RO.deep {D : Dn} {G H : Hp} {S : List Addr} : ∀ (w : W) (v : V) (O : List Addr), w.fzOk = true → RO D G H w v O → (∀ a ∈ O, a ∈ S ∧ G a = none) → RF D (lentH G H S) w.fzD v
  | .lst true ws, v, O, _, h, k => by
    obtain ⟨a, vs, rfl, rfl, h1, h2⟩ := h
    obtain ⟨k1, k2⟩ := k a List.mem_cons_self
    exact ⟨a, vs, rfl, by rw [lent_own k1 k2]; exact h1, RFs.mono lent_mono _ _ h2⟩
  | .nst ws, v, O, f, h, k => by
    obtain ⟨a, vs, O', rfl, rfl, h1, h2⟩ := h
    obtain ⟨k1, k2⟩ := k a List.mem_cons_self
    exact ⟨a, vs, rfl, by rw [lent_own k1 k2]; exact h1, ROs.deep ws vs O' f h2 fun b hb => k b (List.mem_cons_of_mem _ hb)⟩
  | .ntp ws, v, O, f, h, k => by
    obtain ⟨a, vs, rfl, h1, h2⟩ := h
    exact ⟨a, vs, rfl, lent_mono.sqT h1, ROs.deep ws vs O f h2 k⟩
  | .lst false ws, v, O, _, h, k => RF.mono lent_mono (.lst false ws) v h.2
  | .non, v, O, _, h, k => RF.mono lent_mono .non v h.2
  | .bl b, v, O, _, h, k => RF.mono lent_mono (.bl b) v h.2
  | .int i, v, O, _, h, k => RF.mono lent_mono (.int i) v h.2
  | .str i, v, O, _, h, k => RF.mono lent_mono (.str i) v h.2
  | .tup ws, v, O, _, h, k => RF.mono lent_mono (.tup ws) v h.2
  | .scr ws, v, O, _, h, k => RF.mono lent_mono (.scr ws) v h.2
  | .dead, _, _, f, _, _ => nomatch f
  | .dct _ _ _, _, _, f, _, _ => nomatch f
  | .ndc _ _, _, _, f, _, _ => nomatch f
  | .obj _ _ _, _, _, f, _, _ => nomatch f
  | .exc _, _, _, f, _, _ => nomatch f
  | .exm _ _, _, _, f, _, _ => nomatch f
  | .fdc ks ws, v, O, _, h, k => RF.mono lent_mono (.fdc ks ws) v h.2
theorem ROs.deep {D : Dn} {G H : Hp} {S : List Addr} : ∀ (ws : List W) (vs : List V) (O : List Addr), fzOks ws = true → ROs D G H ws vs O → (∀ a ∈ O, a ∈ S ∧ G a = none) → RFs D (lentH G H S) (fzDs ws) vs
  | [], _, _, _, h, _ => h.1
  | w :: ws, _, _, f, h, k => by
    obtain ⟨v, r, O1, O2, rfl, rfl, h1, h2⟩ := h
    have f' : w.fzOk = true ∧ fzOks ws = true := Bool.and_eq_true_iff.mp f
    exact ⟨v, r, rfl, RO.deep w v O1 f'.1 h1 fun a ha => k a (List.mem_append_left _ ha), ROs.deep ws r O2 f'.2 h2 fun a ha => k a (List.mem_append_right _ ha)⟩
end
/-- the arguments, owned lists (and errors) lent -/
def lendA : List W → List AV → Option (List W)
  | _, [] => some []
  | env, .v w :: as => (lendA env as).map (w :: ·)
  | env, .io i :: as => match env[i]? with
    | some (.lst _ xs) => (lendA env as).map (.lst false xs :: ·)
    | some (.exc c) => (lendA env as).map (.exc c :: ·)
    | some (.nst xs) => if fzOks xs = true then (lendA env as).map (.lst false (fzDs xs) :: ·) else none
    | some (.ntp xs) => if fzOks xs = true then (lendA env as).map (.tup (fzDs xs) :: ·) else none
    | some w => if w.frz = true then (lendA env as).map (w :: ·) else none
    | none => none
def mCallL (g : Fn) (n : Nat) (m : Sm (List AV)) : Sm W := Sm.bind m fun as env => if as.length = n then match lendA env as with
  | none => .bad
  | some ws => match g ws with
    | .ok w _ => if w.flat = true then .ok w env else .bad
    | .ex c _ => .ex c env
    | .bad => .bad
  else .bad
theorem sub_lent {G H : Hp} {L : List Addr} (s : Sub G H) : Sub (lentH G H L) H := fun a o h => by
  unfold lentH at h
  cases e : G a with
  | some x =>
    rw [e] at h
    cases h
    exact s a _ e
  | none =>
    rw [e] at h
    have h' : (if a ∈ L then H a else none) = some o := h
    by_cases hm : a ∈ L
    · rw [if_pos hm] at h'; exact h'
    · rw [if_neg hm] at h'; cases h'
section
variable {Z : Zt} {x : Str} {n k : Nat} {g : Fn} {e : Expr} {es : List Expr} {p : Bool} {p1 p2 : Pos}
end
end Ev

namespace Ev
open PySem PySem.Spec L2

/-! ### isinstance -/
/-- of what built-in kind a value is -/
def W.kind : W → Option String
  | .non => some "NoneType"
  | .bl _ => some "bool"
  | .int _ => some "int"
  | .str _ => some "str"
  | .tup _ => some "tuple"
  | .lst _ _ => some "list"
  | .scr _ => some "list"
  | .nst _ => some "list"
  | .ntp _ => some "tuple"
  | .fdc _ _ => some "dict"
  | _ => none
/-- the second argument: some classes, by their values -/
structure ClsArg (X : Cx) (e : Expr) (cs : List V) (us : List Value) (one : Bool) : Prop where
  run : if one = true then ∃ c u, cs = [c] ∧ us = [u] ∧ ClsV c u ∧ PE X e (tC c) else ∃ t, PE X e t ∧ Paired ClsV cs us ∧ ∀ σ H Q, (∀ p, H p = none → Q (.ref p) (upd H p (.tup cs))) → t σ H Q
theorem ca_ty {X : Cx} {T : String} {x : Str} {pos : Pos} (hg : Gl X x) (hm : X.mg x = none) (hv : bootBuiltins x = some (.type T)) (hn : x ≠ "__name__" := by decide) (hd : (x == ("__debug__" : Str)) = false := by decide) : ClsArg X (.Name x pos) [.ty T] [.type T] true :=
  ⟨⟨_, _, rfl, rfl, .ty T, pe_bltn hg hm hv rfl hn hd⟩⟩
theorem ca_own {X : Cx} {C : Addr} {x : Str} {pos : Pos} (hg : Gl X x) (hm : X.mg x = some (.ref C)) (hd : (x == ("__debug__" : Str)) = false := by decide) : ClsArg X (.Name x pos) [.ref C] [.ref C] true :=
  ⟨⟨_, _, rfl, rfl, .own C, pe_glob hg hm rfl hd⟩⟩
/-- names of classes in a tuple -/
def ClsArgs (X : Cx) (es : List Expr) (cs : List V) (us : List Value) : Prop := ∃ t, PA X es t ∧ Paired ClsV cs us ∧ ∀ σ H (Q : List V → Hp → Prop), Q cs H → t σ H Q
theorem cas_nil {X : Cx} : ClsArgs X [] [] [] := ⟨_, pa_nil, .nil, fun _ _ _ q => q⟩
theorem cas_cons {X : Cx} {e : Expr} {es : List Expr} {c : V} {u : Value} {cs : List V} {us : List Value} (h : ClsArg X e [c] [u] true) (hr : ClsArgs X es cs us) (hs : starEach (e :: es) X.env = (false, eval e X.env) :: starEach es X.env := by rfl) : ClsArgs X (e :: es) (c :: cs) (u :: us) := by
  obtain ⟨c', u', e1, e2, k, pe⟩ := h.run
  cases e1
  cases e2
  obtain ⟨t, pa, ps, i⟩ := hr
  exact ⟨_, pa_cons pe pa hs, .cons k ps, fun σ H Q q => i σ H _ q⟩
theorem ca_tup {X : Cx} {es : List Expr} {cs : List V} {us : List Value} {k : Nat} {pos : Pos} (h : ClsArgs X es cs us) (hl : cs.length ≤ sizeLine := by decide) : ClsArg X (.Tuple es k pos) cs us false := by
  obtain ⟨t, pa, ps, i⟩ := h
  exact ⟨⟨_, pe_tup pa, ps, fun σ H Q q => i σ H _ ⟨hl, q⟩⟩⟩
def isAns (K : PySem.W.Frag) (t : Value) (us : List Value) (one : Bool) : Option Bool := match one, us with
  | true, [u] => PySem.W.kitOne K t u
  | false, us => PySem.W.kitAny K t us
  | _, _ => none
/-- built-in kinds against built-in types: by the names -/
def kitBs (a : String) : List String → Option Bool
  | [] => some false
  | b :: bs => match kitB a b with
    | some true => some true
    | some false => kitBs a bs
    | none => none
theorem kitBs_any {K : PySem.W.Frag} {a : String} : ∀ {bs : List String} {r : Bool}, kitBs a bs = some r → PySem.W.kitAny K (.type a) (bs.map Value.type) = some r
  | [], r, h => h
  | b :: bs, r, h => by
    unfold kitBs at h
    cases e : kitB a b with
    | none => rw [e] at h; cases h
    | some x =>
      rw [e] at h
      refine kitAny_cons (kit_ty e) (fun z => ?_) fun z => ?_
      · subst z; exact kitBs_any h
      · subst z; exact (Option.some.inj h).symm
def isiW (tys : List String) (w : W) : Option W := w.kind.bind fun k => (kitBs k tys).map .bl
theorem RO.tyx {D : Dn} {G H : Hp} {w : W} {v : V} {O : List Addr} {k : String} (s : Sub G H) (r : RO D G H w v O) (e : w.kind = some k) : TyX D.K H v (.type k) := by
  cases w with
  | non => cases e; obtain ⟨_, rfl⟩ := r; exact .base .non
  | bl b => cases e; obtain ⟨_, rfl⟩ := r; exact .base (.bl b)
  | int i => cases e; obtain ⟨_, rfl⟩ := r; exact .base (.int i)
  | str x => cases e; obtain ⟨_, rfl⟩ := r; exact .base (.str x)
  | tup ws =>
    cases e
    obtain ⟨_, a, vs, rfl, h1, _⟩ := r
    rcases s.sqT h1 with (h | ⟨o, h⟩) | ⟨o, its, n, h, hc, _⟩
    · exact .base (.tup h)
    · exact .fTuple h
    · exact .kTuple h hc
  | lst b ws =>
    cases e
    obtain ⟨a, vs, rfl, h1, _⟩ := r.lstAt s
    exact .base (.lst h1)
  | scr ws =>
    cases e
    obtain ⟨_, a, vs, rfl, h1, _⟩ := r
    rcases s.sqL h1 with (h | ⟨o, h⟩) | ⟨o, its, n, h, hc, _⟩
    · exact .base (.lst h)
    · exact .base (.frz h)
    · exact .kList h hc
  | nst ws =>
    cases e
    obtain ⟨a, vs, O', rfl, rfl, h1, _⟩ := r
    exact .base (.lst h1)
  | ntp ws =>
    cases e
    obtain ⟨a, vs, rfl, h1, _⟩ := r
    rcases s.sqT h1 with (h | ⟨o, h⟩) | ⟨o, its, n, h, hc, _⟩
    · exact .base (.tup h)
    · exact .fTuple h
    · exact .kTuple h hc
  | fdc ks ws =>
    cases e
    obtain ⟨_, a, vs, rfl, hl, h1, _⟩ := r
    exact .base (.dK (s _ _ h1))
  | _ => cases e
theorem tyx_new {K : PySem.W.Frag} {H : Hp} {v : V} {t : Value} {p : Addr} {o : HO} (n : H p = none) (h : TyX K H v t) : TyX K (upd H p o) v t := by
  have k : ∀ {a : Addr} {x : HO}, H a = some x → upd H p o a = some x := fun {a x} e => sub_new n a x e
  cases h with
  | base h =>
    refine .base ?_
    cases h with
    | non => exact .non
    | bl b => exact .bl b
    | int i => exact .int i
    | str x => exact .str x
    | flt x => exact .flt x
    | lst e => exact .lst (k e)
    | frz e => exact .frz (k e)
    | tup e => exact .tup (k e)
    | dK e => exact .dK (k e)
    | dT e => exact .dT (k e)
    | ins e a b c d f => exact .ins (k e) a b c d f
  | byt b => exact .byt b
  | set e => exact .set (k e)
  | kList e c => exact .kList e c
  | kTuple e c => exact .kTuple e c
  | kDict e c => exact .kDict e c
  | fTuple e => exact .fTuple (k e)
  | fDict e => exact .fDict (k e)
/-- an error that is held -/
def XObj (D a : Addr) (o : HO) : Prop := o = ExC D a ∨ ∃ t, o = ExM D a t
theorem XObj.get {X : Cx} {pins : List (Addr × Obj)} {σ : L2.St} {H : Hp} {s : Shared} {D a : Addr} {o : HO} (x : XObj D a o) (I : Inv X pins σ H s) (e : H a = some o) : ∃ (oe : Obj) (flds : Array Value), s.heap.get? a = some oe ∧ Zc (.ref D) none oe ∧ oe.data = .fields flds := by
  rcases x with rfl | ⟨t, rfl⟩
  · obtain ⟨⟨oe, flds, h1, h2, h3⟩, _⟩ := I.hok a _ e
    exact ⟨oe, flds, h1, h2, h3⟩
  · obtain ⟨⟨oe, flds, h1, h2, h3, _⟩, _⟩ := I.hok a _ e
    exact ⟨oe, flds, h1, h2, h3⟩
theorem call_isX {X : Cx} {D a : Addr} (C : ExcC X.K D) : CallR X (.builtin "isinstance") (fun xs H Q => ∃ (c : V) (cv : Value) (b : Bool) (o : HO), xs = [.ref a, c] ∧ H a = some o ∧ XObj D a o ∧ ClsV c cv ∧ PySem.W.kitOne X.K (.ref D) cv = some b ∧ Q (.bl b) H) := by
  intro pins s σ H xs us Q I r h
  obtain ⟨c, cv, b, o, rfl, ha, hx, hc, e, q⟩ := h
  cases r with
  | cons rx rr =>
    cases rr with
    | cons rt rr =>
      cases rr
      cases rx
      have ec := hc.eq rt
      subst ec
      obtain ⟨oe, flds, hget, hz, hd⟩ := hx.get I ha
      have J : PySem.W.InstAt s.heap a oe D none := by
        obtain ⟨oc, od, oda, osl⟩ := oe
        obtain ⟨h1, h2⟩ := hz
        dsimp only at h1 h2 hd
        subst h1 h2 hd
        exact ⟨hget, rfl, rfl, trivial⟩
      exact PySem.W.kia_one (PySem.W.handS_kitx_exc C.hg C.hk C.hs C.hd C.ha C.hn C.ht C.hm) I.kIn J e (fun z => nomatch z) fun tk => ⟨.bl b, H, I.kept (t' := tk) fun _ _ z => z, rfl, q⟩
theorem call_isXT {X : Cx} {D a : Addr} (C : ExcC X.K D) : CallR X (.builtin "isinstance") (fun xs H Q => ∃ (tp : Addr) (cs : List V) (us : List Value) (b : Bool) (o : HO), xs = [.ref a, .ref tp] ∧ H a = some o ∧ XObj D a o ∧ H tp = some (.tup cs) ∧ Paired ClsV cs us ∧ PySem.W.kitAny X.K (.ref D) us = some b ∧ Q (.bl b) H) := by
  intro pins s σ H xs us Q I r h
  obtain ⟨tp, cs, ws, b, o, rfl, ha, hx, ht, hc, e, q⟩ := h
  cases r with
  | cons rx rr =>
    cases rr with
    | cons rt rr =>
      cases rr
      cases rx
      cases rt
      obtain ⟨oe, flds, hget, hz, hd⟩ := hx.get I ha
      have J : PySem.W.InstAt s.heap a oe D none := by
        obtain ⟨oc, od, oda, osl⟩ := oe
        obtain ⟨h1, h2⟩ := hz
        dsimp only at h1 h2 hd
        subst h1 h2 hd
        exact ⟨hget, rfl, rfl, trivial⟩
      obtain ⟨_, its, rv, ot, hot, hcl, n, hdt⟩ := I.hok tp _ ht
      obtain ⟨oc, od, oda, osl⟩ := ot
      dsimp only at hcl hdt
      subst hcl hdt
      rw [ClsV.all hc rv] at *
      exact PySem.W.kia_tup (PySem.W.handS_kitx_exc C.hg C.hk C.hs C.hd C.ha C.hn C.ht C.hm) I.kIn J hot e (fun z => nomatch z) fun tk => ⟨.bl b, H, I.kept (t' := tk) fun _ _ z => z, rfl, q⟩
section
variable {Z : Zt} {e c : Expr} {m : Sm W} {p k1 : Bool} {p1 p2 : Pos}
theorem me_is {cs : List V} {us : List Value} {one : Bool} {f : W → Option W} (ca : ClsArg Z.X c cs us one) (hm : Z.X.mg "isinstance" = none) (ha : ME Z e m p k1)
    (hf : ∀ (G H : Hp) (w : W) (v : V) (O : List Addr) (r : W), Sub G H → RO Z.D G H w v O → f w = some r → ∃ b, r = .bl b ∧ ((∃ t, (∀ p o, H p = none → TyX Z.X.K (upd H p o) v t) ∧ TyX Z.X.K H v t ∧ isAns Z.X.K t us one = some b) ∨ ∃ D a o, v = .ref a ∧ H a = some o ∧ XObj D a o ∧ ExcC Z.X.K D ∧ isAns Z.X.K (.ref D) us one = some b))
    (hg : Gl Z.X "isinstance" := by rfl) (hs : starEach [e, c] Z.X.env = (false, eval e Z.X.env) :: starEach [c] Z.X.env := by rfl) (hs2 : starEach [c] Z.X.env = (false, eval c Z.X.env) :: starEach [] Z.X.env := by rfl) (hpl : (backTo p2 (starEach [c] Z.X.env)).any (·.1) = false := by rfl) :
    ME Z (.Call (.Name "isinstance" p1) [e, c] [] p2) (mUn f m) p true := by
  have boot : bootBuiltins "isinstance" = some (.builtin "isinstance") := PyProof.Rows.boot_isinstance
  cases one with
  | true =>
    obtain ⟨cv, u, rfl, rfl, k, pe⟩ := ca.run
    refine pe_imp (pe_callB cl_any hg hm boot (pa_cons ha (pa_cons pe pa_nil hs2) hs) (by decide) (by decide) hs hpl) fun σ H Q q => tx_un (r := fun x H1 Q => clAny Z.X (.builtin "isinstance") [x, cv] H1 Q) (fun G H w1 v1 O1 w Q s r e q => ?_) q
    obtain ⟨b, rfl, ⟨t, _, h1, h2⟩ | ⟨D, a, o, rfl, h1, hx, h2, h3⟩⟩ := hf G H w1 v1 O1 w s r e
    · exact ⟨_, call_isi, v1, cv, t, u, b, rfl, k, h1, h2, q.bl s⟩
    · exact ⟨_, call_isX h2, cv, u, b, o, rfl, h1, hx, k, h3, q.bl s⟩
  | false =>
    obtain ⟨t, pe, pr, i⟩ := ca.run
    refine pe_imp (pe_callB cl_any hg hm boot (pa_cons ha (pa_cons pe pa_nil hs2) hs) (by decide) (by decide) hs hpl) fun σ H Q q => ?_
    have z := tx_un (k := k1) (r := fun x H1 Q => ∀ tp, H1 tp = none → clAny Z.X (.builtin "isinstance") [x, .ref tp] (upd H1 tp (.tup cs)) Q) (fun G H w1 v1 O1 w Q s r e q tp ntp => ?_) q
    · obtain ⟨env, G, Os, st, z⟩ := z
      refine ⟨env, G, Os, st, ?_⟩
      revert z
      cases m env with
      | bad => exact id
      | ex c env1 => exact id
      | ok w env1 => exact fun z v G' H' Os' Ow a1 a2 a3 a4 => i σ H' _ fun tp ntp => z v G' H' Os' Ow a1 a2 a3 a4 tp ntp
    · obtain ⟨b, rfl, ⟨t, h0, h1, h2⟩ | ⟨D, a, o, rfl, h1, hx, h2, h3⟩⟩ := hf G H w1 v1 O1 w s r e
      · refine ⟨_, call_isiT, v1, tp, cs, t, us, b, rfl, upd_same, pr, h0 tp _ ntp, h2, ?_⟩
        exact q _ G _ [] (sub_upd s ntp) ⟨rfl, rfl⟩ List.nodup_nil (fun _ z => nomatch z) ((step_own ntp).less fun _ z => nomatch z)
      · refine ⟨_, call_isXT h2, tp, cs, us, b, o, rfl, sub_new ntp _ _ h1, hx, upd_same, pr, h3, ?_⟩
        exact q _ G _ [] (sub_upd s ntp) ⟨rfl, rfl⟩ List.nodup_nil (fun _ z => nomatch z) ((step_own ntp).less fun _ z => nomatch z)
/-- isinstance(e, T), isinstance(e, (T1, ..)) of built-in types -/
theorem me_isi (tys : List String) {cs : List V} {us : List Value} {one : Bool} (ca : ClsArg Z.X c cs us one) (hm : Z.X.mg "isinstance" = none) (ha : ME Z e m p k1) (hu : us = tys.map Value.type := by rfl) (ho : one = false ∨ tys.length = 1 := by decide)
    (hg : Gl Z.X "isinstance" := by rfl) (hs : starEach [e, c] Z.X.env = (false, eval e Z.X.env) :: starEach [c] Z.X.env := by rfl) (hs2 : starEach [c] Z.X.env = (false, eval c Z.X.env) :: starEach [] Z.X.env := by rfl) (hpl : (backTo p2 (starEach [c] Z.X.env)).any (·.1) = false := by rfl) :
    ME Z (.Call (.Name "isinstance" p1) [e, c] [] p2) (mUn (isiW tys) m) p true := me_is ca hm ha (fun G H w v O r s ro e => by
  unfold isiW at e
  cases hk : w.kind with
  | none => rw [hk] at e; cases e
  | some kd =>
    rw [hk, Option.bind_some] at e
    cases hb : kitBs kd tys with
    | none => rw [hb] at e; cases e
    | some b =>
      rw [hb] at e
      cases e
      have ty := ro.tyx s hk
      refine ⟨b, rfl, .inl ⟨_, fun q o n => tyx_new n ty, ty, ?_⟩⟩
      subst hu
      cases one with
      | false => exact kitBs_any hb
      | true =>
        rcases ho with z | z
        · cases z
        · match tys, z, hb with
          | [T], _, hb =>
            show PySem.W.kitOne _ _ _ = _
            unfold kitBs at hb
            cases h : kitB kd T with
            | none => rw [h] at hb; cases hb
            | some x =>
              rw [h] at hb
              cases x with
              | true => cases hb; exact kit_ty h
              | false => cases hb; exact kit_ty h) hg hs hs2 hpl
/-- isinstance of an error that is held; tab: by its class -/
def isxW (tab : Nat → Option Bool) : W → Option W
  | .exc c => (tab c).map .bl
  | .exm c _ => (tab c).map .bl
  | _ => none
theorem me_isx (tab : Nat → Option Bool) {cs : List V} {us : List Value} {one : Bool} (ca : ClsArg Z.X c cs us one) (hm : Z.X.mg "isinstance" = none) (ht : ∀ c b, tab c = some b → ExcC Z.X.K (Z.CA c) ∧ isAns Z.X.K (.ref (Z.CA c)) us one = some b) (ha : ME Z e m p k1)
    (hg : Gl Z.X "isinstance" := by rfl) (hs : starEach [e, c] Z.X.env = (false, eval e Z.X.env) :: starEach [c] Z.X.env := by rfl) (hs2 : starEach [c] Z.X.env = (false, eval c Z.X.env) :: starEach [] Z.X.env := by rfl) (hpl : (backTo p2 (starEach [c] Z.X.env)).any (·.1) = false := by rfl) :
    ME Z (.Call (.Name "isinstance" p1) [e, c] [] p2) (mUn (isxW tab) m) p true := me_is ca hm ha (fun G H w v O r s ro e => by
  cases w with
  | exc c =>
    have e' : (tab c).map W.bl = some r := e
    cases hb : tab c with
    | none => rw [hb] at e'; cases e'
    | some b =>
      rw [hb] at e'
      cases e'
      obtain ⟨_, a, rfl, h1⟩ := ro
      obtain ⟨h2, h3⟩ := ht c b hb
      exact ⟨b, rfl, .inr ⟨_, a, _, rfl, s _ _ h1, .inl rfl, h2, h3⟩⟩
  | exm c m =>
    have e' : (tab c).map W.bl = some r := e
    cases hb : tab c with
    | none => rw [hb] at e'; cases e'
    | some b =>
      rw [hb] at e'
      cases e'
      obtain ⟨_, a, t, rfl, h1, _⟩ := ro
      obtain ⟨h2, h3⟩ := ht c b hb
      exact ⟨b, rfl, .inr ⟨_, a, _, rfl, s _ _ h1, .inr ⟨t, rfl⟩, h2, h3⟩⟩
  | _ => cases e) hg hs hs2 hpl
end
end Ev

namespace Ev
open PySem PySem.Spec L2

/-! ### a op b op c, all looking only -/
def mChain (f g : W → W → Option W) (m1 m2 m3 : Sm W) : Sm W := Sm.bind m1 fun w1 => Sm.bind m2 fun w2 => Sm.bind (lft ((f w1 w2).bind blW)) fun b => if b = true then Sm.bind m3 fun w3 => lft (g w2 w3) else Sm.ret (.bl false)
theorem tx_chain {D : Dn} {Wx : WX} {r r' : R2} {f g : W → W → Option W} {m1 m2 m3 : Sm W} {k1 k2 k3 : Bool} (o : RelS D r f) (o' : RelS D r' g) {σ : L2.St} {H : Hp} {Q : VK} (q : TX D Wx true true (mChain f g m1 m2 m3) σ H Q) :
    tChain r r' (TX D Wx true k1 m1) (TX D Wx true k2 m2) (TX D Wx true k3 m3) σ H Q := by
  obtain ⟨env, G, Os, s, q⟩ := q
  refine ⟨env, G, Os, s, ?_⟩
  unfold mChain Sm.bind at q
  cases e1 : m1 env with
  | bad => rw [e1] at q; exact q
  | ex c env1 => rw [e1] at q; exact q
  | ok w1 env1 =>
    rw [e1] at q
    intro v1 G1 H1 Os1 O1 s1 r1 o1 t1
    refine ⟨env1, G1, Os1, s1, ?_⟩
    cases e2 : m2 env1 with
    | bad => simp only [e2] at q
    | ex c env2 =>
      simp only [e2] at q
      exact fun G' H' Os' s' t => q G' H' Os' s' (t1.trans t)
    | ok w2 env2 =>
      simp only [e2] at q
      intro v2 G2 H2 Os2 O2 s2 r2 o2 t2
      have r1' := stay s1 r1 o1 t2 (by cases k1 <;> rfl)
      cases ef : f w1 w2 with
      | none => simp only [ef, Option.bind_none, lft] at q
      | some wb =>
        have key : ∃ b, wb = .bl b := by
          cases wb <;> first
            | exact ⟨_, rfl⟩
            | (exfalso; simp only [ef, Option.bind_some, blW, lft] at q; done)
        obtain ⟨b, rfl⟩ := key
        simp only [ef, Option.bind_some, blW, lft] at q
        refine o G2 H2 w1 w2 v1 v2 O1 O2 (.bl b) _ s2.sub r1' r2 ef fun v G3 H3 Ow sub ro nd gn st => ?_
        obtain ⟨rfl, rfl⟩ := ro
        have s3 := s2.step st sub
        have t3 : Stp true env G H Os env2 G3 H3 Os2 [] := by
          have z := (t1.trans t2).trans (Stp.grow true (env := env2) (Os := Os2) st)
          exact z
        refine ⟨b, rfl, ?_⟩
        cases b with
        | false =>
          rw [if_neg Bool.false_ne_true]
          simp only [Bool.false_eq_true, if_false, Sm.ret] at q
          exact q (.bl false) G3 H3 Os2 [] s3 ⟨rfl, rfl⟩ (OwnK.nil s3) t3
        | true =>
          rw [if_pos rfl]
          simp only [if_true] at q
          refine ⟨env2, G3, Os2, s3, ?_⟩
          cases e3 : m3 env2 with
          | bad => simp only [e3] at q
          | ex c env3 =>
            simp only [e3] at q
            exact fun G' H' Os' s' t => q G' H' Os' s' (t3.trans t)
          | ok w3 env3 =>
            simp only [e3] at q
            intro v4 G4 H4 Os4 O4 s4 r4 o4 t4
            cases eg : g w2 w3 with
            | none => simp only [eg] at q
            | some w =>
              simp only [eg] at q
              have r2' : RO D G4 H4 w2 v2 O2 := by
                refine stay s2 r2 o2 (p := true) (O2 := []) ?_ (by cases k2 <;> rfl) (env' := env3) (Os' := Os4)
                have z := (Stp.grow true (env := env2) (Os := Os2) st).trans t4
                exact z.less fun _ z => nomatch z
              exact o' G4 H4 w2 w3 v2 v4 O2 O4 w Q s4.sub r2' r4 eg (Ans.of (p := true) s4 (t3.trans t4) q)
theorem mt_cmp {Z : Zt} {op : CmpOp} {f : W → W → Option W} {a b : Expr} {m1 m2 : Sm W} {p1 p2 k1 k2 : Bool} {pos : Pos} (o : OpS Z (compareOp op) f) (ha : ME Z a m1 p1 k1) (hb : ME Z b m2 p2 k2) (hm : behindInMarks op b = false := by first | exact nomark _ | rfl) :
    MT Z (.Compare a [op] [b] pos) (toB (mBin f (k1 || p2) m1 m2)) (p1 && p2) :=
  pt_imp (pt_cmpR op_any ha hb hm) fun _ _ _ h => tx_bin o (tt_val h)
theorem mt_chain {Z : Zt} {op op' : CmpOp} {f g : W → W → Option W} {a b c : Expr} {m1 m2 m3 : Sm W} {k1 k2 k3 : Bool} {pos : Pos} (o : OpS Z (compareOp op) f) (o' : OpS Z (compareOp op') g) (ha : ME Z a m1 true k1) (hb : ME Z b m2 true k2) (hc : ME Z c m3 true k3)
    (hm : lastMarks [op, op'] [b, c] = false := by with_unfolding_all rfl) : MT Z (.Compare a [op, op'] [b, c] pos) (toB (mChain f g m1 m2 m3)) true :=
  pt_imp (pt_chain op_any op_any ha hb hc hm) fun _ _ _ q => tx_chain o o' (tt_val q)
end Ev

namespace Ev
open PySem PySem.Spec L2

/-! ### the classes of the errors, the first one above all others -/
structure CF1 (K : PySem.W.Frag) (C : Addr) (x : Str) : Prop where
  ns : PySem.W.nsIn K mainGlobals x = some (some (.ref C))
  x : PySem.W.excIn K C [.type "ValueError", .type "Exception", .type "BaseException", .type "object"] "ValueError.__new__" = true
  k : PySem.W.keepIn K (.ref C) = true
  b : PySem.W.subIn K (.ref C) (.type "BaseException") = some true
  t : PySem.W.typeIn K (.ref C) = some (.type "type")
  v : PySem.W.subIn K (.ref C) (.type "ValueError") = some true
  e : ExcC K C
theorem CF1.i {K : PySem.W.Frag} {C : Addr} {x : Str} (q : CF1 K C x) : (PySem.W.clsIn K C).isSome = true := by
  obtain ⟨cd, h, _⟩ := PySem.W.any_some q.e.hd
  rw [h]
  rfl
structure CF (K : PySem.W.Frag) (names : List Str) (A : Nat → Addr) : Prop where
  one : ∀ c x, names[c]? = some x → CF1 K (A c) x
  sub : ∀ c d, c < names.length → d < names.length → PySem.W.subIn K (.ref (A c)) (.ref (A d)) = some (d == 0 || c == d)
section
variable {K : PySem.W.Frag} {names : List Str} {A : Nat → Addr}
theorem CF.clsT {h : Heap} {mg : Str → Option Value} (X : K.In h) (G : h.Ns mainGlobals mg) (F : CF K names A) {c : Nat} {x : Str} (e : names[c]? = some x) : ClsT K mg A x c :=
  have q := F.one c x e
  ⟨PySem.W.mg_of X G q.ns, q.x, q.k, q.b, q.t⟩
theorem CF.at (F : CF K names A) {c : Nat} (h : c < names.length) : ∃ x, CF1 K (A c) x := ⟨_, F.one c _ (List.getElem?_eq_getElem h)⟩
theorem CF.clsOf (F : CF K names A) {c d : Nat} (hc : c < names.length) (hd : d < names.length) : PySem.W.kitCls K (.ref (A c)) (.ref (A d)) = some (d == 0 || c == d) := by
  obtain ⟨x, q⟩ := F.at hd
  show (if ((PySem.W.clsIn K (A d)).isSome && PySem.W.typeIn K (.ref (A d)) == some (.type "type")) = true then PySem.W.subIn K (.ref (A c)) (.ref (A d)) else none) = _
  have e2 : ((PySem.W.clsIn K (A d)).isSome && PySem.W.typeIn K (.ref (A d)) == some (.type "type")) = true := by rw [q.i, q.t] <;> rfl
  rw [if_pos e2]
  exact F.sub c d hc hd
theorem CF.one_ (F : CF K names A) {c d : Nat} (hc : c < names.length) (hd : d < names.length) : PySem.W.kitOne K (.ref (A c)) (.ref (A d)) = some (d == 0 || c == d) := by
  unfold PySem.W.kitOne
  by_cases z : ((Value.ref (A c)) == (Value.ref (A d))) = true
  · rw [if_pos z]
    have e : A c = A d := Value.ref.inj (beq_iff_eq.mp z)
    have h1 := F.sub c d hc hd
    rw [← e, F.sub c c hc hc] at h1
    simp at h1
    have h2 : (d == 0 || c == d) = true := by simp [h1]
    rw [h2]
  · rw [if_neg z]
    exact F.clsOf hc hd
theorem CF.oneV (F : CF K names A) {c : Nat} (hc : c < names.length) : PySem.W.kitOne K (.ref (A c)) (.type "ValueError") = some true := by
  obtain ⟨x, q⟩ := F.at hc
  unfold PySem.W.kitOne
  rw [if_neg (by simp)]
  show (if PySem.W.kitMeta "ValueError" = true then PySem.W.subIn K (.ref (A c)) (.type "ValueError") else none) = _
  rw [if_pos (by decide +kernel)]
  exact q.v
theorem CF.exm (F : CF K names A) {c d : Nat} (hc : c < names.length) (hd : d < names.length) : PySem.W.exmOne K (.ref (A c)) (.ref (A d)) = some (d == 0 || c == d) := by
  obtain ⟨x, q⟩ := F.at hd
  unfold PySem.W.exmOne
  have e1 : (PySem.W.subIn K (.ref (A d)) (.type "BaseException") == some true) = true := by rw [q.b] <;> rfl
  rw [if_pos e1]
  exact F.clsOf hc hd
end
/-- what an isinstance names: none: ValueError; some d: the d-th class -/
def valU (A : Nat → Addr) : Option Nat → Value
  | none => .type "ValueError"
  | some d => .ref (A d)
def hitU (c : Nat) : Option Nat → Bool
  | none => true
  | some d => d == 0 || c == d
def tabU (us : List (Option Nat)) (n : Nat) (c : Nat) : Option Bool := if c < n then some (us.any (hitU c)) else none
def accU (d n : Nat) (c : Nat) : Option Bool := if c < n then some (d == 0 || c == d) else none
section
variable {K : PySem.W.Frag} {names : List Str} {A : Nat → Addr}
def okU (n : Nat) : Option Nat → Bool
  | none => true
  | some d => decide (d < n)
theorem CF.oneU (F : CF K names A) {c : Nat} (hc : c < names.length) : ∀ {u : Option Nat}, okU names.length u = true → PySem.W.kitOne K (.ref (A c)) (valU A u) = some (hitU c u)
  | none, _ => F.oneV hc
  | some _, h => F.one_ hc (of_decide_eq_true h)
theorem CF.anyU (F : CF K names A) {c : Nat} (hc : c < names.length) : ∀ {us : List (Option Nat)}, us.all (okU names.length) = true → PySem.W.kitAny K (.ref (A c)) (us.map (valU A)) = some (us.any (hitU c))
  | [], _ => rfl
  | u :: us, h => by
    rw [List.all_cons, Bool.and_eq_true] at h
    have h1 := F.oneU hc h.1
    have h2 := F.anyU hc h.2
    rw [List.map_cons, List.any_cons]
    unfold PySem.W.kitAny
    rw [h1]
    cases hitU c u with
    | true => rfl
    | false => exact h2
/-- what an isinstance wants of the classes -/
theorem CF.tab (us : List (Option Nat)) (one : Bool) {n : Nat} (F : CF K names A) (hn : names.length = n) (h1 : us.all (okU n) = true) (ho : one = false ∨ us.length = 1) : ∀ c b, tabU us n c = some b → ExcC K (A c) ∧ isAns K (.ref (A c)) (us.map (valU A)) one = some b := fun c b e => by
  subst hn
  unfold tabU at e
  by_cases hc : c < names.length
  · rw [if_pos hc] at e
    cases e
    obtain ⟨x, q⟩ := F.at hc
    refine ⟨q.e, ?_⟩
    cases one with
    | false => exact F.anyU hc h1
    | true =>
      rcases ho with z | z
      · cases z
      · match us, z, h1 with
        | [u], _, h1 =>
          show PySem.W.kitOne K (.ref (A c)) (valU A u) = _
          rw [List.all_cons, Bool.and_eq_true] at h1
          rw [F.oneU hc h1.1]
          simp
  · rw [if_neg hc] at e
    cases e
theorem CF.acc (d : Nat) {n : Nat} (F : CF K names A) (hn : names.length = n) (hd : d < n) : ∀ c b, accU d n c = some b → PySem.W.exmOne K (.ref (A c)) (.ref (A d)) = some b := fun c b e => by
  subst hn
  unfold accU at e
  by_cases hc : c < names.length
  · rw [if_pos hc] at e
    cases e
    exact F.exm hc hd
  · rw [if_neg hc] at e
    cases e
end

/-! ### the defs -/
def DF (K : PySem.W.Frag) (x : Str) (ps : List Str) (st : Stmt) : Prop := ∃ (f : Addr) (fd : FuncData), PySem.W.nsIn K mainGlobals x = some (some (.ref f)) ∧ Fun K x x st f fd ∧ ∀ (s : Shared) (us : List Value), us.length = ps.length → BindsTo s fd ⟨us, []⟩ (ps.zip us)
theorem DF.mk {K : PySem.W.Frag} {x : Str} {ps : List Str} {st : Stmt} {f : Addr} {oc : Value} {od an : Option Addr} {osl : Array (Option Value)} {kV doc pm cdv ct : Value}
    (h : ∀ (kV doc pm : Value) (an : Option Addr) (cdv ct : Value) (us : List Value), us.length = ps.length → bindArgs (PySem.W.fnOf x x (defArgs st) (defBody st) (defScope st) .none kV doc pm an cdv ct) ⟨us, []⟩ = pure (ps.zip us))
    (a : PySem.W.nsIn K mainGlobals x = some (some (.ref f))) (l : K.lookup f = some ⟨oc, od, .func (PySem.W.fnOf x x (defArgs st) (defBody st) (defScope st) .none kV doc pm an cdv ct), osl⟩) (c : PySem.W.codeIn K cdv x = true) (k : PySem.W.keepIn K (.ref f) = true) : DF K x ps st :=
  ⟨f, _, a, fun_mk l c k, fun s us hl => .of_eq (h kV doc pm an cdv ct us hl)⟩
theorem binds_of {K : PySem.W.Frag} {fd : FuncData} {ps : List Str} (h : ∀ (s : Shared) (us : List Value), us.length = ps.length → BindsTo s fd ⟨us, []⟩ (ps.zip us)) : Binds K fd ps [] := fun s us _ hl => by
  rw [List.append_nil] at hl ⊢
  exact h s us hl

/-! ### the law itself -/
theorem rfs_ints {D : Dn} {G : Hp} : ∀ ns : List Int, RFs D G (ns.map W.int) (ns.map V.int)
  | [] => rfl
  | n :: ns => ⟨.int n, _, rfl, rfl, rfs_ints ns⟩
def spTop (K : PySem.W.Frag) (g : Fn) : Sp := fun vs H Q E => ∀ CA : Nat → Addr, spOf ⟨K, CA⟩ 1 g vs H Q E
theorem spTop_of {K : PySem.W.Frag} {g : Fn} {ns : List Int} {H : Hp} {a : Addr} {ws : List W} (e : g [.scr (ns.map W.int)] = .ok (.bl true) ws) (hS : SqL K H a (ns.map V.int)) : spTop K g [.ref a] H (fun v _ => v = .bl true) fun _ _ _ => False := fun CA => by
  refine ⟨rfl, [.scr (ns.map W.int)], H, [], Sub.refl _, ⟨.ref a, [], [], [], rfl, rfl, ⟨rfl, a, _, rfl, hS, rfs_ints ns⟩, rfl, rfl⟩, List.nodup_nil, fun _ z => (nomatch z), ?_⟩
  rw [e]
  intro v G' H' O' Ow _ _ r _ _ _
  exact r.2
theorem walk_top {l : PySem.W.OpenLaw} {q : Program} {loose : List Str} {XP : (Str → Option Value) → Heap → Prop} {YP : World → Heap → Prop} {d : PySem.DefRec} {K : Params → PySem.W.Frag} {k : Nat} (g : Fn)
    (hn : l.most = some 63) (hdf : d.params.defaults = []) (hr : Room k PySem.callerA) (hY : ∀ (w : World) (h : Heap), YP w h → (K w.params).In h)
    (F : ∀ (w : World) (mg : Str → Option Value) (fa : Addr) (h : Heap), (K w.params).In h → h.Ns mainGlobals mg → mg d.name = some (.ref fa) →
      ∃ fd : FuncData, (∀ (s : Shared) (u : Value), BindsTo s fd ⟨[u], []⟩ [("script", u)]) ∧ ∃ CA : Nat → Addr, ∀ base : Heap, FnOk l.prog w (K w.params) mg base (L2.CX l.prog w) k fa fd ["script"] (spOf ⟨K w.params, CA⟩ 1 g))
    (law : ∀ ns : List Int, ns.length ≤ 63 → (∀ z ∈ ns, Builtin.Int.intBits z ≤ 1048576) → ∃ ws, g [.scr (ns.map W.int)] = .ok (.bl true) ws) :
    PySem.W.WalkO q loose XP YP l.row.toRowW d [] (fun f vs => PySem.call f vs) := by
  refine L2.walk_ofB (n := 63) (k := k) (x := "script") (CX := fun w => L2.CX l.prog w) (sp := fun w => spTop (K w.params) g) hn (by decide) hdf hr hY (fun w mg fa h KX G hm => ?_) (fun w H a ns hl hb _ hS => ?_) fun w H s e s' z => ?_
  · obtain ⟨fd, hb, CA, hF⟩ := F w mg fa h KX G hm
    exact ⟨fd, hb, fun base _ _ => (hF base).imp fun vs H Q E z => z CA⟩
  · obtain ⟨ws, e⟩ := law ns hl hb
    exact spTop_of e hS
  · obtain ⟨_, _, _, _, _, _, _, _, _, _, _, _, z⟩ := z
    exact z
end Ev

namespace Ev
open PySem PySem.Spec L2

/-! ### running a meaning -/
section
variable {α β : Type} {env : List W}
theorem r_bind (m : Sm α) (f : α → Sm β) : Sm.bind m f env = match m env with
  | .ok a e' => f a e'
  | .ex c e' => .ex c e'
  | .bad => .bad := rfl
theorem r_ret (a : α) : Sm.ret a env = .ok a env := rfl
theorem r_lft (o : Option α) : lft o env = match o with
  | some a => .ok a env
  | none => .bad := rfl
theorem r_c (w : W) : mC w env = .ok w env := rfl
theorem r_var (i : Nat) : mVar i env = match env[i]? with
  | some .dead => .bad
  | some w => .ok w env
  | none => .bad := rfl
theorem r_move (i : Nat) : mMove i env = match env[i]? with
  | some .dead => .bad
  | some w => .ok w (env.set i .dead)
  | none => .bad := rfl
theorem r_un (f : W → Option W) (m : Sm W) : mUn f m env = match m env with
  | .ok w e' => (match f w with
    | some r => .ok r e'
    | none => .bad)
  | .ex c e' => .ex c e'
  | .bad => .bad := by
  unfold mUn
  rw [r_bind]
  cases m env with
  | ok w e' => dsimp only; rw [r_lft]; cases f w <;> rfl
  | _ => rfl
theorem r_bin (f : W → W → Option W) (g : Bool) (m1 m2 : Sm W) : mBin f g m1 m2 env = match m1 env with
  | .ok w1 e1 => (match m2 e1 with
    | .ok w2 e2 => if (g || w1.frz) = true then (match f w1 w2 with
      | some r => .ok r e2
      | none => .bad) else .bad
    | .ex c e' => .ex c e'
    | .bad => .bad)
  | .ex c e' => .ex c e'
  | .bad => .bad := by
  unfold mBin
  rw [r_bind]
  cases m1 env with
  | ok w1 e1 =>
    dsimp only
    rw [r_bind]
    cases m2 e1 with
    | ok w2 e2 =>
      dsimp only
      split
      · rw [r_lft]; cases f w1 w2 <;> rfl
      · rfl
    | _ => rfl
  | _ => rfl
theorem r_chain (f g : W → W → Option W) (m1 m2 m3 : Sm W) : mChain f g m1 m2 m3 env = match m1 env with
  | .ok w1 e1 => (match m2 e1 with
    | .ok w2 e2 => (match (f w1 w2).bind blW with
      | some true => (match m3 e2 with
        | .ok w3 e3 => (match g w2 w3 with
          | some r => .ok r e3
          | none => .bad)
        | .ex c e' => .ex c e'
        | .bad => .bad)
      | some false => .ok (.bl false) e2
      | none => .bad)
    | .ex c e' => .ex c e'
    | .bad => .bad)
  | .ex c e' => .ex c e'
  | .bad => .bad := by
  unfold mChain
  rw [r_bind]
  cases m1 env with
  | ok w1 e1 =>
    dsimp only
    rw [r_bind]
    cases m2 e1 with
    | ok w2 e2 =>
      dsimp only
      rw [r_bind, r_lft]
      cases (f w1 w2).bind blW with
      | none => rfl
      | some b =>
        cases b with
        | false => rfl
        | true =>
          dsimp only
          rw [if_pos rfl, r_bind]
          cases m3 e2 with
          | ok w3 e3 => dsimp only; rw [r_lft]; cases g w2 w3 <;> rfl
          | _ => rfl
    | _ => rfl
  | _ => rfl
theorem r_toB (m : Sm W) : toB m env = match m env with
  | .ok w e' => (match blW w with
    | some r => .ok r e'
    | none => .bad)
  | .ex c e' => .ex c e'
  | .bad => .bad := by
  unfold toB
  rw [r_bind]
  cases m env with
  | ok w e' => dsimp only; rw [r_lft]; cases blW w <;> rfl
  | _ => rfl
theorem r_ofB (m : Sm Bool) : ofB m env = match m env with
  | .ok b e' => .ok (.bl b) e'
  | .ex c e' => .ex c e'
  | .bad => .bad := by
  unfold ofB
  rw [r_bind]
  cases m env with
  | ok w e' => first | rfl | (dsimp only; done) | (dsimp only; first | rfl | (split <;> first | rfl | (split <;> rfl)))
  | _ => rfl
theorem r_and (m1 m2 : Sm Bool) : mAnd m1 m2 env = match m1 env with
  | .ok true e' => m2 e'
  | .ok false e' => .ok false e'
  | .ex c e' => .ex c e'
  | .bad => .bad := by
  unfold mAnd
  rw [r_bind]
  cases m1 env with
  | ok b e' => cases b <;> rfl
  | _ => rfl
theorem r_or (m1 m2 : Sm Bool) : mOr m1 m2 env = match m1 env with
  | .ok true e' => .ok true e'
  | .ok false e' => m2 e'
  | .ex c e' => .ex c e'
  | .bad => .bad := by
  unfold mOr
  rw [r_bind]
  cases m1 env with
  | ok b e' => cases b <;> rfl
  | _ => rfl
theorem r_not (m : Sm Bool) : mNot m env = match m env with
  | .ok b e' => .ok (!b) e'
  | .ex c e' => .ex c e'
  | .bad => .bad := by
  unfold mNot
  rw [r_bind]
  cases m env with
  | ok w e' => first | rfl | (dsimp only; done) | (dsimp only; first | rfl | (split <;> first | rfl | (split <;> rfl)))
  | _ => rfl
theorem r_nil : mNil env = .ok [] env := rfl
theorem r_cons (m : Sm W) (ms : Sm (List W)) : mCons m ms env = match m env with
  | .ok w e' => if w.frz = true then (match ms e' with
    | .ok ws e2 => .ok (w :: ws) e2
    | .ex c e' => .ex c e'
    | .bad => .bad) else .bad
  | .ex c e' => .ex c e'
  | .bad => .bad := by
  unfold mCons
  rw [r_bind]
  cases m env with
  | ok w e' =>
    dsimp only
    split
    · rw [r_bind]; cases ms e' <;> rfl
    · rfl
  | _ => rfl
theorem r_args (f : List W → Option W) (m : Sm (List W)) : mArgs f m env = match m env with
  | .ok ws e' => (match f ws with
    | some r => .ok r e'
    | none => .bad)
  | .ex c e' => .ex c e'
  | .bad => .bad := by
  unfold mArgs
  rw [r_bind]
  cases m env with
  | ok w e' => dsimp only; rw [r_lft]; cases f w <;> rfl
  | _ => rfl
theorem r_iargs (f : List W → Option (List W)) (m : Sm (List W)) : iArgs f m env = match m env with
  | .ok ws e' => (match f ws with
    | some r => .ok r e'
    | none => .bad)
  | .ex c e' => .ex c e'
  | .bad => .bad := by
  unfold iArgs
  rw [r_bind]
  cases m env with
  | ok w e' => dsimp only; rw [r_lft]; cases f w <;> rfl
  | _ => rfl
theorem r_ilst (m : Sm W) : iLst m env = match m env with
  | .ok w e' => (match frzL w with
    | some r => .ok r e'
    | none => .bad)
  | .ex c e' => .ex c e'
  | .bad => .bad := by
  unfold iLst
  rw [r_bind]
  cases m env with
  | ok w e' => dsimp only; rw [r_lft]; cases frzL w <;> rfl
  | _ => rfl
theorem r_part (m : Sm W) : mPart m env = match m env with
  | .ok w e' => (match (intW w).map some with
    | some r => .ok r e'
    | none => .bad)
  | .ex c e' => .ex c e'
  | .bad => .bad := by
  unfold mPart
  rw [r_bind]
  cases m env with
  | ok w e' => dsimp only; rw [r_lft]; cases (intW w).map some <;> rfl
  | _ => rfl
theorem r_no : mNo env = .ok none env := rfl
theorem r_slice (b g : Bool) (m : Sm W) (ml mh : Sm (Option Int)) : mSlice b g m ml mh env = match m env with
  | .ok w e1 => (match ml e1 with
    | .ok lo e2 => (match mh e2 with
      | .ok hi e3 => if (g || w.frz) = true then (match cutW b w lo hi with
        | some r => .ok r e3
        | none => .bad) else .bad
      | .ex c e' => .ex c e'
      | .bad => .bad)
    | .ex c e' => .ex c e'
    | .bad => .bad)
  | .ex c e' => .ex c e'
  | .bad => .bad := by
  unfold mSlice
  rw [r_bind]
  cases m env with
  | ok w e1 =>
    dsimp only
    rw [r_bind]
    cases ml e1 with
    | ok lo e2 =>
      dsimp only
      rw [r_bind]
      cases mh e2 with
      | ok hi e3 =>
        dsimp only
        split
        · rw [r_lft]; cases cutW b w lo hi <;> rfl
        · rfl
      | _ => rfl
    | _ => rfl
  | _ => rfl
theorem r_callP (g : Fn) (m : Sm (List W)) : mCallP g m env = match m env with
  | .ok ws e' => (match g ws with
    | .ok w _ => .ok w e'
    | .ex c _ => .ex c e'
    | .bad => .bad)
  | .ex c e' => .ex c e'
  | .bad => .bad := by
  unfold mCallP
  rw [r_bind]
  cases m env with
  | ok w e' => first | rfl | (dsimp only; done) | (dsimp only; first | rfl | (split <;> first | rfl | (split <;> rfl)))
  | _ => rfl
theorem r_rnil : rNil env = .ok [] env := rfl
theorem r_rval (m : Sm W) (ms : Sm (List AV)) : rVal m ms env = match m env with
  | .ok w e' => if w.frz = true then (match ms e' with
    | .ok as e2 => .ok (.v w :: as) e2
    | .ex c e' => .ex c e'
    | .bad => .bad) else .bad
  | .ex c e' => .ex c e'
  | .bad => .bad := by
  unfold rVal
  rw [r_bind]
  cases m env with
  | ok w e' =>
    dsimp only
    split
    · rw [r_bind]; cases ms e' <;> rfl
    · rfl
  | _ => rfl
theorem r_rvalX (m : Sm W) (ms : Sm (List AV)) : rValX m ms env = match m env with
  | .ok w e' => if w.pas = true then (match ms e' with
    | .ok as e2 => .ok (.v w :: as) e2
    | .ex c e' => .ex c e'
    | .bad => .bad) else .bad
  | .ex c e' => .ex c e'
  | .bad => .bad := by
  unfold rValX
  rw [r_bind]
  cases m env with
  | ok w e' =>
    dsimp only
    split
    · rw [r_bind]; cases ms e' <;> rfl
    · rfl
  | _ => rfl
theorem r_rio (i : Nat) (ms : Sm (List AV)) : rIo i ms env = match ms env with
  | .ok as e' => .ok (.io i :: as) e'
  | .ex c e' => .ex c e'
  | .bad => .bad := by
  unfold rIo
  rw [r_bind]
  cases ms env with
  | ok w e' => first | rfl | (dsimp only; done) | (dsimp only; first | rfl | (split <;> first | rfl | (split <;> rfl)))
  | _ => rfl
theorem r_call (g : Fn) (n : Nat) (m : Sm (List AV)) : mCall g n m env = match m env with
  | .ok as e' => if as.length = n then (match takeA e' as with
    | none => .bad
    | some (ws, env0) => match g ws with
      | .ok w ws' => .ok w (putA env0 as ws')
      | .ex c ws' => .ex c (putA env0 as ws')
      | .bad => .bad) else .bad
  | .ex c e' => .ex c e'
  | .bad => .bad := by
  unfold mCall
  rw [r_bind]
  cases m env with
  | ok w e' => first | rfl | (dsimp only; done) | (dsimp only; first | rfl | (split <;> first | rfl | (split <;> rfl)))
  | _ => rfl
theorem r_callL (g : Fn) (n : Nat) (m : Sm (List AV)) : mCallL g n m env = match m env with
  | .ok as e' => if as.length = n then (match lendA e' as with
    | none => .bad
    | some ws => match g ws with
      | .ok w _ => if w.flat = true then .ok w e' else .bad
      | .ex c _ => .ex c e'
      | .bad => .bad) else .bad
  | .ex c e' => .ex c e'
  | .bad => .bad := by
  unfold mCallL
  rw [r_bind]
  cases m env with
  | ok w e' => first | rfl | (dsimp only; done) | (dsimp only; first | rfl | (split <;> first | rfl | (split <;> rfl)))
  | _ => rfl
theorem r_fz (m : Sm W) : mFz m env = match m env with
  | .ok w e' => (match w.fz.frz with
    | true => .ok w.fz e'
    | false => .bad)
  | .ex c e' => .ex c e'
  | .bad => .bad := by
  unfold mFz
  rw [r_bind]
  cases m env with
  | ok w e' => dsimp only; cases w.fz.frz <;> rfl
  | _ => rfl
theorem r_seq (m1 m2 : Sm Fl) : sSeq m1 m2 env = match m1 env with
  | .ok .nx e' => m2 e'
  | .ok .bk e' => .ok .bk e'
  | .ok .ct e' => .ok .ct e'
  | .ok (.rt w) e' => .ok (.rt w) e'
  | .ex c e' => .ex c e'
  | .bad => .bad := by
  unfold sSeq
  rw [r_bind]
  cases m1 env with
  | ok fl e' => cases fl <;> rfl
  | _ => rfl
theorem r_snil : sNil env = .ok .nx env := rfl
theorem r_if (c : Sm Bool) (a b : Sm Fl) : sIf c a b env = match c env with
  | .ok true e' => a e'
  | .ok false e' => b e'
  | .ex c e' => .ex c e'
  | .bad => .bad := by
  unfold sIf
  rw [r_bind]
  cases c env with
  | ok b e' => cases b <;> rfl
  | _ => rfl
theorem r_drop (m : Sm W) : sDrop m env = match m env with
  | .ok _ e' => .ok .nx e'
  | .ex c e' => .ex c e'
  | .bad => .bad := by
  unfold sDrop
  rw [r_bind]
  cases m env with
  | ok w e' => first | rfl | (dsimp only; done) | (dsimp only; first | rfl | (split <;> first | rfl | (split <;> rfl)))
  | _ => rfl
theorem r_sret (k : Bool) (m : Sm W) : sRet k m env = match m env with
  | .ok w e' => if (k || w.frz) = true then .ok (.rt w) e' else .bad
  | .ex c e' => .ex c e'
  | .bad => .bad := by
  unfold sRet
  rw [r_bind]
  cases m env with
  | ok w e' => dsimp only; split <;> rfl
  | _ => rfl
theorem r_set (i : Nat) (k : Bool) (m : Sm W) : sSet i k m env = match m env with
  | .ok w e' => if (k || w.frz) = true then .ok .nx (e'.set i w) else .bad
  | .ex c e' => .ex c e'
  | .bad => .bad := by
  unfold sSet
  rw [r_bind]
  cases m env with
  | ok w e' => first | rfl | (dsimp only; done) | (dsimp only; first | rfl | (split <;> first | rfl | (split <;> rfl)))
  | _ => rfl
theorem r_asg (f : Tg) (m : Sm W) : sAsg f m env = match m env with
  | .ok w e' => if w.frz = true then (match f w e' with
    | some e2 => .ok .nx e2
    | none => .bad) else .bad
  | .ex c e' => .ex c e'
  | .bad => .bad := by
  unfold sAsg
  rw [r_bind]
  cases m env with
  | ok w e' => first | rfl | (dsimp only; done) | (dsimp only; split <;> first | rfl | (cases f w e' <;> rfl))
  | _ => rfl
theorem r_aug (i : Nat) (f : Int → Int → Int) (m : Sm W) : sAug i f m env = match env[i]? with
  | some (.int a) => (match m env with
    | .ok (.int b) env' => .ok .nx (env'.set i (.int (f a b)))
    | .ok _ _ => .bad
    | .ex c env' => .ex c env'
    | .bad => .bad)
  | _ => .bad := rfl
theorem r_sfor (f : Tg) (body : Sm Fl) (kill : List Nat) (mi : Sm (List W)) : sFor f body kill mi env = match mi env with
  | .ok ws e' => mFor f body kill ws e'
  | .ex c e' => .ex c e'
  | .bad => .bad := by
  unfold sFor
  rw [r_bind]
  cases mi env with
  | ok w e' => first | rfl | (dsimp only; done) | (dsimp only; first | rfl | (split <;> first | rfl | (split <;> rfl)))
  | _ => rfl
theorem r_mut (i : Nat) (F : MutF) (m : Sm (List W)) : mMut i F m env = match env[i]? with
  | some (.lst true _) => (match m env with
    | .ok ws env1 => (match env1[i]? with
      | some (.lst true xs) => (match F xs ws with
        | some (w, xs') => .ok w (env1.set i (.lst true xs'))
        | none => .bad)
      | _ => .bad)
    | .ex c env1 => .ex c env1
    | .bad => .bad)
  | _ => .bad := rfl
theorem r_sto (i : Nat) (mi me : Sm W) : sSto i mi me env = match me env with
  | .ok w e' => if w.frz = true then (match e'[i]? with
    | some (.lst true _) => (match mi e' with
      | .ok j e2 => stoAt i w j e2
      | .ex c e' => .ex c e'
      | .bad => .bad)
    | _ => .bad) else .bad
  | .ex c e' => .ex c e'
  | .bad => .bad := by
  unfold sSto
  rw [r_bind]
  cases me env with
  | ok w e' =>
    dsimp only
    split
    · cases e'[i]? with
      | none => rfl
      | some v =>
        cases v <;> first
          | rfl
          | (rename_i b _; cases b <;> first | rfl | (dsimp only; rw [r_bind]; cases mi e' <;> rfl))
    · rfl
  | _ => rfl
theorem r_go (g : Sm Unit) (m : Sm Fl) : sGo g m env = match g env with
  | .ok _ e' => m e'
  | .ex c e' => .ex c e'
  | .bad => .bad := by
  unfold sGo
  rw [r_bind]
  cases g env with
  | ok w e' => first | rfl | (dsimp only; done) | (dsimp only; first | rfl | (split <;> first | rfl | (split <;> rfl)))
  | _ => rfl
theorem r_gfz (i : Nat) : gFz i env = match env[i]? with
  | some (.lst true xs) => .ok () (env.set i (.lst false xs))
  | _ => .bad := rfl
theorem r_raise (c : Nat) : sRaise c env = .ex c env := rfl
theorem r_try (acc : Nat → Option Bool) (i j : Nat) (mb : Sm Fl) : sTry acc i j mb env = match mb env with
  | .ex x env1 => (match acc x with
    | some true => .ok .nx ((env1.set j (.exc x)).set i .dead)
    | some false => .ex x env1
    | none => .bad)
  | .ok a e => .ok a e
  | .bad => .bad := by
  unfold sTry
  cases mb env <;> rfl
theorem r_andV (m1 m2 : Sm W) : mAndV m1 m2 env = ofB (mAnd (toB m1) (toB m2)) env := rfl
theorem r_orV (m1 m2 : Sm W) : mOrV m1 m2 env = ofB (mOr (toB m1) (toB m2)) env := rfl
theorem r_notV (m : Sm W) : mNotV m env = ofB (mNot (toB m)) env := rfl
theorem r_fn (N : Nat) (io : List Bool) (body : Sm Fl) (ws : List W) : fnSem N io body ws = match body (ws ++ List.replicate (N - ws.length) .dead) with
  | .ok (.rt w) env => .ok w (maskL io env)
  | .ok .nx env => .ok .non (maskL io env)
  | .ok _ _ => .bad
  | .ex c env => .ex c (maskL io env)
  | .bad => .bad := rfl
end
theorem maskL_nil (env : List W) : maskL [] env = [] := rfl
theorem maskL_cons (b : Bool) (bs : List Bool) (w : W) (env : List W) : maskL (b :: bs) (w :: env) = cond b w .dead :: maskL bs env := rfl
theorem frz_non : W.non.frz = true := rfl
theorem frz_bl (b : Bool) : (W.bl b).frz = true := rfl
theorem frz_int (i : Int) : (W.int i).frz = true := rfl
theorem frz_str (i : Str) : (W.str i).frz = true := rfl
theorem frz_tup (i : List W) : (W.tup i).frz = true := rfl
theorem frz_lst (b : Bool) (i : List W) : (W.lst b i).frz = !b := rfl
theorem frz_scr (i : List W) : (W.scr i).frz = true := rfl
theorem fz_lst (b : Bool) (i : List W) : (W.lst b i).fz = .lst false i := rfl
theorem fz_int (i : Int) : (W.int i).fz = .int i := rfl
theorem fz_tup (i : List W) : (W.tup i).fz = .tup i := rfl
theorem fz_str (i : Str) : (W.str i).fz = .str i := rfl
theorem fz_bl (i : Bool) : (W.bl i).fz = .bl i := rfl
theorem w_lst (b : Bool) (ws : List W) : lstW b ws = if ws.length ≤ sizeLine then some (.lst b ws) else none := Eq.trans rfl rfl
theorem w_tup (ws : List W) : tupW ws = if ws.length ≤ sizeLine then some (.tup ws) else none := Eq.trans rfl rfl
theorem w_add (b : Bool) (i j : Int) : addW b (.int i) (.int j) = some (.int (i + j)) := rfl
theorem w_addL (b c d : Bool) (xs ys : List W) : addW b (.lst c xs) (.lst d ys) = if xs.length + ys.length ≤ sizeLine then some (.lst b (xs ++ ys)) else none := Eq.trans rfl rfl
theorem w_addB (b c : Bool) (i : Int) : addW b (.int i) (.bl c) = some (.int (i + PyProof.Rows.b2i c)) := rfl
theorem w_sub (i j : Int) : subW (.int i) (.int j) = some (.int (i - j)) := rfl
theorem w_mul (b : Bool) (i j : Int) : mulW b (.int i) (.int j) = if mulOk i j then some (.int (i * j)) else none := Eq.trans rfl rfl
theorem w_rep (b c : Bool) (xs : List W) (k : Int) : mulW b (.lst c xs) (.int k) = if repOk xs.length k then some (.lst b (List.replicate k.toNat xs).flatten) else none := Eq.trans rfl rfl
theorem w_fdiv (i j : Int) : fdivW (.int i) (.int j) = if divOk j then some (.int (i / j)) else none := Eq.trans rfl rfl
theorem w_mod (i j : Int) : modW (.int i) (.int j) = if 0 < j then some (.int (i % j)) else none := Eq.trans rfl rfl
theorem w_pow (i j : Int) : powW (.int i) (.int j) = if powOk i j then some (.int (i ^ j.toNat)) else none := Eq.trans rfl rfl
theorem w_neg (i : Int) : negW (.int i) = some (.int (-i)) := rfl
theorem w_lt (i j : Int) : ltW (.int i) (.int j) = some (.bl (decide (i < j))) := rfl
theorem w_le (i j : Int) : leW (.int i) (.int j) = some (.bl (decide (i ≤ j))) := rfl
theorem w_ge (i j : Int) : geW (.int i) (.int j) = some (.bl (decide (j ≤ i))) := rfl
theorem w_gt (i j : Int) : gtW (.int i) (.int j) = some (.bl (decide (j < i))) := rfl
theorem w_bl (b : Bool) : blW (.bl b) = some b := rfl
theorem w_intW (i : Int) : intW (.int i) = some i := rfl
theorem w_toI (i : Int) : toIntW (.int i) = some (.int i) := rfl
theorem w_toB (b : Bool) : toIntW (.bl b) = some (.int (if b = true then 1 else 0)) := Eq.trans rfl rfl
theorem w_max2 (i j : Int) : max2W [.int i, .int j] = some (.int (if j > i then j else i)) := Eq.trans rfl rfl
theorem w_min2 (i j : Int) : min2W [.int i, .int j] = some (.int (if j < i then j else i)) := Eq.trans rfl rfl
theorem w_abs (i : Int) : absW (.int i) = some (.int (if i < 0 then -i else i)) := Eq.trans rfl rfl
theorem w_lenL (b : Bool) (ws : List W) : lenW (.lst b ws) = some (.int ws.length) := rfl
theorem w_lenC (ws : List W) : lenW (.scr ws) = some (.int ws.length) := rfl
theorem w_lenT (ws : List W) : lenW (.tup ws) = some (.int ws.length) := rfl
theorem w_listL (c b : Bool) (ws : List W) : listOfW c (.lst b ws) = some (.lst c ws) := rfl
theorem w_listC (c : Bool) (ws : List W) : listOfW c (.scr ws) = some (.lst c ws) := rfl
theorem w_listT (c : Bool) (ws : List W) : listOfW c (.tup ws) = some (.lst c ws) := rfl
theorem w_tupL (b : Bool) (ws : List W) : tupOfW (.lst b ws) = some (.tup ws) := rfl
theorem w_rev (c b : Bool) (ws : List W) : revW c (.lst b ws) = some (.lst c ws.reverse) := rfl
theorem w_ixL (b : Bool) (xs : List W) (i : Int) : ixW (.lst b xs) (.int i) = atI xs i := rfl
theorem w_ixC (xs : List W) (i : Int) : ixW (.scr xs) (.int i) = atI xs i := rfl
theorem w_ixT (xs : List W) (i : Int) : ixW (.tup xs) (.int i) = atI xs i := rfl
theorem w_cutL (c b : Bool) (xs : List W) (lo hi : Option Int) : cutW c (.lst b xs) lo hi = some (.lst c (cutL xs lo hi)) := rfl
theorem w_cutC (c : Bool) (xs : List W) (lo hi : Option Int) : cutW c (.scr xs) lo hi = some (.lst c (cutL xs lo hi)) := rfl
theorem w_frzL (ws : List W) : frzL (.lst false ws) = some ws := rfl
theorem w_frzC (ws : List W) : frzL (.scr ws) = some ws := rfl
theorem w_rng1 (j : Int) : rng1 [.int j] = if rngOk j then some (rngL 0 j.toNat) else none := Eq.trans rfl rfl
theorem w_rng2 (i j : Int) : rng2 [.int i, .int j] = if rngOk i ∧ rngOk j then some (rngL i (j - i).toNat) else none := Eq.trans rfl rfl
theorem w_enum (ws : List W) : enumL [.lst false ws] = some (ws.zipIdx.map fun q => .tup [.int (q.2 : Nat), q.1]) := rfl
theorem w_enumC (ws : List W) : enumL [.scr ws] = some (ws.zipIdx.map fun q => .tup [.int (q.2 : Nat), q.1]) := rfl
theorem w_zip (ws xs : List W) : zipL [.lst false ws, .lst false xs] = some ((ws.zip xs).map fun q => .tup [q.1, q.2]) := rfl
theorem w_app (xs : List W) (w : W) : fAppend xs [w] = if xs.length < sizeLine then some (.non, xs ++ [w]) else none := Eq.trans rfl rfl
theorem w_ext (xs ys : List W) : fExtend xs [.lst false ys] = if xs.length + ys.length ≤ sizeLine then some (.non, xs ++ ys) else none := Eq.trans rfl rfl
theorem w_pop (xs : List W) (w : W) : fPop (xs ++ [w]) [] = some (w, xs) := by
  unfold fPop
  simp
theorem w_sum (b : Bool) (ns : List Int) : sumW (.lst b (ns.map W.int)) = some (.int ns.sum) := by
  unfold sumW lisW
  rw [Option.bind_some, intsW_map]
  rfl
theorem w_isx (tab : Nat → Option Bool) (c : Nat) : isxW tab (.exc c) = (tab c).map .bl := rfl
theorem w_isiI (i : Int) : isiW ["int"] (.int i) = some (.bl true) := by rfl
theorem w_isiB (i : Int) : isiW ["bool"] (.int i) = some (.bl false) := by rfl
theorem w_tgN (i : Nat) (w : W) (env : List W) : tgN i w env = some (env.set i w) := rfl
theorem w_tgT (is : List Nat) (ws env : List W) : tgT is (.tup ws) env = tgL is ws env := rfl
theorem w_killN (env : List W) : killE [] env = env := rfl
theorem w_killC (i : Nat) (is : List Nat) (env : List W) : killE (i :: is) env = killE is (env.set i .dead) := rfl
theorem w_takeN (env : List W) : takeA env [] = some ([], env) := rfl
theorem w_takeV (env : List W) (w : W) (as : List AV) : takeA env (.v w :: as) = (takeA env as).map fun r => (w :: r.1, r.2) := rfl
theorem w_takeI (env : List W) (i : Nat) (as : List AV) : takeA env (.io i :: as) = match env[i]? with
  | some .dead => none
  | some w => (takeA (env.set i .dead) as).map fun r => (w :: r.1, r.2)
  | none => none := Eq.trans rfl rfl
theorem w_putI (env : List W) (i : Nat) (as : List AV) (w : W) (ws : List W) : putA env (.io i :: as) (w :: ws) = putA (env.set i w) as ws := rfl
theorem w_putV (env : List W) (w1 : W) (as : List AV) (w : W) (ws : List W) : putA env (.v w1 :: as) (w :: ws) = putA env as ws := rfl
theorem w_putN (env : List W) (ws : List W) : putA env [] ws = env := by cases ws <;> rfl
theorem w_lendN (env : List W) : lendA env [] = some [] := rfl
theorem w_lendV (env : List W) (w : W) (as : List AV) : lendA env (.v w :: as) = (lendA env as).map (w :: ·) := rfl
theorem w_lendI (env : List W) (i : Nat) (as : List AV) : lendA env (.io i :: as) = match env[i]? with
  | some (.lst _ xs) => (lendA env as).map (.lst false xs :: ·)
  | some (.exc c) => (lendA env as).map (.exc c :: ·)
  | some (.nst xs) => if fzOks xs = true then (lendA env as).map (.lst false (fzDs xs) :: ·) else none
  | some (.ntp xs) => if fzOks xs = true then (lendA env as).map (.tup (fzDs xs) :: ·) else none
  | some w => if w.frz = true then (lendA env as).map (w :: ·) else none
  | none => none := Eq.trans rfl rfl
theorem flat_bl (b : Bool) : (W.bl b).flat = true := rfl
theorem flat_int (b : Int) : (W.int b).flat = true := rfl
theorem flat_non : W.non.flat = true := rfl
/-! ### side conditions -/
theorem mulOk_r {i j : Int} (h1 : -(2 ^ 64) < j) (h2 : j < 2 ^ 64) : mulOk i j := .inr ⟨h1, h2⟩
theorem mulOk_l {i j : Int} (h1 : -(2 ^ 64) < i) (h2 : i < 2 ^ 64) : mulOk i j := .inl ⟨h1, h2⟩
theorem divOk_of {j : Int} (h1 : 0 < j) (h2 : j < 2 ^ 64) : divOk j := by
  refine ⟨h1, ?_⟩
  have h3 : j.natAbs < 2 ^ 64 := by omega
  have h4 := (Nat.log2_lt (n := j.natAbs) (k := 64) (by omega)).mpr h3
  omega
theorem line_ge : (1000000 : Nat) ≤ sizeLine := by decide
theorem rngOk_of {j : Int} (h1 : -(2 ^ 62) ≤ j) (h2 : j < 2 ^ 62) : rngOk j := ⟨h1, h2⟩
/-! ### loops -/
/-- one turn of a for -/
def turn (f : Tg) (body : Sm Fl) (kill : List Nat) (x : W) (env : List W) : Out Fl := match f x env with
  | none => .bad
  | some env1 => match body env1 with
    | .ok .nx env2 => .ok .nx (killE kill env2)
    | .ok .ct env2 => .ok .nx (killE kill env2)
    | .ok .bk env2 => .ok .bk env2
    | .ok (.rt w) env2 => .ok (.rt w) env2
    | .ex c env2 => .ex c env2
    | .bad => .bad
theorem mFor_cons {f : Tg} {body : Sm Fl} {kill : List Nat} {x : W} {xs : List W} {env : List W} : mFor f body kill (x :: xs) env = match turn f body kill x env with
  | .ok .nx env2 => mFor f body kill xs env2
  | .ok .bk env2 => .ok .nx env2
  | .ok .ct env2 => .ok .nx env2
  | .ok (.rt w) env2 => .ok (.rt w) env2
  | .ex c env2 => .ex c env2
  | .bad => .bad := by
  rw [mFor]
  unfold turn
  cases f x env with
  | none => rfl
  | some env1 =>
    dsimp only
    cases body env1 with
    | ok fl env2 => cases fl <;> rfl
    | _ => rfl
/-- one thing of a comprehension -/
def lcOne (f : Tg) (tt : Sm Bool) (te : Sm W) (vs : List Nat) (x : W) (env : List W) : Out (Option W) := match f x env with
  | none => .bad
  | some env1 => match tt env1 with
    | .ok false env2 => .ok none (killE vs env2)
    | .ok true env2 => (match te env2 with
      | .ok y env3 => if y.frz = true then .ok (some y) (killE vs env3) else .bad
      | _ => .bad)
    | _ => .bad
theorem mLc_cons {f : Tg} {tt : Sm Bool} {te : Sm W} {vs : List Nat} {x : W} {xs acc env env' : List W} {o : Option W} (h : lcOne f tt te vs x (killE vs env) = .ok o env') (hl : acc.length < sizeLine) :
    ∃ env2, killE vs env2 = env' ∧ mLc f tt te vs (x :: xs) acc env = mLc f tt te vs xs (acc ++ o.toList) env2 := by
  unfold lcOne at h
  rw [mLc]
  cases e1 : f x (killE vs env) with
  | none => rw [e1] at h; cases h
  | some env1 =>
    rw [e1] at h
    dsimp only at h ⊢
    cases e2 : tt env1 with
    | bad => rw [e2] at h; cases h
    | ex c env2 => rw [e2] at h; cases h
    | ok b env2 =>
      rw [e2] at h
      cases b with
      | false =>
        cases h
        exact ⟨env2, rfl, by rw [Option.toList, List.append_nil]⟩
      | true =>
        dsimp only at h ⊢
        cases e3 : te env2 with
        | bad => rw [e3] at h; cases h
        | ex c env3 => rw [e3] at h; cases h
        | ok y env3 =>
          rw [e3] at h
          dsimp only at h ⊢
          by_cases hf : y.frz = true
          · rw [if_pos hf] at h
            cases h
            exact ⟨env3, rfl, by rw [if_pos ⟨hf, hl⟩]; rfl⟩
          · rw [if_neg hf] at h; cases h
def accG {α σ : Type} (g : σ → α → Option W) (step : σ → α → σ) : σ → List α → List W
  | _, [] => []
  | s, x :: xs => (g s x).toList ++ accG g step (step s x) xs
theorem mLc_fold {α σ : Type} {f : Tg} {tt : Sm Bool} {te : Sm W} {vs : List Nat} (e : α → W) (enc : σ → List W) (step : σ → α → σ) (g : σ → α → Option W) (I : Nat → σ → Prop) : ∀ {xs : List α} {s : σ} {acc env : List W}, I xs.length s → killE vs env = enc s → acc.length + xs.length ≤ sizeLine →
    (∀ x ∈ xs, ∀ n s, I (n + 1) s → lcOne f tt te vs (e x) (enc s) = .ok (g s x) (enc (step s x)) ∧ I n (step s x)) → mLc f tt te vs (xs.map e) acc env = .ok (acc ++ accG g step s xs) (enc (xs.foldl step s)) ∧ I 0 (xs.foldl step s)
  | [], s, acc, env, i, hk, hl, _ => ⟨by rw [List.map_nil, mLc, hk, accG, List.append_nil]; rfl, i⟩
  | x :: xs, s, acc, env, i, hk, hl, h => by
    rw [List.length_cons] at hl
    obtain ⟨h1, h2⟩ := h x List.mem_cons_self _ s i
    rw [← hk] at h1
    obtain ⟨env2, h3, h4⟩ := mLc_cons (xs := xs.map e) (acc := acc) h1 (by omega)
    have ho : (g s x).toList.length ≤ 1 := by cases g s x <;> simp
    obtain ⟨h5, h6⟩ := mLc_fold (acc := acc ++ (g s x).toList) e enc step g I h2 h3 (by rw [List.length_append]; omega) fun y hy => h y (List.mem_cons_of_mem _ hy)
    rw [List.map_cons, h4, h5, accG, List.append_assoc]
    exact ⟨rfl, h6⟩
theorem accG_fm {α σ : Type} {g : α → Option W} {step : σ → α → σ} : ∀ {xs : List α} {s : σ}, accG (fun _ => g) step s xs = xs.filterMap g
  | [], _ => rfl
  | x :: xs, s => by
    rw [accG, accG_fm, List.filterMap_cons]
    cases g x <;> rfl
/-- a comprehension that looks only, over things that are xs.map e -/
theorem comp_fm {α : Type} {f : Tg} {tt : Sm Bool} {te : Sm W} {vs : List Nat} {mi : Sm (List W)} {env : List W} (e : α → W) (g : α → Option W) {xs : List α} (hm : mi env = .ok (xs.map e) env) (hl : xs.length ≤ sizeLine)
    (h : ∀ x ∈ xs, lcOne f tt te vs (e x) (killE vs env) = .ok (g x) (killE vs env)) : mComp true f tt te vs mi env = .ok (.lst true (xs.filterMap g)) env := by
  unfold mComp
  rw [r_bind, hm]
  dsimp only
  obtain ⟨h1, _⟩ := mLc_fold (vs := vs) (σ := Unit) (acc := []) (env := env) (xs := xs) (f := f) (tt := tt) (te := te) e (fun _ => killE vs env) (fun _ _ => ()) (fun _ => g) (fun _ _ => True) (s := ()) trivial rfl (by simpa using hl) fun x hx _ _ _ => ⟨h x hx, trivial⟩
  rw [h1, accG_fm]
  rfl
theorem filterMap_some {α : Type} {g : α → W} {xs : List α} : xs.filterMap (fun x => some (g x)) = xs.map g := by
  induction xs with
  | nil => rfl
  | cons x xs ih => rw [List.filterMap_cons, ih]; rfl
theorem filterMap_if {α : Type} {p : α → Bool} {g : α → W} {xs : List α} : xs.filterMap (fun x => if p x = true then some (g x) else none) = (xs.filter p).map g := by
  induction xs with
  | nil => rfl
  | cons x xs ih =>
    rw [List.filterMap_cons, List.filter_cons]
    by_cases h : p x = true
    · rw [if_pos h, if_pos h, ih]; rfl
    · rw [if_neg h, if_neg h, ih]
theorem comp_map {α : Type} {f : Tg} {tt : Sm Bool} {te : Sm W} {vs : List Nat} {mi : Sm (List W)} {env : List W} (e : α → W) (g : α → W) {xs : List α} (hm : mi env = .ok (xs.map e) env) (hl : xs.length ≤ sizeLine)
    (h : ∀ x ∈ xs, lcOne f tt te vs (e x) (killE vs env) = .ok (some (g x)) (killE vs env)) : mComp true f tt te vs mi env = .ok (.lst true (xs.map g)) env := by
  rw [comp_fm e (fun x => some (g x)) hm hl h, filterMap_some]
theorem comp_filter {α : Type} {f : Tg} {tt : Sm Bool} {te : Sm W} {vs : List Nat} {mi : Sm (List W)} {env : List W} (e : α → W) (p : α → Bool) (g : α → W) {xs : List α} (hm : mi env = .ok (xs.map e) env) (hl : xs.length ≤ sizeLine)
    (h : ∀ x ∈ xs, lcOne f tt te vs (e x) (killE vs env) = .ok (if p x = true then some (g x) else none) (killE vs env)) : mComp true f tt te vs mi env = .ok (.lst true ((xs.filter p).map g)) env := by
  rw [comp_fm e (fun x => if p x = true then some (g x) else none) hm hl h, filterMap_if]
theorem rngL_nat (n : Nat) : rngL 0 n = (List.range n).map (fun i : Nat => W.int (0 + (i : Int))) := rfl
/-! ### items -/
theorem atI_pos {α : Type} (xs : List α) {i : Int} (h : 0 ≤ i) : atI xs i = xs[i.toNat]? := by
  unfold atI ixN
  rw [if_pos h]
  by_cases h1 : i < (xs.length : Int)
  · rw [if_pos h1]; rfl
  · rw [if_neg h1, List.getElem?_eq_none (by omega)]; rfl
theorem atI_nat {α : Type} (xs : List α) (k : Nat) : atI xs (k : Int) = xs[k]? := by
  rw [atI_pos xs (by omega), Int.toNat_natCast]
theorem atI_map {α : Type} (e : α → W) (xs : List α) (k : Nat) : atI (xs.map e) (k : Int) = (xs[k]?).map e := by
  rw [atI_nat, List.getElem?_map]
/-! ### things as values -/
structure EncOk {α : Type} (e : α → W) (n : Nat) : Prop where
  frz : ∀ a, (e a).frz = true
  fd : ∀ a, (e a).fd = true
  eqv : ∀ a b, PyData.eqv (e a).dat (e b).dat = true ↔ a = b
  dep : ∀ a, (e a).dat.depth ≤ n
theorem EncOk.int : EncOk W.int 0 := ⟨fun _ => rfl, fun _ => rfl, fun a b => by simp [W.dat, PyData.eqv], fun a => by simp [W.dat, PyData.depth]⟩
theorem EncOk.str : EncOk W.str 0 := ⟨fun _ => rfl, fun _ => rfl, fun a b => by simp [W.dat, PyData.eqv], fun a => by simp [W.dat, PyData.depth]⟩
section
variable {α β γ : Type} {e : α → W} {f : β → W} {g : γ → W} {n m k : Nat}
theorem EncOk.pair (h1 : EncOk e n) (h2 : EncOk f n) : EncOk (fun p : α × β => .tup [e p.1, f p.2]) (n + 1) := ⟨fun _ => rfl, fun _ => rfl, fun a b => by
  simp only [W.dat, datL, PyData.eqv, PyData.eqvAll, Bool.and_true, Bool.and_eq_true, h1.eqv, h2.eqv]
  exact ⟨fun ⟨x, y⟩ => Prod.ext x y, fun x => by subst x; exact ⟨rfl, rfl⟩⟩, fun a => by
  have := h1.dep a.1
  have := h2.dep a.2
  simp only [W.dat, datL, PyData.depth, PyData.depthAll]
  omega⟩
theorem EncOk.all (h : EncOk e n) : ∀ xs ys : List α, PyData.eqvAll (datL (xs.map e)) (datL (ys.map e)) = true ↔ xs = ys
  | [], [] => by simp [datL, PyData.eqvAll]
  | [], y :: ys => by simp [datL, PyData.eqvAll]
  | x :: xs, [] => by simp [datL, PyData.eqvAll]
  | x :: xs, y :: ys => by
    simp only [List.map_cons, datL, PyData.eqvAll, Bool.and_eq_true, h.eqv, h.all xs ys, List.cons.injEq]
theorem EncOk.deps (h : EncOk e n) : ∀ xs : List α, PyData.depthAll (datL (xs.map e)) ≤ n
  | [] => by simp [datL, PyData.depthAll]
  | x :: xs => by
    have h1 := h.dep x
    have h2 := h.deps xs
    simp only [List.map_cons, datL, PyData.depthAll]
    omega
theorem EncOk.lst (h : EncOk e n) : EncOk (fun xs : List α => .lst false (xs.map e)) (n + 1) := ⟨fun _ => rfl, fun _ => rfl, fun a b => by
  simp only [W.dat, PyData.eqv]
  exact h.all a b, fun a => by
  have := h.deps a
  simp only [W.dat, PyData.depth]
  omega⟩
variable [DecidableEq α]
theorem eqv_dec (h : EncOk e n) (a b : α) : PyData.eqv (e a).dat (e b).dat = decide (a = b) := by
  by_cases c : a = b
  · rw [(h.eqv a b).mpr c, decide_eq_true c]
  · have := fun z => c ((h.eqv a b).mp z)
    rw [decide_eq_false c]
    exact Bool.eq_false_iff.mpr this
omit [DecidableEq α] in
theorem EncOk.nd (h : EncOk e n) (a : α) : (e a).nd = true := (h.eqv a a).mpr rfl
omit [DecidableEq α] in
theorem okE_of {a b : W} (h1 : a.fd = true) (h2 : b.fd = true) (h3 : a.nd = true) (h4 : b.nd = true) : okE a b = true := by
  unfold okE
  rw [h1, h2, h3, h4]
  cases nilR a b <;> rfl
theorem eqW_of (h : EncOk e n) (a b : α) (hn : n ≤ 60 := by decide) : eqW (e a) (e b) = some (.bl (decide (a = b))) := by
  unfold eqW
  rw [if_pos ⟨okE_of (h.fd a) (h.fd b) (h.nd a) (h.nd b), .inl (Nat.le_trans (h.dep a) hn)⟩, eqv_dec h]
theorem neW_of (h : EncOk e n) (a b : α) (hn : n ≤ 60 := by decide) : neW (e a) (e b) = some (.bl (!decide (a = b))) := by
  unfold neW
  rw [if_pos ⟨okE_of (h.fd a) (h.fd b) (h.nd a) (h.nd b), .inl (Nat.le_trans (h.dep a) hn)⟩, eqv_dec h]
end
/-- against the empty list -/
theorem eqW_nil (b c : Bool) (ws : List W) : eqW (.lst b ws) (.lst c []) = some (.bl (decide (ws = []))) := by
  unfold eqW
  rw [if_pos ⟨rfl, .inr (by simp [W.dat, datL, PyData.depth, PyData.depthAll])⟩]
  cases ws <;> simp [W.dat, datL, PyData.eqv, PyData.eqvAll]
theorem neW_nil (b c : Bool) (ws : List W) : neW (.lst b ws) (.lst c []) = some (.bl (!decide (ws = []))) := by
  unfold neW
  rw [if_pos ⟨rfl, .inr (by simp [W.dat, datL, PyData.depth, PyData.depthAll])⟩]
  cases ws <;> simp [W.dat, datL, PyData.eqv, PyData.eqvAll]
theorem eqW_int (i j : Int) : eqW (.int i) (.int j) = some (.bl (decide (i = j))) := eqW_of EncOk.int i j
theorem neW_int (i j : Int) : neW (.int i) (.int j) = some (.bl (!decide (i = j))) := neW_of EncOk.int i j
theorem eqW_str (i j : Str) : eqW (.str i) (.str j) = some (.bl (decide (i = j))) := eqW_of EncOk.str i j
theorem neW_str (i j : Str) : neW (.str i) (.str j) = some (.bl (!decide (i = j))) := neW_of EncOk.str i j
end Ev

namespace Ev
/-! ### set(xs), xs a list of ints -/
section
open PySem PySem.Spec PyProof.Rows L2
variable {P : Program} {w : World} {A : Around} {E : Value → Shared → Prop} {s : Shared}
end
end Ev

namespace Ev
/-! ### sorted(set(xs)) -/
open PySem PySem.Spec L2
theorem Ans.on {D : Dn} {G H : Hp} {w : W} {Q : VK} {p : Addr} {o : HO} (n : H p = none) (q : Ans D G H w Q) : Ans D G (upd H p o) w Q := fun v G' H' Ow a b c d e =>
  q v G' H' Ow a b c d ((Step.less (O2 := []) (step_own n) fun _ z => (nomatch z)).trans e)
section
variable {Z : Zt} {e : Expr} {m : Sm W} {p k1 : Bool} {p1 p2 p3 p4 : Pos}
end
/-! ### a def that calls itself: at no depth -/
theorem fnt_bad {P : Program} {w : World} {K : PySem.W.Frag} {mg : Str → Option Value} {base : Heap} {CA : Nat → Addr} {x qual : Str} {st : Stmt} {f : Addr} {fd : FuncData} {ps : List Str} {k n : Nat} (F : Fun K x qual st f fd) (g : mg x = some (.ref f)) (hb : Binds K fd ps []) (hps : ps.length = n) : FnT P w K mg base CA x n k (fun _ => .bad) :=
  ⟨f, fd, ps, ⟨fun vs H Q E h => by rw [h.1, hps], fun A outer s H args us vs Q E _ _ _ _ hsp => by
    obtain ⟨_, _, _, _, _, _, _, _, z⟩ := hsp
    exact z.elim⟩, g, F.kp, hb⟩
end Ev

namespace Ev
open PySem PySem.Spec L2

/-- a loop, by what holds between the turns -/
theorem mFor_inv {α : Type} {f : Tg} {body : Sm Fl} {kill : List Nat} (e : α → W) (I : Nat → List W → Prop) : ∀ {xs : List α} {env : List W}, I xs.length env →
    (∀ x ∈ xs, ∀ n env, I (n + 1) env → ∃ env', turn f body kill (e x) env = .ok .nx env' ∧ I n env') → ∃ env', mFor f body kill (xs.map e) env = .ok .nx env' ∧ I 0 env'
  | [], env, i, _ => ⟨env, rfl, i⟩
  | x :: xs, env, i, h => by
    obtain ⟨env1, h1, h2⟩ := h x List.mem_cons_self _ env i
    rw [List.map_cons, mFor_cons, h1]
    exact mFor_inv e I h2 fun y hy => h y (List.mem_cons_of_mem _ hy)
theorem sortedW_int (b c : Bool) (xs : List Int) (hl : xs.length ≤ sizeLine) : sortedW b (.lst c (xs.map W.int)) = some (.lst b ((xs.mergeSort fun a b => decide (a ≤ b)).map W.int)) := by
  unfold sortedW lisW
  rw [Option.bind_some]
  have ok : SortOk (xs.map W.int) := by
    refine ⟨?_, ?_, by rw [List.length_map]; exact hl, fun w hw => ?_⟩
    · rw [List.map_map]; exact PySem.W.AllAlike.of fun a b => by simp [W.dat, PySem.W.alike]
    · rw [List.map_map]; exact PySem.W.Sortable.others fun a => ⟨fun z => by simp [W.dat] at z, fun xs z => by simp [W.dat] at z⟩
    · obtain ⟨a, _, rfl⟩ := List.mem_map.mp hw
      simp [W.dat, PyData.depth]
  rw [if_pos ok, PySem.W.sort_maps W.int (s := leD) fun a _ b _ => by
    show _ = PySem.W.dataLe false W.dat (.int a) (.int b)
    show _ = (!PySem.W.dataLt (.int b) (.int a))
    rw [PySem.W.dataLt_int, PySem.W.not_lt_int]]
/-! ### things, rows, names -/
abbrev Th := Int × Str
abbrev Nm := Int × Nat × Nat
def encT (t : Th) : W := .tup [.int t.1, .str t.2]
def encR (r : List Th) : W := .lst false (r.map encT)
def encN (n : Nm) : W := .tup [.int n.1, .int (n.2.1 : Nat), .int (n.2.2 : Nat)]
theorem okT : EncOk encT 1 := EncOk.pair EncOk.int EncOk.str
theorem frzT (t : Th) : (encT t).frz = true := rfl
theorem frzR (t : List Th) : (encR t).frz = true := rfl
theorem frzN (t : Nm) : (encN t).frz = true := rfl
def ltN (a b : Nm) : Prop := a.1 < b.1 ∨ (a.1 = b.1 ∧ (a.2.1 < b.2.1 ∨ (a.2.1 = b.2.1 ∧ a.2.2 < b.2.2)))
instance {a b : Nm} : Decidable (ltN a b) := inferInstanceAs (Decidable (_ ∨ _))
theorem w_cutS (b : Bool) (z : Str) (lo hi : Option Int) (h : z.length ≤ sizeLine) : cutW b (.str z) lo hi = some (.str (cutS z lo hi)) := by
  show (if z.length ≤ sizeLine then some (W.str (cutS z lo hi)) else none) = _
  rw [if_pos h]
end Ev

namespace Ev
open PySem PySem.Spec L2

/-! ### walking a tuple -/
theorem walks_tup {D : Dn} {G0 : Hp} {a : Addr} {ws : List W} {vs : List V} (h : SqT D.K G0 a vs) (r : RFs D G0 ws vs) : Walks D (Itt D.K a) ws G0 := fun i G H s0 s => by
  have hs : SqT D.K H a vs := s.sqT (s0.sqT h)
  refine ⟨fun x e => ?_, fun hl => ⟨vs, hs, by rw [← r.len]; exact hl⟩⟩
  obtain ⟨v, h1, h2⟩ := r.get e
  refine ⟨⟨vs, v, hs, h1⟩, fun v' H' y => ?_⟩
  obtain ⟨rfl, y⟩ := y
  have e2 : v' = v := Option.some.inj ((y vs hs).symm.trans h1)
  subst e2
  exact ⟨G, Step.refl _ _ _, s, RF.mono s0 _ _ h2⟩
def tupL : W → Option (List W)
  | .tup ws => some ws
  | _ => none
def iTupM (m : Sm W) : Sm (List W) := Sm.bind m fun w => lft (tupL w)
theorem r_itup {env : List W} (m : Sm W) : iTupM m env = match m env with
  | .ok w e' => (match tupL w with
    | some r => .ok r e'
    | none => .bad)
  | .ex c e' => .ex c e'
  | .bad => .bad := by
  unfold iTupM
  rw [r_bind]
  cases m env with
  | ok w e' => dsimp only; rw [r_lft]; cases tupL w <;> rfl
  | _ => rfl
theorem w_tupLt (ws : List W) : tupL (.tup ws) = some ws := rfl
theorem mi_tup {Z : Zt} {tg e : Expr} {m : Sm W} {p k : Bool} (h : ME Z e m p k) : MI Z tg e (iTupM m) p := pi_imp (pi_tup h) fun σ H R q => by
  obtain ⟨env, G, Os, s, q⟩ := q
  refine ⟨env, G, Os, s, ?_⟩
  unfold iTupM Sm.bind lft at q
  cases e : m env with
  | bad => rw [e] at q; exact q
  | ex c env1 => rw [e] at q; exact q
  | ok w env1 =>
    rw [e] at q
    intro v G' H' Os' Ow s' r o t
    have t' := t.less (O2 := []) kO_less
    cases w with
    | tup ws =>
      obtain ⟨rfl, a, vs, rfl, h1, h2⟩ := r
      exact ⟨a, rfl, ⟨vs, s'.sub.sqT h1⟩, q _ G' H' Os' s' t' (walks_tup h1 h2)⟩
    | _ => exact q.elim
/-! ### a <= b, tuples too -/
def leXD (a b : W) : Option W := if (a.fd && b.fd) = true ∧ smallD a b ∧ PySem.W.alike a.dat b.dat = true then some (.bl (!PySem.W.dataLt b.dat a.dat)) else none
def leXW : W → W → Option W
  | .int i, .int j => some (.bl (decide (i ≤ j)))
  | .tup xs, .tup ys => leXD (.tup xs) (.tup ys)
  | _, _ => none
theorem w_leX (i j : Int) : leXW (.int i) (.int j) = some (.bl (decide (i ≤ j))) := rfl
theorem op_leXW {Z : Zt} {k : Nat} (hr : Room k Z.X.A) : OpS Z (compareOp .LtE) leXW := fun G H w1 w2 v1 v2 O1 O2 w Q s r1 r2 e q => by
  cases w1 with
  | int i =>
    cases w2 with
    | int j =>
      cases e
      obtain ⟨_, rfl⟩ := r1
      obtain ⟨_, rfl⟩ := r2
      exact ⟨_, op_le, i, j, rfl, rfl, q.bl s⟩
    | _ => cases e
  | tup xs =>
    cases w2 with
    | tup ys =>
      have e' : leXD (.tup xs) (.tup ys) = some w := e
      unfold leXD at e'
      by_cases hc : ((W.tup xs).fd && (W.tup ys).fd) = true ∧ smallD (.tup xs) (.tup ys) ∧ PySem.W.alike (W.tup xs).dat (W.tup ys).dat = true
      · rw [if_pos hc] at e'
        cases e'
        obtain ⟨_, hs, ha⟩ := hc
        have d1 := r1.dp s rfl
        have d2 := r2.dp s rfl
        refine ⟨fun x y H' Q' => x = v1 ∧ y = v2 ∧ H' = H ∧ Q' (.bl (!PySem.W.dataLt (W.tup ys).dat (W.tup xs).dat)) H, fun pins st σ H' x y v u Q' I rx ry hh => ?_, rfl, rfl, rfl, q.bl s⟩
        obtain ⟨rfl, rfl, rfl, hq⟩ := hh
        obtain ⟨as, x1⟩ := Dq.reads I _ _ v d1 rx
        obtain ⟨bs, x2⟩ := Dq.reads I _ _ u d2 ry
        have := hs.min
        have := hr.units
        exact PySem.W.rcLe_alike _ _ Z.X.A st v u as bs x1 x2 ha (fun z => nomatch z) (by omega) _ _ _ _ ⟨.bl _, _, I, rfl, hq⟩
      · rw [if_neg hc] at e'; cases e'
    | _ => cases e
  | _ => cases e
/-! ### a slot's value, also where it stands under a name -/
def pickV : Option W → List W → Out W
  | some .dead, _ => .bad
  | some w, env => .ok w env
  | none, _ => .bad
theorem r_var2 {env : List W} (i : Nat) : mVar i env = pickV env[i]? env := by
  rw [r_var]
  cases env[i]? with
  | none => rfl
  | some w => cases w <;> rfl
theorem pick_non (env : List W) : pickV (some .non) env = .ok .non env := rfl
theorem pick_bl (b : Bool) (env : List W) : pickV (some (.bl b)) env = .ok (.bl b) env := rfl
theorem pick_int (i : Int) (env : List W) : pickV (some (.int i)) env = .ok (.int i) env := rfl
theorem pick_str (i : Str) (env : List W) : pickV (some (.str i)) env = .ok (.str i) env := rfl
theorem pick_tup (i : List W) (env : List W) : pickV (some (.tup i)) env = .ok (.tup i) env := rfl
theorem pick_lst (b : Bool) (i : List W) (env : List W) : pickV (some (.lst b i)) env = .ok (.lst b i) env := rfl
theorem pick_scr (i : List W) (env : List W) : pickV (some (.scr i)) env = .ok (.scr i) env := rfl
theorem pick_exc (i : Nat) (env : List W) : pickV (some (.exc i)) env = .ok (.exc i) env := rfl
theorem pick_dct (a : Bool) (b : DKs) (c : List W) (env : List W) : pickV (some (.dct a b c)) env = .ok (.dct a b c) env := rfl
theorem pick_T (t : Th) (env : List W) : pickV (some (encT t)) env = .ok (encT t) env := rfl
theorem pick_R (t : List Th) (env : List W) : pickV (some (encR t)) env = .ok (encR t) env := rfl
theorem pick_N (t : Nm) (env : List W) : pickV (some (encN t)) env = .ok (encN t) env := rfl
end Ev

namespace Ev
open PySem PySem.Spec L2

/-! ### walking a list or a tuple -/
theorem pi_or {X : Cx} {tg e : Expr} {t1 t2 : TI} (h1 : PI X tg e t1) (h2 : PI X tg e t2) : PI X tg e (fun σ H R => t1 σ H R ∨ t2 σ H R) := ⟨fun pins s σ H R I h => h.elim (h1.run pins s σ H R I) (h2.run pins s σ H R I)⟩
def seqL : W → Option (List W)
  | .lst false ws => some ws
  | .scr ws => some ws
  | .tup ws => some ws
  | _ => none
def iSeq (m : Sm W) : Sm (List W) := Sm.bind m fun w => lft (seqL w)
theorem r_iseq {env : List W} (m : Sm W) : iSeq m env = match m env with
  | .ok w e' => (match seqL w with
    | some r => .ok r e'
    | none => .bad)
  | .ex c e' => .ex c e'
  | .bad => .bad := by
  unfold iSeq
  rw [r_bind]
  cases m env with
  | ok w e' => dsimp only; rw [r_lft]; cases seqL w <;> rfl
  | _ => rfl
theorem w_seqL (ws : List W) : seqL (.lst false ws) = some ws := rfl
theorem w_seqT (ws : List W) : seqL (.tup ws) = some ws := rfl
theorem w_seqC (ws : List W) : seqL (.scr ws) = some ws := rfl
theorem iSeq_or {D : Dn} {Wx : WX} {p : Bool} {m : Sm W} {σ : L2.St} {H : Hp} {R : It → Hp → Prop} (q : TIx D Wx p (iSeq m) σ H R) : TIx D Wx p (iLst m) σ H R ∨ TIx D Wx p (iTupM m) σ H R := by
  obtain ⟨env, G, Os, s, q⟩ := q
  unfold iSeq Sm.bind lft at q
  cases e : m env with
  | bad => rw [e] at q; exact q.elim
  | ex c env1 =>
    rw [e] at q
    refine .inl ⟨env, G, Os, s, ?_⟩
    unfold iLst Sm.bind
    rw [e]
    exact q
  | ok w env1 =>
    rw [e] at q
    cases w with
    | tup ws =>
      refine .inr ⟨env, G, Os, s, ?_⟩
      unfold iTupM Sm.bind lft
      rw [e]
      exact q
    | lst b ws =>
      cases b with
      | true => exact q.elim
      | false =>
        refine .inl ⟨env, G, Os, s, ?_⟩
        unfold iLst Sm.bind lft
        rw [e]
        exact q
    | scr ws =>
      refine .inl ⟨env, G, Os, s, ?_⟩
      unfold iLst Sm.bind lft
      rw [e]
      exact q
    | _ => exact q.elim
theorem mi_seq {Z : Zt} {tg e : Expr} {m : Sm W} {p k : Bool} (h : ME Z e m p k) : MI Z tg e (iSeq m) p := pi_imp (pi_or (mi_list h) (mi_tup h)) fun _ _ _ q => iSeq_or q
/-! ### zip of two lists or two tuples -/
def zipA : List W → Option (List W)
  | [.tup ws, .tup xs] => some ((ws.zip xs).map fun q => .tup [q.1, q.2])
  | [w, x] => zipL [w, x]
  | _ => none
theorem w_zipT (ws xs : List W) : zipA [.tup ws, .tup xs] = some ((ws.zip xs).map fun q => .tup [q.1, q.2]) := rfl
theorem w_zipA (ws xs : List W) : zipA [.lst false ws, .lst false xs] = some ((ws.zip xs).map fun q => .tup [q.1, q.2]) := rfl
theorem walks_zipT {D : Dn} {G0 : Hp} {a b : Addr} {ws xs : List W} {vs us : List V} (h : SqT D.K G0 a vs) (r : RFs D G0 ws vs) (h' : SqT D.K G0 b us) (r' : RFs D G0 xs us) : Walks D (RZ.ItzT D.K a b) ((ws.zip xs).map fun q => .tup [q.1, q.2]) G0 := fun i G H s0 s => by
  have hs : SqT D.K H a vs := s.sqT (s0.sqT h)
  have hs' : SqT D.K H b us := s.sqT (s0.sqT h')
  refine ⟨fun x e => ?_, fun hl => ⟨vs, us, hs, hs', ?_⟩⟩
  · rw [List.getElem?_map] at e
    cases e1 : (ws.zip xs)[i]? with
    | none => rw [e1] at e; cases e
    | some w =>
      rw [e1] at e
      cases e
      obtain ⟨k1, k2⟩ := List.getElem?_zip_eq_some.mp e1
      obtain ⟨v, h1, h2⟩ := r.get k1
      obtain ⟨u, g1, g2⟩ := r'.get k2
      refine ⟨⟨vs, us, v, u, hs, hs', h1, g1⟩, fun v' H' y => ?_⟩
      obtain ⟨T, x, y', rfl, nT, rfl, y1, y2⟩ := y
      have e2 : x = v := Option.some.inj ((y1 vs hs).symm.trans h1)
      have e3 : y' = u := Option.some.inj ((y2 us hs').symm.trans g1)
      subst e2 e3
      have st := step_frz (o := .tup [x, y']) s nT
      refine ⟨_, st, sub_upd2 s, T, _, rfl, SqT.of upd_same, ?_⟩
      exact ⟨_, _, rfl, RF.mono (s0.trans st.mono) _ _ h2, _, _, rfl, RF.mono (s0.trans st.mono) _ _ g2, rfl⟩
  · rw [List.length_map, List.length_zip] at hl
    rw [← r.len, ← r'.len]
    omega
theorem zipA_at {D : Dn} {G H : Hp} {ws xs : List W} {vs : List V} {Q : Addr → Addr → Prop} (s : Sub G H) (r : RFs D G ws vs) (e : zipA ws = some xs)
    (hL : ∀ (a b : Addr) (us us' : List V) (ys zs : List W), vs = [.ref a, .ref b] → SqL D.K G a us → RFs D G ys us → SqL D.K G b us' → RFs D G zs us' → xs = ((ys.zip zs).map fun q => W.tup [q.1, q.2]) → Q a b)
    (hT : ∀ (a b : Addr) (us us' : List V) (ys zs : List W), vs = [.ref a, .ref b] → SqT D.K G a us → RFs D G ys us → SqT D.K G b us' → RFs D G zs us' → xs = ((ys.zip zs).map fun q => W.tup [q.1, q.2]) → Q a b) : ∃ a b, vs = [.ref a, .ref b] ∧ Q a b := by
  unfold zipA at e
  split at e
  · rename_i ys zs
    cases e
    obtain ⟨v, _, rfl, ⟨a, us, rfl, h1, h2⟩, u, _, rfl, ⟨b, us', rfl, h3, h4⟩, h5⟩ := r
    cases h5
    exact ⟨a, b, rfl, hT a b us us' ys zs rfl h1 h2 h3 h4 rfl⟩
  · rename_i w x _
    unfold zipL at e
    dsimp only at e
    cases e1 : frzL w with
    | none => rw [e1] at e; cases e
    | some ys =>
      cases e2 : frzL x with
      | none => rw [e1, Option.bind_some, e2] at e; cases e
      | some zs =>
        rw [e1, Option.bind_some, e2] at e
        cases e
        obtain ⟨v, _, rfl, h1, u, _, rfl, h2, h3⟩ := r
        cases h3
        obtain ⟨a, us, rfl, h3, h4⟩ := frzL_at h1 e1
        obtain ⟨b, us', rfl, h5, h6⟩ := frzL_at h2 e2
        exact ⟨a, b, rfl, hL a b us us' ys zs rfl h3 h4 h5 h6 rfl⟩
  · cases e
theorem mi_zipA {Z : Zt} {a b : Expr} {m : Sm (List W)} {p : Bool} {p1 p2 : Pos} {elts : List Expr} {kk : Nat} {tpos : Pos} (hm : Z.X.mg "zip" = none) (ha : MA Z [a, b] m p) (hg : Gl Z.X "zip" := by rfl) (hs : starEach [a, b] Z.X.env = (false, eval a Z.X.env) :: starEach [b] Z.X.env := by rfl) (hpl : (backTo p2 (starEach [b] Z.X.env)).any (·.1) = false := by rfl) :
    MI Z (.Tuple elts kk tpos) (.Call (.Name "zip" p1) [a, b] [] p2) (iArgs zipA m) p :=
  pi_imp (RZ.pi_zipA hg hm ha hs hpl) fun σ H R q => ta_iter (r := fun vs H1 R => ∃ a b xs ys, vs = [.ref a, .ref b] ∧ ((SqL Z.X.K H1 a xs ∧ SqL Z.X.K H1 b ys ∧ R (Itz Z.X.K a b) H1) ∨ (SqT Z.X.K H1 a xs ∧ SqT Z.X.K H1 b ys ∧ R (RZ.ItzT Z.X.K a b) H1))) (fun G H ws xs vs R s r e q => by
    obtain ⟨a, b, rfl, us, us', h⟩ := zipA_at (Q := fun a b => ∃ us us', (SqL Z.X.K H a us ∧ SqL Z.X.K H b us' ∧ R (Itz Z.X.K a b) H) ∨ (SqT Z.X.K H a us ∧ SqT Z.X.K H b us' ∧ R (RZ.ItzT Z.X.K a b) H)) s r e
      (fun a b us us' ys zs _ h1 h2 h3 h4 e => ⟨us, us', .inl ⟨s.sqL h1, s.sqL h3, q _ (by rw [e]; exact walks_zip h1 h2 h3 h4)⟩⟩)
      (fun a b us us' ys zs _ h1 h2 h3 h4 e => ⟨us, us', .inr ⟨s.sqT h1, s.sqT h3, q _ (by rw [e]; exact walks_zipT h1 h2 h3 h4)⟩⟩)
    exact ⟨a, b, us, us', rfl, h⟩) q
end Ev

namespace Ev
open PySem PySem.Spec PyProof.Rows L2
open Builtin Builtin.Str
end Ev

namespace Ev
open PySem PySem.Spec L2
theorem sub_lentS {G H : Hp} {S : List Addr} (s : Sub G H) : Sub (lentH G H S) H := sub_lent s
theorem lent_none {G H : Hp} {S : List Addr} {b : Addr} (hs : b ∉ S) (g : G b = none) : lentH G H S b = none := by
  unfold lentH
  rw [g]
  show (if b ∈ S then H b else none) = none
  rw [if_neg hs]
def mFzD (m : Sm W) : Sm W := Sm.bind m fun w => if w.fzOk = true then Sm.ret w.fzD else fun _ => .bad
theorem tx_fzD {D : Dn} {Wx : WX} {m : Sm W} {p : Bool} {σ : St} {H : Hp} {Q : VK} (q : TX D Wx p true (mFzD m) σ H Q) : TX D Wx p true m σ H Q := by
  obtain ⟨env, G, Os, s, q⟩ := q
  refine ⟨env, G, Os, s, ?_⟩
  unfold mFzD Sm.bind at q
  cases e1 : m env with
  | bad => rw [e1] at q; exact q
  | ex c env1 => rw [e1] at q; exact q
  | ok w env1 =>
    rw [e1] at q
    intro v G' H' Os' Ow s' r o t
    by_cases hf : w.fzOk = true
    · simp only [if_pos hf, Sm.ret] at q
      have na : ∀ b ∈ Os'.flatten, b ∉ Ow := fun b hb z => (List.nodup_append.mp o.1).2.2 b hb b z rfl
      have s2 : StOk D (lentH G' H' Ow) H' env1 σ Os' := ⟨s'.sl.mono lent_mono fun _ _ _ h => h, sub_lentS s'.sub, fun b hb => lent_none (na b hb) (s'.gn b hb), s'.nd⟩
      have rf := RO.deep (S := Ow) w v Ow hf r fun a ha => ⟨ha, o.2 a ha⟩
      refine q v (lentH G' H' Ow) H' Os' [] s2 (RO.ofF rf) (OwnK.nil s2) ?_
      cases p with
      | true =>
        obtain ⟨e1, e2, t⟩ := t
        refine ⟨e1, e2, t.mono.trans lent_mono, t.keep, fun b x hb hn nt hg => ?_, fun _ z => nomatch z⟩
        refine lent_none (fun z => ?_) (t.gnew b x hb hn nt hg)
        rcases t.new b z with y | y
        · cases y
        · rw [hb] at y; cases y
      | false =>
        have t' : Step G H Os.flatten G' H' (Os'.flatten ++ Ow) := t
        show Step G H Os.flatten _ H' (Os'.flatten ++ [])
        refine ⟨t'.mono.trans lent_mono, t'.keep, fun b x hb hn nt hg => ?_, fun b hb => t'.new b (by rw [List.append_nil] at hb; exact List.mem_append_left _ hb)⟩
        refine lent_none (fun z => ?_) (t'.gnew b x hb hn nt hg)
        rcases t'.new b (List.mem_append_right _ z) with y | y
        · exact hn y
        · rw [hb] at y; cases y
    · simp only [if_neg hf] at q
theorem me_fzD {Z : Zt} {e : Expr} {m : Sm W} {p : Bool} (h : ME Z e m p true) : ME Z e (mFzD m) p true := pe_imp h fun _ _ _ q => tx_fzD q
theorem r_fzD {env : List W} (m : Sm W) : mFzD m env = match m env with
    | .ok w e => if w.fzOk = true then .ok w.fzD e else .bad
    | .ex c e => .ex c e
    | .bad => .bad := by
  unfold mFzD Sm.bind
  cases m env with
  | ok w e =>
    dsimp only
    by_cases h : w.fzOk = true
    · rw [if_pos h, if_pos h]; rfl
    · rw [if_neg h, if_neg h]
  | _ => rfl
/-! ### a slot frozen through and through -/
def gFzD (i : Nat) : Sm Unit := fun env => match env[i]? with
  | some w => if w.fzOk = true then .ok () (env.set i w.fzD) else .bad
  | none => .bad
theorem r_gfzD {env : List W} (i : Nat) : gFzD i env = match env[i]? with
    | some w => if w.fzOk = true then .ok () (env.set i w.fzD) else .bad
    | none => .bad := rfl
theorem flat_mem {Os : List (List Addr)} {i : Nat} {O : List Addr} (h : Os[i]? = some O) {a : Addr} (ha : a ∈ O) : a ∈ Os.flatten := List.mem_flatten.mpr ⟨_, List.mem_of_getElem? h, ha⟩
theorem onceO {i : Nat} {O : List Addr} {Os : List (List Addr)} (nd : Os.flatten.Nodup) (e : Os[i]? = some O) {a : Addr} (ha : a ∈ O) : a ∉ (Os.set i []).flatten := fun z => by
  have pm := flat_set (O' := []) e
  rw [List.append_nil] at pm
  exact (List.nodup_append.mp (pm.nodup_iff.mpr nd)).2.2 a z a ha rfl
theorem nd_at {i : Nat} {O : List Addr} {Os : List (List Addr)} (nd : Os.flatten.Nodup) (e : Os[i]? = some O) : O.Nodup := by
  have pm := flat_set (O' := []) e
  rw [List.append_nil] at pm
  exact (List.nodup_append.mp (pm.nodup_iff.mpr nd)).2.1
theorem StOk.fzD {D : Dn} {G H : Hp} {env : List W} {σ : St} {Os : List (List Addr)} {i : Nat} {w : W} (s : StOk D G H env σ Os) (e : env[i]? = some w) (hf : w.fzOk = true) :
    ∃ G', StOk D G' H (env.set i w.fzD) σ (Os.set i []) ∧ Step G H Os.flatten G' H (Os.set i []).flatten := by
  obtain ⟨sv, O, h1, h2, h3⟩ := s.sl.at e
  rcases h3 with ⟨v, ev, r⟩ | ⟨ev, _⟩
  · subst ev
    have inO : ∀ a ∈ O, a ∈ Os.flatten := fun a ha => flat_mem h2 ha
    have rf := RO.deep (S := O) w v O hf r fun a ha => ⟨ha, s.gn a (inO a ha)⟩
    refine ⟨lentH G H O, ⟨?_, sub_lentS s.sub, fun b hb => lent_none (fun z => onceO s.nd h2 z hb) (s.gn b (flat_sub b hb)), flat_nd s.nd⟩, lent_mono, fun b x hb _ => hb, fun b x hb hn _ g => lent_none (fun z => hn (inO b z)) g, fun b hb => .inl (flat_sub b hb)⟩
    have s0 : Sl D (lentH G H O) H env σ Os := s.sl.mono lent_mono fun _ _ _ h => h
    have z := Sl.set (D := D) (G := lentH G H O) (H := H) (w := w.fzD) (s := some v) (O := []) (.inl ⟨v, rfl, RO.ofF rf⟩) i s0
    rwa [set_self h1] at z
  · subst ev
    cases hf
theorem Ans.nst {D : Dn} {G H : Hp} {p : Addr} {Q : VK} (s : Sub G H) (n : H p = none) (h : Ans D G H (.nst []) Q) : Q (.ref p) (upd H p (.lst [])) :=
  h (.ref p) G (upd H p (.lst [])) [p] (sub_upd s n) ⟨p, [], [], rfl, rfl, upd_same, rfl, rfl⟩ (by simp) (fun a ha => by rw [List.mem_singleton.mp ha]; exact sub_none s n) (step_own n)
theorem ROs.append {D : Dn} {G H : Hp} : ∀ {xs ys : List W} {vs us : List V} {O P : List Addr}, ROs D G H xs vs O → ROs D G H ys us P → ROs D G H (xs ++ ys) (vs ++ us) (O ++ P)
  | [], _, _, _, _, _, h, k => by rw [h.1, h.2]; exact k
  | x :: xs, _, _, _, _, _, h, k => by
    obtain ⟨v, r, O1, O2, rfl, rfl, h1, h2⟩ := h
    exact ⟨v, _, O1, O2 ++ _, rfl, List.append_assoc .., h1, ROs.append h2 k⟩
theorem Sl.atNst {D : Dn} {G H : Hp} {env : List W} {σ : St} {Os : List (List Addr)} {i : Nat} {ws : List W} (s : Sl D G H env σ Os) (e : env[i]? = some (.nst ws)) : ∃ a vs O, σ[i]? = some (some (.ref a)) ∧ Os[i]? = some (a :: O) ∧ H a = some (.lst vs) ∧ ROs D G H ws vs O := by
  obtain ⟨sv, O, h1, h2, h3⟩ := s.at e
  rcases h3 with ⟨v, rfl, a, vs, O', rfl, rfl, h4, h5⟩ | ⟨z, _⟩
  · exact ⟨a, vs, O', h1, h2, h4, h5⟩
  · cases z
/-! ### xs.append(e), e new and owned -/
def mPush (i : Nat) (m : Sm W) : Sm W := fun env => match env[i]? with
  | some (.nst _) => match m env with
    | .ok w env1 => match env1[i]? with
      | some (.nst ws) => if ws.length < sizeLine then .ok .non (env1.set i (.nst (ws ++ [w]))) else .bad
      | _ => .bad
    | .ex c env1 => .ex c env1
    | .bad => .bad
  | _ => .bad
def mMutN (i : Nat) (F : MutF) (mi : Sm W) (m : Sm (List W)) : Sm W := fun env => match env[i]? with
  | some (.nst ws) => match mi env with
    | .ok (.int n) _ => match ixN ws.length n with
      | some j => match ws[j]? with
        | some (.lst true xs) => match m env with
          | .ok us _ => match F xs us with
            | some (w, xs') => .ok w (env.set i (.nst (ws.set j (.lst true xs'))))
            | none => .bad
          | .ex c _ => .ex c env
          | .bad => .bad
        | _ => .bad
      | none => .bad
    | .ex c _ => .ex c env
    | _ => .bad
  | _ => .bad
theorem r_push {env : List W} (i : Nat) (m : Sm W) : mPush i m env = match env[i]? with
  | some (.nst _) => (match m env with
    | .ok w env1 => (match env1[i]? with
      | some (.nst ws) => if ws.length < sizeLine then .ok .non (env1.set i (.nst (ws ++ [w]))) else .bad
      | _ => .bad)
    | .ex c env1 => .ex c env1
    | .bad => .bad)
  | _ => .bad := rfl
/-! ### range with the step 2 -/
theorem small_two {a b : Int} (ha : -(2 ^ 62) ≤ a) (ha' : a < 2 ^ 62) (hb : -(2 ^ 62) ≤ b) (hb' : b < 2 ^ 62) : Builtin.Range.small a b 2 = true := by
  unfold Builtin.Range.small Builtin.Range.rangeSize
  simp only [Builtin.Range.rangeFitsLong, Bool.and_eq_true, Bool.or_eq_true, decide_eq_true_eq, beq_iff_eq, show ((2 : Int) > 0) by decide, if_true]
  split <;> omega
theorem RgC.two {i j : Int} (hi : rngOk i) (hj : rngOk j) : RgC i j 2 ((j - i + 1) / 2).toNat := by
  refine ⟨by decide, by decide, small_two hi.1 hi.2 hj.1 hj.2, ?_⟩
  unfold Builtin.Range.rangeSize
  rw [if_pos (by decide)]
  split <;> omega
end Ev

namespace Ev
open PySem PySem.Spec L2
/-! ### a method of a value: o.m(..), which looks only -/
def mMeth (ty : W → Bool) (f : W → List W → Option W) (g : Bool) (m : Sm W) (ma : Sm (List W)) : Sm W := Sm.bind m fun w => if ty w = true then Sm.bind ma fun ws => if (g || w.frz) = true then lft (f w ws) else fun _ => .bad else fun _ => .bad
theorem r_meth {env : List W} (ty : W → Bool) (f : W → List W → Option W) (g : Bool) (m : Sm W) (ma : Sm (List W)) : mMeth ty f g m ma env = match m env with
  | .ok w e1 => if ty w = true then (match ma e1 with
    | .ok ws e2 => if (g || w.frz) = true then (match f w ws with
      | some r => .ok r e2
      | none => .bad) else .bad
    | .ex c e' => .ex c e'
    | .bad => .bad) else .bad
  | .ex c e' => .ex c e'
  | .bad => .bad := by
  unfold mMeth
  rw [r_bind]
  cases m env with
  | ok w e1 =>
    dsimp only
    split
    · rw [r_bind]
      cases ma e1 with
      | ok ws e2 =>
        dsimp only
        split
        · rw [r_lft]; cases f w ws <;> rfl
        · rfl
      | _ => rfl
    · rfl
  | _ => rfl
mutual
theorem Dq.dp {K : PySem.W.Frag} {H : Hp} : ∀ (d : PyData) (v : V), Dq K H v d → d.plain = true → Dp K H v d
  | .none, _, h, _ => by cases h; exact .non
  | .bool _, _, h, _ => by cases h; exact .bl _
  | .int _, _, h, _ => by cases h; exact .int _
  | .str _, _, h, _ => by cases h; exact .str _
  | .list ds, _, h, p => by
    cases h with
    | lst hs ha => exact .lst hs (Dq.dps ds _ ha p)
  | .tuple ds, _, h, p => by
    cases h with
    | tup hs ha => exact .tup hs (Dq.dps ds _ ha p)
  | .dict _, _, _, p => nomatch p
theorem Dq.dps {K : PySem.W.Frag} {H : Hp} : ∀ (ds : List PyData) (vs : List V), DqAll K H vs ds → PyData.plainAll ds = true → DpAll K H vs ds
  | [], _, h, _ => by cases h; exact .nil
  | d :: ds, _, h, p => by
    rw [PyData.plainAll, Bool.and_eq_true] at p
    cases h with
    | cons h1 h2 => exact .cons (Dq.dp d _ h1 p.1) (Dq.dps ds _ h2 p.2)
end
def sAugS (i : Nat) (f : Int → Int → Int) (mi me : Sm W) : Sm Fl := fun env => match env[i]? with
  | some (.lst true _) => match mi env with
    | .ok (.int n) env1 => match env1[i]? with
      | some (.lst true xs) => match ixN xs.length n with
        | some k => match xs[k]? with
          | some (.int a) => match me env1 with
            | .ok (.int b) _ => .ok .nx (env1.set i (.lst true (xs.set k (.int (f a b)))))
            | _ => .bad
          | _ => .bad
        | none => .bad
      | _ => .bad
    | _ => .bad
  | _ => .bad
theorem r_augS {env : List W} (i : Nat) (f : Int → Int → Int) (mi me : Sm W) : sAugS i f mi me env = match env[i]? with
  | some (.lst true _) => (match mi env with
    | .ok (.int n) env1 => (match env1[i]? with
      | some (.lst true xs) => (match ixN xs.length n with
        | some k => (match xs[k]? with
          | some (.int a) => (match me env1 with
            | .ok (.int b) _ => .ok .nx (env1.set i (.lst true (xs.set k (.int (f a b)))))
            | _ => .bad)
          | _ => .bad)
        | none => .bad)
      | _ => .bad)
    | _ => .bad)
  | _ => .bad := rfl
end Ev

namespace Ev
open PySem PySem.Spec L2
def zipL3 : List W → Option (List W)
  | [w, x, y] => (frzL w).bind fun ws => (frzL x).bind fun xs => (frzL y).map fun ys => (ws.zip (xs.zip ys)).map fun q => .tup [q.1, q.2.1, q.2.2]
  | _ => none
theorem w_zip3 (ws xs ys : List W) : zipL3 [.lst false ws, .lst false xs, .lst false ys] = some ((ws.zip (xs.zip ys)).map fun q => .tup [q.1, q.2.1, q.2.2]) := rfl
end Ev

namespace Ev
open PySem PySem.Spec L2
/-! ### walking a text, sign by sign -/
def strL : W → Option (List W)
  | .str z => some (z.cps.toList.map fun c => .str ⟨#[c]⟩)
  | _ => none
def iChr (m : Sm W) : Sm (List W) := Sm.bind m fun w => lft (strL w)
theorem r_ichr {env : List W} (m : Sm W) : iChr m env = match m env with
  | .ok w e' => (match strL w with
    | some r => .ok r e'
    | none => .bad)
  | .ex c e' => .ex c e'
  | .bad => .bad := by
  unfold iChr
  rw [r_bind]
  cases m env with
  | ok w e' => dsimp only; rw [r_lft]; cases strL w <;> rfl
  | _ => rfl
theorem w_strL (z : Str) : strL (.str z) = some (z.cps.toList.map fun c => .str ⟨#[c]⟩) := rfl
theorem walks_chr {D : Dn} {G0 : Hp} {z : Str} : Walks D (Its z) (z.cps.toList.map fun c => W.str ⟨#[c]⟩) G0 := fun i G H s0 s => by
  refine ⟨fun x e => ?_, fun hl => by rw [List.length_map, Array.length_toList] at hl; exact hl⟩
  rw [List.getElem?_map] at e
  cases ec : z.cps.toList[i]? with
  | none => rw [ec] at e; cases e
  | some c =>
    rw [ec] at e
    cases e
    have hi : i < z.cps.size := by
      have := (List.getElem?_eq_some_iff.mp ec).1
      rwa [Array.length_toList] at this
    refine ⟨hi, fun v H' y => ?_⟩
    obtain ⟨rfl, c', hc', rfl⟩ := y
    have e2 : c' = c := by
      rw [Array.getElem?_toList] at ec
      exact Option.some.inj (hc'.symm.trans ec)
    subst e2
    exact ⟨G, Step.refl _ _ _, s, rfl⟩
theorem mi_chr {Z : Zt} {tg e : Expr} {m : Sm W} {p k : Bool} (h : ME Z e m p k) : MI Z tg e (iChr m) p := pi_imp (pi_str h) fun σ H R q => by
  obtain ⟨env, G, Os, s, q⟩ := q
  refine ⟨env, G, Os, s, ?_⟩
  unfold iChr Sm.bind lft at q
  cases e : m env with
  | bad => rw [e] at q; exact q
  | ex c env1 => rw [e] at q; exact q
  | ok w env1 =>
    rw [e] at q
    intro v G' H' Os' Ow s' r o t
    have t' := t.less (O2 := []) kO_less
    cases w with
    | str z =>
      obtain ⟨rfl, rfl⟩ := r
      exact ⟨z, rfl, q _ G' H' Os' s' t' walks_chr⟩
    | _ => exact q.elim
theorem w_inS (neg : Bool) (c : Nat) (z : Str) : inW neg (.str ⟨#[c]⟩) (.str z) = some (.bl (if neg = true then !decide (c ∈ z.cps.toList) else decide (c ∈ z.cps.toList))) := by
  have e : (!(Builtin.Str.occurrences z ⟨#[c]⟩ 0 z.length 1).isEmpty) = decide (c ∈ z.cps.toList) := StrLaws.found_one z c
  show some (W.bl (if neg then !(!(Builtin.Str.occurrences z ⟨#[c]⟩ 0 z.length 1).isEmpty) else !(Builtin.Str.occurrences z ⟨#[c]⟩ 0 z.length 1).isEmpty)) = _
  rw [e]
/-! ### a >= b, tuples too -/
def geXD (a b : W) : Option W := if (a.fd && b.fd) = true ∧ smallD a b ∧ PySem.W.alike a.dat b.dat = true then some (.bl (!PySem.W.dataLt a.dat b.dat)) else none
def geXW : W → W → Option W
  | .int i, .int j => some (.bl (decide (j ≤ i)))
  | .tup xs, .tup ys => geXD (.tup xs) (.tup ys)
  | _, _ => none
theorem w_geX (i j : Int) : geXW (.int i) (.int j) = some (.bl (decide (j ≤ i))) := rfl
theorem op_geXW {Z : Zt} {k : Nat} (hr : Room k Z.X.A) : OpS Z (compareOp .GtE) geXW := fun G H w1 w2 v1 v2 O1 O2 w Q s r1 r2 e q => by
  cases w1 with
  | int i =>
    cases w2 with
    | int j =>
      cases e
      obtain ⟨_, rfl⟩ := r1
      obtain ⟨_, rfl⟩ := r2
      exact ⟨_, op_ge, i, j, rfl, rfl, q.bl s⟩
    | _ => cases e
  | tup xs =>
    cases w2 with
    | tup ys =>
      have e' : geXD (.tup xs) (.tup ys) = some w := e
      unfold geXD at e'
      by_cases hc : ((W.tup xs).fd && (W.tup ys).fd) = true ∧ smallD (.tup xs) (.tup ys) ∧ PySem.W.alike (W.tup xs).dat (W.tup ys).dat = true
      · rw [if_pos hc] at e'
        cases e'
        obtain ⟨_, hs, ha⟩ := hc
        have d1 := r1.dp s rfl
        have d2 := r2.dp s rfl
        refine ⟨fun x y H' Q' => x = v1 ∧ y = v2 ∧ H' = H ∧ Q' (.bl (!PySem.W.dataLt (W.tup xs).dat (W.tup ys).dat)) H, fun pins st σ H' x y v u Q' I rx ry hh => ?_, rfl, rfl, rfl, q.bl s⟩
        obtain ⟨rfl, rfl, rfl, hq⟩ := hh
        obtain ⟨as, x1⟩ := Dq.reads I _ _ v d1 rx
        obtain ⟨bs, x2⟩ := Dq.reads I _ _ u d2 ry
        have := hs.min
        have := hr.units
        exact PySem.W.rcGe_alike _ _ Z.X.A st v u as bs x1 x2 ha (fun z => nomatch z) (by omega) _ _ _ _ ⟨.bl _, _, I, rfl, hq⟩
      · rw [if_neg hc] at e'; cases e'
    | _ => cases e
  | _ => cases e
end Ev

namespace Ev
open PySem PySem.Spec L2
/-- behind an answer, a pure step -/
theorem Stp.then {p : Bool} {env env1 : List W} {G H G1 H1 G2 H2 : Hp} {Os Os1 : List (List Addr)} {O1 O2 : List Addr} (a : Stp p env G H Os env1 G1 H1 Os1 O1) (b : Step G1 H1 O1 G2 H2 O2) : Stp p env G H Os env1 G2 H2 Os1 O2 := by
  cases p with
  | true =>
    obtain ⟨e1, e2, a⟩ := a
    exact ⟨e1, e2, a.trans b⟩
  | false =>
    have a' : Step G H Os.flatten G1 H1 (Os1.flatten ++ O1) := a
    show Step G H Os.flatten G2 H2 (Os1.flatten ++ O2)
    exact a'.trans b.more
theorem Step.pureO {G H G' H' : Hp} {O : List Addr} (a : Step G H [] G' H' []) : Step G H O G' H' O := by
  have z := a.pure0 (O := O)
  rwa [List.append_nil] at z
/-! ### a pair, the first one owned -/
def mPair (m1 m2 : Sm W) : Sm W := fun env => match m1 env with
  | .ok w1 env1 => match m2 env1 with
    | .ok w2 _ => if w2.frz = true then .ok (.ntp [w1, w2]) env1 else .bad
    | _ => .bad
  | .ex c env1 => .ex c env1
  | .bad => .bad
theorem r_pair {env : List W} (m1 m2 : Sm W) : mPair m1 m2 env = match m1 env with
  | .ok w1 env1 => (match m2 env1 with
    | .ok w2 _ => if w2.frz = true then .ok (.ntp [w1, w2]) env1 else .bad
    | _ => .bad)
  | .ex c env1 => .ex c env1
  | .bad => .bad := rfl
def mMutT (i : Nat) (F : MutF) (mi : Sm W) (m : Sm (List W)) : Sm W := fun env => match env[i]? with
  | some (.ntp ws) => match mi env with
    | .ok (.int n) _ => match ixN ws.length n with
      | some j => match ws[j]? with
        | some (.lst true xs) => match m env with
          | .ok us _ => match F xs us with
            | some (w, xs') => .ok w (env.set i (.ntp (ws.set j (.lst true xs'))))
            | none => .bad
          | .ex c _ => .ex c env
          | .bad => .bad
        | _ => .bad
      | none => .bad
    | .ex c _ => .ex c env
    | _ => .bad
  | _ => .bad
theorem r_mutT {env : List W} (i : Nat) (F : MutF) (mi : Sm W) (m : Sm (List W)) : mMutT i F mi m env = match env[i]? with
  | some (.ntp ws) => (match mi env with
    | .ok (.int n) _ => (match ixN ws.length n with
      | some j => (match ws[j]? with
        | some (.lst true xs) => (match m env with
          | .ok us _ => (match F xs us with
            | some (w, xs') => .ok w (env.set i (.ntp (ws.set j (.lst true xs'))))
            | none => .bad)
          | .ex c _ => .ex c env
          | .bad => .bad)
        | _ => .bad)
      | none => .bad)
    | .ex c _ => .ex c env
    | _ => .bad)
  | _ => .bad := rfl
/-! ### xs.append(e), e may change other slots -/
def mApp (i : Nat) (m : Sm W) : Sm W := fun env => match env[i]? with
  | some (.lst true _) => match m env with
    | .ok w env1 => if w.frz = true then match env1[i]? with
      | some (.lst true xs) => if xs.length < sizeLine then .ok .non (env1.set i (.lst true (xs ++ [w]))) else .bad
      | _ => .bad else .bad
    | .ex c env1 => .ex c env1
    | .bad => .bad
  | _ => .bad
theorem r_app {env : List W} (i : Nat) (m : Sm W) : mApp i m env = match env[i]? with
  | some (.lst true _) => (match m env with
    | .ok w env1 => if w.frz = true then (match env1[i]? with
      | some (.lst true xs) => if xs.length < sizeLine then .ok .non (env1.set i (.lst true (xs ++ [w]))) else .bad
      | _ => .bad) else .bad
    | .ex c env1 => .ex c env1
    | .bad => .bad)
  | _ => .bad := rfl
/-! ### a list of lists, the inner ones frozen -/
def gFzC (i : Nat) : Sm Unit := fun env => match env[i]? with
  | some (.nst ws) => if fzOks ws = true then .ok () (env.set i (.lst true (fzDs ws))) else .bad
  | some (.lst true _) => .ok () env
  | _ => .bad
theorem r_gfzC {env : List W} (i : Nat) : gFzC i env = match env[i]? with
  | some (.nst ws) => if fzOks ws = true then .ok () (env.set i (.lst true (fzDs ws))) else .bad
  | some (.lst true _) => .ok () env
  | _ => .bad := rfl
theorem StOk.fzC {D : Dn} {G H : Hp} {env : List W} {σ : St} {Os : List (List Addr)} {i : Nat} {ws : List W} (s : StOk D G H env σ Os) (e : env[i]? = some (.nst ws)) (hf : fzOks ws = true) :
    ∃ G' Os', StOk D G' H (env.set i (.lst true (fzDs ws))) σ Os' ∧ Step G H Os.flatten G' H Os'.flatten := by
  obtain ⟨a, vs, O, h1, h2, h3, h4⟩ := s.sl.atNst e
  have inO : ∀ b ∈ a :: O, b ∈ Os.flatten := fun b hb => flat_mem h2 hb
  have rf := ROs.deep (S := O) ws vs O hf h4 fun b hb => ⟨hb, s.gn b (inO b (List.mem_cons_of_mem _ hb))⟩
  have ndc := nd_at s.nd h2
  have naO : a ∉ O := (List.nodup_cons.mp ndc).1
  have i0 : i < Os.length := (List.getElem?_eq_some_iff.mp h2).1
  have e0 : (Os.set i [])[i]? = some [] := by rw [List.getElem?_set_self i0]
  have p2 := flat_set (O' := [a]) e0
  rw [List.append_nil, List.set_set] at p2
  have mem2 : ∀ b ∈ (Os.set i [a]).flatten, b ∈ (Os.set i []).flatten ∨ b = a := fun b hb => by
    rcases List.mem_append.mp (p2.mem_iff.mp hb) with z | z
    · exact .inl z
    · exact .inr (List.mem_singleton.mp z)
  have sub2 : ∀ b ∈ (Os.set i [a]).flatten, b ∈ Os.flatten := fun b hb => by
    rcases mem2 b hb with z | z
    · exact flat_sub b z
    · rw [z]; exact inO a List.mem_cons_self
  have out : ∀ b ∈ (Os.set i [a]).flatten, b ∉ O := fun b hb hO => by
    rcases mem2 b hb with z | z
    · exact onceO s.nd h2 (List.mem_cons_of_mem _ hO) z
    · rw [z] at hO; exact naO hO
  refine ⟨lentH G H O, Os.set i [a], ⟨?_, sub_lentS s.sub, fun b hb => lent_none (out b hb) (s.gn b (sub2 b hb)), ?_⟩, lent_mono, fun b x hb _ => hb, fun b x hb hn _ g => lent_none (fun z => hn (inO b (List.mem_cons_of_mem _ z))) g, fun b hb => .inl (sub2 b hb)⟩
  · have s0 : Sl D (lentH G H O) H env σ Os := s.sl.mono lent_mono fun _ _ _ h => h
    have z := Sl.set (D := D) (G := lentH G H O) (H := H) (w := .lst true (fzDs ws)) (s := some (.ref a)) (O := [a]) (.inl ⟨.ref a, rfl, a, vs, rfl, rfl, h3, rf⟩) i s0
    rwa [set_self h1] at z
  · rw [p2.nodup_iff]
    refine List.nodup_append.mpr ⟨flat_nd s.nd, by simp, fun b hb c hc ee => ?_⟩
    rw [List.mem_singleton.mp hc] at ee
    rw [ee] at hb
    exact onceO s.nd h2 List.mem_cons_self hb
/-! ### a call, its one argument new and owned -/
def mCallO (g : Fn) (m : Sm W) : Sm W := fun env => match m env with
  | .ok w1 env1 => match g [w1] with
    | .ok w _ => .ok w env1
    | _ => .bad
  | .ex c env1 => .ex c env1
  | .bad => .bad
theorem r_callO {env : List W} (g : Fn) (m : Sm W) : mCallO g m env = match m env with
  | .ok w1 env1 => (match g [w1] with
    | .ok w _ => .ok w env1
    | _ => .bad)
  | .ex c env1 => .ex c env1
  | .bad => .bad := rfl
/-! ### a, b = a pair, the first one owned -/
def sAsgN (i j : Nat) (m : Sm W) : Sm Fl := fun env => match m env with
  | .ok (.ntp [w1, w2]) env1 => match env1[i]?, env1[j]? with
    | some _, some _ => if w2.frz = true then .ok .nx ((env1.set i w1).set j w2) else .bad
    | _, _ => .bad
  | .ex c env1 => .ex c env1
  | _ => .bad
theorem r_asgN {env : List W} (i j : Nat) (m : Sm W) : sAsgN i j m env = match m env with
  | .ok (.ntp [w1, w2]) env1 => (match env1[i]?, env1[j]? with
    | some _, some _ => if w2.frz = true then .ok .nx ((env1.set i w1).set j w2) else .bad
    | _, _ => .bad)
  | .ex c env1 => .ex c env1
  | _ => .bad := rfl
def mTakeK (i : Nat) (mi : Sm W) : Sm W := fun env => match env[i]? with
  | some (.nst ws) => match mi env with
    | .ok (.int n) _ => match ixN ws.length n with
      | some j => match ws[j]? with
        | some w => .ok w (env.set i .dead)
        | none => .bad
      | none => .bad
    | _ => .bad
  | _ => .bad
theorem r_takeK {env : List W} (i : Nat) (mi : Sm W) : mTakeK i mi env = match env[i]? with
  | some (.nst ws) => (match mi env with
    | .ok (.int n) _ => (match ixN ws.length n with
      | some j => (match ws[j]? with
        | some w => .ok w (env.set i .dead)
        | none => .bad)
      | none => .bad)
    | _ => .bad)
  | _ => .bad := rfl
theorem pick_nst (i : List W) (env : List W) : pickV (some (.nst i)) env = .ok (.nst i) env := rfl
theorem pick_ntp (i : List W) (env : List W) : pickV (some (.ntp i)) env = .ok (.ntp i) env := rfl
end Ev

namespace Ev
open PySem PySem.Spec L2
/-! ### a comprehension of new things that stay owned -/
def mLcN (f : Tg) (tt : Sm Bool) (te : Sm W) (vs : List Nat) : List W → List W → Sm (List W)
  | [], acc, env => .ok acc (killE vs env)
  | x :: xs, acc, env => match f x (killE vs env) with
    | none => .bad
    | some env1 => match tt env1 with
      | .ok false env2 => mLcN f tt te vs xs acc env2
      | .ok true env2 => match te env2 with
        | .ok y env3 => if acc.length < sizeLine then mLcN f tt te vs xs (acc ++ [y]) env3 else .bad
        | _ => .bad
      | _ => .bad
def mCompN (f : Tg) (tt : Sm Bool) (te : Sm W) (vs : List Nat) (mi : Sm (List W)) : Sm W := Sm.bind mi fun ws env => match mLcN f tt te vs ws [] env with
  | .ok ys env' => .ok (.nst ys) env
  | _ => .bad
structure LcN (D : Dn) (vs : List Nat) (G1 H1 : Hp) (d : Addr) (σ : St) (acc : List W) (env : List W) (H : Hp) (G : Hp) (Os : List (List Addr)) (σ2 : St) (Oa : List Addr) : Prop where
  st : StOk D G H env σ2 Os
  len : σ2.length = σ.length
  out : ∀ i, i ∉ vs → σ2[i]? = σ[i]?
  dg : ∀ a ∈ d :: Oa, G a = none
  dn : ∀ a ∈ d :: Oa, a ∉ Os.flatten
  nd : (d :: Oa).Nodup
  dl : ∃ va, H d = some (.lst va) ∧ ROs D G H acc va Oa
  step : Step G1 H1 [] G H (d :: Oa)
theorem LcN.there {D : Dn} {vs : List Nat} {G1 H1 : Hp} {d : Addr} {σ : St} {acc env : List W} {H G : Hp} {Os : List (List Addr)} {σ2 : St} {Oa : List Addr} (I : LcN D vs G1 H1 d σ acc env H G Os σ2 Oa) : ∀ a ∈ d :: Oa, ∃ o, H a = some o ∧ NT o := fun a ha => by
  obtain ⟨va, hd, ra⟩ := I.dl
  rcases List.mem_cons.mp ha with e | h
  · rw [e]; exact ⟨_, hd, fun _ z => nomatch z⟩
  · exact ROs.thn acc va Oa ra a h
theorem LcN.next {D : Dn} {vs : List Nat} {G1 H1 : Hp} {d : Addr} {σ : St} {acc env : List W} {H G : Hp} {Os : List (List Addr)} {σ2 : St} {Oa : List Addr} {env' : List W} {G' H' : Hp} {Os' : List (List Addr)}
    (I : LcN D vs G1 H1 d σ acc env H G Os σ2 Oa) (s : StOk D G' H' env' σ2 Os') (t : Stp true env G H Os env' G' H' Os' []) : LcN D vs G1 H1 d σ acc env' H' G' Os' σ2 Oa := by
  obtain ⟨va, hd, ra⟩ := I.dl
  obtain ⟨rfl, rfl, t⟩ := t
  refine ⟨s, I.len, I.out, fun a ha => ?_, I.dn, I.nd, ⟨va, t.keep d _ hd (fun z => nomatch z), ROs.mono t.mono _ _ _ (fun a _ o h => t.keep a o h (fun z => nomatch z)) ra⟩, I.step.trans t.pureO⟩
  obtain ⟨o, ho, nt⟩ := I.there a ha
  exact t.gnew a o ho (fun z => nomatch z) nt (I.dg a ha)
theorem tx_lcN {D : Dn} {Wx : WX} {f : Tg} {tt : Sm Bool} {te : Sm W} {mi : Sm (List W)} {vs : List Nat} {p : Bool} {σ : St} {H : Hp} {Q : VK}
    (q : TX D Wx p true (mCompN f tt te vs mi) σ H Q) : tLc (TIx D Wx p mi) (TGx D (ioB vs) f) (TT' D W0 true tt) (TX D W0 true true te) vs σ H Q := by
  obtain ⟨env, G, Os, s, q⟩ := q
  refine ⟨env, G, Os, s, ?_⟩
  unfold mCompN Sm.bind at q
  cases e : mi env with
  | bad => rw [e] at q; exact q
  | ex c env1 =>
    rw [e] at q
    exact q
  | ok ws env1 =>
    rw [e] at q
    intro J G1 H1 Os1 s1 t1 wk d hd
    have gd1 : G1 d = none := sub_none s1.sub hd
    have dn1 : d ∉ Os1.flatten := fun z => s1.sl.there d z hd
    obtain ⟨ys, envF, eF⟩ : ∃ ys env', mLcN f tt te vs ws [] env1 = .ok ys env' := by
      cases eo : mLcN f tt te vs ws [] env1 with
      | ok ys env' => exact ⟨ys, env', rfl⟩
      | ex c env' => simp only [eo] at q
      | bad => simp only [eo] at q
    simp only [eF] at q
    refine ⟨fun i m H' => m = ws.length - i ∧ i ≤ ws.length ∧ ∃ env' G' Os' σ' acc Oa, LcN D vs G1 H1 d σ acc env' H' G' Os' σ' Oa ∧ Sub G1 G' ∧ mLcN f tt te vs (ws.drop i) acc env' = .ok ys envF, ⟨ws.length, rfl, Nat.zero_le _, env1, G1, Os1, σ, [], [], ?_, Sub.refl _, eF⟩, ?_⟩
    · exact ⟨s1.updD gd1 dn1, rfl, fun _ _ => rfl, fun a ha => by rw [List.mem_singleton.mp ha]; exact gd1, fun a ha => by rw [List.mem_singleton.mp ha]; exact dn1, by simp, ⟨[], upd_same, rfl, rfl⟩, step_own hd⟩
    rintro i m H2 ⟨rfl, hi, env2, G2, Os2, σ2, acc, Oa, I, sub2, e2⟩
    obtain ⟨w1, w2⟩ := wk i G2 H2 sub2 I.st.sub
    by_cases hl : i < ws.length
    · have ei : ws[i]? = some ws[i] := List.getElem?_eq_getElem hl
      obtain ⟨go, yl⟩ := w1 _ ei
      rw [List.drop_eq_getElem_cons hl] at e2
      refine .inr ⟨go, fun H' => ∃ env' G' Os' σ' acc Oa, LcN D vs G1 H1 d σ acc env' H' G' Os' σ' Oa ∧ Sub G1 G' ∧ mLcN f tt te vs (ws.drop (i + 1)) acc env' = .ok ys envF, fun H' h => ⟨ws.length - (i + 1), by omega, rfl, hl, h⟩, fun v H3 y => ?_⟩
      obtain ⟨G3, t3, sub3, r3⟩ := yl v H3 y
      unfold mLcN at e2
      cases ef : f ws[i] (killE vs env2) with
      | none => simp only [ef] at e2; cases e2
      | some env3 =>
        simp only [ef] at e2
        have I3 : LcN D vs G1 H1 d σ acc env2 H3 G3 Os2 σ2 Oa := I.next (I.st.step t3 sub3) ⟨rfl, rfl, t3⟩
        have s3 : StOk D G3 H3 (killE vs env2) (wipe σ vs) (killO vs Os2) := I3.st.re (by rw [wipe_length]; exact I.len.symm) fun j hj => by rw [wipe_at hj, I.out j hj]
        refine ⟨killE vs env2, G3, killO vs Os2, ws[i], env3, s3, r3, ef, fun σ4 Os4 s4 hsub io4 len4 => ?_⟩
        rw [wipe_length] at len4
        have out4 : ∀ j, j ∉ vs → σ4[j]? = σ[j]? := fun j hj => by
          have hio : ioB vs j = true := by
            show (!vs.contains j) = true
            rw [Bool.not_eq_true', List.contains_eq_mem, decide_eq_false_iff_not]
            exact hj
          rw [io4 j hio, wipe_at hj]
        have hsub2 : ∀ a ∈ Os4.flatten, a ∈ Os2.flatten := fun a ha => killO_sub a (hsub a ha)
        have I4 : LcN D vs G1 H1 d σ acc env3 H3 G3 Os4 σ4 Oa := ⟨s4, len4, out4, I3.dg, fun a ha z => I3.dn a ha (hsub2 a z), I3.nd, I3.dl, I3.step⟩
        refine ⟨wipe_eq len4 out4, env3, G3, Os4, s4, ?_⟩
        cases et : tt env3 with
        | bad => simp only [et] at e2; cases e2
        | ex c env4 => simp only [et] at e2; cases e2
        | ok b env4 =>
          intro G5 H5 Os5 s5 t5
          have I5 := I4.next s5 t5
          have sub5 : Sub G1 G5 := (sub2.trans t3.mono).trans t5.gen.mono
          cases b with
          | false =>
            rw [if_neg Bool.false_ne_true]
            simp only [et] at e2
            exact ⟨env4, G5, Os5, σ4, acc, Oa, I5, sub5, e2⟩
          | true =>
            rw [if_pos rfl]
            simp only [et] at e2
            refine ⟨env4, G5, Os5, s5, ?_⟩
            cases ee : te env4 with
            | bad => simp only [ee] at e2; cases e2
            | ex c env6 => simp only [ee] at e2; cases e2
            | ok y env6 =>
              simp only [ee] at e2
              intro v6 G6 H6 Os6 Ow s6 r6 o6 t6
              by_cases hy : acc.length < sizeLine
              · rw [if_pos hy] at e2
                have t6' : Stp true env4 G5 H5 Os5 env6 G6 H6 Os6 [] := t6.less fun _ z => nomatch z
                have I6 := I5.next s6 t6'
                obtain ⟨va6, hd6, rva6⟩ := I6.dl
                obtain ⟨rfl, rfl, t6s⟩ := id t6
                have newW : ∀ a ∈ Ow, H5 a = none := fun a ha => (t6s.new a ha).elim (fun z => nomatch z) id
                have apart : ∀ a ∈ Ow, a ∉ d :: Oa := fun a ha z => by
                  obtain ⟨o, ho, _⟩ := I5.there a z
                  rw [newW a ha] at ho
                  cases ho
                have ndw := List.nodup_append.mp o6.1
                have ne : ∀ a ∈ Oa ++ Ow, a ≠ d := fun a ha e => by
                  rcases List.mem_append.mp ha with z | z
                  · exact (List.nodup_cons.mp I6.nd).1 (by rw [← e]; exact z)
                  · exact apart a z (by rw [e]; exact List.mem_cons_self)
                have nd6 : (d :: (Oa ++ Ow)).Nodup := List.nodup_cons.mpr ⟨fun z => ne d z rfl, List.nodup_append.mpr ⟨(List.nodup_cons.mp I6.nd).2, ndw.2.1, fun a ha b hb ee => apart b hb (List.mem_cons_of_mem _ (by rw [← ee]; exact ha))⟩⟩
                refine ⟨va6, hd6, by rw [← rva6.len]; exact hy, env6, G6, Os6, σ4, acc ++ [y], Oa ++ Ow, ?_, sub5.trans t6s.mono, e2⟩
                refine ⟨s6.updD (I6.dg d List.mem_cons_self) (I6.dn d List.mem_cons_self), len4, out4, fun a ha => ?_, fun a ha => ?_, nd6, ⟨va6 ++ [v6], upd_same, ?_⟩, ?_⟩
                · rcases List.mem_cons.mp ha with e | z
                  · rw [e]; exact I6.dg d List.mem_cons_self
                  · rcases List.mem_append.mp z with z | z
                    · exact I6.dg a (List.mem_cons_of_mem _ z)
                    · exact o6.2 a z
                · rcases List.mem_cons.mp ha with e | z
                  · rw [e]; exact I6.dn d List.mem_cons_self
                  · rcases List.mem_append.mp z with z | z
                    · exact I6.dn a (List.mem_cons_of_mem _ z)
                    · exact fun y => ndw.2.2 a y a z rfl
                · refine ROs.append (ROs.mono (Sub.refl _) _ _ _ (fun a ha o h => by rw [upd_ne (ne a (List.mem_append_left _ ha))]; exact h) rva6) ?_
                  exact ⟨v6, [], Ow, [], rfl, (List.append_nil _).symm, RO.mono (Sub.refl _) _ _ _ (fun a ha o h => by rw [upd_ne (ne a (List.mem_append_right _ ha))]; exact h) r6, rfl, rfl⟩
                · have st6 : Step G1 H1 [] G6 H6 (d :: (Oa ++ Ow)) := ⟨I6.step.mono, I6.step.keep, I6.step.gnew, fun a ha => by
                    rcases List.mem_cons.mp ha with e | z
                    · rw [e]; exact I6.step.new d List.mem_cons_self
                    · rcases List.mem_append.mp z with z | z
                      · exact I6.step.new a (List.mem_cons_of_mem _ z)
                      · refine .inr ?_
                        cases h1 : H1 a with
                        | none => rfl
                        | some o =>
                          have := I5.step.keep a o h1 (fun z => nomatch z)
                          rw [newW a z] at this
                          cases this⟩
                  exact step_updNew st6 hd
              · rw [if_neg hy] at e2; cases e2
    · have e3 : i = ws.length := by omega
      subst e3
      rw [List.drop_length] at e2
      refine .inl ⟨w2 (Nat.le_refl _), ?_⟩
      cases e2
      obtain ⟨va, hda, rva⟩ := I.dl
      have st : Step G1 H1 [] G2 H2 (d :: Oa) := I.step
      have sF : StOk D G2 H2 env1 σ Os1 := s1.step st I.st.sub
      exact q (.ref d) G2 H2 Os1 (d :: Oa) sF ⟨d, va, Oa, rfl, rfl, hda, rva⟩ ⟨s1.apart st I.nd, I.dg⟩ (t1.ofP (σ := σ) st)
theorem lcN_map {α : Type} {f : Tg} {tt : Sm Bool} {te : Sm W} {vs : List Nat} {env : List W} (e g : α → W) : ∀ {xs : List α} {acc : List W}, acc.length + xs.length ≤ sizeLine →
    (∀ x ∈ xs, ∃ env1, f (e x) (killE vs env) = some env1 ∧ tt env1 = .ok true env1 ∧ ∃ env2, te env1 = .ok (g x) env2 ∧ killE vs env2 = killE vs env) → ∀ env0, killE vs env0 = killE vs env → mLcN f tt te vs (xs.map e) acc env0 = .ok (acc ++ xs.map g) (killE vs env)
  | [], acc, _, _, env0, h0 => by rw [List.map_nil, List.map_nil, List.append_nil, mLcN, h0]
  | x :: xs, acc, hl, h, env0, h0 => by
    obtain ⟨env1, h1, h2, env2, h3, h4⟩ := h x List.mem_cons_self
    rw [List.length_cons] at hl
    rw [List.map_cons, mLcN, h0, h1]
    dsimp only
    rw [h2]
    dsimp only
    rw [h3]
    dsimp only
    rw [if_pos (by omega), lcN_map e g (by rw [List.length_append, List.length_singleton]; omega) (fun y hy => h y (List.mem_cons_of_mem _ hy)) env2 h4, List.append_assoc]
    rfl
theorem compN_map {α : Type} {f : Tg} {tt : Sm Bool} {te : Sm W} {vs : List Nat} {mi : Sm (List W)} {env : List W} (e g : α → W) {xs : List α} (hm : mi env = .ok (xs.map e) env) (hl : xs.length ≤ sizeLine)
    (h : ∀ x ∈ xs, ∃ env1, f (e x) (killE vs env) = some env1 ∧ tt env1 = .ok true env1 ∧ ∃ env2, te env1 = .ok (g x) env2 ∧ killE vs env2 = killE vs env) : mCompN f tt te vs mi env = .ok (.nst (xs.map g)) env := by
  unfold mCompN
  rw [r_bind, hm]
  dsimp only
  rw [lcN_map e g (by simpa using hl) h env rfl]
  rfl
theorem r_mutN {env : List W} (i : Nat) (F : MutF) (mi : Sm W) (m : Sm (List W)) : mMutN i F mi m env = match env[i]? with
  | some (.nst ws) => (match mi env with
    | .ok (.int n) _ => (match ixN ws.length n with
      | some j => (match ws[j]? with
        | some (.lst true xs) => (match m env with
          | .ok us _ => (match F xs us with
            | some (w, xs') => .ok w (env.set i (.nst (ws.set j (.lst true xs'))))
            | none => .bad)
          | .ex c _ => .ex c env
          | .bad => .bad)
        | _ => .bad)
      | none => .bad)
    | .ex c _ => .ex c env
    | _ => .bad)
  | _ => .bad := rfl
end Ev

namespace Ev
open PySem PySem.Spec L2
end Ev

namespace Ev
open PySem PySem.Spec L2

/-! ### keys of dicts -/
def keyW : Key → W
  | .inl i => .int i
  | .inr x => .str x
def wKey : W → Option Key
  | .int i => some (.inl i)
  | .str x => some (.inr x)
  | _ => none
def wKeys : List W → Option (List Key)
  | [] => some []
  | w :: ws => match wKey w, wKeys ws with
    | some k, some ks => some (k :: ks)
    | _, _ => none
theorem RF.key {D : Dn} {G : Hp} {w : W} {v : V} {k : Key} (r : RF D G w v) (e : wKey w = some k) : v = kV k := by
  cases w <;> first
    | (cases e; exact r)
    | cases e
theorem RFs.keys {D : Dn} {G : Hp} : ∀ {ws : List W} {vs : List V} {ks : List Key}, RFs D G ws vs → wKeys ws = some ks → vs = ks.map kV
  | [], _, _, r, e => by cases e; exact r
  | w :: ws, _, ks, r, e => by
    obtain ⟨v, us, rfl, r1, r2⟩ := r
    unfold wKeys at e
    cases e1 : wKey w with
    | none => rw [e1] at e; cases e
    | some k =>
      cases e2 : wKeys ws with
      | none => rw [e1, e2] at e; cases e
      | some l =>
        rw [e1, e2] at e
        cases e
        rw [List.map_cons, ← RF.key r1 e1, ← RFs.keys r2 e2]
abbrev KK := Sum Key (List Key)
def KR (G : Hp) (y : V) : KK → Prop
  | .inl k => y = kV k
  | .inr ks => ∃ b, y = .ref b ∧ G b = some (.tup (ks.map kV))
theorem KR.mono {G G' : Hp} (e : Sub G G') {y : V} : ∀ {kk : KK}, KR G y kk → KR G' y kk
  | .inl _, h => h
  | .inr _, h => h.elim fun b q => ⟨b, q.1, e _ _ q.2⟩

/-! ### tables -/
section
variable {κ : Type} [DecidableEq κ]
def dAt {α : Type} : List κ → List α → κ → Option α
  | a :: l, w :: ws, k => if a = k then some w else dAt l ws k
  | _, _, _ => none
def dSet {α : Type} : List κ → List α → κ → α → List α
  | a :: l, w :: ws, k, x => (if a = k then x else w) :: dSet l ws k x
  | _, _, _, _ => []
def dPut {α : Type} (l : List κ) (ws : List α) (k : κ) (x : α) : List κ × List α := if k ∈ l then (l, dSet l ws k x) else (l ++ [k], ws ++ [x])
theorem dSet_zip : ∀ {l : List κ} {vs : List V} {k : κ} {v : V}, l.length = vs.length → (l.zip vs).map (fun kv => if kv.1 = k then (kv.1, v) else kv) = l.zip (dSet l vs k v)
  | [], [], _, _, _ => rfl
  | [], _ :: _, _, _, h => nomatch h
  | a :: l, [], _, _, h => nomatch h
  | a :: l, u :: vs, k, v, h => by
    unfold dSet
    rw [List.zip_cons_cons, List.zip_cons_cons, List.map_cons, dSet_zip (Nat.succ.inj h)]
    by_cases e : a = k
    · rw [if_pos e, if_pos e]
    · rw [if_neg e, if_neg e]
theorem dSet_len {α : Type} : ∀ {l : List κ} {vs : List α} {k : κ} {v : α}, l.length = vs.length → (dSet l vs k v).length = vs.length
  | [], [], _, _, _ => rfl
  | [], _ :: _, _, _, h => nomatch h
  | a :: l, [], _, _, h => nomatch h
  | a :: l, u :: vs, k, v, h => by
    unfold dSet
    rw [List.length_cons, List.length_cons, dSet_len (Nat.succ.inj h)]
theorem dSet_rf {D : Dn} {G : Hp} {x : W} {v : V} {k : κ} (rx : RF D G x v) : ∀ {l : List κ} {ws : List W} {vs : List V}, RFs D G ws vs → RFs D G (dSet l ws k x) (dSet l vs k v)
  | [], _, _, _ => by unfold dSet; rfl
  | a :: l, [], _, r => by rw [show _ = [] from r]; unfold dSet; rfl
  | a :: l, w :: ws, _, r => by
    obtain ⟨u, us, rfl, r1, r2⟩ := r
    unfold dSet
    refine ⟨_, _, rfl, ?_, dSet_rf rx r2⟩
    by_cases e : a = k
    · rw [if_pos e, if_pos e]; exact rx
    · rw [if_neg e, if_neg e]; exact r1
theorem zip_any : ∀ {l : List κ} {vs : List V} {k : κ}, l.length = vs.length → ((l.zip vs).any fun kv => decide (kv.1 = k)) = decide (k ∈ l)
  | [], [], _, _ => rfl
  | [], _ :: _, _, h => nomatch h
  | a :: l, [], _, h => nomatch h
  | a :: l, u :: vs, k, h => by
    rw [List.zip_cons_cons, List.any_cons, zip_any (Nat.succ.inj h)]
    by_cases e : a = k
    · subst e; simp
    · have e' : ¬ k = a := fun z => e z.symm
      simp [e, e']
theorem dPut_ok {D : Dn} {G : Hp} {x : W} {v : V} {k : κ} {l : List κ} {ws : List W} {vs : List V} (r : RFs D G ws vs) (rx : RF D G x v) (hl : l.length = vs.length) :
    ∃ us, putK (l.zip vs) k v = (dPut l ws k x).1.zip us ∧ (dPut l ws k x).1.length = us.length ∧ RFs D G (dPut l ws k x).2 us := by
  unfold putK dPut
  rw [zip_any hl]
  by_cases e : k ∈ l
  · rw [if_pos (decide_eq_true e), if_pos e]
    exact ⟨_, dSet_zip hl, hl.trans (dSet_len hl).symm, dSet_rf rx r⟩
  · rw [if_neg (by simp [e]), if_neg e]
    refine ⟨vs ++ [v], ?_, by simp [hl], r.append ⟨v, [], rfl, rx, rfl⟩⟩
    rw [List.zip_append hl]; rfl
end
def dFind : DKs → List W → KK → Option (Option W)
  | .k l, ws, .inl k => some (dAt l ws k)
  | .t l, ws, .inr k => some (dAt l ws k)
  | _, _, _ => none
def dStore : DKs → List W → KK → W → Option (DKs × List W)
  | .k l, ws, .inl k, x => some (.k (dPut l ws k x).1, (dPut l ws k x).2)
  | .t l, ws, .inr k, x => some (.t (dPut l ws k x).1, (dPut l ws k x).2)
  | _, _, _, _ => none
def mKey1 (m : Sm W) : Sm KK := Sm.bind m fun w => lft ((wKey w).map Sum.inl)
def keyT (ws : List W) : Option KK := if ws.length ≤ 15 then (wKeys ws).map Sum.inr else none
def mKeyT (m : Sm (List W)) : Sm KK := Sm.bind m fun ws => lft (keyT ws)
/-! ### {}, d[k], d.get(k, x) -/
def mDNew (ks : DKs) : Sm W := Sm.ret (.dct true ks [])
def dLook : W → KK → Option W
  | .dct _ ks ws, kk => (dFind ks ws kk).bind id
  | _, _ => none
def dLookD : W → KK → W → Option W
  | .dct _ ks ws, kk, x => (dFind ks ws kk).map fun o => o.getD x
  | _, _, _ => none
def mDGet (g : Bool) (mo : Sm W) (mk : Sm KK) : Sm W := Sm.bind mo fun w1 => Sm.bind mk fun kk => if (g || w1.frz) = true then lft (dLook w1 kk) else fun _ => .bad
def isDW : W → Bool
  | .dct _ _ _ => true
  | _ => false
def mDGet2 (g : Bool) (mo : Sm W) (mk : Sm KK) (md : Sm W) : Sm W := Sm.bind mo fun w1 => if isDW w1 = true then Sm.bind mk fun kk => Sm.bind md fun w3 => if (g || w1.frz) = true ∧ w3.frz = true then lft (dLookD w1 kk w3) else fun _ => .bad else fun _ => .bad
/-! ### d[k] = e -/
def dPutW (ks : DKs) (ws : List W) (kk : KK) (w : W) (i : Nat) (env : List W) : Out Fl := if ws.length < sizeLine then match dStore ks ws kk w with
    | some q => .ok .nx (env.set i (.dct true q.1 q.2))
    | none => .bad
  else .bad
def sDPut (i : Nat) (mk : Sm KK) (me : Sm W) : Sm Fl := Sm.bind me fun w env => if w.frz = true then match env[i]? with
    | some (.dct true ks ws) => (match mk env with
      | .ok kk env2 => dPutW ks ws kk w i env2
      | _ => .bad)
    | _ => .bad
  else .bad
/-! ### the keys of a locked dict, walked -/
def dKeys : W → Option (List W)
  | .dct false (.k l) _ => some (l.map keyW)
  | .dct false (.t l) _ => some (l.map fun k => .tup (k.map keyW))
  | _ => none
def iKeysD (m : Sm W) : Sm (List W) := Sm.bind m fun w => lft (dKeys w)
end Ev

namespace Ev
open PySem PySem.Spec L2

/-! ### an owned thing is lent while a statement runs, and owned again behind it -/
def thinOk : W → Bool
  | .dead => true
  | .lst true ws => flats ws
  | w => w.flat
theorem SR.thin {D : Dn} {G' H' G2 : Hp} {w : W} {s : Option V} {O : List Addr} (thin : ∀ a xs, SqT D.K G' a xs → SqT D.K G2 a xs) (h : thinOk w = true) (r : SR D G' H' w s O) : SR D G2 H' w s O := by
  rcases r with ⟨v, rfl, r⟩ | r
  · have hc : w = .dead ∨ (∃ ws, w = .lst true ws) ∨ w.flat = true := by
      unfold thinOk at h
      split at h
      · exact .inl rfl
      · exact .inr (.inl ⟨_, rfl⟩)
      · exact .inr (.inr h)
    refine .inl ⟨v, rfl, ?_⟩
    rcases hc with rfl | ⟨ws, rfl⟩ | hf
    · exact r
    · obtain ⟨a, us, rfl, rfl, k1, k2⟩ := r
      exact ⟨a, us, rfl, rfl, k1, RFs.thin thin _ _ h k2⟩
    · obtain ⟨rfl, rf⟩ := r.toF (W.flat_frz hf)
      exact RO.ofF (RF.thin thin _ _ hf rf)
  · exact .inr r
abbrev Zt.only (Z : Zt) (vs : List Nat) : Zt := ⟨Z.X, Z.CA, Z.W, fun j => !vs.contains j⟩
end Ev

namespace Ev
open PySem PySem.Spec L2

/-! ### running the meanings of dicts -/
section
variable {env : List W}
theorem r_dnew (ks : DKs) : mDNew ks env = .ok (.dct true ks []) env := rfl
theorem r_key1 (m : Sm W) : mKey1 m env = match m env with
  | .ok w e => (match wKey w with
    | some k => .ok (.inl k) e
    | none => .bad)
  | .ex c e => .ex c e
  | .bad => .bad := by
  unfold mKey1
  rw [r_bind]
  cases m env with
  | ok w e => dsimp only; rw [r_lft]; cases wKey w <;> rfl
  | _ => rfl
theorem r_keyT (m : Sm (List W)) : mKeyT m env = match m env with
  | .ok ws e => (match keyT ws with
    | some k => .ok k e
    | none => .bad)
  | .ex c e => .ex c e
  | .bad => .bad := by
  unfold mKeyT
  rw [r_bind]
  cases m env with
  | ok w e => dsimp only; rw [r_lft]; cases keyT w <;> rfl
  | _ => rfl
theorem r_dget (g : Bool) (mo : Sm W) (mk : Sm KK) : mDGet g mo mk env = match mo env with
  | .ok w1 e1 => (match mk e1 with
    | .ok kk e2 => if (g || w1.frz) = true then (match dLook w1 kk with
      | some r => .ok r e2
      | none => .bad) else .bad
    | .ex c e' => .ex c e'
    | .bad => .bad)
  | .ex c e' => .ex c e'
  | .bad => .bad := by
  unfold mDGet
  rw [r_bind]
  cases mo env with
  | ok w1 e1 =>
    dsimp only
    rw [r_bind]
    cases mk e1 with
    | ok kk e2 =>
      dsimp only
      split
      · rw [r_lft]; cases dLook w1 kk <;> rfl
      · rfl
    | _ => rfl
  | _ => rfl
theorem r_dget2 (g : Bool) (mo : Sm W) (mk : Sm KK) (md : Sm W) : mDGet2 g mo mk md env = match mo env with
  | .ok w1 e1 => if isDW w1 = true then (match mk e1 with
    | .ok kk e2 => (match md e2 with
      | .ok w3 e3 => if (g || w1.frz) = true ∧ w3.frz = true then (match dLookD w1 kk w3 with
        | some r => .ok r e3
        | none => .bad) else .bad
      | .ex c e' => .ex c e'
      | .bad => .bad)
    | .ex c e' => .ex c e'
    | .bad => .bad) else .bad
  | .ex c e' => .ex c e'
  | .bad => .bad := by
  unfold mDGet2
  rw [r_bind]
  cases mo env with
  | ok w1 e1 =>
    dsimp only
    split
    · rw [r_bind]
      cases mk e1 with
      | ok kk e2 =>
        dsimp only
        rw [r_bind]
        cases md e2 with
        | ok w3 e3 =>
          dsimp only
          split
          · rw [r_lft]; cases dLookD w1 kk w3 <;> rfl
          · rfl
        | _ => rfl
      | _ => rfl
    · rfl
  | _ => rfl
theorem r_dput (i : Nat) (mk : Sm KK) (me : Sm W) : sDPut i mk me env = match me env with
  | .ok w e => if w.frz = true then (match e[i]? with
    | some (.dct true ks ws) => (match mk e with
      | .ok kk e2 => dPutW ks ws kk w i e2
      | _ => .bad)
    | _ => .bad) else .bad
  | .ex c e' => .ex c e'
  | .bad => .bad := by
  unfold sDPut
  rw [r_bind]
  cases me env <;> rfl
theorem r_ikeys (m : Sm W) : iKeysD m env = match m env with
  | .ok w e => (match dKeys w with
    | some x => .ok x e
    | none => .bad)
  | .ex c e => .ex c e
  | .bad => .bad := by
  unfold iKeysD
  rw [r_bind]
  cases m env with
  | ok w e => dsimp only; rw [r_lft]; cases dKeys w <;> rfl
  | _ => rfl
end
theorem w_keyI (i : Int) : wKey (.int i) = some (.inl i) := rfl
theorem w_keyS (i : Str) : wKey (.str i) = some (.inr i) := rfl
theorem w_keyT2 (i j : Int) : keyT [.int i, .int j] = some (.inr [.inl i, .inl j]) := rfl
theorem w_lookT (b : Bool) (l : List (List Key)) (ws : List W) (k : List Key) : dLook (.dct b (.t l) ws) (.inr k) = dAt l ws k := by
  show (some (dAt l ws k)).bind id = _
  rfl
theorem w_lookK (b : Bool) (l : List Key) (ws : List W) (k : Key) : dLook (.dct b (.k l) ws) (.inl k) = dAt l ws k := by
  show (some (dAt l ws k)).bind id = _
  rfl
theorem w_lookDT (b : Bool) (l : List (List Key)) (ws : List W) (k : List Key) (x : W) : dLookD (.dct b (.t l) ws) (.inr k) x = some ((dAt l ws k).getD x) := rfl
theorem w_lookDK (b : Bool) (l : List Key) (ws : List W) (k : Key) (x : W) : dLookD (.dct b (.k l) ws) (.inl k) x = some ((dAt l ws k).getD x) := rfl
theorem w_dputT (l : List (List Key)) (ws : List W) (k : List Key) (w : W) (i : Nat) (env : List W) : dPutW (.t l) ws (.inr k) w i env = if ws.length < sizeLine then .ok .nx (env.set i (.dct true (.t (dPut l ws k w).1) (dPut l ws k w).2)) else .bad := Eq.trans rfl rfl
theorem w_dputK (l : List Key) (ws : List W) (k : Key) (w : W) (i : Nat) (env : List W) : dPutW (.k l) ws (.inl k) w i env = if ws.length < sizeLine then .ok .nx (env.set i (.dct true (.k (dPut l ws k w).1) (dPut l ws k w).2)) else .bad := Eq.trans rfl rfl
theorem w_dkeysT (l : List (List Key)) (ws : List W) : dKeys (.dct false (.t l) ws) = some (l.map fun k => .tup (k.map keyW)) := rfl
theorem w_dkeysK (l : List Key) (ws : List W) : dKeys (.dct false (.k l) ws) = some (l.map keyW) := rfl
theorem isDW_dct (b : Bool) (k : DKs) (ws : List W) : isDW (.dct b k ws) = true := rfl
theorem frz_dct (b : Bool) (k : DKs) (ws : List W) : (W.dct b k ws).frz = false := rfl

/-! ### counting in a dict -/
section
variable {κ : Type} [DecidableEq κ]
/-- how often each thing comes, in the order of the first ones -/
def uniq : List κ → List κ → List κ
  | acc, [] => acc
  | acc, k :: ks => uniq (if k ∈ acc then acc else acc ++ [k]) ks
end

end Ev

namespace Ev
open PySem PySem.Spec L2

end Ev

namespace Ev
open PySem PySem.Spec L2

/-! ### x[1:] of a tuple, as a key -/
def cutK : W → Option KK
  | .tup (_ :: k :: ks) => keyT (k :: ks)
  | _ => none
def mKeyCut (m : Sm W) : Sm KK := Sm.bind m fun w => lft (cutK w)
theorem r_keyCut {env : List W} (m : Sm W) : mKeyCut m env = match m env with
  | .ok w e => (match cutK w with
    | some k => .ok k e
    | none => .bad)
  | .ex c e => .ex c e
  | .bad => .bad := by
  unfold mKeyCut
  rw [r_bind]
  cases m env with
  | ok w e => dsimp only; rw [r_lft]; cases cutK w <;> rfl
  | _ => rfl
end Ev

namespace Ev
open PySem PySem.Spec L2
/-! ### methods of texts -/
def tyStr : W → Bool
  | .str _ => true
  | _ => false
def jnOk (a : Str) (ys : List Str) : Prop := (ys.map (·.length)).sum + ys.length * a.length ≤ 16777216
noncomputable instance {a : Str} {ys : List Str} : Decidable (jnOk a ys) := Classical.propDecidable _
def spOk (a b : Str) : Prop := (b.length == 0) = false ∧ a.length + 2 ≤ sizeLine
noncomputable instance {a b : Str} : Decidable (spOk a b) := Classical.propDecidable _
def spkOk (a b : Str) (k : Int) : Prop := (b.length == 0) = false ∧ -(2 ^ 63) ≤ k ∧ k < 2 ^ 63 ∧ a.length + 2 ≤ sizeLine
noncomputable instance {a b : Str} {k : Int} : Decidable (spkOk a b k) := Classical.propDecidable _
section
variable {Z : Zt} {o e e2 : Expr} {m : Sm W} {ma : Sm (List W)} {p1 p2 k1 : Bool} {apos cpos : Pos}
end
theorem ty_str (s : Str) : tyStr (.str s) = true := rfl
/-- a name is given a list of new lists -/
theorem ms_setLcN {Z : Zt} {i : Nat} {y : Str} {py : Pos} {elt tg iter : Expr} {ifs : List Expr} {scope : Scope} {own : List (Str × Nat)} {pos spos : Pos} {f : Tg} {mt : Sm Bool} {me : Sm W} {mi : Sm (List W)} (hc : Z.X.calm = true) (hN : Z.X.N.Nodup) (hi : MI Z tg iter mi true) (ok : BlkOk Z.X.N Z.X.env.scope scope own)
    (hg : ∀ (s : Shared) (H : Hp) (C : Addr) (cl : List (Str × Addr)) (fp : List Addr), MG (Z.blk s H scope C cl fp (own.map (·.2))) tg f) (ht : ∀ (s : Shared) (H : Hp) (C : Addr) (cl : List (Str × Addr)) (fp : List Addr), MTs (Z.blk s H scope C cl fp (own.map (·.2))) ifs mt true)
    (he : ∀ (s : Shared) (H : Hp) (C : Addr) (cl : List (Str × Addr)) (fp : List Addr), ME (Z.blk s H scope C cl fp (own.map (·.2))) elt me true true)
    (hy : Z.X.N[i]? = some y := by rfl) (hyl : Z.X.env.scope.names.lookup y = some .local := by rfl) (hio : Z.io i = false := by rfl)
    (hsw : swapsWith (.ListComp elt [⟨tg, iter, ifs, 0⟩] scope pos) (some (.Name y py)) spos.line Z.X.env = pure true := by exact sw_true rfl rfl rfl (by decide +kernel)) (hs : ∀ x, foldedSetIterable iter Z.X.env x = pure x := by intro _; rfl) :
    MS Z (.Assign [.Name y py] (.ListComp elt [⟨tg, iter, ifs, 0⟩] scope pos) spos) (sSet i true (mCompN f mt me (own.map (·.2)) mi)) := by
  have core := ps_setLc (X := Z.X) (i := i) (py := py) (spos := spos) (pos := pos) (g := TGx Z.D (ioB (own.map (·.2))) f) (tt := TT' Z.D W0 true mt) (te := TX Z.D W0 true true me) hc hN hy hyl hsw hi ok hg ht he hs
  refine ⟨fun pins sh σ H D I q => ?_⟩
  have hlen := I.len
  refine core.run pins sh σ H D I ?_
  have fin : ∀ {m : Sm W}, TSx Z.D Z.W Z.io (sSet i true m) D σ H → TX Z.D Z.W true true m σ H fun v H' => D.nx (σ.set i (some v)) H' := by
    intro m q
    obtain ⟨env, G, Os, s, q⟩ := q
    refine ⟨env, G, Os, s, ?_⟩
    unfold sSet Sm.bind at q
    cases e : m env with
    | bad => rw [e] at q; exact q
    | ex c env1 =>
      rw [e] at q
      exact fun G' H' Os' s' t => q σ G' H' Os' s' t.st (IoS.refl _)
    | ok w env1 =>
      rw [e] at q
      intro v G' H' Os' Ow s' r o t
      simp only [Bool.true_or, if_true] at q
      obtain ⟨s2, inn⟩ := s'.put i (by rw [hlen]; exact (List.getElem?_eq_some_iff.mp hy).1) r o
      exact q (σ.set i (some v)) G' H' (Os'.set i Ow) s2 (t.gen.less inn) (IoS.set hio)
  exact tx_lcN (Q := fun v H' => D.nx (σ.set i (some v)) H') (fin q)

end Ev

namespace Ev
open PySem PySem.Spec L2 TL
/-! ### the signs of numbers -/
def keyS (k : Int) : Str := Str.ofString (toString k)
def keyL (k : Int) : List Nat := if k < 0 then 45 :: numL k.natAbs else numL k.natAbs
theorem tl_key (k : Int) : tl (keyS k) = keyL k := by
  unfold keyS keyL
  cases k with
  | ofNat n =>
    rw [if_neg (by show ¬ (Int.ofNat n) < 0; have : (Int.ofNat n) = ((n : Nat) : Int) := rfl; omega)]
    exact tl_num n
  | negSucc n =>
    have e : (toString (n + 1)).toList.map Char.toNat = numL (n + 1) := by
      have z := tl_num (n + 1)
      rw [tl_ofString] at z
      exact z
    rw [show toString (Int.negSucc n) = "-" ++ toString (n + 1) from rfl, tl_ofString, String.toList_append, List.map_append, e, if_pos (Int.negSucc_lt_zero n)]
    rfl
def isFig (c : Nat) : Bool := decide (48 ≤ c ∧ c ≤ 57)
/-- the figures of a key's word -/
def figsL (l : List Nat) : List Nat := if l.take 1 = [45] then l.drop 1 else l
structure OkKey (l : List Nat) : Prop where
  ne : figsL l ≠ []
  len : (figsL l).length ≤ 30
  fig : ∀ c ∈ figsL l, isFig c = true
  led : ¬ (1 < (figsL l).length ∧ (figsL l)[0]? = some 48)
  neg : l ≠ [45, 48]
def keyV (l : List Nat) : Int := if l.take 1 = [45] then -((NumText.digitsVal (l.drop 1) : Nat) : Int) else ((NumText.digitsVal l : Nat) : Int)
theorem take_one {l : List Nat} {c : Nat} (h : l.take 1 = [c]) : l = c :: l.drop 1 := by
  cases l with
  | nil => cases h
  | cons d r =>
    have : d = c := by simpa using h
    rw [this]; rfl
theorem OkKey.int {z : Str} (h : OkKey (tl z)) : intText? z = some (keyV (tl z)) ∧ z.length ≤ 31 := by
  have hl := len_tl z
  have hlen := h.len
  have hfig := h.fig
  have hne := h.ne
  unfold keyV
  unfold figsL at hlen hfig hne
  by_cases c : (tl z).take 1 = [45]
  · rw [if_pos c] at hlen hfig hne ⊢
    have e := take_one c
    have l1 : (tl z).length = ((tl z).drop 1).length + 1 := by
      conv => lhs; rw [e]
      rfl
    refine ⟨intText_neg e (fun c hc => by simpa [isFig] using hfig c hc) hne (by omega), by omega⟩
  · rw [if_neg c] at hlen hfig hne ⊢
    exact ⟨intText_digits (fun c hc => by simpa [isFig] using hfig c hc) hne (by omega), by omega⟩
theorem w_lenS (z : Str) (h : z.length ≤ sizeLine) : lenW (.str z) = some (.int (z.length : Int)) := if_pos h
theorem w_cutZ (b : Bool) (z : Str) (lo hi : Option Int) (h : z.length ≤ sizeLine) : cutW b (.str z) lo hi = some (.str (cutS z lo hi)) := if_pos h
theorem w_addZ (b : Bool) (x y : Str) (h : x.length + y.length ≤ sizeLine) : addW b (.str x) (.str y) = some (.str (x ++ y)) := if_pos h
theorem w_strOf (i : Int) (h : i.natAbs < 2 ^ 1900) : strOfW (.int i) = some (.str (keyS i)) := by
  have h2 : i.natAbs.log2 < 1920 := by
    by_cases z : i.natAbs = 0
    · rw [z]; decide
    · have := (Nat.log2_lt z (k := 1900)).mpr h
      omega
  exact if_pos h2
end Ev

namespace Ev
open PySem PySem.Spec L2

/-! ### places: a thing within a thing -/
def W.kids : W → List W
  | .nst ws => ws
  | .ndc _ ws => ws
  | .obj _ _ ws => ws
  | _ => []
def W.withKids : W → List W → W
  | .nst _, ws => .nst ws
  | .ndc ks _, ws => .ndc ks ws
  | .obj c fs _, ws => .obj c fs ws
  | w, _ => w
def getP : W → List Nat → Option W
  | w, [] => some w
  | w, j :: p => match w.kids[j]? with
    | some x => getP x p
    | none => none
def setP : W → List Nat → W → W
  | _, [], y => y
  | w, j :: p, y => match w.kids[j]? with
    | some x => w.withKids (w.kids.set j (setP x p y))
    | none => w
/-- the values of what is within -/
def KidV (D : Dn) (H : Hp) : W → V → List V → Prop
  | .nst _, v, vs => ∃ a, v = .ref a ∧ H a = some (.lst vs)
  | .ndc ks _, v, vs => ∃ a, v = .ref a ∧ DR H a ks vs
  | .obj c fs _, v, vs => ∃ a dx, v = .ref a ∧ fs.length = vs.length ∧ H a = some (.ins (D.CA c) dx (fs.zip vs))
  | _, _, _ => False
theorem zip_snd {α β : Type} {l : List α} {xs ys : List β} (h1 : l.length = xs.length) (h2 : l.length = ys.length) (e : l.zip xs = l.zip ys) : xs = ys := by
  have a := List.map_snd_zip (l₁ := l) (l₂ := xs) (by omega)
  have b := List.map_snd_zip (l₁ := l) (l₂ := ys) (by omega)
  rw [← a, e, b]
theorem KidV.uniq {D : Dn} {H : Hp} {w : W} {v : V} {vs us : List V} (h : KidV D H w v vs) (k : KidV D H w v us) : vs = us := by
  cases w with
  | nst ws =>
    obtain ⟨a, rfl, e⟩ := h
    obtain ⟨b, e2, e3⟩ := k
    cases e2
    rw [e] at e3
    cases e3
    rfl
  | ndc ks ws =>
    obtain ⟨a, rfl, e⟩ := h
    obtain ⟨b, e2, e3⟩ := k
    cases e2
    cases ks with
    | k l =>
      obtain ⟨l1, e⟩ := e
      obtain ⟨l2, e3⟩ := e3
      rw [e] at e3
      have e4 : l.zip vs = l.zip us := by
        have := Option.some.inj e3
        injection this
      exact zip_snd l1 l2 e4
    | t l =>
      obtain ⟨l1, e⟩ := e
      obtain ⟨l2, e3⟩ := e3
      rw [e] at e3
      have e4 : l.zip vs = l.zip us := by
        have := Option.some.inj e3
        injection this
      exact zip_snd l1 l2 e4
  | obj c fs ws =>
    obtain ⟨a, dx, rfl, l1, e⟩ := h
    obtain ⟨b, dy, e2, l2, e3⟩ := k
    cases e2
    rw [e] at e3
    have e4 : fs.zip vs = fs.zip us := by
      have := Option.some.inj e3
      injection this
    exact zip_snd l1 l2 e4
  | _ => exact h.elim
/-- the value of what stands at a place -/
def NodeV (D : Dn) (H : Hp) : W → V → List Nat → V → Prop
  | _, v, [], y => y = v
  | w, v, j :: p, y => ∃ vs u x, KidV D H w v vs ∧ vs[j]? = some u ∧ w.kids[j]? = some x ∧ NodeV D H x u p y
theorem NodeV.uniq {D : Dn} {H : Hp} : ∀ {p : List Nat} {w : W} {v y z : V}, NodeV D H w v p y → NodeV D H w v p z → y = z
  | [], _, _, _, _, h, k => by rw [show _ = _ from h, show _ = _ from k]
  | j :: p, w, v, y, z, h, k => by
    obtain ⟨vs, u, x, h1, h2, h3, h4⟩ := h
    obtain ⟨vs', u', x', k1, k2, k3, k4⟩ := k
    have e := h1.uniq k1
    subst e
    rw [h2] at k2
    cases k2
    rw [h3] at k3
    cases k3
    exact NodeV.uniq h4 k4
theorem NodeV.snoc {D : Dn} {H : Hp} : ∀ {p : List Nat} {w w1 x : W} {v u y : V} {vs : List V} {k : Nat}, NodeV D H w v p u → getP w p = some w1 → KidV D H w1 u vs → vs[k]? = some y → w1.kids[k]? = some x → NodeV D H w v (p ++ [k]) y ∧ getP w (p ++ [k]) = some x
  | [], w, w1, x, v, u, y, vs, k, h, g, hk, hv, hx => by
    cases g
    rw [show u = v from h] at hk
    exact ⟨⟨vs, y, x, hk, hv, hx, rfl⟩, by rw [List.nil_append]; unfold getP; rw [hx]; rfl⟩
  | j :: p, w, w1, x, v, u, y, vs, k, h, g, hk, hv, hx => by
    obtain ⟨vs', u', x', h1, h2, h3, h4⟩ := h
    unfold getP at g
    rw [h3] at g
    obtain ⟨a, b⟩ := NodeV.snoc h4 g hk hv hx
    exact ⟨⟨vs', u', x', h1, h2, h3, a⟩, by rw [List.cons_append]; unfold getP; rw [h3]; exact b⟩
theorem ROs.kid {D : Dn} {G H : Hp} : ∀ {ws : List W} {vs : List V} {O : List Addr} {j : Nat} {x : W}, ROs D G H ws vs O → ws[j]? = some x →
    ∃ u O1 R, vs[j]? = some u ∧ RO D G H x u O1 ∧ (R ++ O1).Perm O ∧ ∀ (G' H' : Hp) (x' : W) (O1' : List Addr), Sub G G' → (∀ a ∈ R, ∀ o, H a = some o → H' a = some o) → RO D G' H' x' u O1' → ∃ O', ROs D G' H' (ws.set j x') vs O' ∧ O'.Perm (R ++ O1')
  | [], _, _, _, _, _, e => by simp at e
  | w :: ws, _, _, 0, x, h, e => by
    obtain ⟨v, r, O1, O2, rfl, rfl, h1, h2⟩ := h
    have ew : w = x := by simpa using e
    subst ew
    refine ⟨v, O1, O2, rfl, h1, List.perm_append_comm, fun G' H' x' O1' sub k r' => ⟨O1' ++ O2, ?_, List.perm_append_comm⟩⟩
    exact ⟨v, r, O1', O2, rfl, rfl, r', ROs.mono sub _ _ _ k h2⟩
  | w :: ws, _, _, j + 1, x, h, e => by
    obtain ⟨v, r, O1, O2, rfl, rfl, h1, h2⟩ := h
    obtain ⟨u, Ox, R, e1, e2, e3, e4⟩ := ROs.kid (j := j) (x := x) h2 (by simpa using e)
    refine ⟨u, Ox, O1 ++ R, by simpa using e1, e2, by rw [List.append_assoc]; exact List.Perm.append_left _ e3, fun G' H' x' O1' sub k r' => ?_⟩
    obtain ⟨O', f1, f2⟩ := e4 G' H' x' O1' sub (fun a ha => k a (List.mem_append_right _ ha)) r'
    exact ⟨O1 ++ O', ⟨v, r, O1, O', rfl, rfl, RO.mono sub _ _ _ (fun a ha => k a (List.mem_append_left _ ha)) h1, f1⟩, by rw [List.append_assoc]; exact List.Perm.append_left _ f2⟩
theorem RO.kidsAt {D : Dn} {G H : Hp} {w : W} {v : V} {O : List Addr} {j : Nat} {x : W} (h : RO D G H w v O) (e : w.kids[j]? = some x) :
    ∃ a vs O', v = .ref a ∧ O = a :: O' ∧ (∀ H', (∀ o, H a = some o → H' a = some o) → KidV D H' w v vs) ∧ ROs D G H w.kids vs O' ∧ ∀ (G' H' : Hp) (ws' : List W) (O'' : List Addr), (∀ o, H a = some o → H' a = some o) → ROs D G' H' ws' vs O'' → RO D G' H' (w.withKids ws') v (a :: O'') := by
  cases w with
  | nst ws =>
    obtain ⟨a, vs, O', rfl, rfl, h1, h2⟩ := h
    exact ⟨a, vs, O', rfl, rfl, fun H' k => ⟨a, rfl, k _ h1⟩, h2, fun G' H' ws' O'' k r => ⟨a, vs, O'', rfl, rfl, k _ h1, r⟩⟩
  | ndc ks ws =>
    obtain ⟨a, vs, O', rfl, rfl, h1, h2⟩ := h
    exact ⟨a, vs, O', rfl, rfl, fun H' k => ⟨a, rfl, h1.keep k⟩, h2, fun G' H' ws' O'' k r => ⟨a, vs, O'', rfl, rfl, h1.keep k, r⟩⟩
  | obj c fs ws =>
    obtain ⟨a, dx, vs, O', rfl, rfl, hl, h1, h2⟩ := h
    exact ⟨a, vs, O', rfl, rfl, fun H' k => ⟨a, dx, rfl, hl, k _ h1⟩, h2, fun G' H' ws' O'' k r => ⟨a, dx, vs, O'', rfl, rfl, hl, k _ h1, r⟩⟩
  | _ => exact absurd e (by unfold W.kids; simp)
theorem RO.place {D : Dn} {G H : Hp} : ∀ (p : List Nat) {w w1 : W} {v : V} {O : List Addr}, RO D G H w v O → getP w p = some w1 →
    ∃ u O1 R, RO D G H w1 u O1 ∧ (R ++ O1).Perm O ∧ (∀ H', (∀ a ∈ O, ∀ o, H a = some o → H' a = some o) → NodeV D H' w v p u) ∧
      ∀ (G' H' : Hp) (y : W) (O1' : List Addr), Sub G G' → (∀ a ∈ R, ∀ o, H a = some o → H' a = some o) → RO D G' H' y u O1' → ∃ O', RO D G' H' (setP w p y) v O' ∧ O'.Perm (R ++ O1')
  | [], w, w1, v, O, h, g => by
    cases g
    exact ⟨v, O, [], h, by rw [List.nil_append], fun _ _ => rfl, fun G' H' y O1' _ _ r => ⟨O1', r, by rw [List.nil_append]⟩⟩
  | j :: p, w, w1, v, O, h, g => by
    unfold getP at g
    cases e : w.kids[j]? with
    | none => rw [e] at g; cases g
    | some x =>
      rw [e] at g
      obtain ⟨a, vs, O', rfl, rfl, kv, hk, back⟩ := h.kidsAt e
      obtain ⟨u0, Ok, Rk, f1, f2, f3, f4⟩ := ROs.kid hk e
      obtain ⟨u, O1, R1, i1, i2, i3, i4⟩ := RO.place p f2 g
      refine ⟨u, O1, a :: (Rk ++ R1), i1, ?_, fun H' k => ?_, fun G' H' y O1' sub k r => ?_⟩
      · rw [List.cons_append, List.append_assoc]
        exact List.Perm.cons _ ((List.Perm.append_left _ i2).trans f3)
      · refine ⟨vs, u0, x, kv H' fun o ho => k a List.mem_cons_self o ho, f1, e, i3 H' fun b hb => k b (List.mem_cons_of_mem _ (f3.mem_iff.mp (List.mem_append_right _ hb)))⟩
      · obtain ⟨Ok', j1, j2⟩ := i4 G' H' y O1' sub (fun b hb => k b (List.mem_cons_of_mem _ (List.mem_append_right _ hb))) r
        obtain ⟨O'', l1, l2⟩ := f4 G' H' _ _ sub (fun b hb => k b (List.mem_cons_of_mem _ (List.mem_append_left _ hb))) j1
        refine ⟨a :: O'', ?_, ?_⟩
        · unfold setP
          rw [e]
          exact back G' H' _ _ (fun o ho => k a List.mem_cons_self o ho) l1
        · rw [List.cons_append, List.append_assoc]
          exact List.Perm.cons _ (l2.trans (List.Perm.append_left _ j2))
/-- what stands at a place of a slot, and how it may be put otherwise -/
structure Foc (D : Dn) (G H : Hp) (env : List W) (σ : St) (Os : List (List Addr)) (i : Nat) (w : W) (p : List Nat) (w1 : W) (v u : V) (O1 R : List Addr) : Prop where
  sv : σ[i]? = some (some v)
  ro : RO D G H w1 u O1
  pm : (R ++ O1).Perm Os.flatten
  nv : ∀ H', (∀ a ∈ Os.flatten, ∀ o, H a = some o → H' a = some o) → NodeV D H' w v p u
  back : ∀ (G' H' : Hp) (y : W) (O1' : List Addr), Sub G G' → Sub G' H' → (∀ a ∈ R, ∀ o, H a = some o → H' a = some o) → (∀ a ∈ R, G' a = none) → RO D G' H' y u O1' → (R ++ O1').Nodup → (∀ a ∈ O1', G' a = none) →
    ∃ Os', StOk D G' H' (env.set i (setP w p y)) σ Os' ∧ Os'.flatten.Perm (R ++ O1')
theorem StOk.focus {D : Dn} {G H : Hp} {env : List W} {σ : St} {Os : List (List Addr)} {i : Nat} {w w1 : W} {p : List Nat} (s : StOk D G H env σ Os) (e : env[i]? = some w) (nd : w ≠ .dead) (g : getP w p = some w1) :
    ∃ v u O1 R, Foc D G H env σ Os i w p w1 v u O1 R := by
  obtain ⟨sv, O, h1, h2, h3⟩ := s.sl.at e
  have hv : ∃ v, sv = some v ∧ RO D G H w v O := by
    rcases h3 with h3 | ⟨z, _⟩
    · exact h3
    · exact absurd z nd
  obtain ⟨v, rfl, ro⟩ := hv
  obtain ⟨u, O1, R0, i1, i2, i3, i4⟩ := RO.place p ro g
  have p1 := flat_set (O' := []) h2
  rw [List.append_nil] at p1
  have inO : ∀ a ∈ O, a ∈ Os.flatten := fun a ha => flat_mem h2 ha
  refine ⟨v, u, O1, (Os.set i []).flatten ++ R0, h1, i1, ?_, fun H' k => i3 H' fun a ha => k a (inO a ha), fun G' H' y O1' sub sub' k gn r ndp gn' => ?_⟩
  · rw [List.append_assoc]
    exact (List.Perm.append_left _ i2).trans p1
  · obtain ⟨O', j1, j2⟩ := i4 G' H' y O1' sub (fun a ha => k a (List.mem_append_right _ ha)) r
    have hi : i < Os.length := (List.getElem?_eq_some_iff.mp h2).1
    have e0 : (Os.set i [])[i]? = some [] := by rw [List.getElem?_set_self hi]
    have p2 := flat_set (O' := O') e0
    rw [List.append_nil, List.set_set] at p2
    have pm : (Os.set i O').flatten.Perm ((Os.set i []).flatten ++ R0 ++ O1') := by
      rw [List.append_assoc]
      exact p2.trans (List.Perm.append_left _ j2)
    refine ⟨Os.set i O', ⟨?_, sub', fun a ha => ?_, pm.nodup_iff.mpr ndp⟩, pm⟩
    · have s0 : Sl D G' H' (env.set i .dead) σ (Os.set i []) := (s.sl.kill1 i).mono sub fun a ha x hx => k a (List.mem_append_left _ ha) x hx
      have s1 := Sl.set (D := D) (G := G') (H := H') (w := setP w p y) (s := some v) (O := O') (.inl ⟨v, rfl, j1⟩) i s0
      rw [set_self h1, List.set_set, List.set_set] at s1
      exact s1
    · rcases List.mem_append.mp (pm.mem_iff.mp ha) with z | z
      · exact gn a z
      · exact gn' a z
theorem Foc.inR {D : Dn} {G H : Hp} {env : List W} {σ : St} {Os : List (List Addr)} {i : Nat} {w w1 : W} {p : List Nat} {v u : V} {O1 R : List Addr} (f : Foc D G H env σ Os i w p w1 v u O1 R) : ∀ a ∈ R, a ∈ Os.flatten := fun a ha => f.pm.mem_iff.mp (List.mem_append_left _ ha)
theorem Foc.in1 {D : Dn} {G H : Hp} {env : List W} {σ : St} {Os : List (List Addr)} {i : Nat} {w w1 : W} {p : List Nat} {v u : V} {O1 R : List Addr} (f : Foc D G H env σ Os i w p w1 v u O1 R) : ∀ a ∈ O1, a ∈ Os.flatten := fun a ha => f.pm.mem_iff.mp (List.mem_append_right _ ha)
/-- the thing at the place is changed at an address of its own; more may become its own -/
theorem Foc.upd {D : Dn} {G H : Hp} {env : List W} {σ : St} {Os : List (List Addr)} {i : Nat} {w w1 y : W} {p : List Nat} {v u : V} {O1 R O1' Ow : List Addr} {b : Addr} {o : HO} (s : StOk D G H env σ Os) (f : Foc D G H env σ Os i w p w1 v u O1 R) (hb : b ∈ O1)
    (r : RO D G (upd H b o) y u O1') (n1 : O1'.Nodup) (hs : ∀ a ∈ O1', a ∈ O1 ∨ a ∈ Ow) (nd : (Os.flatten ++ Ow).Nodup) (gn : ∀ a ∈ Ow, G a = none) :
    ∃ Os', StOk D G (upd H b o) (env.set i (setP w p y)) σ Os' ∧ Step G H (Os.flatten ++ Ow) G (upd H b o) Os'.flatten := by
  have inO : b ∈ Os.flatten := f.in1 b hb
  have gb : G b = none := s.gn b inO
  have ndp : (R ++ O1).Nodup := f.pm.nodup_iff.mpr s.nd
  have nR : ∀ a ∈ R, a ≠ b := fun a ha e => (List.nodup_append.mp ndp).2.2 a ha b hb e
  have nd2 : (R ++ O1').Nodup := by
    refine List.nodup_append.mpr ⟨(List.nodup_append.mp ndp).1, n1, fun a ha c hc e => ?_⟩
    subst e
    rcases hs a hc with z | z
    · exact (List.nodup_append.mp ndp).2.2 a ha a z rfl
    · exact (List.nodup_append.mp nd).2.2 a (f.inR a ha) a z rfl
  obtain ⟨Os', k1, k2⟩ := f.back G (L2.upd H b o) y O1' (Sub.refl _) (fun a x ha => by rw [upd_ne (ne_of_none ha gb)]; exact s.sub a x ha) (fun a ha x hx => by rw [upd_ne (nR a ha)]; exact hx)
    (fun a ha => s.gn a (f.inR a ha)) r nd2 (fun a ha => by
      rcases hs a ha with z | z
      · exact s.gn a (f.in1 a z)
      · exact gn a z)
  refine ⟨Os', k1, Sub.refl _, fun a x ha hn => ?_, fun a x ha hn _ g => g, fun a ha => .inl ?_⟩
  · rw [upd_ne (fun e => hn (by rw [e]; exact List.mem_append_left _ inO))]; exact ha
  · rcases List.mem_append.mp (k2.mem_iff.mp ha) with z | z
    · exact List.mem_append_left _ (f.inR a z)
    · rcases hs a z with y' | y'
      · exact List.mem_append_left _ (f.in1 a y')
      · exact List.mem_append_right _ y'
/-- the place's value stands behind what changes nothing -/
theorem Foc.same {D : Dn} {G H : Hp} {env : List W} {σ : St} {Os : List (List Addr)} {i : Nat} {w w1 : W} {p : List Nat} {v u v' u' : V} {O1 R : List Addr} (s : StOk D G H env σ Os) (f : Foc D G H env σ Os i w p w1 v u O1 R) (h1 : σ[i]? = some (some v')) (h2 : NodeV D H w v' p u') : u' = u := by
  have e := f.sv
  rw [h1] at e
  cases e
  exact h2.uniq (f.nv H fun _ _ _ h => h)
/-! ### the judgement of a place -/
def TP (D : Dn) (Wx : WX) (i : Nat) (m : Sm (List Nat)) : TE := fun σ H Q => ∃ (env : List W) (G : Hp) (Os : List (List Addr)), StOk D G H env σ Os ∧ match m env with
  | .ok p env' => ∃ w w1, env'[i]? = some w ∧ w ≠ .dead ∧ getP w p = some w1 ∧ ∀ v u G' H' Os', StOk D G' H' env' σ Os' → Stp true env G H Os env' G' H' Os' [] → σ[i]? = some (some v) → NodeV D H' w v p u → Q u H'
  | .ex c env' => ∀ G' H' Os', StOk D G' H' env' σ Os' → Stp true env G H Os env' G' H' Os' [] → Wx (.ref (D.CA c)) none σ H'
  | .bad => False
abbrev MP (Z : Zt) (e : Expr) (i : Nat) (m : Sm (List Nat)) : Prop := PE Z.X e (TP Z.D Z.W i m)
def lvW : W → Bool
  | .dead => false
  | _ => true
theorem lvW_ne {w : W} (h : lvW w = true) : w ≠ .dead := fun e => by subst e; cases h
def pV (i : Nat) : Sm (List Nat) := fun env => match env[i]? with
  | some w => if lvW w = true then .ok [] env else .bad
  | none => .bad
/-- the node at a place -/
def nodeAt (i : Nat) (p : List Nat) (env : List W) : Option W := match env[i]? with
  | some w => if lvW w = true then getP w p else none
  | none => none
theorem nodeAt_some {i : Nat} {p : List Nat} {env : List W} {w1 : W} (h : nodeAt i p env = some w1) : ∃ w, env[i]? = some w ∧ w ≠ .dead ∧ getP w p = some w1 := by
  unfold nodeAt at h
  cases e : env[i]? with
  | none => rw [e] at h; cases h
  | some w =>
    rw [e] at h
    by_cases c : lvW w = true
    · simp only [if_pos c] at h
      exact ⟨w, rfl, lvW_ne c, h⟩
    · simp only [if_neg c] at h
      cases h
theorem mp_var {Z : Zt} {e : Expr} (i : Nat) (h : PE Z.X e (tVar i)) : MP Z e i (pV i) := pe_imp h fun σ H Q q => by
  obtain ⟨env, G, Os, s, q⟩ := q
  unfold pV at q
  cases e : env[i]? with
  | none => rw [e] at q; exact q.elim
  | some w =>
    rw [e] at q
    by_cases c : lvW w = true
    · simp only [if_pos c] at q
      obtain ⟨w', w1, h1, h2, h3, q⟩ := q
      have ew : w' = w := by rw [e] at h1; exact (Option.some.inj h1).symm
      subst ew
      obtain ⟨v, u, O1, R, f⟩ := s.focus e h2 h3
      exact ⟨v, f.sv, q v v G H Os s ⟨rfl, rfl, Step.refl _ _ _⟩ f.sv rfl⟩
    · simp only [if_neg c] at q
/-- the field's number -/
def fIx : List Str → Str → Option Nat
  | [], _ => none
  | g :: fs, f => if (f == g) = true then some 0 else (fIx fs f).map (· + 1)
def pF (c i : Nat) (f : Str) (m : Sm (List Nat)) : Sm (List Nat) := Sm.bind m fun p env => match nodeAt i p env with
  | some (.obj c' fs _) => if c' = c then (match fIx fs f with
    | some k => .ok (p ++ [k]) env
    | none => .bad) else .bad
  | _ => .bad
theorem ROs.len' {D : Dn} {G H : Hp} : ∀ {ws : List W} {vs : List V} {O : List Addr}, ROs D G H ws vs O → ws.length = vs.length
  | [], _, _, h => by rw [h.1]; rfl
  | w :: ws, _, _, h => by
    obtain ⟨v, r, O1, O2, rfl, rfl, h1, h2⟩ := h
    rw [List.length_cons, List.length_cons, ROs.len' h2]
end Ev

namespace Ev
open PySem PySem.Spec L2

/-- the place behind what changes nothing -/
theorem Foc.on {D : Dn} {G H G2 H2 : Hp} {env : List W} {σ : St} {Os : List (List Addr)} {i : Nat} {w w1 : W} {p : List Nat} {v u : V} {O1 R O2 : List Addr} (e : env[i]? = some w) (nd : w ≠ .dead) (g : getP w p = some w1) (f : Foc D G H env σ Os i w p w1 v u O1 R)
    (s2 : StOk D G2 H2 env σ Os) (t : Step G H [] G2 H2 O2) : ∃ O1' R', Foc D G2 H2 env σ Os i w p w1 v u O1' R' := by
  obtain ⟨v2, u2, O1', R', f2⟩ := s2.focus e nd g
  have ev : v2 = v := by
    have := f.sv
    rw [f2.sv] at this
    cases this
    rfl
  subst ev
  have eu := f2.same s2 f.sv (f.nv H2 fun a _ o h => t.keep a o h (fun z => nomatch z))
  subst eu
  exact ⟨O1', R', f2⟩
def putAt (i : Nat) (p : List Nat) (y : W) (env : List W) : List W := match env[i]? with
  | some w => env.set i (setP w p y)
  | none => env
theorem ixN_lt {n : Nat} {i : Int} {k : Nat} (h : ixN n i = some k) : k < n := by
  unfold ixN at h
  repeat' split at h
  all_goals first
    | (have := Option.some.inj h; omega)
    | cases h
/-! ### an item of a list of lists, as a place -/
def pI (i : Nat) (m : Sm (List Nat)) (mi : Sm W) : Sm (List Nat) := Sm.bind m fun p env1 => match nodeAt i p env1 with
  | some (.nst ws) => (match mi env1 with
    | .ok (.int n) _ => (match ixN ws.length n with
      | some k => .ok (p ++ [k]) env1
      | none => .bad)
    | .ex c _ => .ex c env1
    | _ => .bad)
  | _ => .bad
theorem mp_ix {Z : Zt} {e ix : Expr} {i : Nat} {m : Sm (List Nat)} {mi : Sm W} {k : Bool} {pos : Pos} (h : MP Z e i m) (hi : ME Z ix mi true k) (hs : PlainIx ix := by exact fun _ _ => rfl) : MP Z (.Subscript e ix pos) i (pI i m mi) :=
  pe_imp (pe_ix ix_list h hi hs) fun σ H Q q => by
    obtain ⟨env, G, Os, s, q⟩ := q
    refine ⟨env, G, Os, s, ?_⟩
    unfold pI Sm.bind at q
    cases e1 : m env with
    | bad => rw [e1] at q; exact q
    | ex c env1 => rw [e1] at q; exact q
    | ok p env1 =>
      rw [e1] at q
      dsimp only at q
      cases e2 : nodeAt i p env1 with
      | none => rw [e2] at q; exact q.elim
      | some w1 =>
        have hw : ∃ ws, w1 = .nst ws := by
          rw [e2] at q
          cases w1 <;> first
            | exact q.elim
            | exact ⟨_, rfl⟩
        obtain ⟨ws, rfl⟩ := hw
        rw [e2] at q
        obtain ⟨w', b1, b2, b3⟩ := nodeAt_some e2
        refine ⟨w', .nst ws, b1, b2, b3, fun v u G1 H1 Os1 s1 t1 hv nv => ?_⟩
        obtain ⟨v0, u0, O1, R, fo⟩ := s1.focus b1 b2 b3
        have ev : v0 = v := by have := fo.sv; rw [hv] at this; cases this; rfl
        subst ev
        have eu := fo.same s1 hv nv
        subst eu
        refine ⟨env1, G1, Os1, s1, ?_⟩
        cases e3 : mi env1 with
        | bad => simp only [e3] at q
        | ex c env2 =>
          simp only [e3] at q
          intro G2 H2 Os2 s2 t2
          obtain ⟨rfl, rfl, t2'⟩ := id t2
          exact q G2 H2 Os2 s2 (by have z := t1.trans t2; exact z)
        | ok wi env2 =>
          cases wi with
          | int n =>
            simp only [e3] at q
            intro iv G2 H2 Os2 Oi s2 ri oi t2
            obtain ⟨rfl, rfl, t2'⟩ := id t2
            obtain ⟨_, rfl⟩ := ri
            cases e4 : ixN ws.length n with
            | none => rw [e4] at q; exact q.elim
            | some k =>
              rw [e4] at q
              obtain ⟨w, x, a1, a2, a3, q⟩ := q
              rw [a1] at b1
              cases b1
              obtain ⟨O1', R', f2⟩ := fo.on a1 a2 b3 s2 t2'
              obtain ⟨a, vs, O', rfl, rfl, ha, hr⟩ := f2.ro
              have hk : k < ws.length := ixN_lt e4
              have hl := hr.len'
              obtain ⟨y, hx⟩ : ∃ y, vs[k]? = some y := ⟨_, List.getElem?_eq_getElem (by rw [← hl]; exact hk)⟩
              have hy : ws[k]? = some ws[k] := List.getElem?_eq_getElem hk
              rw [hl] at e4
              refine ⟨a, vs, n, y, rfl, rfl, SqL.of ha, ?_, q v0 y G2 H2 Os2 s2 (t1.trans (t2.less fun _ z => nomatch z)) hv ((f2.nv H2 fun _ _ _ h => h).snoc b3 ⟨a, rfl, ha⟩ hx hy).1⟩
              unfold atI
              rw [e4]
              exact hx
          | _ => simp only [e3] at q
/-! ### a method of a list at a place -/
def mMutP (i : Nat) (mp : Sm (List Nat)) (F : MutF) (m : Sm (List W)) : Sm W := Sm.bind mp fun p env1 => match nodeAt i p env1 with
  | some (.lst true xs) => (match m env1 with
    | .ok us _ => (match F xs us with
      | some (w, xs') => .ok w (putAt i p (.lst true xs') env1)
      | none => .bad)
    | .ex c _ => .ex c env1
    | .bad => .bad)
  | _ => .bad
theorem r_mutP {env : List W} (i : Nat) (mp : Sm (List Nat)) (F : MutF) (m : Sm (List W)) : mMutP i mp F m env = match mp env with
  | .ok p env1 => (match nodeAt i p env1 with
    | some (.lst true xs) => (match m env1 with
      | .ok us _ => (match F xs us with
        | some (w, xs') => .ok w (putAt i p (.lst true xs') env1)
        | none => .bad)
      | .ex c _ => .ex c env1
      | .bad => .bad)
    | _ => .bad)
  | .ex c e' => .ex c e'
  | .bad => .bad := by
  unfold mMutP
  rw [r_bind]
  cases mp env <;> rfl
/-! ### place[ix] = e: e frozen, the place an own list; or an own thing in a list of things -/
def sStoP (i : Nat) (mp : Sm (List Nat)) (mi me : Sm W) : Sm Fl := Sm.bind me fun w env => if w.frz = true then (Sm.bind mp fun p env1 => match nodeAt i p env1 with
  | some (.lst true xs) => (match mi env1 with
    | .ok (.int n) _ => (match ixN xs.length n with
      | some k => .ok .nx (putAt i p (.lst true (xs.set k w)) env1)
      | none => .bad)
    | .ex c _ => .ex c env1
    | _ => .bad)
  | _ => .bad) env else .bad
end Ev

namespace Ev
open PySem PySem.Spec L2

/-! ### methods of a list of things -/
theorem ROs.split {D : Dn} {G H : Hp} : ∀ (n : Nat) {ws : List W} {vs : List V} {O : List Addr}, ROs D G H ws vs O → ∃ O1 O2, O = O1 ++ O2 ∧ ROs D G H (ws.take n) (vs.take n) O1 ∧ ROs D G H (ws.drop n) (vs.drop n) O2
  | 0, ws, vs, O, h => ⟨[], O, rfl, ⟨rfl, rfl⟩, h⟩
  | n + 1, [], vs, O, h => by
    obtain ⟨rfl, rfl⟩ := h
    exact ⟨[], [], rfl, ⟨rfl, rfl⟩, ⟨rfl, rfl⟩⟩
  | n + 1, w :: ws, _, _, h => by
    obtain ⟨v, r, O1, O2, rfl, rfl, h1, h2⟩ := h
    obtain ⟨P1, P2, rfl, k1, k2⟩ := ROs.split n h2
    exact ⟨O1 ++ P1, P2, (List.append_assoc ..).symm, ⟨v, _, O1, P1, rfl, rfl, h1, k1⟩, k2⟩
def mMutKP (i : Nat) (mp : Sm (List Nat)) (F : MutF) (m : Sm (List W)) : Sm W := Sm.bind mp fun p env1 => match nodeAt i p env1 with
  | some (.nst xs) => (match m env1 with
    | .ok us _ => (match F xs us with
      | some (w, xs') => .ok w (putAt i p (.nst xs') env1)
      | none => .bad)
    | .ex c _ => .ex c env1
    | .bad => .bad)
  | _ => .bad
theorem r_mutKP {env : List W} (i : Nat) (mp : Sm (List Nat)) (F : MutF) (m : Sm (List W)) : mMutKP i mp F m env = match mp env with
  | .ok p env1 => (match nodeAt i p env1 with
    | some (.nst xs) => (match m env1 with
      | .ok us _ => (match F xs us with
        | some (w, xs') => .ok w (putAt i p (.nst xs') env1)
        | none => .bad)
      | .ex c _ => .ex c env1
      | .bad => .bad)
    | _ => .bad)
  | .ex c e' => .ex c e'
  | .bad => .bad := by
  unfold mMutKP
  rw [r_bind]
  cases mp env <;> rfl
section
variable {env : List W}
theorem r_stoP (i : Nat) (mp : Sm (List Nat)) (mi me : Sm W) : sStoP i mp mi me env = match me env with
  | .ok w env0 => if w.frz = true then (match mp env0 with
    | .ok p env1 => (match nodeAt i p env1 with
      | some (.lst true xs) => (match mi env1 with
        | .ok (.int n) _ => (match ixN xs.length n with
          | some k => .ok .nx (putAt i p (.lst true (xs.set k w)) env1)
          | none => .bad)
        | .ex c _ => .ex c env1
        | _ => .bad)
      | _ => .bad)
    | .ex c e' => .ex c e'
    | .bad => .bad) else .bad
  | .ex c e' => .ex c e'
  | .bad => .bad := by
  unfold sStoP
  rw [r_bind]
  cases me env with
  | ok w env0 =>
    dsimp only
    split
    · rw [r_bind]
      cases mp env0 <;> rfl
    · rfl
  | _ => rfl
end
end Ev

namespace Ev
open PySem PySem.Spec L2

section
variable {X : Cx} {CT : CXT} {lv : Nat} {C g : Addr} {gd : FuncData} {ps : List Str} {sp : Sp} {E : St → XK} {nm : Str} {o e : Expr} {es : List Expr} {ta : TE} {t : TA} {ap p : Pos} {pl : Sem Bool}
end
/-- an object of the class c without a field of that name stands in the slot -/
def isRecv (c : Nat) (nm : Str) (i : Nat) (env : List W) : Bool := match env[i]? with
  | some (.obj c' fs _) => decide (c' = c) && (fIx fs nm).isNone
  | _ => false
def mCallM (c : Nat) (nm : Str) (g : Fn) (n i : Nat) (m : Sm (List AV)) : Sm W := fun env => if isRecv c nm i env = true then mCall g n (Sm.bind m fun as => Sm.ret (.io i :: as)) env else .bad
section
variable {Z : Zt} {c n k i : Nat} {nm : Str} {g : Fn} {o e : Expr} {es : List Expr} {p : Bool} {ap cp : Pos} {pl : Sem Bool}
end
theorem r_callM {env : List W} (c : Nat) (nm : Str) (g : Fn) (n i : Nat) (m : Sm (List AV)) : mCallM c nm g n i m env = if isRecv c nm i env = true then mCall g n (Sm.bind m fun as => Sm.ret (.io i :: as)) env else .bad := rfl
end Ev

namespace Ev
open PySem PySem.Spec L2

def fPut (fs : List Str) (ws : List W) (f : Str) (w : W) : List Str × List W := match fIx fs f with
  | some j => (fs, ws.set j w)
  | none => (fs ++ [f], ws ++ [w])
def sFldP (c i : Nat) (f : Str) (k : Bool) (mp : Sm (List Nat)) (me : Sm W) : Sm Fl := Sm.bind me fun w env => if (k || w.frz) = true then (Sm.bind mp fun p env1 => match nodeAt i p env1 with
  | some (.obj c' fs ws) => if c' = c ∧ fs.length < 1000 then .ok .nx (putAt i p (.obj c' (fPut fs ws f w).1 (fPut fs ws f w).2) env1) else .bad
  | _ => .bad) env else .bad
theorem r_fldP {env : List W} (c i : Nat) (f : Str) (k : Bool) (mp : Sm (List Nat)) (me : Sm W) : sFldP c i f k mp me env = match me env with
  | .ok w env0 => if (k || w.frz) = true then (match mp env0 with
    | .ok p env1 => (match nodeAt i p env1 with
      | some (.obj c' fs ws) => if c' = c ∧ fs.length < 1000 then .ok .nx (putAt i p (.obj c' (fPut fs ws f w).1 (fPut fs ws f w).2) env1) else .bad
      | _ => .bad)
    | .ex c e' => .ex c e'
    | .bad => .bad) else .bad
  | .ex c e' => .ex c e'
  | .bad => .bad := by
  unfold sFldP
  rw [r_bind]
  cases me env with
  | ok w env0 =>
    dsimp only
    split
    · rw [r_bind]
      cases mp env0 <;> rfl
    · rfl
  | _ => rfl
end Ev

namespace Ev
open PySem PySem.Spec L2

/-! ### C(..): a new object, its arguments lent -/
mutual
/-- own all the way down, flat at the ground -/
def thk : W → Bool
  | .lst true ws => flats ws
  | .nst ws => thks ws
  | .ndc _ ws => thks ws
  | .obj _ _ ws => thks ws
  | .dct true _ ws => flats ws
  | .non => true
  | .bl _ => true
  | .int _ => true
  | .str _ => true
  | .tup ws => flats ws
  | _ => false
def thks : List W → Bool
  | [] => true
  | w :: ws => thk w && thks ws
end
mutual
theorem RO.thk {D : Dn} {G G' H : Hp} (thin : ∀ a xs, SqT D.K G a xs → SqT D.K G' a xs) : ∀ (w : W) (v : V) (O : List Addr), Ev.thk w = true → RO D G H w v O → RO D G' H w v O
  | .lst true ws, v, O, h, r => by
    obtain ⟨a, us, rfl, rfl, k1, k2⟩ := r
    exact ⟨a, us, rfl, rfl, k1, RFs.thin thin _ _ h k2⟩
  | .nst ws, v, O, h, r => by
    obtain ⟨a, us, O', rfl, rfl, k1, k2⟩ := r
    exact ⟨a, us, O', rfl, rfl, k1, ROs.thk thin _ _ _ h k2⟩
  | .ndc ks ws, v, O, h, r => by
    obtain ⟨a, us, O', rfl, rfl, k1, k2⟩ := r
    exact ⟨a, us, O', rfl, rfl, k1, ROs.thk thin _ _ _ h k2⟩
  | .obj c fs ws, v, O, h, r => by
    obtain ⟨a, dx, us, O', rfl, rfl, hl, k1, k2⟩ := r
    exact ⟨a, dx, us, O', rfl, rfl, hl, k1, ROs.thk thin _ _ _ h k2⟩
  | .dct true ks ws, v, O, h, r => by
    obtain ⟨a, us, rfl, rfl, k1, k2⟩ := r
    exact ⟨a, us, rfl, rfl, k1, RFs.thin thin _ _ h k2⟩
  | .non, _, _, _, r => ⟨r.1, r.2⟩
  | .bl _, _, _, _, r => ⟨r.1, r.2⟩
  | .int _, _, _, _, r => ⟨r.1, r.2⟩
  | .str _, _, _, _, r => ⟨r.1, r.2⟩
  | .tup ws, v, O, h, r => ⟨r.1, RF.thin thin (.tup ws) v h r.2⟩
  | .dead, _, _, h, _ => nomatch h
  | .lst false _, _, _, h, _ => nomatch h
  | .scr _, _, _, h, _ => nomatch h
  | .ntp _, _, _, h, _ => nomatch h
  | .dct false _ _, _, _, h, _ => nomatch h
  | .exc _, _, _, h, _ => nomatch h
  | .exm _ _, _, _, h, _ => nomatch h
  | .fdc _ _, _, _, h, _ => nomatch h
theorem ROs.thk {D : Dn} {G G' H : Hp} (thin : ∀ a xs, SqT D.K G a xs → SqT D.K G' a xs) : ∀ (ws : List W) (vs : List V) (O : List Addr), thks ws = true → ROs D G H ws vs O → ROs D G' H ws vs O
  | [], _, _, _, r => r
  | w :: ws, _, _, h, r => by
    obtain ⟨v, u, O1, O2, rfl, rfl, h1, h2⟩ := r
    have h' : Ev.thk w = true ∧ thks ws = true := Bool.and_eq_true_iff.mp h
    exact ⟨v, u, O1, O2, rfl, rfl, RO.thk thin w v O1 h'.1 h1, ROs.thk thin ws u O2 h'.2 h2⟩
end
def mMakeL (c : Nat) (g : Fn) (n : Nat) (m : Sm (List AV)) : Sm W := Sm.bind m fun as env => if as.length + 1 = n then match lendA env as with
  | none => .bad
  | some ws => match g (.obj c [] [] :: ws) with
    | .ok .non (w :: _) => if thk w = true then .ok w env else .bad
    | .ex c' _ => .ex c' env
    | _ => .bad
  else .bad
theorem r_makeL {env : List W} (c : Nat) (g : Fn) (n : Nat) (m : Sm (List AV)) : mMakeL c g n m env = match m env with
  | .ok as env1 => if as.length + 1 = n then (match lendA env1 as with
    | none => .bad
    | some ws => (match g (.obj c [] [] :: ws) with
      | .ok .non (w :: _) => if thk w = true then .ok w env1 else .bad
      | .ex c' _ => .ex c' env1
      | _ => .bad)) else .bad
  | .ex c' e' => .ex c' e'
  | .bad => .bad := by
  unfold mMakeL
  rw [r_bind]
  cases m env <;> rfl
/-! ### what stands in a list at a place is frozen -/
def gFzK (i : Nat) (p : List Nat) : Sm Unit := fun env => match nodeAt i p env with
  | some (.nst ws) => if fzOks ws = true then .ok () (putAt i p (.lst true (fzDs ws)) env) else .bad
  | _ => .bad
theorem r_gfzK {env : List W} (i : Nat) (p : List Nat) : gFzK i p env = match nodeAt i p env with
  | some (.nst ws) => if fzOks ws = true then .ok () (putAt i p (.lst true (fzDs ws)) env) else .bad
  | _ => .bad := rfl
end Ev

namespace Ev
open PySem PySem.Spec L2

/-! ### place[key] = e: e frozen, the place a dict -/
def sDPutP (i : Nat) (mp : Sm (List Nat)) (mk : Sm KK) (me : Sm W) : Sm Fl := Sm.bind me fun w env => if w.frz = true then (Sm.bind mp fun p env1 => match nodeAt i p env1 with
  | some (.dct true ks ws) => (match mk env1 with
    | .ok kk _ => if ws.length < sizeLine then (match dStore ks ws kk w with
      | some st => .ok .nx (putAt i p (.dct true st.1 st.2) env1)
      | none => .bad) else .bad
    | _ => .bad)
  | _ => .bad) env else .bad
theorem r_dputP {env : List W} (i : Nat) (mp : Sm (List Nat)) (mk : Sm KK) (me : Sm W) : sDPutP i mp mk me env = match me env with
  | .ok w env0 => if w.frz = true then (match mp env0 with
    | .ok p env1 => (match nodeAt i p env1 with
      | some (.dct true ks ws) => (match mk env1 with
        | .ok kk _ => if ws.length < sizeLine then (match dStore ks ws kk w with
          | some st => .ok .nx (putAt i p (.dct true st.1 st.2) env1)
          | none => .bad) else .bad
        | _ => .bad)
      | _ => .bad)
    | .ex c e' => .ex c e'
    | .bad => .bad) else .bad
  | .ex c e' => .ex c e'
  | .bad => .bad := by
  unfold sDPutP
  rw [r_bind]
  cases me env with
  | ok w env0 =>
    dsimp only
    split
    · rw [r_bind]
      cases mp env0 <;> rfl
    · rfl
  | _ => rfl
/-! ### place[ix] = e, the place a list of things -/
def sStoN (i : Nat) (k : Bool) (mp : Sm (List Nat)) (mi me : Sm W) : Sm Fl := Sm.bind me fun w env => if (k || w.frz) = true then (Sm.bind mp fun p env1 => match nodeAt i p env1 with
  | some (.nst xs) => (match mi env1 with
    | .ok (.int n) _ => (match ixN xs.length n with
      | some j => .ok .nx (putAt i p (.nst (xs.set j w)) env1)
      | none => .bad)
    | _ => .bad)
  | _ => .bad) env else .bad
theorem r_stoN {env : List W} (i : Nat) (k : Bool) (mp : Sm (List Nat)) (mi me : Sm W) : sStoN i k mp mi me env = match me env with
  | .ok w env0 => if (k || w.frz) = true then (match mp env0 with
    | .ok p env1 => (match nodeAt i p env1 with
      | some (.nst xs) => (match mi env1 with
        | .ok (.int n) _ => (match ixN xs.length n with
          | some j => .ok .nx (putAt i p (.nst (xs.set j w)) env1)
          | none => .bad)
        | _ => .bad)
      | _ => .bad)
    | .ex c e' => .ex c e'
    | .bad => .bad) else .bad
  | .ex c e' => .ex c e'
  | .bad => .bad := by
  unfold sStoN
  rw [r_bind]
  cases me env with
  | ok w env0 =>
    dsimp only
    split
    · rw [r_bind]
      cases mp env0 <;> rfl
    · rfl
  | _ => rfl
end Ev

namespace Ev
open PySem PySem.Spec L2 PyProof.Rows

section
variable {X : Cx}
end
/-! a key out of a dict -/
section
variable {κ : Type} [DecidableEq κ]
def dCutW {α : Type} : List κ → List α → κ → List α
  | a :: l, w :: ws, k => if a = k then dCutW l ws k else w :: dCutW l ws k
  | _, _, _ => []
def dCutK (l : List κ) (k : κ) : List κ := l.filter fun a => decide (a ≠ k)
end
def mDPopP (i : Nat) (mp : Sm (List Nat)) (mk : Sm KK) : Sm W := Sm.bind mp fun p env1 => match nodeAt i p env1 with
  | some (.dct true (.t l) ws) => (match mk env1 with
    | .ok (.inr k) _ => (match dAt l ws k with
      | some w => .ok w (putAt i p (.dct true (.t (dCutK l k)) (dCutW l ws k)) env1)
      | none => .bad)
    | _ => .bad)
  | _ => .bad
theorem r_dpopP {env : List W} (i : Nat) (mp : Sm (List Nat)) (mk : Sm KK) : mDPopP i mp mk env = match mp env with
  | .ok p env1 => (match nodeAt i p env1 with
    | some (.dct true (.t l) ws) => (match mk env1 with
      | .ok (.inr k) _ => (match dAt l ws k with
        | some w => .ok w (putAt i p (.dct true (.t (dCutK l k)) (dCutW l ws k)) env1)
        | none => .bad)
      | _ => .bad)
    | _ => .bad)
  | .ex c e' => .ex c e'
  | .bad => .bad := by
  unfold mDPopP
  rw [r_bind]
  cases mp env <;> rfl
/-! ### place[ix] += n: an own list of ints at a place -/
def sAugP (i : Nat) (f : Int → Int → Int) (mp : Sm (List Nat)) (mi me : Sm W) : Sm Fl := Sm.bind mp fun p env => match nodeAt i p env with
  | some (.lst true xs) => match mi env with
    | .ok (.int n) _ => match ixN xs.length n with
      | some k => match xs[k]? with
        | some (.int a) => match me env with
          | .ok (.int b) _ => .ok .nx (putAt i p (.lst true (xs.set k (.int (f a b)))) env)
          | _ => .bad
        | _ => .bad
      | none => .bad
    | _ => .bad
  | _ => .bad
theorem r_augP {env : List W} (i : Nat) (f : Int → Int → Int) (mp : Sm (List Nat)) (mi me : Sm W) : sAugP i f mp mi me env = match mp env with
  | .ok p env => (match nodeAt i p env with
    | some (.lst true xs) => (match mi env with
      | .ok (.int n) _ => (match ixN xs.length n with
        | some k => (match xs[k]? with
          | some (.int a) => (match me env with
            | .ok (.int b) _ => .ok .nx (putAt i p (.lst true (xs.set k (.int (f a b)))) env)
            | _ => .bad)
          | _ => .bad)
        | none => .bad)
      | _ => .bad)
    | _ => .bad)
  | .ex c e' => .ex c e'
  | .bad => .bad := by
  unfold sAugP
  rw [r_bind]
  cases mp env <;> rfl
/-! ### what stands at a place is frozen, all of it -/
def gFzP (i : Nat) (p : List Nat) : Sm Unit := fun env => match nodeAt i p env with
  | some w => if w.fzOk = true then .ok () (putAt i p w.fzD env) else .bad
  | _ => .bad
theorem r_gfzP {env : List W} (i : Nat) (p : List Nat) : gFzP i p env = match nodeAt i p env with
  | some w => if w.fzOk = true then .ok () (putAt i p w.fzD env) else .bad
  | _ => .bad := rfl
/-! ### for x in place: what holds the place stays aside -/
def sForP (i : Nat) (f : Tg) (body : Sm Fl) (kill : List Nat) (mp : Sm (List Nat)) : Sm Fl := Sm.bind mp fun p env => match nodeAt i p env with
  | some (.lst true ws) => (match mFor f body kill ws (env.set i .dead) with
    | .ok .nx env2 => .ok .nx (env2.set i (env[i]?.getD .dead))
    | _ => .bad)
  | _ => .bad
theorem r_forP {env : List W} (i : Nat) (f : Tg) (body : Sm Fl) (kill : List Nat) (mp : Sm (List Nat)) : sForP i f body kill mp env = match mp env with
  | .ok p env => (match nodeAt i p env with
    | some (.lst true ws) => (match mFor f body kill ws (env.set i .dead) with
      | .ok .nx env2 => .ok .nx (env2.set i (env[i]?.getD .dead))
      | _ => .bad)
    | _ => .bad)
  | .ex c e' => .ex c e'
  | .bad => .bad := by
  unfold sForP
  rw [r_bind]
  cases mp env <;> rfl
end Ev

namespace Ev
open PySem PySem.Spec L2

/-! ### dict(pairs), keys that differ -/
def pairsD : List W → Option (List Key × List W)
  | [] => some ([], [])
  | .tup [a, x] :: r => match wKey a, pairsD r with
    | some k, some q => some (k :: q.1, x :: q.2)
    | _, _ => none
  | _ => none
theorem paired_imp {α β : Type} {F G : α → β → Prop} (h : ∀ a b, F a b → G a b) : ∀ {l : List α} {m : List β}, Paired F l m → Paired G l m
  | _, _, .nil => .nil
  | _, _, .cons x t => .cons (h _ _ x) (paired_imp h t)
theorem pairs_at {D : Dn} {G : Hp} : ∀ {ws : List W} {vs : List V} {ks : List Key} {xs : List W}, RFs D G ws vs → pairsD ws = some (ks, xs) →
    ∃ (ps : List Addr) (us : List V), vs = ps.map V.ref ∧ ks.length = us.length ∧ RFs D G xs us ∧ Paired (fun p (kv : Key × V) => SqT D.K G p [kV kv.1, kv.2]) ps (ks.zip us)
  | [], _, _, _, r, e => by
    cases e
    rw [show _ = [] from r]
    exact ⟨[], [], rfl, rfl, rfl, .nil⟩
  | w :: ws, _, ks, xs, r, e => by
    obtain ⟨v, vs, rfl, r1, r2⟩ := r
    unfold pairsD at e
    split at e
    · cases ‹_ :: _ = []›
    · rename_i a x r' eq
      cases eq
      cases e1 : wKey a with
      | none => simp only [e1] at e; cases e
      | some k =>
        cases e2 : pairsD ws with
        | none => simp only [e1, e2] at e; cases e
        | some q =>
          simp only [e1, e2] at e
          cases e
          obtain ⟨ps, us, rfl, h2, h3, h4⟩ := pairs_at r2 e2
          obtain ⟨p, ys, rfl, g1, y1, t1, rfl, g2, y2, t2, rfl, g3, g4⟩ := r1
          have z : t2 = [] := g4
          subst z
          have ek := g2.key e1
          subst ek
          exact ⟨p :: ps, y2 :: us, rfl, by rw [List.length_cons, List.length_cons, h2], ⟨y2, us, rfl, g3, h3⟩, .cons g1 h4⟩
    · cases e
end Ev

namespace Ev
open PySem PySem.Spec L2

/-! ### a op b op c, b may act -/
def mChainI (f g : W → W → Option W) (m1 m2 m3 : Sm W) : Sm W := Sm.bind m1 fun w1 => Sm.bind m2 fun w2 => if (w1.frz && w2.frz) = true then (Sm.bind (lft ((f w1 w2).bind blW)) fun b => if b = true then Sm.bind m3 fun w3 => lft (g w2 w3) else Sm.ret (.bl false)) else fun _ => .bad
theorem r_chainI {env : List W} (f g : W → W → Option W) (m1 m2 m3 : Sm W) : mChainI f g m1 m2 m3 env = match m1 env with
  | .ok w1 e1 => (match m2 e1 with
    | .ok w2 e2 => if (w1.frz && w2.frz) = true then (match (f w1 w2).bind blW with
      | some b => if b = true then (match m3 e2 with
        | .ok w3 e3 => (match g w2 w3 with
          | some r => .ok r e3
          | none => .bad)
        | .ex c e' => .ex c e'
        | .bad => .bad) else .ok (.bl false) e2
      | none => .bad) else .bad
    | .ex c e' => .ex c e'
    | .bad => .bad)
  | .ex c e' => .ex c e'
  | .bad => .bad := by
  unfold mChainI
  rw [r_bind]
  cases m1 env with
  | ok w1 e1 =>
    dsimp only
    rw [r_bind]
    cases m2 e1 with
    | ok w2 e2 =>
      dsimp only
      split
      · rw [r_bind, r_lft]
        cases (f w1 w2).bind blW with
        | none => rfl
        | some b =>
          dsimp only
          split
          · rw [r_bind]
            cases m3 e2 with
            | ok w3 e3 => dsimp only; rw [r_lft]; cases g w2 w3 <;> rfl
            | _ => rfl
          · rfl
      · rfl
    | _ => rfl
  | _ => rfl
/-! ### the defs of a class, by their bodies -/
section
variable {P : Program} {w : World} {K : PySem.W.Frag} {mg : Str → Option Value} {base : Heap} {CA : Nat → Addr} {x y qual : Str} {st : Stmt} {f : Addr} {fd : FuncData} {N ps : List Str} {c k n : Nat} {io : List Bool} {body : Sm Fl} {nN : Nat}
end
/-! ### what the top has made of a class -/
def DM (K : PySem.W.Frag) (C : Addr) (x qual : Str) (ps : List Str) (st : Stmt) : Prop := ∃ (f : Addr) (fd : FuncData), Meth K C x f ∧ Fun K x qual st f fd ∧ ∀ (s : Shared) (us : List Value), us.length = ps.length → BindsTo s fd ⟨us, []⟩ (ps.zip us)
theorem DM.mk {K : PySem.W.Frag} {C : Addr} {x qual : Str} {ps : List Str} {st : Stmt} {f : Addr} {oc : Value} {od an : Option Addr} {osl : Array (Option Value)} {kV doc pm cdv ct : Value}
    (h : ∀ (kV doc pm : Value) (an : Option Addr) (cdv ct : Value) (us : List Value), us.length = ps.length → bindArgs (PySem.W.fnOf x qual (defArgs st) (defBody st) (defScope st) .none kV doc pm an cdv ct) ⟨us, []⟩ = pure (ps.zip us))
    (a : PySem.W.findIn K (.ref C) x = some (some (.ref f))) (i : PySem.W.isFn K (.ref f) = true) (l : K.lookup f = some ⟨oc, od, .func (PySem.W.fnOf x qual (defArgs st) (defBody st) (defScope st) .none kV doc pm an cdv ct), osl⟩) (c : PySem.W.codeIn K cdv qual = true) (k : PySem.W.keepIn K (.ref f) = true) : DM K C x qual ps st :=
  ⟨f, _, ⟨a, i, k⟩, fun_mk l c k, fun s us hl => .of_eq (h kV doc pm an cdv ct us hl)⟩
/-- the class itself -/
structure OC (K : PySem.W.Frag) (C : Addr) (x : Str) : Prop where
  ns : PySem.W.nsIn K mainGlobals x = some (some (.ref C))
  cl : Cls K C
  ms : PySem.W.makesIn K C = true
  kp : PySem.W.keepIn K (.ref C) = true
theorem CF.ext {K : PySem.W.Frag} {names : List Str} {A A' : Nat → Addr} (e : ∀ c, c < names.length → A' c = A c) (h : CF K names A) : CF K names A' :=
  ⟨fun c x hc => by
    have hl := (List.getElem?_eq_some_iff.mp hc).1
    rw [e c hl]
    exact h.one c x hc, fun c d hc hd => by
    rw [e c hc, e d hd]
    exact h.sub c d hc hd⟩
end Ev

namespace Ev
open PySem PySem.Spec L2

/-! ### a slot more, for a while -/
theorem Sl.snoc {D : Dn} {G H : Hp} {w : W} {x : Option V} {O : List Addr} (r : SR D G H w x O) : ∀ {env : List W} {σ : L2.St} {Os : List (List Addr)}, Sl D G H env σ Os → Sl D G H (env ++ [w]) (σ ++ [x]) (Os ++ [O])
  | [], _, _, h => by
    obtain ⟨rfl, rfl⟩ := h
    exact ⟨x, [], O, [], rfl, rfl, r, rfl, rfl⟩
  | _ :: env, _, _, h => by
    obtain ⟨y, σ, P, Os, rfl, rfl, h1, h2⟩ := h
    exact ⟨y, _, P, _, rfl, rfl, h1, Sl.snoc r h2⟩
theorem StOk.snoc {D : Dn} {G H : Hp} {env : List W} {σ : L2.St} {Os : List (List Addr)} {w : W} {v : V} {O : List Addr} (s : StOk D G H env σ Os) (r : RO D G H w v O) (o : OwnK true Os O G) : StOk D G H (env ++ [w]) (σ ++ [some v]) (Os ++ [O]) :=
  ⟨s.sl.snoc (.inl ⟨v, rfl, r⟩), s.sub, fun a ha => by
    rw [List.flatten_append, List.flatten_singleton] at ha
    rcases List.mem_append.mp ha with z | z
    · exact s.gn a z
    · exact o.2 a z, by rw [List.flatten_append, List.flatten_singleton]; exact o.1⟩
/-! ### f(slot, new, values): what is new is lent to the call -/
def mCallT (g : Fn) (n i : Nat) (mt : Sm W) (mv : Sm (List W)) : Sm W := fun env => match env[i]? with
  | some w0 => if lvW w0 = true then (match mt env with
    | .ok w2 env1 => (match mv env1 with
      | .ok ws _ => (match mCall g n (Sm.ret (.io i :: .io env1.length :: ws.map .v)) (env1 ++ [w2]) with
        | .ok w e2 => .ok w e2.dropLast
        | .ex c e2 => .ex c e2.dropLast
        | .bad => .bad)
      | _ => .bad)
    | _ => .bad) else .bad
  | none => .bad
theorem r_callT {env : List W} (g : Fn) (n i : Nat) (mt : Sm W) (mv : Sm (List W)) : mCallT g n i mt mv env = match env[i]? with
  | some w0 => if lvW w0 = true then (match mt env with
    | .ok w2 env1 => (match mv env1 with
      | .ok ws _ => (match mCall g n (Sm.ret (.io i :: .io env1.length :: ws.map .v)) (env1 ++ [w2]) with
        | .ok w e2 => .ok w e2.dropLast
        | .ex c e2 => .ex c e2.dropLast
        | .bad => .bad)
      | _ => .bad)
    | _ => .bad) else .bad
  | none => .bad := rfl
end Ev

namespace Ev
open PySem PySem.Spec L2

end Ev

namespace Ev
open PySem PySem.Spec L2

/-! ### a display {"a": x, ..} -/
def seqF : List (Sm W) → List W → Option (List W)
  | [], _ => some []
  | m :: ms, env => match m env with
    | .ok w _ => if w.frz = true then (seqF ms env).map (w :: ·) else none
    | _ => none
def PreD (D : Dn) (ks : List Str) (ms : List (Sm W)) (σ : L2.St) (H : Hp) (Q : List (V × V) → Hp → Prop) : Prop := ∃ (env : List W) (G : Hp) (Os : List (List Addr)), StOk D G H env σ Os ∧ match seqF ms env with
  | some ws => ∀ vs G' H', StOk D G' H' env σ Os → RFs D G' ws vs → Step G H [] G' H' [] → Q ((ks.zip vs).map fun p => (V.str p.1, p.2)) H'
  | none => False
structure MDs (Z : Zt) (pos : Pos) (keys : List (Option Expr)) (values : List Expr) (ks : List Str) (ms : List (Sm W)) : Prop where
  ex : ∃ trs, PPs Z.X pos keys values trs ∧ ∀ σ H Q, PreD Z.D ks ms σ H Q → tPairs trs σ H Q
  all : keys.all (·.isSome) = true
  l1 : keys.length = values.length
  l2 : ks.length = keys.length
  l3 : ms.length = keys.length
/-! ### x is True, x is not True -/
def isBW (neg : Bool) : W → W → Option W
  | .bl a, .bl b => some (.bl (if neg = true then !decide (a = b) else decide (a = b)))
  | _, _ => none
theorem isBW_two {neg : Bool} {w1 w2 w : W} (e : isBW neg w1 w2 = some w) : ∃ a b, w1 = .bl a ∧ w2 = .bl b := by
  cases w1 <;> first
    | cases e
    | (cases w2 <;> first | exact ⟨_, _, rfl, rfl⟩ | cases e)
theorem op_isBW {Z : Zt} : OpS Z (compareOp .Is) (isBW false) := fun G H w1 w2 v1 v2 O1 O2 w Q s r1 r2 e q => by
  obtain ⟨a, b, rfl, rfl⟩ := isBW_two e
  obtain ⟨_, rfl⟩ := r1
  obtain ⟨_, rfl⟩ := r2
  cases e
  exact ⟨_, op_isBl, a, b, rfl, rfl, q.bl s⟩
theorem op_isNotBW {Z : Zt} : OpS Z (compareOp .IsNot) (isBW true) := fun G H w1 w2 v1 v2 O1 O2 w Q s r1 r2 e q => by
  obtain ⟨a, b, rfl, rfl⟩ := isBW_two e
  obtain ⟨_, rfl⟩ := r1
  obtain ⟨_, rfl⟩ := r2
  cases e
  exact ⟨_, op_notBl, a, b, rfl, rfl, q.bl s⟩
end Ev

namespace Ev
/-! ### set(xs), xs a list of texts no two of which are alike -/
section
open PySem PySem.Spec PyProof.Rows L2
variable {P : Program} {w : World} {A : Around} {E : Value → Shared → Prop} {s : Shared}
end
/-! ### len(set(xs)) -/
open PySem PySem.Spec L2
end Ev

namespace Ev
open PySem PySem.Spec L2
section
variable {Z : Zt} {e : Expr} {m : Sm W} {p k1 : Bool} {p1 p2 p3 p4 : Pos}
end
end Ev

namespace Ev
open PySem PySem.Spec L2
section
variable {Z : Zt} {o e e2 : Expr} {i : Nat} {mp : Sm (List Nat)} {m : Sm (List W)} {apos cpos : Pos}
end
end Ev

namespace Ev
open PySem PySem.Spec L2
section
variable {Z : Zt} {c n k i : Nat} {nm : Str} {g : Fn} {o e : Expr} {es : List Expr} {ap cp : Pos} {pl : Sem Bool} {mp : Sm (List Nat)}
end
end Ev

namespace Ev
open PySem PySem.Spec L2
end Ev

namespace Ev
open PySem PySem.Spec L2
/-! ### one more name for the thing at a place -/
/-- slot j holds what stands at the place p of slot i -/
def Ali (D : Dn) (H : Hp) (env : List W) (σ : St) (i j : Nat) (p : List Nat) : Prop := ∃ w y v u, env[i]? = some w ∧ w ≠ .dead ∧ getP w p = some y ∧ σ[i]? = some (some v) ∧ NodeV D H w v p u ∧ σ[j]? = some (some u)
def TSA (Z : Zt) (i j : Nat) (m : List Nat → Sm Fl) : TS := fun E σ H => ∃ (env : List W) (G : Hp) (Os : List (List Addr)) (p : List Nat), StOk Z.D G H env σ Os ∧ Ali Z.D H env σ i j p ∧ PostS Z.D Z.W Z.io E σ G H Os (m p env)
abbrev MSA (Z : Zt) (ss : List Stmt) (i j : Nat) (m : List Nat → Sm Fl) : Prop := PSs Z.X ss (TSA Z i j m)
theorem Ali.on {D : Dn} {G H G2 H2 : Hp} {env : List W} {σ : St} {Os : List (List Addr)} {i j : Nat} {p : List Nat} (a : Ali D H env σ i j p) (s : StOk D G H env σ Os) (t : Step G H [] G2 H2 []) : Ali D H2 env σ i j p := by
  obtain ⟨w, y, v, u, h1, h2, h3, h4, h5, h6⟩ := a
  obtain ⟨v0, u0, O1, R, fo⟩ := s.focus h1 h2 h3
  have ev : v0 = v := by have := fo.sv; rw [h4] at this; cases this; rfl
  subst ev
  have eu := fo.same s h4 h5
  subst eu
  exact ⟨w, y, v0, u, h1, h2, h3, h4, fo.nv H2 fun b _ o h => t.keep b o h (fun z => nomatch z), h6⟩
/-- a suite that ends by a return -/
def noNx : Out Fl → Out Fl
  | .ok (.rt w) e => .ok (.rt w) e
  | .ex c e => .ex c e
  | _ => .bad
theorem PostS.noNx {D : Dn} {Wx : WX} {io : Nat → Bool} {E E' : Ends} {σ : St} {G H : Hp} {Os : List (List Addr)} (hrt : E'.rt = E.rt) : ∀ {o : Out Fl}, PostS D Wx io E σ G H Os (noNx o) → PostS D Wx io E' σ G H Os o
  | .bad, h => h
  | .ex _ _, h => h
  | .ok .nx _, h => h.elim
  | .ok .bk _, h => h.elim
  | .ok .ct _, h => h.elim
  | .ok (.rt w) _, h => fun v σ' G' H' Os' Ow s r o t i => by rw [hrt]; exact h v σ' G' H' Os' Ow s r o t i
section
variable {Z : Zt} {i j : Nat}
/-- name = place; the rest, with the place known -/
def sAli (i j : Nat) (mp : Sm (List Nat)) (m : List Nat → Sm Fl) : Sm Fl := fun env => match mp env with
  | .ok p env1 => (match nodeAt i p env1 with
    | some _ => m p (env1.set j .dead)
    | none => .bad)
  | .ex c e => .ex c e
  | .bad => .bad
theorem mss_ali {x : Str} {e : Expr} {p2 : Pos} {pos : Pos} {rest : List Stmt} {mp : Sm (List Nat)} {m : List Nat → Sm Fl} (hN : Z.X.N.Nodup) (he : MP Z e i mp) (hm : MSA Z rest i j m) (hij : i ≠ j := by decide) (hj : Z.X.N[j]? = some x := by rfl) (hx : Loc Z.X.env.scope x := by first | exact Or.inl rfl | exact Or.inr rfl) (hio : Z.io j = false := by rfl) (hs : swapsWith e (some (.Name x p2)) pos.line Z.X.env = pure false := by rfl)
    (hf : Z.X.fn x = true ∨ Z.X.env.scope.names.lookup x = some .local := by first | exact .inl rfl | exact .inr rfl | assumption) : MSs Z (.Assign [.Name x p2] e pos :: rest) (sAli i j mp m) := by
  have core := pss_cons (ps_set (X := Z.X) (i := j) (pos' := p2) (pos := pos) hN hj hx he hs hf) hm
  refine ⟨fun pins sh σ H D I q => ?_⟩
  have hlen := I.len
  refine core.run pins sh σ H D I ?_
  obtain ⟨env, G, Os, s, q⟩ := q
  refine ⟨env, G, Os, s, ?_⟩
  unfold sAli at q
  cases e1 : mp env with
  | bad => simp only [e1] at q; exact q
  | ex c env1 =>
    simp only [e1] at q
    exact fun G' H' Os' s' t => q σ G' H' Os' s' t.st (IoS.refl _)
  | ok p env1 =>
    simp only [e1] at q
    have hjl : j < σ.length := by rw [hlen]; exact (List.getElem?_eq_some_iff.mp hj).1
    cases e2 : nodeAt i p env1 with
    | none => simp only [e2] at q; exact q.elim
    | some y =>
      simp only [e2] at q
      obtain ⟨w, b1, b2, b3⟩ := nodeAt_some e2
      refine ⟨w, y, b1, b2, b3, fun v u G1 H1 Os1 s1 t1 hv nv => ?_⟩
      obtain ⟨s2, inn⟩ := s1.put (w := .dead) (v := u) (Ow := []) j hjl rfl (OwnK.nil s1)
      refine ⟨env1.set j .dead, G1, Os1.set j [], p, s2, ⟨w, y, v, u, ?_, b2, b3, ?_, nv, ?_⟩, q.on (t1.st.less fun a ha => ?_) (IoS.set hio)⟩
      · rw [List.getElem?_set_ne (Ne.symm hij)]; exact b1
      · rw [List.getElem?_set_ne (Ne.symm hij)]; exact hv
      · rw [List.getElem?_set_self hjl]
      · have := inn a ha
        rw [List.append_nil] at this
        exact this
end
end Ev

namespace Ev
open PySem PySem.Spec L2
section
variable {Z : Zt} {e ix : Expr} {i n : Nat} {mp : Sm (List Nat)} {mk : Sm KK} {pos : Pos}
end
end Ev

namespace Ev
open PySem PySem.Spec L2
end Ev

namespace Ev
open PySem PySem.Spec L2
/-! ### a table of the module, texts to texts -/
def tabO (w : World) (l : List (Str × Tok × Str × Tok)) (n : Nat) : Obj := { cls := .type "dict", data := .dict (l.map fun q => (⟨PyData.keyHash w.params q.1, .str q.1 q.2.1, .str q.2.2.1 q.2.2.2⟩ : DictEntry)).toArray n }
def ConT (K : PySem.W.Frag) (w : World) (c : Addr) (kv : List (Str × Str)) : Prop := ∃ l n, K.lookup c = some (tabO w l n) ∧ l.map (fun q => (q.1, q.2.2.1)) = kv ∧ (c == sysModules) = false
theorem ConT.mk {K : PySem.W.Frag} {w : World} {c : Addr} {kv : List (Str × Str)} {l : List (Str × Tok × Str × Tok)} {n : Nat} {o : Obj} (h : K.lookup c = some o) (e : o = tabO w l n) (m : l.map (fun q => (q.1, q.2.2.1)) = kv) (s : (c == sysModules) = false) : ConT K w c kv := ⟨l, n, by rw [h, e], m, s⟩
section
variable {X : Cx} {e o : Expr} {te : TE} {c : Addr} {kv : List (Str × Str)} {pos : Pos}
end
section
variable {Z : Zt} {e : Expr} {m : Sm W} {p k : Bool} {x : Str} {c : Addr} {kv : List (Str × Str)} {pos p1 : Pos}
end
end Ev

namespace Ev
open PySem PySem.Spec PyProof.Rows L2
end Ev

namespace Ev
open PySem PySem.Spec PyProof.Rows L2
end Ev

namespace Ev
open PySem PySem.Spec L2
/-! ### the way to a place stands, whatever is made of the thing there -/
theorem RO.placeR {D : Dn} {G H : Hp} : ∀ (p : List Nat) {w w1 : W} {v : V} {O : List Addr}, RO D G H w v O → getP w p = some w1 →
    ∃ u O1 R, RO D G H w1 u O1 ∧ (R ++ O1).Perm O ∧ (∀ H', (∀ a ∈ R, ∀ o, H a = some o → H' a = some o) → NodeV D H' w v p u) ∧
      ∀ (G' H' : Hp) (y : W) (O1' : List Addr), Sub G G' → (∀ a ∈ R, ∀ o, H a = some o → H' a = some o) → RO D G' H' y u O1' → ∃ O', RO D G' H' (setP w p y) v O' ∧ O'.Perm (R ++ O1')
  | [], w, w1, v, O, h, g => by
    cases g
    exact ⟨v, O, [], h, by rw [List.nil_append], fun _ _ => rfl, fun G' H' y O1' _ _ r => ⟨O1', r, by rw [List.nil_append]⟩⟩
  | j :: p, w, w1, v, O, h, g => by
    unfold getP at g
    cases e : w.kids[j]? with
    | none => rw [e] at g; cases g
    | some x =>
      rw [e] at g
      obtain ⟨a, vs, O', rfl, rfl, kv, hk, back⟩ := h.kidsAt e
      obtain ⟨u0, Ok, Rk, f1, f2, f3, f4⟩ := ROs.kid hk e
      obtain ⟨u, O1, R1, i1, i2, i3, i4⟩ := RO.placeR p f2 g
      refine ⟨u, O1, a :: (Rk ++ R1), i1, ?_, fun H' k => ?_, fun G' H' y O1' sub k r => ?_⟩
      · rw [List.cons_append, List.append_assoc]
        exact List.Perm.cons _ ((List.Perm.append_left _ i2).trans f3)
      · refine ⟨vs, u0, x, kv H' fun o ho => k a List.mem_cons_self o ho, f1, e, i3 H' fun b hb => k b (List.mem_cons_of_mem _ (List.mem_append_right _ hb))⟩
      · obtain ⟨Ok', j1, j2⟩ := i4 G' H' y O1' sub (fun b hb => k b (List.mem_cons_of_mem _ (List.mem_append_right _ hb))) r
        obtain ⟨O'', l1, l2⟩ := f4 G' H' _ _ sub (fun b hb => k b (List.mem_cons_of_mem _ (List.mem_append_left _ hb))) j1
        refine ⟨a :: O'', ?_, ?_⟩
        · unfold setP
          rw [e]
          exact back G' H' _ _ (fun o ho => k a List.mem_cons_self o ho) l1
        · rw [List.cons_append, List.append_assoc]
          exact List.Perm.cons _ (l2.trans (List.Perm.append_left _ j2))
theorem kids_with (w : W) (ws : List W) (j : Nat) (x : W) (h : w.kids[j]? = some x) : (w.withKids ws).kids = ws := by
  cases w <;> first
    | rfl
    | (unfold W.kids at h; simp at h)
theorem kidV_with {D : Dn} {H : Hp} {w : W} {v : V} {vs : List V} (ws : List W) (h : KidV D H w v vs) : KidV D H (w.withKids ws) v vs := by
  cases w <;> exact h
theorem NodeV.setP {D : Dn} {H : Hp} {y' : W} : ∀ {p : List Nat} {w : W} {v u : V}, NodeV D H w v p u → NodeV D H (setP w p y') v p u
  | [], _, _, _, h => h
  | j :: p, w, v, u, h => by
    obtain ⟨vs, u0, x, h1, h2, h3, h4⟩ := h
    unfold Ev.setP
    rw [h3]
    dsimp only
    refine ⟨vs, u0, Ev.setP x p y', kidV_with _ h1, h2, ?_, NodeV.setP h4⟩
    rw [kids_with w _ j x h3, List.getElem?_set_self (List.getElem?_eq_some_iff.mp h3).1]
theorem getP_setP {y y' : W} : ∀ {p : List Nat} {w : W}, getP w p = some y → getP (setP w p y') p = some y'
  | [], _, _ => rfl
  | j :: p, w, h => by
    unfold getP at h
    unfold setP
    cases e : w.kids[j]? with
    | none => rw [e] at h; cases h
    | some x =>
      rw [e] at h
      dsimp only at h ⊢
      unfold getP
      rw [kids_with w _ j x e, List.getElem?_set_self (List.getElem?_eq_some_iff.mp e).1]
      exact getP_setP h
theorem setP_live {w y' : W} : ∀ {p : List Nat}, w ≠ .dead → y' ≠ .dead → setP w p y' ≠ .dead
  | [], _, h => h
  | j :: p, h, _ => by
    unfold setP
    split
    · cases w <;> first | exact absurd rfl h | (intro z; cases z)
    · exact h
end Ev

namespace Ev
open PySem PySem.Spec L2
section
variable {Z : Zt} {c k1 k2 i : Nat} {nm nm2 : Str} {g g2 : Fn} {o o2 : Expr} {ap cp ap2 cp2 sp ip : Pos} {kk : Nat} {kx : Int} {pl pl2 : Sem Bool} {mp : Sm (List Nat)}
end
end Ev

namespace Ev
open PySem PySem.Spec L2
end Ev

namespace Ev
open PySem PySem.Spec L2
/-! ### a table of the module, as it is written out -/
def ents (o : Obj) : List DictEntry := match o.data with
  | .dict es _ => es.toList
  | _ => []
def isDct (o : Obj) : Bool := match o.data with
  | .dict _ _ => true
  | _ => false
def keyStr : Value → Str
  | .str s _ => s
  | _ => ""
def entKV (en : DictEntry) : Option (Str × Str) := match en.key, en.val with
  | .str k _, .str v _ => some (k, v)
  | _, _ => none
theorem ents_of {w : World} : ∀ (es : List DictEntry) (kv : List (Str × Str)), es.map entKV = kv.map some → es.map (·.hash) = es.map (fun en => PyData.keyHash w.params (keyStr en.key)) →
    ∃ l : List (Str × Tok × Str × Tok), es = l.map (fun q => (⟨PyData.keyHash w.params q.1, .str q.1 q.2.1, .str q.2.2.1 q.2.2.2⟩ : DictEntry)) ∧ l.map (fun q => (q.1, q.2.2.1)) = kv
  | [], kv, h1, _ => by
    cases kv with
    | nil => exact ⟨[], rfl, rfl⟩
    | cons a b => cases h1
  | en :: es, kv, h1, h2 => by
    cases kv with
    | nil => cases h1
    | cons q kv =>
      rw [List.map_cons, List.map_cons] at h1 h2
      obtain ⟨a1, a2⟩ := List.cons.inj h1
      obtain ⟨b1, b2⟩ := List.cons.inj h2
      obtain ⟨l, c1, c2⟩ := ents_of es kv a2 b2
      obtain ⟨hs, ky, vl⟩ := en
      unfold entKV at a1
      cases ky <;> first
        | (cases vl <;> first
            | (rename_i k t v t2
               cases a1
               refine ⟨(k, t, v, t2) :: l, ?_, ?_⟩
               · rw [List.map_cons, ← c1]
                 congr 1
                 dsimp only [keyStr] at b1
                 rw [b1]
               · rw [List.map_cons, c2])
            | cases a1)
        | cases a1
theorem ConT.of {K : PySem.W.Frag} {w : World} {c : Addr} {kv : List (Str × Str)} {o : Obj} (h : K.lookup c = some o) (e1 : o.cls = .type "dict") (e2 : o.dict = none) (e3 : o.slots = #[]) (e4 : (ents o).map entKV = kv.map some)
    (e5 : (ents o).map (·.hash) = (ents o).map (fun en => PyData.keyHash w.params (keyStr en.key))) (e6 : isDct o = true) (s : (c == sysModules) = false) : ConT K w c kv := by
  obtain ⟨l, h1, h2⟩ := ents_of (w := w) _ _ e4 e5
  cases o with
  | mk cls dict data slots =>
    dsimp only at e1 e2 e3
    subst e1 e2 e3
    cases data <;> first
      | cases e6
      | skip
    rename_i es n
    refine ⟨l, n, ?_, h2, s⟩
    rw [h]
    unfold tabO
    have h3 : es.toList = _ := h1
    rw [← h3]
end Ev

namespace Ev
open PySem PySem.Spec L2
variable {Z : Zt}
end Ev

namespace Ev
open PySem PySem.Spec L2
/-! ### range with any step upwards -/
def rngU (i j c : Int) : Nat := if i < j then ((j - i - 1) / c + 1).toNat else 0
def stepOk (c : Int) : Prop := 1 ≤ c ∧ c < 1073741824
noncomputable instance {c : Int} : Decidable (stepOk c) := Classical.propDecidable _
def endOk (j : Int) : Prop := -(2 ^ 60) ≤ j ∧ j < 2 ^ 60
noncomputable instance {c : Int} : Decidable (endOk c) := Classical.propDecidable _
theorem size_up {i j c : Int} (hi : endOk i) (hj : endOk j) (hc : stepOk c) : Builtin.Range.rangeSize i j c = (rngU i j c : Nat) ∧ (rngU i j c : Int) < 2 ^ 61 + 1 := by
  unfold Builtin.Range.rangeSize rngU
  obtain ⟨c1, c2⟩ := hc
  obtain ⟨i1, i2⟩ := hi
  obtain ⟨j1, j2⟩ := hj
  rw [if_pos (show c > 0 by omega)]
  by_cases h : i < j
  · rw [if_pos h, if_pos h]
    have a : 0 ≤ (j - i - 1) / c := Int.ediv_nonneg (by omega) (by omega)
    have b : (j - i - 1) / c ≤ j - i - 1 := Int.ediv_le_self c (by omega)
    omega
  · rw [if_neg h, if_neg h]
    omega
theorem small_up {i j c : Int} (hi : endOk i) (hj : endOk j) (hc : stepOk c) : Builtin.Range.small i j c = true := by
  obtain ⟨e, l⟩ := size_up hi hj hc
  unfold Builtin.Range.small
  rw [e]
  obtain ⟨c1, c2⟩ := hc
  obtain ⟨i1, i2⟩ := hi
  obtain ⟨j1, j2⟩ := hj
  simp only [Builtin.Range.rangeFitsLong, Bool.and_eq_true, Bool.or_eq_true, decide_eq_true_eq, beq_iff_eq]
  rw [if_pos (show c > 0 by omega)]
  simp only [Bool.and_eq_true, decide_eq_true_eq]
  omega
theorem RgC.up {i j c : Int} (hi : endOk i) (hj : endOk j) (hc : stepOk c) : RgC i j c (rngU i j c) :=
  ⟨by have := hc.1; omega, by have := hc.1; have := hc.2; omega, small_up hi hj hc, (size_up hi hj hc).1⟩
end Ev

namespace Ev
open PySem PySem.Spec PyProof.Rows L2
end Ev

namespace Ev
open PySem PySem.Spec L2
/-- the name for the thing at the place is not read any more -/
theorem msa_of {Z : Zt} {i j : Nat} {ss : List Stmt} {m : Sm Fl} (h : MSs Z ss m) : MSA Z ss i j (fun _ => m) := pss_imp h fun E σ H q => by
  obtain ⟨env, G, Os, p, s, _, q⟩ := q
  exact ⟨env, G, Os, s, q⟩
end Ev

namespace Ev
/-! ### an exception out of a comprehension -/
section
open PySem PySem.Spec PyProof.Rows L2
variable {X : Cx} {pins : List (Addr × Obj)} {σ : L2.St} {H : Hp} {s : Shared}
end
end Ev

namespace Ev
open PySem PySem.Spec L2
end Ev

namespace Ev
open PySem PySem.Spec PyProof.Rows L2
end Ev

namespace Ev
open PySem PySem.Spec PyProof.Rows L2
section
variable {X : Cx} {a b e o : Expr} {es : List Expr} {ta tb to : TE} {t : TA} {pos p apos : Pos} {x : Str} {id : String}
end
section
variable {Z : Zt}
end
end Ev

namespace Ev
open PySem PySem.Spec L2
end Ev

namespace Ev
open PySem PySem.Spec PyProof.Rows L2
end Ev

namespace Ev
open PySem PySem.Spec PyProof.Rows L2
end Ev

namespace PySem
open Builtin Builtin.Str
namespace Txt
end Txt
end PySem
namespace Ev
open PySem PySem.Spec PyProof.Rows L2
section
variable {X : Cx} {o : Expr} {to : TE} {y z : Str} {j k i : Nat} {c0 c1 c2 apos pos : Pos}
end
section
variable {X : Cx} {a b e : Expr} {ta tb te : TE} {p1 p2 p3 : Pos}
end
section
variable {Z : Zt} {a b o : Expr} {p1 p2 p3 : Pos} {y z : Str} {j k i : Nat} {c0 c1 c2 apos pos : Pos} {pa pb ka kb po ko : Bool}
end
/-! ### the empty table that is nobody's; one of a display -/
theorem me_edc {Z : Zt} {pos : Pos} : ME Z (.Dict [] [] pos) (mC .edc) true true := pe_imp pe_dnewK fun σ H Q q p n => by
  obtain ⟨env, G, Os, s, q⟩ := q
  have st := step_frz (o := .dK []) s.sub n
  have s2 := s.step st (sub_upd2 s.sub)
  exact q (.ref p) _ _ Os [] s2 ⟨rfl, p, [], rfl, rfl, upd_same, rfl⟩ (OwnK.nil s2) ⟨rfl, rfl, st⟩
def avV : AV → Option W
  | .v w => some w
  | .io _ => none
def avAt (as : List AV) (j : Int) : Option W := (L2.atI as j).bind avV
def mPick (ms : Sm (List AV)) (mi : Sm W) : Sm W := Sm.bind ms fun as => if as.length ≤ sizeLine then Sm.bind mi fun w => match w with
  | .int j => lft (avAt as j)
  | _ => fun _ => .bad else fun _ => .bad
theorem AVs.get {D : Dn} {G : Hp} {σ : L2.St} : ∀ {as : List AV} {vs : List V} {i : Nat} {w : W}, AVs D G σ as vs → as[i]? = some (.v w) → ∃ v, vs[i]? = some v ∧ RP D G w v
  | [], _, _, _, _, e => by simp at e
  | .v _ :: _, _, 0, _, h, e => by
    obtain ⟨v, r, rfl, h1, h2⟩ := h
    cases e
    exact ⟨v, rfl, h1⟩
  | .io _ :: _, _, 0, _, h, e => by cases e
  | .v _ :: as, _, i + 1, _, h, e => by
    obtain ⟨v, r, rfl, h1, h2⟩ := h
    exact AVs.get (as := as) (vs := r) (i := i) h2 e
  | .io _ :: as, _, i + 1, _, h, e => by
    obtain ⟨v, r, rfl, h1, h2⟩ := h
    exact AVs.get (as := as) (vs := r) (i := i) h2 e
theorem r_pick {env : List W} (ms : Sm (List AV)) (mi : Sm W) : mPick ms mi env = match ms env with
  | .ok as e1 => if as.length ≤ sizeLine then (match mi e1 with
    | .ok (.int j) e2 => (match avAt as j with
      | some w => .ok w e2
      | none => .bad)
    | .ok _ _ => .bad
    | .ex c e2 => .ex c e2
    | .bad => .bad) else .bad
  | .ex c e1 => .ex c e1
  | .bad => .bad := by
  unfold mPick
  rw [r_bind]
  cases ms env with
  | ok as e1 =>
    dsimp only
    by_cases hl : as.length ≤ sizeLine
    · rw [if_pos hl, if_pos hl, r_bind]
      cases mi e1 with
      | ok w e2 => cases w <;> first | rfl | (unfold lft; dsimp only; cases avAt as _ <;> rfl)
      | _ => rfl
    · rw [if_neg hl, if_neg hl]
  | _ => rfl
end Ev

namespace Ev
open PySem PySem.Spec PyProof.Rows L2
theorem pas_str (s : Str) : (W.str s).pas = true := rfl
theorem pas_int (i : Int) : (W.int i).pas = true := rfl
theorem pas_bl (b : Bool) : (W.bl b).pas = true := rfl
theorem pas_non : W.non.pas = true := rfl
theorem pas_tup (ws : List W) : (W.tup ws).pas = true := rfl
theorem pas_lst (ws : List W) : (W.lst false ws).pas = true := rfl
theorem pas_edc : W.edc.pas = true := rfl
theorem pick_edc (env : List W) : pickV (some .edc) env = .ok .edc env := rfl
end Ev

namespace Ev
open PySem PySem.Spec PyProof.Rows L2
end Ev

namespace Ev
open PySem PySem.Spec PyProof.Rows L2

def W.many : W → Bool
  | .lst _ _ => true
  | .tup _ => true
  | _ => false
def showOk (d : PyData) : Prop := d.showable = true ∧ d.hasDict = false ∧ d.depth ≤ 20 ∧ d.shown.length ≤ 4000
instance {d : PyData} : Decidable (showOk d) := inferInstanceAs (Decidable (_ ∧ _ ∧ _ ∧ _))
section
variable {Z : Zt} {e : Expr} {m : Sm W} {p k1 : Bool} {p1 p2 : Pos}
end
end Ev

namespace Ev
open PySem PySem.Spec PyProof.Rows L2

/-! ### the law's own body, at the place from which the law is called (no text is being made there) -/
section
variable {P : Program} {w : World} {K : PySem.W.Frag} {mg : Str → Option Value} {base : Heap} {CA : Nat → Addr}
end
end Ev

namespace Ev
open PySem PySem.Spec PyProof.Rows L2
end Ev

namespace Ev
open PySem PySem.Spec L2
/-! ### what stands at the place, in the other name's hand while a statement runs -/
abbrev Zt.hold (Z : Zt) (i j : Nat) : Zt := ⟨Z.X, Z.CA, Z.W, fun k => Z.io k || (k == i || k == j)⟩
theorem KidV.with {D : Dn} {H : Hp} {w : W} {v : V} {vs : List V} (h : KidV D H w v vs) (ws : List W) : KidV D H (w.withKids ws) v vs := by
  cases w <;> exact h
theorem bor {D : Dn} {G H : Hp} {env : List W} {σ : St} {Os : List (List Addr)} {i j : Nat} {p : List Nat} {w w1 : W} (s : StOk D G H env σ Os) (al : Ali D H env σ i j p) (hi : env[i]? = some w) (nd : w ≠ .dead) (g : getP w p = some w1) (hij : i ≠ j) :
    ∃ Os1, StOk D G H ((env.set i .dead).set j w1) σ Os1 ∧ (∀ a ∈ Os1.flatten, a ∈ Os.flatten) ∧
      ∀ (G' H' : Hp) (env' : List W) (σ' : St) (Os' : List (List Addr)) (w2 : W), StOk D G' H' env' σ' Os' → Step G H Os1.flatten G' H' Os'.flatten → σ'[i]? = σ[i]? → σ'[j]? = σ[j]? → env'[j]? = some w2 → w2 ≠ .dead →
        ∃ Os2, StOk D G' H' ((env'.set i (setP w p w2)).set j .dead) σ' Os2 ∧ Ali D H' ((env'.set i (setP w p w2)).set j .dead) σ' i j p ∧ Step G H Os.flatten G' H' Os2.flatten := by
  obtain ⟨sv, O, h1, h2, h3⟩ := s.sl.at hi
  have hv : ∃ v, sv = some v ∧ RO D G H w v O := by
    rcases h3 with h3 | ⟨z, _⟩
    · exact h3
    · exact absurd z nd
  obtain ⟨v, rfl, ro⟩ := hv
  obtain ⟨u, O1, R, i1, i2, i3, i4⟩ := RO.placeR p ro g
  have hj : σ[j]? = some (some u) := by
    obtain ⟨w', y', v', u', a1, _, _, a4, a5, a6⟩ := al
    rw [hi] at a1
    cases a1
    rw [h1] at a4
    cases a4
    rw [a6, (i3 H fun _ _ _ h => h).uniq a5]
  have jl : j < σ.length := (List.getElem?_eq_some_iff.mp hj).1
  have pm := flat_set (O' := []) h2
  rw [List.append_nil] at pm
  have ndp : ((Os.set i []).flatten ++ O).Nodup := pm.nodup_iff.mpr s.nd
  have inO : ∀ a ∈ O, a ∈ Os.flatten := fun a ha => flat_mem h2 ha
  have inS : ∀ a ∈ (Os.set i []).flatten, a ∈ Os.flatten := fun a ha => pm.mem_iff.mp (List.mem_append_left _ ha)
  have s0 : StOk D G H (env.set i .dead) σ (Os.set i []) := by
    have z := Sl.set (D := D) (G := G) (H := H) (w := .dead) (s := some v) (O := []) (.inr ⟨rfl, rfl⟩) i s.sl
    rw [set_self h1] at z
    exact ⟨z, s.sub, fun a ha => s.gn a (inS a ha), (List.nodup_append.mp ndp).1⟩
  have p3 : ((Os.set i []).flatten ++ (O1 ++ R)).Perm ((Os.set i []).flatten ++ O) := List.Perm.append_left _ (List.perm_append_comm.trans i2)
  have nd3 := p3.nodup_iff.mpr ndp
  rw [← List.append_assoc] at nd3
  obtain ⟨nd4, ndR, djR⟩ := List.nodup_append.mp nd3
  have inR : ∀ a ∈ R, a ∈ O := fun a ha => i2.mem_iff.mp (List.mem_append_left _ ha)
  have in1 : ∀ a ∈ O1, a ∈ O := fun a ha => i2.mem_iff.mp (List.mem_append_right _ ha)
  obtain ⟨s1, inn⟩ := s0.put (w := w1) (v := u) (Ow := O1) j jl i1 ⟨nd4, fun a ha => s.gn a (inO a (in1 a ha))⟩
  rw [set_self hj] at s1
  refine ⟨(Os.set i []).set j O1, s1, fun a ha => ?_, ?_⟩
  · rcases List.mem_append.mp (inn a ha) with z | z
    · exact inS a z
    · exact inO a (in1 a z)
  intro G' H' env' σ' Os' w2 s' t e1 e2 e3 n2
  have outR : ∀ a ∈ R, a ∉ ((Os.set i []).set j O1).flatten := fun a ha z => djR a (inn a z) a ha rfl
  have hk : ∀ a ∈ R, ∀ o, H a = some o → H' a = some o := fun a ha o ho => t.keep a o ho (outR a ha)
  have gnR : ∀ a ∈ R, G' a = none := fun a ha => by
    obtain ⟨o, ho, nt⟩ := s.thn a (inO a (inR a ha))
    exact t.gnew a o ho (outR a ha) nt (s.gn a (inO a (inR a ha)))
  have djR' : ∀ a ∈ R, a ∉ Os'.flatten := fun a ha z => by
    obtain ⟨o, ho, _⟩ := s.thn a (inO a (inR a ha))
    rcases t.new a z with y | y
    · exact outR a ha y
    · rw [ho] at y; cases y
  obtain ⟨sv2, O2, k1, k2, k3⟩ := s'.sl.at e3
  rw [e2, hj] at k1
  cases k1
  have r2 : RO D G' H' w2 u O2 := by
    rcases k3 with ⟨v', ev, r⟩ | ⟨z, _⟩
    · cases ev; exact r
    · exact absurd z n2
  obtain ⟨On, j1, j2⟩ := i4 G' H' w2 O2 t.mono hk r2
  have pm' := flat_set (O' := []) k2
  rw [List.append_nil] at pm'
  have nd' : ((Os'.set j []).flatten ++ O2).Nodup := pm'.nodup_iff.mpr s'.nd
  have inS' : ∀ a ∈ (Os'.set j []).flatten, a ∈ Os'.flatten := fun a ha => pm'.mem_iff.mp (List.mem_append_left _ ha)
  have in2 : ∀ a ∈ O2, a ∈ Os'.flatten := fun a ha => flat_mem k2 ha
  have s2 : StOk D G' H' (env'.set j .dead) σ' (Os'.set j []) := by
    have z := Sl.set (D := D) (G := G') (H := H') (w := .dead) (s := some u) (O := []) (.inr ⟨rfl, rfl⟩) j s'.sl
    rw [set_self (show σ'[j]? = some (some u) by rw [e2, hj])] at z
    exact ⟨z, s'.sub, fun a ha => s'.gn a (inS' a ha), (List.nodup_append.mp nd').1⟩
  have hi' : σ'[i]? = some (some v) := by rw [e1, h1]
  have il : i < σ'.length := (List.getElem?_eq_some_iff.mp hi').1
  have p5 : ((Os'.set j []).flatten ++ On).Perm (((Os'.set j []).flatten ++ O2) ++ R) := by
    rw [List.append_assoc]
    exact List.Perm.append_left _ (j2.trans List.perm_append_comm)
  have nd5 : ((Os'.set j []).flatten ++ On).Nodup := p5.nodup_iff.mpr (List.nodup_append.mpr ⟨nd', ndR, fun a ha b hb e => by
    subst e
    refine djR' a hb ?_
    rcases List.mem_append.mp ha with z | z
    · exact inS' a z
    · exact in2 a z⟩)
  have inN : ∀ a ∈ On, a ∈ R ∨ a ∈ O2 := fun a ha => List.mem_append.mp (j2.mem_iff.mp ha)
  obtain ⟨s3, inn3⟩ := s2.put (w := setP w p w2) (v := v) (Ow := On) i il j1 ⟨nd5, fun a ha => by
    rcases inN a ha with z | z
    · exact gnR a z
    · exact s'.gn a (in2 a z)⟩
  rw [set_self hi', List.set_comm _ _ (Ne.symm hij)] at s3
  have il2 : i < env'.length := by rw [s'.sl.len.1]; exact il
  refine ⟨(Os'.set j []).set i On, s3, ⟨setP w p w2, w2, v, u, ?_, ?_, getP_setP g, hi', (i3 H' hk).setP, by rw [e2, hj]⟩, t.mono, fun a o h n => t.keep a o h fun y => n ?_, fun a o h n nt gg => t.gnew a o h (fun y => n ?_) nt gg, fun a ha => ?_⟩
  · rw [List.getElem?_set_ne (Ne.symm hij), List.getElem?_set_self il2]
  · exact setP_live nd n2
  · rcases List.mem_append.mp (inn a y) with z | z
    · exact inS a z
    · exact inO a (in1 a z)
  · rcases List.mem_append.mp (inn a y) with z | z
    · exact inS a z
    · exact inO a (in1 a z)
  · have old : ∀ b ∈ Os'.flatten, b ∈ Os.flatten ∨ H b = none := fun b hb => by
      rcases t.new b hb with y | y
      · refine .inl ?_
        rcases List.mem_append.mp (inn b y) with z | z
        · exact inS b z
        · exact inO b (in1 b z)
      · exact .inr y
    rcases List.mem_append.mp (inn3 a ha) with z | z
    · exact old a (inS' a z)
    · rcases inN a z with y | y
      · exact .inl (inO a (inR a y))
      · exact old a (in2 a y)
def sBor (i j : Nat) (m : Sm Fl) (p : List Nat) : Sm Fl := fun env => match env[i]? with
  | some w => (match getP w p with
    | some w1 => if lvW w = true then (match m ((env.set i .dead).set j w1) with
        | .ok .nx env' => (match env'[j]? with
           | some w2 => if lvW w2 = true then .ok .nx ((env'.set i (setP w p w2)).set j .dead) else .bad
           | none => .bad)
        | _ => .bad) else .bad
    | none => .bad)
  | none => .bad
section
variable {Z : Zt} {i j : Nat}
theorem msa_bor {st : Stmt} {rest : List Stmt} {m0 : Sm Fl} {mr : List Nat → Sm Fl} (h : MS (Z.hold i j) st m0) (hr : MSA Z rest i j mr) (hij : i ≠ j := by decide) (hij2 : Z.io i = false := by rfl) (hij3 : Z.io j = false := by rfl) : MSA Z (st :: rest) i j (fun p => sSeq (sBor i j m0 p) (mr p)) :=
  pss_imp (pss_cons h hr) fun E σ H q => by
    obtain ⟨env, G, Os, p, s, al, q⟩ := q
    change PostS Z.D Z.W Z.io E σ G H Os (sSeq (sBor i j m0 p) (mr p) env) at q
    rw [r_seq] at q
    unfold sBor at q
    cases e1 : env[i]? with
    | none => simp only [e1] at q; exact q.elim
    | some w =>
      simp only [e1] at q
      cases e2 : getP w p with
      | none => simp only [e2] at q; exact q.elim
      | some w1 =>
        simp only [e2] at q
        by_cases hl : lvW w = true
        · rw [if_pos hl] at q
          obtain ⟨Os1, s1, in1, back⟩ := bor s al e1 (lvW_ne hl) e2 hij
          refine ⟨(env.set i .dead).set j w1, G, Os1, s1, ?_⟩
          cases e3 : m0 ((env.set i .dead).set j w1) with
          | bad => rw [e3] at q; exact q.elim
          | ex c e => rw [e3] at q; exact q.elim
          | ok f env' =>
            cases f with
            | nx =>
              rw [e3] at q
              dsimp only at q
              intro σ' G' H' Os' s' t io
              cases e4 : env'[j]? with
              | none => simp only [e4] at q; exact q.elim
              | some w2 =>
                simp only [e4] at q
                by_cases hl2 : lvW w2 = true
                · rw [if_pos hl2] at q
                  obtain ⟨Os2, s2, al2, t2⟩ := back G' H' env' σ' Os' w2 s' t (io i (by simp)) (io j (by simp)) e4 (lvW_ne hl2)
                  exact ⟨_, G', Os2, p, s2, al2, q.on t2 (fun k hk => io k (by simp [hk]))⟩
                · rw [if_neg hl2] at q; exact q.elim
            | bk => rw [e3] at q; exact q.elim
            | ct => rw [e3] at q; exact q.elim
            | rt w => rw [e3] at q; exact q.elim
        · rw [if_neg hl] at q; exact q.elim
/-- a test that reads the thing by its other name -/
def sIfB (i j : Nat) (mc : Sm Bool) (m1 m2 : List Nat → Sm Fl) (p : List Nat) : Sm Fl := fun env => match env[i]? with
  | some w => (match getP w p with
    | some w1 => if lvW w = true then (match mc ((env.set i .dead).set j w1) with
        | .ok true _ => noNx (m1 p env)
        | .ok false _ => m2 p env
        | _ => .bad) else .bad
    | none => .bad)
  | none => .bad
theorem msa_ifB {c : Expr} {a rest : List Stmt} {mc : Sm Bool} {m1 m2 : List Nat → Sm Fl} {pos : Pos} (hc : MT (Z.hold i j) c mc true) (ha : MSA Z a i j m1) (hb : MSA Z rest i j m2) (hij : i ≠ j := by decide) : MSA Z (.If c a [] pos :: rest) i j (sIfB i j mc m1 m2) :=
  pss_imp (pss_cons (ps_if hc ha pss_nil) hb) fun E σ H q => by
    obtain ⟨env, G, Os, p, s, al, q⟩ := q
    unfold sIfB at q
    cases e1 : env[i]? with
    | none => simp only [e1] at q; exact q.elim
    | some w =>
      simp only [e1] at q
      cases e2 : getP w p with
      | none => simp only [e2] at q; exact q.elim
      | some w1 =>
        simp only [e2] at q
        by_cases hl : lvW w = true
        · rw [if_pos hl] at q
          obtain ⟨Os1, s1, in1, back⟩ := bor s al e1 (lvW_ne hl) e2 hij
          refine ⟨(env.set i .dead).set j w1, G, Os1, s1, ?_⟩
          cases e : mc ((env.set i .dead).set j w1) with
          | bad => simp only [e] at q; exact q
          | ex c env1 => simp only [e] at q; exact q.elim
          | ok b env1 =>
            simp only [e] at q
            intro G1 H1 Os2 s2 t1
            obtain ⟨rfl, rfl, t1'⟩ := id t1
            have s3 : StOk Z.D G1 H1 env σ Os := s.step t1' s2.sub
            have al1 := al.on s t1'
            have z := t1'.pure0 (O := Os.flatten)
            rw [List.append_nil] at z
            cases b with
            | true =>
              rw [if_pos rfl]
              exact ⟨env, G1, Os, p, s3, al1, PostS.noNx (E := E) (E' := { E with nx := TSA Z i j m2 E }) rfl (q.on z (IoS.refl _))⟩
            | false =>
              rw [if_neg Bool.false_ne_true]
              exact ⟨env, G1, Os, p, s3, al1, q.on z (IoS.refl _)⟩
        · rw [if_neg hl] at q; exact q.elim
/-- all that lies within is frozen: both names read the same -/
def sFzA (i j : Nat) (m : Sm Fl) (p : List Nat) : Sm Fl := fun env => match p, env[i]? with
  | [h], some (.nst ws) => if fzOks ws = true then (match (fzDs ws)[h]? with
    | some x => m ((env.set i (.lst true (fzDs ws))).set j x)
    | none => .bad) else .bad
  | _, _ => .bad
theorem msa_fz {ss : List Stmt} {m : Sm Fl} (hm : MSs Z ss m) (hij : i ≠ j := by decide) : MSA Z ss i j (sFzA i j m) := pss_imp hm fun E σ H q => by
  obtain ⟨env, G, Os, p, s, al, q⟩ := q
  unfold sFzA at q
  split at q
  · rename_i h ws e1
    by_cases hf : fzOks ws = true
    · rw [if_pos hf] at q
      cases ex : (fzDs ws)[h]? with
      | none => simp only [ex] at q; exact q.elim
      | some x =>
        simp only [ex] at q
        obtain ⟨G', Os', s', t⟩ := s.fzC e1 hf
        obtain ⟨w, y, v, u, b1, b2, b3, hv, nv, hju⟩ := al
        rw [e1] at b1
        cases b1
        obtain ⟨vs, u', x', ⟨a, rfl, ha⟩, hu, _, nu⟩ := nv
        have nu' : u = u' := nu
        subst nu'
        have il : i < env.length := (List.getElem?_eq_some_iff.mp e1).1
        obtain ⟨sv, O, h1, h2, h3⟩ := s'.sl.at (List.getElem?_set_self il)
        rw [hv] at h1
        cases h1
        have rf : RF Z.D G' x u := by
          rcases h3 with ⟨v', ev, r⟩ | ⟨z, _⟩
          · cases ev
            obtain ⟨a', vs', ea, _, hl, rs⟩ := r
            cases ea
            rw [ha] at hl
            cases hl
            obtain ⟨u2, g1, g2⟩ := rs.get ex
            rw [hu] at g1
            cases g1
            exact g2
          · cases z
        have s2 := s'.putF (w := x) (v := u) j rf
        rw [set_self hju] at s2
        exact ⟨_, G', _, s2, q.on (t.less fun b hb => flat_sub b hb) (IoS.refl _)⟩
    · rw [if_neg hf] at q; exact q.elim
  · exact q.elim
end
end Ev

namespace Ev
open PySem PySem.Spec L2
/-! ### a table beside itself -/
open Classical in
noncomputable def eqTW (a b : W) : Option W := match a, b with
  | .fdc ks ws, .fdc ks' ws' => if ks = ks' ∧ ws = ws' ∧ ∀ x ∈ ws, x.nd = true ∧ x.dat.depth ≤ 40 then some (.bl true) else none
  | a, b => eqW a b
def SameD (K : PySem.W.Frag) (H : Hp) (x y : V) : Prop := ∃ d, Dq K H x d ∧ Dq K H y d ∧ d.plain = true ∧ d.depth ≤ 40
theorem zip_hits {F : V → V → Prop} : ∀ {ks : List Key} {vs us : List V}, ks.Nodup → ks.length = vs.length → ks.length = us.length → Paired F vs us → ∀ p ∈ ks.zip vs, ∃ u, valV (ks.zip us) p.1 = some u ∧ F p.2 u
  | [], _, _, _, _, _, _, p, hp => by cases hp
  | k :: ks, [], _, _, e, _, _, _, _ => nomatch e
  | k :: ks, _ :: _, [], _, _, e, _, _, _ => nomatch e
  | k :: ks, v :: vs, u :: us, nd, e1, e2, pr, p, hp => by
    cases pr with
    | cons p1 p2 =>
      rw [List.zip_cons_cons] at hp ⊢
      obtain ⟨n1, n2⟩ := List.nodup_cons.mp nd
      rcases List.mem_cons.mp hp with rfl | hp
      · exact ⟨u, valV_pos rfl, p1⟩
      · obtain ⟨x, h1, h2⟩ := zip_hits n2 (Nat.succ.inj e1) (Nat.succ.inj e2) p2 p hp
        refine ⟨x, ?_, h2⟩
        rw [valV_neg (fun z => n1 (by rw [show k = p.1 from z]; exact (List.of_mem_zip hp).1))]
        exact h1
theorem same_pairs {D : Dn} {H : Hp} : ∀ {ws : List W} {vs us : List V}, RFs D H ws vs → RFs D H ws us → (∀ x ∈ ws, x.nd = true ∧ x.dat.depth ≤ 40) → Paired (SameD D.K H) vs us
  | [], _, _, h1, h2, _ => by
    rw [show _ = [] from h1, show _ = [] from h2]
    exact .nil
  | w :: ws, _, _, h1, h2, h => by
    obtain ⟨v, r, rfl, a1, a2⟩ := h1
    obtain ⟨u, q, rfl, b1, b2⟩ := h2
    have hw := h w List.mem_cons_self
    exact .cons ⟨w.dat, RF.dp w v a1, RF.dp w u b1, W.plain hw.1, hw.2⟩ (same_pairs a2 b2 fun x hx => h x (List.mem_cons_of_mem _ hx))
theorem op_eqTW {Z : Zt} {k : Nat} (hr : Room k Z.X.A) : OpS Z (compareOp .Eq) eqTW := fun G H w1 w2 v1 v2 O1 O2 w Q s r1 r2 e q => by
  by_cases ht : ∃ ks ws ks' ws', w1 = .fdc ks ws ∧ w2 = .fdc ks' ws'
  · obtain ⟨ks, ws, ks', ws', rfl, rfl⟩ := ht
    unfold eqTW at e
    dsimp only at e
    by_cases hc : ks = ks' ∧ ws = ws' ∧ ∀ x ∈ ws, x.nd = true ∧ x.dat.depth ≤ 40
    · rw [if_pos hc] at e
      cases e
      obtain ⟨rfl, rfl, hx⟩ := hc
      obtain ⟨_, a, vs, rfl, hl, ha, rs⟩ := r1
      obtain ⟨_, b, us, rfl, hl2, hb, rs2⟩ := r2
      have pr := same_pairs (RFs.mono s _ _ rs) (RFs.mono s _ _ rs2) hx
      refine ⟨fun x y H' Q' => x = .ref a ∧ y = .ref b ∧ H' = H ∧ Q' (.bl true) H, fun pins st σ H' x y v u Q' I rx ry hh => ?_, rfl, rfl, rfl, q.bl s⟩
      obtain ⟨rfl, rfl, rfl, hq⟩ := hh
      obtain ⟨_, _, vs', rel, _, _, _, _, _, _, _, _, ndk⟩ := dk_of I.hok (s _ _ ha)
      have nd : ks.Nodup := by
        have e1 : (ks.zip vs).map (·.1) = ks := List.map_fst_zip (Nat.le_of_eq hl)
        have e2 : ∀ {l : List (Key × V)} {m : List (Key × Value)}, KV l m → l.map (·.1) = m.map (·.1) := by
          intro l m h
          unfold KV at h
          induction h with
          | nil => rfl
          | cons h1 _ ih => rw [List.map_cons, List.map_cons, ih, h1.1]
        rw [← e1, e2 rel]
        exact ndk
      have hu := hr.units
      refine eqR_run I (A := Z.X.A) (F := SameD Z.D.K H') (by omega) (fun x y v u hxy r1 r2 => ?_) (.inr ⟨a, b, _, _, rfl, rfl, s _ _ ha, s _ _ hb, ?_, zip_hits nd hl hl2 pr⟩) rx ry _ _ ⟨.bl true, H', I, rfl, hq⟩
      · obtain ⟨d, d1, d2, hp, hd⟩ := hxy
        obtain ⟨as, x1⟩ := Dq.reads I _ _ v d1 r1
        obtain ⟨bs, x2⟩ := Dq.reads I _ _ u d2 r2
        have z := PySem.SeqAt.eqAt_plain d d Z.X.A.in1 st v u as bs x1 x2 hp hp (by rw [Nat.min_self]; show Z.X.A.units + 1 + _ < cLine; omega)
        rw [PySem.SeqAt.eqv_refl_plain d hp] at z
        exact z.eqP
      · rw [List.length_zip, List.length_zip, ← hl, ← hl2]
    · rw [if_neg hc] at e; cases e
  · have e' : eqW w1 w2 = some w := by
      unfold eqTW at e
      split at e
      · rename_i ks ws ks' ws'
        exact absurd ⟨ks, ws, ks', ws', rfl, rfl⟩ ht
      · exact e
    exact op_eqW hr G H w1 w2 v1 v2 O1 O2 w Q s r1 r2 e' q
/-! ### tables that are nobody's: {k: v}, dict(pairs) -/
def mDisp1 (mk mv : Sm W) : Sm W := fun env => match mk env with
  | .ok wk _ => (match mv env with
    | .ok wv _ => (match wKey wk with
      | some key => if wv.frz = true then .ok (.fdc [key] [wv]) env else .bad
      | none => .bad)
    | _ => .bad)
  | _ => .bad
theorem me_disp1 {Z : Zt} {pos : Pos} {k v : Expr} {mk mv : Sm W} {kk kv : Bool} (hk : ME Z k mk true kk) (hv : ME Z v mv true kv) : ME Z (.Dict [some k] [v] pos) (mDisp1 mk mv) true true := by
  refine pe_imp (pe_disp (pps_cons hk hv pps_nil) rfl rfl (by simp) (by show 1 ≤ 15; decide)) fun σ H Q q p hn => ?_
  obtain ⟨env, G, Os, s, q⟩ := q
  unfold mDisp1 at q
  have gp : G p = none := sub_none s.sub hn
  have st0 : Step G H [] G (upd H p (.dK [])) [p] := step_own hn
  have s0 : StOk Z.D G (upd H p (.dK [])) env σ Os := s.step (st0.less (O2 := []) fun _ z => nomatch z) (sub_upd s.sub hn)
  refine ⟨env, G, Os, s0, ?_⟩
  cases e1 : mk env with
  | bad => simp only [e1] at q
  | ex c env1 => simp only [e1] at q
  | ok wk env1 =>
    simp only [e1] at q
    intro x G1 H1 Os1 O1 s1 r1 o1 t1
    obtain ⟨rfl, rfl, t1⟩ := t1
    refine ⟨env1, G1, Os1, s1, ?_⟩
    cases e2 : mv env1 with
    | bad => simp only [e2] at q
    | ex c env2 => simp only [e2] at q
    | ok wv env2 =>
      simp only [e2] at q
      intro y G2 H2 Os2 O2 s2 r2 o2 t2
      obtain ⟨rfl, rfl, t2⟩ := t2
      cases e3 : wKey wk with
      | none => simp only [e3] at q
      | some key =>
        simp only [e3] at q
        by_cases hw : wv.frz = true
        · rw [if_pos hw] at q
          obtain ⟨rfl, rf⟩ := r2.toF hw
          have fk : wk.frz = true := by
            cases wk <;> first | rfl | (cases e3)
          obtain ⟨rfl, rk⟩ := r1.toF fk
          have ek : x = kV key := rk.key e3
          have t1' : Step G (upd H p (.dK [])) [] G1 H1 [] := t1.less fun _ z => nomatch z
          have t2' : Step G1 H1 [] G2 H2 [] := t2.less fun _ z => nomatch z
          have t12 := t1'.trans t2'
          have hp2 : H2 p = some (.dK []) := t12.keep p _ upd_same (fun z => nomatch z)
          have g2 : G2 p = none := t12.gnew p _ upd_same (fun z => nomatch z) (fun _ z => nomatch z) gp
          refine ⟨hp2, [(key, y)], by rw [ek]; rfl, by show 1 ≤ 15; decide, ?_⟩
          have em : mergeK [] [(key, y)] = [(key, y)] := rfl
          rw [em]
          have st : Step G H [] (upd G2 p (.dK [(key, y)])) (upd H2 p (.dK [(key, y)])) [] := by
            refine ⟨t12.mono.trans (sub_new g2), fun a o ha _ => ?_, fun a o ha _ nt hg => ?_, fun _ z => nomatch z⟩
            · have na : a ≠ p := ne_of_none ha hn
              rw [upd_ne na]
              exact t12.keep a o (by rw [upd_ne na]; exact ha) (fun z => nomatch z)
            · have na : a ≠ p := ne_of_none ha hn
              rw [upd_ne na]
              exact t12.gnew a o (by rw [upd_ne na]; exact ha) (fun z => nomatch z) nt hg
          have sub3 : Sub (upd G2 p (.dK [(key, y)])) (upd H2 p (.dK [(key, y)])) := sub_upd2 s2.sub
          have s3 := s.step st sub3
          exact q (.ref p) _ _ _ [] s3 ⟨rfl, p, [y], rfl, rfl, upd_same, y, [], rfl, RF.mono (sub_new g2) _ _ rf, rfl⟩ (OwnK.nil s3) ⟨rfl, rfl, st⟩
        · rw [if_neg hw] at q; exact q.elim
/-! ### dict(pairs), the last of each key -/
def mrgW : List Key → List W → List (Key × W) → List Key × List W
  | l, ws, [] => (l, ws)
  | l, ws, (k, w) :: r => mrgW (dPut l ws k w).1 (dPut l ws k w).2 r
def dictFW (w : W) : Option W := (lisW w).bind fun ws => (pairsD ws).bind fun q => some (.fdc (mrgW [] [] (q.1.zip q.2)).1 (mrgW [] [] (q.1.zip q.2)).2)
theorem mrg_ok {D : Dn} {G : Hp} : ∀ {ks : List Key} {xs : List W} {us : List V} {l : List Key} {ws : List W} {vs : List V}, RFs D G ws vs → l.length = vs.length → ks.length = us.length → RFs D G xs us →
    ∃ ys, mergeK (l.zip vs) (ks.zip us) = (mrgW l ws (ks.zip xs)).1.zip ys ∧ (mrgW l ws (ks.zip xs)).1.length = ys.length ∧ RFs D G (mrgW l ws (ks.zip xs)).2 ys
  | [], _, _, l, ws, vs, r, hl, _, _ => ⟨vs, rfl, hl, r⟩
  | k :: ks, [], us, l, ws, vs, r, hl, hk, rx => by
    rw [show us = [] from rx] at hk
    cases hk
  | k :: ks, x :: xs, _, l, ws, vs, r, hl, hk, rx => by
    obtain ⟨u, us, rfl, r1, r2⟩ := rx
    obtain ⟨zs, e1, e2, e3⟩ := dPut_ok (k := k) r r1 hl
    obtain ⟨ys, g1, g2, g3⟩ := mrg_ok (ks := ks) e3 e2 (Nat.succ.inj hk) r2
    refine ⟨ys, ?_, g2, g3⟩
    rw [List.zip_cons_cons]
    show mergeK (putK (l.zip vs) k u) (ks.zip us) = _
    rw [e1]
    exact g1
theorem me_dictF {Z : Zt} {e : Expr} {m : Sm W} {p k1 : Bool} {p1 p2 : Pos} (hc : Z.X.calm = true) (hm : Z.X.mg "dict" = none) (ha : ME Z e m p k1) (hg : Gl Z.X "dict" := by rfl) (hs : starEach [e] Z.X.env = (false, eval e Z.X.env) :: starEach [] Z.X.env := by rfl) : ME Z (.Call (.Name "dict" p1) [e] [] p2) (mUn dictFW m) p true :=
  me_t1 (fun G H w1 v1 O1 w Q s r e q => by
    unfold dictFW at e
    cases h : lisW w1 with
    | none => rw [h] at e; cases e
    | some ws =>
      rw [h, Option.bind_some] at e
      cases h2 : pairsD ws with
      | none => rw [h2] at e; cases e
      | some kx =>
        obtain ⟨ks, xs⟩ := kx
        rw [h2, Option.bind_some] at e
        cases e
        obtain ⟨a, vs, rfl, h3, h4⟩ := lisW_at s r h
        obtain ⟨ps, us, rfl, g1, g2, g3⟩ := pairs_at h4 h2
        refine ⟨_, call_dictP hc, a, ps, ks.zip us, rfl, h3, paired_imp (fun _ _ z => s.sqT z) g3, fun d nd => ?_⟩
        obtain ⟨ys, f1, f2, f3⟩ := mrg_ok (l := []) (ws := []) (vs := []) (ks := ks) (show RFs Z.D G [] [] from rfl) rfl g1 g2
        rw [show ([] : List Key).zip ([] : List V) = [] from rfl] at f1
        rw [f1]
        exact q (.ref d) _ _ [] (sub_upd2 s) ⟨rfl, d, ys, rfl, f2, upd_same, RFs.mono (sub_new (sub_none s nd)) _ _ f3⟩ List.nodup_nil (fun _ z => nomatch z) (step_frz s nd)) hg hm PyProof.Rows.boot_dict ha (by decide) (by decide) hs
end Ev

namespace Ev
open PySem PySem.Spec PyProof.Rows L2
/-! ### an error made of a text, as a value -/
theorem exM_ok {P : Program} {w : World} {H : Hp} {h : Heap} {a C t : Addr} {oe : Obj} {vs : Array Value} (e : h.get? a = some oe) (z : Zc (.ref C) none oe) (d : oe.data = .fields vs) (h0 : vs[0]? = some (.ref t)) : ObjOk P w H h a (ExM C a t) :=
  ⟨⟨oe, vs, e, z, d, h0⟩, ⟨oe, e⟩, fun _ _ ⟨o, v, q, r⟩ k => ⟨o, v, k o q, r⟩⟩
theorem Un.laid2 {fs ex : List Addr} {H : Hp} {h h' : Heap} {a t : Addr} {o u : HO} (k : ∀ b x, h.get? b = some x → h'.get? b = some x) (hp : h.get? a = none) (ht : h.get? t = none) (hn : H a = none) (hm : H t = none) : Un fs ex H (upd (upd H t u) a o) h h' where
  keep := fun b x q _ _ _ => k b x q
  slot := fun b x q _ _ _ => ⟨x.slots, k b x q⟩
  free := fun b x q n _ => by rw [upd_ne (fun z => by rw [z, hp] at q; cases q), upd_ne (fun z => by rw [z, ht] at q; cases q)]; exact n
  there := fun b x q _ => ⟨x, k b x q⟩
  tups := fun b xs q => by rw [upd_ne (ne_of_none q hn), upd_ne (ne_of_none q hm)]; exact q
  frzs := fun b x xs q => by rw [upd_ne (ne_of_none q hn), upd_ne (ne_of_none q hm)]; exact q
  tbls := fun b ps q => ⟨#[], by rw [upd_ne (ne_of_none q hn), upd_ne (ne_of_none q hm), q]; simp⟩
theorem pe_excM {X : Cx} {C : Addr} {bmB : List Value} {B newId initId : String} {x : Str} {e : Expr} {ta : TE} {p pos : Pos} (F : ExcBaseFacts B newId initId bmB) (q : PySem.W.excIn X.K C bmB newId = true) (gC : X.mg x = some (.ref C)) (kC : PySem.W.keepIn X.K (.ref C) = true) (hg : Gl X x)
    (he : PE X e ta) (hs : starEach [e] X.env = (false, eval e X.env) :: starEach [] X.env := by rfl) (hdb : (x == ("__debug__" : Str)) = false := by decide) :
    PE X (.Call (.Name x p) [e] [] pos) (fun σ H Q => ta σ H fun v H1 => ∀ a t, H1 a = none → H1 t = none → a ≠ t → Q (.ref a) (upd (upd H1 t (.tup [v])) a (ExM C a t))) := by
  refine ⟨fun pins s σ H Q I h => ?_⟩
  refine wpAny_Call_Name_kw (ld_glob I hg gC ?_ hdb)
  refine PySem.W.callWith_K (h₀ := X.base) I.ok.mod.kin kC ?_ hs (by rfl)
  rw [hs]
  show wpAny _ _ (spliced ((false, eval e X.env) :: backTo pos (starEach [] X.env))) _ _ s
  refine Calls.spliced_cons (thn (he.run pins s σ H _ I h) fun u s1 ⟨v, H1, I1, r1, q1⟩ => ?_)
  refine Calls.spliced_nil ⟨I1.kIn, ?_⟩
  show wpAny _ _ (call (.ref C) [u]) _ _ _
  obtain ⟨bm, N, nm, qn, bs, hdct, sn, sub, ab, col, dd, k0, k1, k2, k3, k5, mN, hC, hN, hni, T⟩ := exc_obj I1.kIn q
  refine wpAny_call_exc_subT F T hC hN hni (fun h' a hm => ?_) (by show 1 ≤ sizeLine; rw [sizeLine_eq]; omega)
  have hn : H1 a = none := I1.hok.gone hm.new
  obtain ⟨t, ht, ht0, htt⟩ := hm.there
  have hnt : H1 t = none := I1.hok.gone ht0
  have hat : a ≠ t := fun z => by
    rw [z, htt] at ht
    cases ht
  have okT : ObjOk X.prog X.w (upd H1 t (.tup [v])) h' t (.tup [v]) := ⟨by show 1 ≤ sizeLine; rw [sizeLine_eq]; omega, [u], .cons r1 .nil, _, htt, rfl, _, rfl⟩
  have hok2 := (I1.hok.laidN hm.keeps hnt okT).laidN (a := a) (o := ExM C a t) (fun _ _ z => z) (by rw [upd_ne hat]; exact hn) (exM_ok ht ⟨rfl, rfl⟩ rfl rfl)
  exact ⟨.ref a, upd (upd H1 t (.tup [v])) a (ExM C a t), I1.un (Un.laid2 hm.keeps hm.new ht0 hn hnt) hok2, rfl, q1 a t hn hnt hat⟩
/-- what an error made of a text is -/
def XV (D : Dn) (G : Hp) (q : Nat × Str) (v : V) : Prop := ∃ a t, v = .ref a ∧ G a = some (ExM (D.CA q.1) a t) ∧ SqT D.K G t [.str q.2]
theorem XV.mono {D : Dn} {G G' : Hp} {q : Nat × Str} {v : V} (s : Sub G G') (h : XV D G q v) : XV D G' q v := by
  obtain ⟨a, t, rfl, h1, h2⟩ := h
  exact ⟨a, t, rfl, s _ _ h1, s.sqT h2⟩
theorem xvs_mono {D : Dn} {G G' : Hp} (s : Sub G G') : ∀ {qs : List (Nat × Str)} {vs : List V}, Paired (XV D G) qs vs → Paired (XV D G') qs vs
  | _, _, .nil => .nil
  | _, _, .cons a r => .cons (a.mono s) (xvs_mono s r)
def TEx (D : Dn) (qs : List (Nat × Str)) : TA := fun σ H Q => ∃ (env : List W) (G : Hp) (Os : List (List Addr)), StOk D G H env σ Os ∧ ∀ vs G' H', StOk D G' H' env σ Os → Paired (XV D G') qs vs → Step G H [] G' H' [] → Q vs H'
abbrev MXs (Z : Zt) (es : List Expr) (qs : List (Nat × Str)) : Prop := PA Z.X es (TEx Z.D qs)
theorem mxs_nil {Z : Zt} : MXs Z [] [] := pa_imp pa_nil fun σ H Q q => by
  obtain ⟨env, G, Os, s, q⟩ := q
  exact q [] G H s .nil (Step.refl _ _ _)
theorem mxs_cons {Z : Zt} {x m : Str} {c j : Nat} {p p2 pos : Pos} {es : List Expr} {qs : List (Nat × Str)} (C : ClsT Z.X.K Z.X.mg Z.CA x c) (r : MXs Z es qs) (hg : Gl Z.X x := by rfl) (hdb : (x == ("__debug__" : Str)) = false := by decide)
    (hs0 : starEach [.Constant (.str m) j p2] Z.X.env = (false, eval (.Constant (.str m) j p2) Z.X.env) :: starEach [] Z.X.env := by rfl)
    (hs : starEach (.Call (.Name x p) [.Constant (.str m) j p2] [] pos :: es) Z.X.env = (false, eval (.Call (.Name x p) [.Constant (.str m) j p2] [] pos) Z.X.env) :: starEach es Z.X.env := by rfl) : MXs Z (.Call (.Name x p) [.Constant (.str m) j p2] [] pos :: es) ((c, m) :: qs) := by
  refine pa_imp (pa_cons (pe_excM PySem.F.excBase_ValueError C.x C.g C.k hg pe_str hs0 hdb) r hs) fun σ H Q q => ?_
  obtain ⟨env, G, Os, s, q⟩ := q
  show ∀ a t, H a = none → H t = none → a ≠ t → _
  intro a t na nt hat
  have st1 := step_frz (o := .tup [.str m]) s.sub nt
  have s1 := s.step st1 (sub_upd2 s.sub)
  have st2 := step_frz (p := a) (o := ExM (Z.CA c) a t) s1.sub (by rw [upd_ne hat]; exact na)
  have s2 := s1.step st2 (sub_upd2 s1.sub)
  refine ⟨env, _, Os, s2, fun vs G' H' s' pr st => ?_⟩
  refine q (.ref a :: vs) G' H' s' (.cons ?_ pr) ((st1.trans st2).trans st)
  refine ⟨a, t, rfl, st.mono _ _ upd_same, st.mono.sqT (st2.mono.sqT ?_)⟩
  exact .inl (.inl upd_same)
theorem StOk.putX {D : Dn} {G H : Hp} {env : List W} {σ : L2.St} {Os : List (List Addr)} {q : Nat × Str} {v : V} (i : Nat) (s : StOk D G H env σ Os) (r : XV D G q v) : StOk D G H (env.set i (.exm q.1 q.2)) (σ.set i (some v)) (Os.set i []) :=
  ⟨Sl.set (w := .exm q.1 q.2) (s := some v) (O := []) (.inl ⟨v, rfl, (show RO D G H (.exm q.1 q.2) v [] from ⟨rfl, r⟩)⟩) i s.sl, s.sub, fun a ha => s.gn a (flat_sub a ha), flat_nd s.nd⟩
def mForX (i : Nat) (mb : Sm Fl) (kill : List Nat) : List (Nat × Str) → Sm Fl
  | [], env => .ok .nx env
  | q :: qs, env => match mb (env.set i (.exm q.1 q.2)) with
    | .ok .nx env' => mForX i mb kill qs (killE kill env')
    | _ => .bad
/-- for x in [X(m), ..] -/
theorem ms_forX {Z : Zt} {x : Str} {es : List Expr} {body : List Stmt} {mb : Sm Fl} {qs : List (Nat × Str)} {i : Nat} {pos p2 p3 : Pos} (kill : List Nat) (hp : PassesOwn (model Z.X.prog Z.X.w) Z.X.A Z.X.env Z.X.xe) (hc : Z.X.calm = true) (h : MXs Z es qs) (hb : MSs Z body mb) (hN : Z.X.N.Nodup)
    (hl : qs.length ≤ 100 := by decide) (hi : Z.X.N[i]? = some x := by rfl) (hx : Loc Z.X.env.scope x := by first | exact Or.inl rfl | exact Or.inr rfl) (hio : Z.io i = false := by rfl)
    (hf : Z.X.fn x = true ∨ Z.X.env.scope.names.lookup x = some .local := by first | exact .inl rfl | exact .inr rfl | assumption)
    (hs : ∀ y, foldedSetIterable (.List es p3) Z.X.env y = pure y := by intro _; rfl) : MS Z (.For (.Name x p2) (.List es p3) body [] pos) (mForX i mb kill qs) :=
  ps_imp (ps_for hp hc (pi_list (pe_lst h)) (pg_name hN hi hx hf) hb hs) fun E σ H q => by
  obtain ⟨env, G, Os, s, q⟩ := q
  refine ⟨env, G, Os, s, fun vs G0 H0 s0 pr st0 => ?_⟩
  have ln : qs.length = vs.length := pr.length
  refine ⟨by have := sizeLine_eq; omega, fun p hp0 => ?_⟩
  have st1 := step_frz (o := .lst vs) s0.sub hp0
  have s1 := s0.step st1 (sub_upd2 s0.sub)
  have t1 : Step G H Os.flatten (upd G0 p (.lst vs)) (upd H0 p (.lst vs)) Os.flatten := by
    have z := (st0.trans st1).pure0 (O := Os.flatten)
    rwa [List.append_nil] at z
  have q1 := PostS.on t1 (IoS.refl _) q
  have hG : (upd G0 p (.lst vs)) p = some (.lst vs) := upd_same
  obtain ⟨G1, hG1⟩ : ∃ G1, G1 = upd G0 p (.lst vs) := ⟨_, rfl⟩
  obtain ⟨H1, hH1⟩ : ∃ H1, H1 = upd H0 p (.lst vs) := ⟨_, rfl⟩
  have pr1 : Paired (XV Z.D G1) qs vs := by
    rw [hG1]
    exact xvs_mono st1.mono pr
  rw [← hG1] at s1 q1 hG
  rw [← hH1] at s1 q1
  refine ⟨p, rfl, ⟨vs, by rw [← hH1]; exact SqL.of (s1.sub _ _ hG)⟩, ?_⟩
  rw [← hH1]
  refine ⟨fun i' m σ' H' => m = qs.length - i' ∧ i' ≤ qs.length ∧ ∃ env' G' Os', StOk Z.D G' H' env' σ' Os' ∧ Sub G1 G' ∧ PostS Z.D Z.W Z.io E σ' G' H' Os' (mForX i mb kill (qs.drop i') env'),
    ⟨qs.length, rfl, Nat.zero_le _, env, G1, Os, s1, Sub.refl _, q1⟩, ?_⟩
  rintro k m σ2 H2 ⟨rfl, hk, env2, G2, Os2, s2, sub, q2⟩
  have hs2 : SqL Z.D.K H2 p vs := SqL.of (s2.sub _ _ (sub _ _ hG))
  by_cases hlt : k < qs.length
  · obtain ⟨v, hv, xv⟩ : ∃ v, vs[k]? = some v ∧ XV Z.D G1 qs[k] v := by
      have g : ∀ {as : List (Nat × Str)} {bs : List V} (k : Nat) (hk : k < as.length), Paired (XV Z.D G1) as bs → ∃ v, bs[k]? = some v ∧ XV Z.D G1 as[k] v := by
        intro as
        induction as with
        | nil => intro bs k hk; cases hk
        | cons a as ih =>
          intro bs k hk pr
          cases pr with
          | cons p1 p2 =>
            cases k with
            | zero => exact ⟨_, rfl, p1⟩
            | succ k => exact ih k (Nat.lt_of_succ_lt_succ hk) p2
      exact g k hlt pr1
    rw [List.drop_eq_getElem_cons hlt] at q2
    refine .inr ⟨⟨vs, v, hs2, hv⟩, fun σ3 H3 => ∃ env3 G3 Os3, StOk Z.D G3 H3 env3 σ3 Os3 ∧ Sub G1 G3 ∧ PostS Z.D Z.W Z.io E σ3 G3 H3 Os3 (mForX i mb kill (qs.drop (k + 1)) env3), fun σ3 H3 ⟨env3, G3, Os3, s3, sub3, q3⟩ => ⟨qs.length - (k + 1), by omega, rfl, hlt, env3, G3, Os3, s3, sub3, q3⟩, fun v' H3 y => ?_⟩
    obtain ⟨rfl, y⟩ := y
    have ev : v' = v := Option.some.inj ((y vs hs2).symm.trans hv)
    subst ev
    have s4 := s2.putX (q := qs[k]) (v := v') i (xv.mono sub)
    unfold mForX at q2
    show TSx Z.D Z.W Z.io mb _ _ _
    refine ⟨_, G2, _, s4, ?_⟩
    cases eb : mb (env2.set i (.exm (qs[k]).1 (qs[k]).2)) with
    | bad => simp only [eb] at q2; exact q2
    | ex c env5 => simp only [eb] at q2; exact q2.elim
    | ok fl env5 =>
      cases fl with
      | nx =>
        simp only [eb] at q2
        intro σ' G' H' Os' s' t' io'
        have t4 : ∀ Hx : Hp, Step G2 Hx Os2.flatten G2 Hx (Os2.set i []).flatten := fun Hx => (Step.refl G2 Hx Os2.flatten).less fun a ha => flat_sub a ha
        refine ⟨killE kill env5, G', killO kill Os', s'.kill kill, sub.trans t'.mono, ?_⟩
        exact PostS.on (((t4 _).trans t').less fun a ha => killO_sub a ha) ((IoS.set hio).trans io') q2
      | bk => simp only [eb] at q2; exact q2.elim
      | ct => simp only [eb] at q2; exact q2.elim
      | rt w => simp only [eb] at q2; exact q2.elim
  · have e2 : k = qs.length := by omega
    subst e2
    rw [List.drop_length] at q2
    exact .inl ⟨⟨vs, hs2, by rw [← ln]; exact Nat.le_refl _⟩, q2 σ2 G2 _ Os2 s2 (Step.refl _ _ _) (IoS.refl _)⟩
/-! ### str(an error) -/
def strEW (n : Nat) : W → Option W
  | .exm c m => if c < n then some (.str m) else none
  | _ => none
theorem call_str_exm {X : Cx} (hu : X.A.units + 2 < cLine) : CallR X (.type "str") (fun xs H Q => ∃ (D a t : Addr) (m : Str), xs = [.ref a] ∧ H a = some (ExM D a t) ∧ SqT X.K H t [.str m] ∧ PySem.W.findIn X.K (.ref D) "__str__" = some (some (.builtin "BaseException.__str__")) ∧ PySem.W.subIn X.K (.ref D) (.type "BaseException") = some true ∧ Q (.str m) H) := by
  intro pins s σ H xs us Q I r h
  obtain ⟨D, a, t, m, rfl, ha, ht, hf, hb, q⟩ := h
  cases r with
  | cons rx rr =>
    cases rr
    cases rx
    obtain ⟨⟨oe, vs, h1, h2, h3, h4⟩, _⟩ := I.hok a _ ha
    obtain ⟨its, rv, ⟨o, ho, hc, n, hd⟩, _⟩ := I.tuple ht
    cases rv with
    | cons r1 r2 =>
      cases r2
      obtain ⟨tk, rfl⟩ := r1
      exact PySem.P.str_of_C_one hu ⟨I.kIn, oe, vs, h1, h2.1, h3, h4⟩ ⟨o, n, ho, hc, hd⟩ hf hb ⟨.str m, H, I, ⟨tk, rfl⟩, q⟩
theorem me_strE {Z : Zt} {e : Expr} {m : Sm W} {p k1 : Bool} {k : Nat} {p1 p2 : Pos} (n : Nat) (hr : Room k Z.X.A) (hm : Z.X.mg "str" = none)
    (hf : ∀ c, c < n → PySem.W.findIn Z.X.K (.ref (Z.CA c)) "__str__" = some (some (.builtin "BaseException.__str__")) ∧ PySem.W.subIn Z.X.K (.ref (Z.CA c)) (.type "BaseException") = some true) (ha : ME Z e m p k1)
    (hg : Gl Z.X "str" := by rfl) (hs : starEach [e] Z.X.env = (false, eval e Z.X.env) :: starEach [] Z.X.env := by rfl) : ME Z (.Call (.Name "str" p1) [e] [] p2) (mUn (strEW n) m) p true :=
  me_t1 (fun G H w1 v1 O1 w Q s r e q => by
    cases w1 with
    | exm c m =>
      have e' : (if c < n then some (W.str m) else none) = some w := e
      by_cases hc : c < n
      · rw [if_pos hc] at e'
        cases e'
        obtain ⟨_, a, t, rfl, h1, h2⟩ := r
        have hu := hr.units
        exact ⟨_, call_str_exm (by omega), Z.CA c, a, t, m, rfl, s _ _ h1, s.sqT h2, (hf c hc).1, (hf c hc).2, q.str s⟩
      · rw [if_neg hc] at e'; cases e'
    | _ => cases e) hg hm PyProof.Rows.boot_str ha (by decide) (by decide) hs
end Ev

namespace Ev
open PySem PySem.Spec L2
/-! ### the product of two great numbers -/
noncomputable instance {i j : Int} : Decidable (CMulW i j) := Classical.propDecidable _
noncomputable def mulXW : W → W → Option W
  | .int i, .int j => if CMulW i j then some (.int (i * j)) else none
  | _, _ => none
theorem w_mulX (i j : Int) (h : CMulW i j) : mulXW (.int i) (.int j) = some (.int (i * j)) := if_pos h
theorem op_mulXW {Z : Zt} : OpS Z (binaryOp .Mult) mulXW := fun G H w1 w2 v1 v2 O1 O2 w Q s r1 r2 e q => by
  cases w1 with
  | int i =>
    cases w2 with
    | int j =>
      have e' : (if CMulW i j then some (W.int (i * j)) else none) = some w := e
      by_cases hl : CMulW i j
      · rw [if_pos hl] at e'
        cases e'
        obtain ⟨_, rfl⟩ := r1
        obtain ⟨_, rfl⟩ := r2
        exact ⟨_, L2.op_mulW, i, j, rfl, rfl, hl, q.int s⟩
      · rw [if_neg hl] at e'; cases e'
    | _ => cases e
  | _ => cases e
end Ev

namespace Ev
open PySem PySem.Spec L2
def topS (i : Nat) : Stmt := PySem.Challenge.pw_evenlots_k01_what_are_rows.main.body.getD i (.Pass ⟨0, 0, 0, 0⟩)
theorem boot_VE : bootBuiltins "ValueError" = some (.type "ValueError") := by decide +kernel
section
variable {P : Program} {w : World} {K : PySem.W.Frag} {mg : Str → Option Value} {base : Heap} {CA : Nat → Addr}
/-! ### is_whole_number -/
abbrev s_is_whole_number : Stmt := topS 4
abbrev N_is_whole_number : List Str := ["thing"]
theorem sc_is_whole_number : FnScope N_is_whole_number ["thing"] (defScope s_is_whole_number) := ⟨rfl, rfl, rfl, by decide +kernel, rfl, by decide +kernel, by decide +kernel⟩
noncomputable def b_is_whole_number : Sm Fl := sRet true (mAndV (mUn (isiW ["int"]) (mVar 0)) (mNotV (mUn (isiW ["bool"]) (mVar 0))))
noncomputable def f_is_whole_number : Fn := fnSem 1 [false] b_is_whole_number
theorem w_is_whole_number {f : Addr} {fd : FuncData} (F : Fun K "is_whole_number" "is_whole_number" s_is_whole_number f fd) (g : mg "is_whole_number" = some (.ref f)) (hb : Binds K fd ["thing"] []) (m_bool : mg "bool" = none) (m_int : mg "int" = none) (m_isinstance : mg "isinstance" = none) : FnT P w K mg base CA "is_whole_number" 1 1 f_is_whole_number :=
  fnt_body F g hb sc_is_whole_number rfl rfl rfl fun cdv A outer s H E hr => (mss_one (ms_ret (me_and (p1 := true) (p2 := true) (me_isi ["int"] (ca_ty (by rfl) m_int PyProof.Rows.boot_int) m_isinstance (me_var 0 (pv 0))) (me_one (me_not (me_isi ["bool"] (ca_ty (by rfl) m_bool PyProof.Rows.boot_bool) m_isinstance (me_var 0 (pv 0))))))))
/-! ### is_tag -/
abbrev s_is_tag : Stmt := topS 5
abbrev N_is_tag : List Str := ["thing", "sign"]
theorem sc_is_tag : FnScope N_is_tag ["thing"] (defScope s_is_tag) := ⟨rfl, rfl, rfl, by decide +kernel, rfl, by decide +kernel, by decide +kernel⟩
noncomputable def c_is_tag_1 : Sm W := mComp true (tgN 1) (toB (mBin (inW true) true (mVar 1) (mC (.str "abcdefghijklmnopqrstuvwxyz")))) (mVar 1) [1] (iChr (mVar 0))
noncomputable def b_is_tag : Sm Fl := sSeq (sIf (mOr (mNot (toB (mUn (isiW ["str"]) (mVar 0)))) (mNot (toB (mChain leXW leXW (mC (.int 1)) (mUn lenW (mVar 0)) (mC (.int 8)))))) (sRet true (mC (.bl false))) (sNil)) (sRet true (mBin eqW true (c_is_tag_1) (mArgs (lstW true) (mNil))))
noncomputable def f_is_tag : Fn := fnSem 2 [false] b_is_tag
theorem w_is_tag {f : Addr} {fd : FuncData} (F : Fun K "is_tag" "is_tag" s_is_tag f fd) (g : mg "is_tag" = some (.ref f)) (hb : Binds K fd ["thing"] []) (m_isinstance : mg "isinstance" = none) (m_len : mg "len" = none) (m_str : mg "str" = none) {t_LETTERS : Tok} (c_LETTERS : mg "LETTERS" = some (.str "abcdefghijklmnopqrstuvwxyz" t_LETTERS)) {t_LONGEST_TAG : Tok} (c_LONGEST_TAG : mg "LONGEST_TAG" = some (.int 8 t_LONGEST_TAG)) : FnT P w K mg base CA "is_tag" 1 1 f_is_tag :=
  fnt_body F g hb sc_is_tag rfl rfl rfl fun cdv A outer s H E hr => (mss_cons (ms_if (mt_w (mw_or (p1 := true) (p2 := true) (mt_not (mt_val (me_isi ["str"] (ca_ty (by rfl) m_str PyProof.Rows.boot_str) m_isinstance (me_var 0 (pv 0))))) (mw_or1 (mt_not (mt_chain (op_leXW hr) (op_leXW hr) me_int (me_len m_len (me_var 0 (pv 0))) (me_globI (by rfl) (c_LONGEST_TAG))))))) (mss_one (ms_ret me_bl)) mss_nil) (mss_one (ms_ret (me_cmp (p1 := true) (p2 := true) (k1 := true) (op_eqW hr) (me_lc rfl sc_is_tag.nd (own := [("sign", 1)]) (p := true) (pt := true) (pe := true) (mi_chr (me_var 0 (pv 0))) (show BlkOk N_is_tag (defScope s_is_tag) _ _ from blkOk_by (own := [("sign", 1)]) (by decide +kernel)) (fun _ _ _ _ _ => (mg_name (i := 1) sc_is_tag.nd)) (fun _ _ _ _ _ => (mts_one (mt_cmp (p1 := true) (p2 := true) (k1 := false) (op_notInW hr) (me_var 1 (pv 1)) (me_globS (by rfl) (c_LETTERS))))) (fun _ _ _ _ _ => (me_var 1 (pv 1)))) (me_lst true ma_nil)))))
/-! ### is_keyed -/
abbrev s_is_keyed : Stmt := topS 6
abbrev N_is_keyed : List Str := ["thing"]
theorem sc_is_keyed : FnScope N_is_keyed ["thing"] (defScope s_is_keyed) := ⟨rfl, rfl, rfl, by decide +kernel, rfl, by decide +kernel, by decide +kernel⟩
noncomputable def b_is_keyed : Sm Fl := sRet true (mAndV (mUn (isiW ["tuple"]) (mVar 0)) (mAndV (mBin eqW true (mUn lenW (mVar 0)) (mC (.int 2))) (mAndV (mCallP f_is_whole_number (Sm.bind (mCons (mBin ixW true (mVar 0) (mC (.int 0))) (mNil)) fun ws => if ws.length = 1 then Sm.ret ws else fun _ => .bad)) (mCallP f_is_tag (Sm.bind (mCons (mBin ixW true (mVar 0) (mC (.int 1))) (mNil)) fun ws => if ws.length = 1 then Sm.ret ws else fun _ => .bad)))))
noncomputable def f_is_keyed : Fn := fnSem 1 [false] b_is_keyed
theorem w_is_keyed {f : Addr} {fd : FuncData} (F : Fun K "is_keyed" "is_keyed" s_is_keyed f fd) (g : mg "is_keyed" = some (.ref f)) (hb : Binds K fd ["thing"] []) (m_isinstance : mg "isinstance" = none) (m_len : mg "len" = none) (m_tuple : mg "tuple" = none) (F_is_whole_number : FnT P w K mg base CA "is_whole_number" 1 1 f_is_whole_number) (F_is_tag : FnT P w K mg base CA "is_tag" 1 1 f_is_tag) : FnT P w K mg base CA "is_keyed" 1 2 f_is_keyed :=
  fnt_body F g hb sc_is_keyed rfl rfl rfl fun cdv A outer s H E hr => (mss_one (ms_ret (me_and (p1 := true) (p2 := true) (me_isi ["tuple"] (ca_ty (by rfl) m_tuple PyProof.Rows.boot_tuple) m_isinstance (me_var 0 (pv 0))) (me_and (p1 := true) (p2 := true) (me_cmp (p1 := true) (p2 := true) (k1 := true) (op_eqW hr) (me_len m_len (me_var 0 (pv 0))) me_int) (me_and (p1 := true) (p2 := true) (me_callP F_is_whole_number (hr.mono (by decide)) zf_takes (ma_cons (p1 := true) (p2 := true) (me_ix (p1 := true) (p2 := true) (k1 := false) (me_var 0 (pv 0)) me_int) ma_nil) (by rfl)) (me_one (me_callP F_is_tag (hr.mono (by decide)) zf_takes (ma_cons (p1 := true) (p2 := true) (me_ix (p1 := true) (p2 := true) (k1 := false) (me_var 0 (pv 0)) me_int) ma_nil) (by rfl))))))))
/-! ### is_row -/
abbrev s_is_row : Stmt := topS 7
abbrev N_is_row : List Str := ["thing", "one"]
theorem sc_is_row : FnScope N_is_row ["thing"] (defScope s_is_row) := ⟨rfl, rfl, rfl, by decide +kernel, rfl, by decide +kernel, by decide +kernel⟩
noncomputable def c_is_row_1 : Sm W := mComp true (tgN 1) (mNot (toB (mCallP f_is_keyed (Sm.bind (mCons (mVar 1) (mNil)) fun ws => if ws.length = 1 then Sm.ret ws else fun _ => .bad)))) (mVar 1) [1] (iLst (mVar 0))
noncomputable def b_is_row : Sm Fl := sRet true (mAndV (mUn (isiW ["list"]) (mVar 0)) (mBin eqW true (c_is_row_1) (mArgs (lstW true) (mNil))))
noncomputable def f_is_row : Fn := fnSem 2 [false] b_is_row
theorem w_is_row {f : Addr} {fd : FuncData} (F : Fun K "is_row" "is_row" s_is_row f fd) (g : mg "is_row" = some (.ref f)) (hb : Binds K fd ["thing"] []) (m_isinstance : mg "isinstance" = none) (m_list : mg "list" = none) (F_is_keyed : FnT P w K mg base CA "is_keyed" 1 2 f_is_keyed) : FnT P w K mg base CA "is_row" 1 3 f_is_row :=
  fnt_body F g hb sc_is_row rfl rfl rfl fun cdv A outer s H E hr => (mss_one (ms_ret (me_and (p1 := true) (p2 := true) (me_isi ["list"] (ca_ty (by rfl) m_list PyProof.Rows.boot_list) m_isinstance (me_var 0 (pv 0))) (me_one (me_cmp (p1 := true) (p2 := true) (k1 := true) (op_eqW hr) (me_lc rfl sc_is_row.nd (own := [("one", 1)]) (p := true) (pt := true) (pe := true) (mi_list (me_var 0 (pv 0))) (show BlkOk N_is_row (defScope s_is_row) _ _ from blkOk_by (own := [("one", 1)]) (by decide +kernel)) (fun _ _ _ _ _ => (mg_name (i := 1) sc_is_row.nd)) (fun _ _ _ _ _ => (mts_one (mt_not (mt_val (me_callP F_is_keyed (hr.mono (by decide)) blk_takes (ma_cons (p1 := true) (p2 := true) (me_var 1 (pv 1)) ma_nil) (by rfl)))))) (fun _ _ _ _ _ => (me_var 1 (pv 1)))) (me_lst true ma_nil))))))
/-! ### are_rows -/
abbrev s_are_rows : Stmt := topS 8
abbrev N_are_rows : List Str := ["thing", "row"]
theorem sc_are_rows : FnScope N_are_rows ["thing"] (defScope s_are_rows) := ⟨rfl, rfl, rfl, by decide +kernel, rfl, by decide +kernel, by decide +kernel⟩
noncomputable def c_are_rows_1 : Sm W := mComp true (tgN 1) (mNot (toB (mCallP f_is_row (Sm.bind (mCons (mVar 1) (mNil)) fun ws => if ws.length = 1 then Sm.ret ws else fun _ => .bad)))) (mVar 1) [1] (iLst (mVar 0))
noncomputable def b_are_rows : Sm Fl := sSeq (sIf (mOr (mNot (toB (mUn (isiW ["list"]) (mVar 0)))) (mNot (toB (mChain leXW leXW (mC (.int 1)) (mUn lenW (mVar 0)) (mC (.int 6)))))) (sRet true (mC (.bl false))) (sNil)) (sRet true (mBin eqW true (c_are_rows_1) (mArgs (lstW true) (mNil))))
noncomputable def f_are_rows : Fn := fnSem 2 [false] b_are_rows
theorem w_are_rows {f : Addr} {fd : FuncData} (F : Fun K "are_rows" "are_rows" s_are_rows f fd) (g : mg "are_rows" = some (.ref f)) (hb : Binds K fd ["thing"] []) (m_isinstance : mg "isinstance" = none) (m_len : mg "len" = none) (m_list : mg "list" = none) {t_MOST_HANDS : Tok} (c_MOST_HANDS : mg "MOST_HANDS" = some (.int 6 t_MOST_HANDS)) (F_is_row : FnT P w K mg base CA "is_row" 1 3 f_is_row) : FnT P w K mg base CA "are_rows" 1 4 f_are_rows :=
  fnt_body F g hb sc_are_rows rfl rfl rfl fun cdv A outer s H E hr => (mss_cons (ms_if (mt_w (mw_or (p1 := true) (p2 := true) (mt_not (mt_val (me_isi ["list"] (ca_ty (by rfl) m_list PyProof.Rows.boot_list) m_isinstance (me_var 0 (pv 0))))) (mw_or1 (mt_not (mt_chain (op_leXW hr) (op_leXW hr) me_int (me_len m_len (me_var 0 (pv 0))) (me_globI (by rfl) (c_MOST_HANDS))))))) (mss_one (ms_ret me_bl)) mss_nil) (mss_one (ms_ret (me_cmp (p1 := true) (p2 := true) (k1 := true) (op_eqW hr) (me_lc rfl sc_are_rows.nd (own := [("row", 1)]) (p := true) (pt := true) (pe := true) (mi_list (me_var 0 (pv 0))) (show BlkOk N_are_rows (defScope s_are_rows) _ _ from blkOk_by (own := [("row", 1)]) (by decide +kernel)) (fun _ _ _ _ _ => (mg_name (i := 1) sc_are_rows.nd)) (fun _ _ _ _ _ => (mts_one (mt_not (mt_val (me_callP F_is_row (hr.mono (by decide)) blk_takes (ma_cons (p1 := true) (p2 := true) (me_var 1 (pv 1)) ma_nil) (by rfl)))))) (fun _ _ _ _ _ => (me_var 1 (pv 1)))) (me_lst true ma_nil)))))
/-! ### _law_pool -/
abbrev s__law_pool : Stmt := topS 17
abbrev N__law_pool : List Str := ["script", "k", "cell"]
theorem sc__law_pool : FnScope N__law_pool ["script", "k"] (defScope s__law_pool) := ⟨rfl, rfl, rfl, by decide +kernel, rfl, by decide +kernel, by decide +kernel⟩
noncomputable def b__law_pool : Sm Fl := sSeq (sSet 2 true (mC (.int 0))) (sSeq (sIf (toB (mBin ltW true (mVar 1) (mUn lenW (mVar 0)))) (sSet 2 true (mBin ixW true (mVar 0) (mVar 1))) (sNil)) (sSeq (sIf (toB (mBin geXW true (mVar 2) (mBin powW true (mC (.int 10)) (mC (.int 18))))) (sRet true (mArgs (lstW true) (mCons (mBin subW true (mVar 2) (mBin powW true (mC (.int 10)) (mC (.int 18)))) (mCons (mC (.int 1)) (mCons (mC (.int 0)) (mNil)))))) (sNil)) (sRet true (mArgs (lstW true) (mCons (mVar 2) (mCons (mC (.int 0)) (mCons (mBin (mulW false) true (mC (.int 41)) (mVar 1)) (mNil))))))))
noncomputable def f__law_pool : Fn := fnSem 3 [false, false] b__law_pool
theorem w__law_pool {f : Addr} {fd : FuncData} (F : Fun K "_law_pool" "_law_pool" s__law_pool f fd) (g : mg "_law_pool" = some (.ref f)) (hb : Binds K fd ["script", "k"] []) (m_len : mg "len" = none) : FnT P w K mg base CA "_law_pool" 2 1 f__law_pool :=
  fnt_body F g hb sc__law_pool rfl rfl rfl fun cdv A outer s H E hr => (mss_cons (ms_set (i := 2) sc__law_pool.nd me_int) (mss_cons (ms_if (mt_cmp (p1 := true) (p2 := true) (k1 := false) (op_ltW hr) (me_var 1 (pv 1)) (me_len m_len (me_var 0 (pv 0)))) (mss_one (ms_set (i := 2) sc__law_pool.nd (me_ix (p1 := true) (p2 := true) (k1 := false) (me_var 0 (pv 0)) (me_var 1 (pv 1))))) mss_nil) (mss_cons (ms_if (mt_cmp (p1 := true) (p2 := true) (k1 := false) (op_geXW hr) (me_var 2 (pv 2)) (me_op (p1 := true) (p2 := true) (k1 := true) op_powW me_int me_int)) (mss_one (ms_ret (me_lst true (ma_cons (p1 := true) (p2 := true) (me_op (p1 := true) (p2 := true) (k1 := false) op_subW (me_var 2 (pv 2)) (me_op (p1 := true) (p2 := true) (k1 := true) op_powW me_int me_int)) (ma_cons (p1 := true) (p2 := true) me_int (ma_cons (p1 := true) (p2 := true) me_int ma_nil)))))) mss_nil) (mss_one (ms_ret (me_lst true (ma_cons (p1 := true) (p2 := true) (me_var 2 (pv 2)) (ma_cons (p1 := true) (p2 := true) me_int (ma_cons (p1 := true) (p2 := true) (me_op (p1 := true) (p2 := true) (k1 := true) op_mulW me_int (me_var 1 (pv 1))) ma_nil)))))))))
/-! ### _law_take -/
abbrev s__law_take : Stmt := topS 18
abbrev N__law_take : List Str := ["pool", "many", "found", "step", "mark"]
theorem sc__law_take : FnScope N__law_take ["pool", "many"] (defScope s__law_take) := ⟨rfl, rfl, rfl, by decide +kernel, rfl, by decide +kernel, by decide +kernel⟩
noncomputable def b__law_take : Sm Fl := sSeq (sIf (toB (mBin eqW true (mBin ixW true (mVar 0) (mC (.int 1))) (mC (.int 1)))) (sSeq (sSet 2 true (mBin modW true (mBin ixW true (mVar 0) (mC (.int 0))) (mVar 1))) (sSeq (sSto 0 (mC (.int 0)) (mBin fdivW true (mBin ixW true (mVar 0) (mC (.int 0))) (mVar 1))) (sRet false (mVar 2)))) (sNil)) (sSeq (sSto 0 (mC (.int 2)) (mBin (addW false) true (mBin ixW true (mVar 0) (mC (.int 2))) (mC (.int 1)))) (sSeq (sSet 3 true (mBin ixW true (mVar 0) (mC (.int 2)))) (sSeq (sSet 4 true (mBin (mulW false) true (mBin (addW false) true (mBin modW true (mBin ixW true (mVar 0) (mC (.int 0))) (mC (.int 9999999589))) (mC (.int 997))) (mBin (addW false) true (mBin (mulW false) true (mC (.int 31)) (mVar 3)) (mC (.int 61))))) (sSeq (sSet 4 true (mBin (addW false) true (mVar 4) (mBin (mulW false) true (mBin (mulW false) true (mC (.int 3539)) (mVar 3)) (mVar 3)))) (sSeq (sSet 4 true (mBin modW true (mBin (mulW false) true (mVar 4) (mVar 4)) (mC (.int 99999999629)))) (sRet true (mBin modW true (mBin fdivW true (mBin modW true (mBin (mulW true) true (mVar 4) (mBin (addW true) true (mVar 4) (mC (.int 43)))) (mC (.int 99999999911))) (mC (.int 97))) (mVar 1))))))))
noncomputable def f__law_take : Fn := fnSem 5 [true, false] b__law_take
theorem w__law_take {f : Addr} {fd : FuncData} (F : Fun K "_law_take" "_law_take" s__law_take f fd) (g : mg "_law_take" = some (.ref f)) (hb : Binds K fd ["pool", "many"] []) : FnT P w K mg base CA "_law_take" 2 1 f__law_take :=
  fnt_body F g hb sc__law_take rfl rfl rfl fun cdv A outer s H E hr => (mss_cons (ms_if (mt_cmp (p1 := true) (p2 := true) (k1 := true) (op_eqW hr) (me_ix (p1 := true) (p2 := true) (k1 := false) (me_var 0 (pv 0)) me_int) me_int) (mss_cons (ms_set (i := 2) sc__law_take.nd (me_op (p1 := true) (p2 := true) (k1 := true) op_modW (me_ix (p1 := true) (p2 := true) (k1 := false) (me_var 0 (pv 0)) me_int) (me_var 1 (pv 1)))) (mss_cons (ms_sto (me_op (p1 := true) (p2 := true) (k1 := true) op_fdivW' (me_ix (p1 := true) (p2 := true) (k1 := false) (me_var 0 (pv 0)) me_int) (me_var 1 (pv 1))) (pv 0) me_int) (mss_one (ms_ret (me_var 2 (pv 2)))))) mss_nil) (mss_cons (ms_sto (me_op (p1 := true) (p2 := true) (k1 := true) op_addW (me_ix (p1 := true) (p2 := true) (k1 := false) (me_var 0 (pv 0)) me_int) me_int) (pv 0) me_int) (mss_cons (ms_set (i := 3) sc__law_take.nd (me_ix (p1 := true) (p2 := true) (k1 := false) (me_var 0 (pv 0)) me_int)) (mss_cons (ms_set (i := 4) sc__law_take.nd (me_op (p1 := true) (p2 := true) (k1 := true) op_mulW (me_op (p1 := true) (p2 := true) (k1 := true) op_addW (me_op (p1 := true) (p2 := true) (k1 := true) op_modW (me_ix (p1 := true) (p2 := true) (k1 := false) (me_var 0 (pv 0)) me_int) me_int) me_int) (me_op (p1 := true) (p2 := true) (k1 := true) op_addW (me_op (p1 := true) (p2 := true) (k1 := true) op_mulW me_int (me_var 3 (pv 3))) me_int))) (mss_cons (ms_set (i := 4) sc__law_take.nd (me_op (p1 := true) (p2 := true) (k1 := false) op_addW (me_var 4 (pv 4)) (me_op (p1 := true) (p2 := true) (k1 := true) op_mulW (me_op (p1 := true) (p2 := true) (k1 := true) op_mulW me_int (me_var 3 (pv 3))) (me_var 3 (pv 3))))) (mss_cons (ms_set (i := 4) sc__law_take.nd (me_op (p1 := true) (p2 := true) (k1 := true) op_modW (me_op (p1 := true) (p2 := true) (k1 := false) op_mulW (me_var 4 (pv 4)) (me_var 4 (pv 4))) me_int)) (mss_one (ms_ret (me_op (p1 := true) (p2 := true) (k1 := true) op_modW (me_op (p1 := true) (p2 := true) (k1 := true) op_fdivW' (me_op (p1 := true) (p2 := true) (k1 := true) op_modW (me_op (p1 := true) (p2 := true) (k1 := false) op_mulW (me_var 4 (pv 4)) (me_op (p1 := true) (p2 := true) (k1 := false) op_addW (me_var 4 (pv 4)) me_int)) me_int) me_int) (me_var 1 (pv 1)))))))))))
/-! ### _law_tag -/
abbrev s__law_tag : Stmt := topS 19
abbrev N__law_tag : List Str := ["pool", "found", "turn"]
theorem sc__law_tag : FnScope N__law_tag ["pool"] (defScope s__law_tag) := ⟨rfl, rfl, rfl, by decide +kernel, rfl, by decide +kernel, by decide +kernel⟩
noncomputable def b__law_tag_1 : Sm Fl := sSet 1 true (mBin (addW false) false (mVar 1) (mBin ixW true (mC (.str "abcdefghijklmnopqrstuvwxyz")) (mCall f__law_take 2 (Sm.bind (mVar 0) fun _ => rIo 0 (rVal (mC (.int 26)) (rNil))))))
noncomputable def b__law_tag : Sm Fl := sSeq (sSet 1 true (mC (.str ""))) (sSeq (sFor (tgN 2) b__law_tag_1 [2] (iArgs rng1 (mCons (mBin (addW false) true (mC (.int 1)) (mCall f__law_take 2 (Sm.bind (mVar 0) fun _ => rIo 0 (rVal (mC (.int 8)) (rNil))))) (mNil)))) (sRet false (mVar 1)))
noncomputable def f__law_tag : Fn := fnSem 3 [true] b__law_tag
theorem w__law_tag {f : Addr} {fd : FuncData} (F : Fun K "_law_tag" "_law_tag" s__law_tag f fd) (g : mg "_law_tag" = some (.ref f)) (hb : Binds K fd ["pool"] []) (m_range : mg "range" = none) (F__law_take : FnT P w K mg base CA "_law_take" 2 1 f__law_take) : FnT P w K mg base CA "_law_tag" 1 2 f__law_tag :=
  fnt_body F g hb sc__law_tag rfl rfl rfl fun cdv A outer s H E hr => (mss_cons (ms_set (i := 1) sc__law_tag.nd me_str) (mss_cons (ms_for [2] zf_pass rfl (mi_range1 m_range (ma_cons (p1 := false) (p2 := true) (me_op (p1 := true) (p2 := false) (k1 := true) op_addW me_int (me_call F__law_take (hr.mono (by decide)) zf_takes (mr_io 0 (pv 0) (mr_val (p1 := true) (p2 := true) me_int mr_nil)) (by rfl))) ma_nil)) (mg_name (i := 2) sc__law_tag.nd) (mss_one (ms_set (i := 1) sc__law_tag.nd (me_op (p1 := true) (p2 := false) (k1 := false) op_addW (me_var 1 (pv 1)) (me_ix (p1 := true) (p2 := false) (k1 := true) me_str (me_call F__law_take (hr.mono (by decide)) zf_takes (mr_io 0 (pv 0) (mr_val (p1 := true) (p2 := true) me_int mr_nil)) (by rfl))))))) (mss_one (ms_ret (me_var 1 (pv 1))))))
/-! ### _law_key -/
abbrev s__law_key : Stmt := topS 20
abbrev N__law_key : List Str := ["pool", "kind", "sign", "number", "turn"]
theorem sc__law_key : FnScope N__law_key ["pool", "kind"] (defScope s__law_key) := ⟨rfl, rfl, rfl, by decide +kernel, rfl, by decide +kernel, by decide +kernel⟩
noncomputable def b__law_key_1 : Sm Fl := sSet 3 true (mBin (addW false) true (mBin (mulW false) true (mVar 3) (mBin powW true (mC (.int 10)) (mC (.int 10)))) (mCall f__law_take 2 (Sm.bind (mVar 0) fun _ => rIo 0 (rVal (mBin powW true (mC (.int 10)) (mC (.int 10))) (rNil)))))
noncomputable def b__law_key : Sm Fl := sSeq (sIf (toB (mBin eqW true (mVar 1) (mC (.int 0)))) (sRet true (mCall f__law_take 2 (Sm.bind (mVar 0) fun _ => rIo 0 (rVal (mC (.int 3)) (rNil))))) (sNil)) (sSeq (sIf (toB (mBin eqW true (mVar 1) (mC (.int 1)))) (sRet true (mBin subW true (mCall f__law_take 2 (Sm.bind (mVar 0) fun _ => rIo 0 (rVal (mC (.int 40)) (rNil)))) (mC (.int 20)))) (sNil)) (sSeq (sSet 2 true (mBin subW true (mC (.int 1)) (mBin (mulW false) true (mC (.int 2)) (mCall f__law_take 2 (Sm.bind (mVar 0) fun _ => rIo 0 (rVal (mC (.int 2)) (rNil))))))) (sSeq (sSet 3 true (mC (.int 0))) (sSeq (sFor (tgN 4) b__law_key_1 [4] (iArgs rng1 (mCons (mBin ixW true (mArgs (lstW false) (mCons (mC (.int 1)) (mCons (mC (.int 2)) (mCons (mC (.int 3)) (mNil))))) (mCall f__law_take 2 (Sm.bind (mVar 0) fun _ => rIo 0 (rVal (mC (.int 3)) (rNil))))) (mNil)))) (sRet true (mBin (mulW true) true (mVar 2) (mVar 3)))))))
noncomputable def f__law_key : Fn := fnSem 5 [true, false] b__law_key
theorem w__law_key {f : Addr} {fd : FuncData} (F : Fun K "_law_key" "_law_key" s__law_key f fd) (g : mg "_law_key" = some (.ref f)) (hb : Binds K fd ["pool", "kind"] []) (m_range : mg "range" = none) (F__law_take : FnT P w K mg base CA "_law_take" 2 1 f__law_take) : FnT P w K mg base CA "_law_key" 2 2 f__law_key :=
  fnt_body F g hb sc__law_key rfl rfl rfl fun cdv A outer s H E hr => (mss_cons (ms_if (mt_cmp (p1 := true) (p2 := true) (k1 := false) (op_eqW hr) (me_var 1 (pv 1)) me_int) (mss_one (ms_ret (me_call F__law_take (hr.mono (by decide)) zf_takes (mr_io 0 (pv 0) (mr_val (p1 := true) (p2 := true) me_int mr_nil)) (by rfl)))) mss_nil) (mss_cons (ms_if (mt_cmp (p1 := true) (p2 := true) (k1 := false) (op_eqW hr) (me_var 1 (pv 1)) me_int) (mss_one (ms_ret (me_op (p1 := false) (p2 := true) (k1 := true) op_subW (me_call F__law_take (hr.mono (by decide)) zf_takes (mr_io 0 (pv 0) (mr_val (p1 := true) (p2 := true) me_int mr_nil)) (by rfl)) me_int))) mss_nil) (mss_cons (ms_set (i := 2) sc__law_key.nd (me_op (p1 := true) (p2 := false) (k1 := true) op_subW me_int (me_op (p1 := true) (p2 := false) (k1 := true) op_mulW me_int (me_call F__law_take (hr.mono (by decide)) zf_takes (mr_io 0 (pv 0) (mr_val (p1 := true) (p2 := true) me_int mr_nil)) (by rfl))))) (mss_cons (ms_set (i := 3) sc__law_key.nd me_int) (mss_cons (ms_for [4] zf_pass rfl (mi_range1 m_range (ma_cons (p1 := false) (p2 := true) (me_ix (p1 := true) (p2 := false) (k1 := true) (me_lst false (ma_cons (p1 := true) (p2 := true) me_int (ma_cons (p1 := true) (p2 := true) me_int (ma_cons (p1 := true) (p2 := true) me_int ma_nil)))) (me_call F__law_take (hr.mono (by decide)) zf_takes (mr_io 0 (pv 0) (mr_val (p1 := true) (p2 := true) me_int mr_nil)) (by rfl))) ma_nil)) (mg_name (i := 4) sc__law_key.nd) (mss_one (ms_set (i := 3) sc__law_key.nd (me_op (p1 := true) (p2 := false) (k1 := true) op_addW (me_op (p1 := true) (p2 := true) (k1 := false) op_mulW (me_var 3 (pv 3)) (me_op (p1 := true) (p2 := true) (k1 := true) op_powW me_int me_int)) (me_call F__law_take (hr.mono (by decide)) zf_takes (mr_io 0 (pv 0) (mr_val (p1 := true) (p2 := true) (me_op (p1 := true) (p2 := true) (k1 := true) op_powW me_int me_int) mr_nil)) (by rfl)))))) (mss_one (ms_ret (me_op (p1 := true) (p2 := true) (k1 := false) op_mulW (me_var 2 (pv 2)) (me_var 3 (pv 3))))))))))
/-! ### _law_row -/
abbrev s__law_row : Stmt := topS 21
abbrev N__law_row : List Str := ["pool", "most", "kind", "way", "keys", "turn", "at", "tags", "key"]
theorem sc__law_row : FnScope N__law_row ["pool", "most"] (defScope s__law_row) := ⟨rfl, rfl, rfl, by decide +kernel, rfl, by decide +kernel, by decide +kernel⟩
noncomputable def c__law_row_1 : Sm W := mComp false (tgN 5) (Sm.ret true) (mCall f__law_key 2 (Sm.bind (mVar 0) fun _ => rIo 0 (rVal (mVar 2) (rNil)))) [5] (iArgs rng1 (mCons (mCall f__law_take 2 (Sm.bind (mVar 0) fun _ => rIo 0 (rVal (mBin (addW false) true (mVar 1) (mC (.int 1))) (rNil)))) (mNil)))
noncomputable def c__law_row_2 : Sm W := mComp false (tgN 8) (Sm.ret true) (mArgs tupW (mCons (mVar 8) (mCons (mSlice false true (mBin ixW false (mVar 7) (mCall f__law_take 2 (Sm.bind (mVar 0) fun _ => rIo 0 (rVal (mC (.int 3)) (rNil))))) (mNo) (mPart (mBin (addW false) true (mC (.int 1)) (mCall f__law_take 2 (Sm.bind (mVar 0) fun _ => rIo 0 (rVal (mC (.int 8)) (rNil))))))) (mNil)))) [8] (iLst (mVar 4))
noncomputable def b__law_row : Sm Fl := sSeq (sSet 2 true (mCall f__law_take 2 (Sm.bind (mVar 0) fun _ => rIo 0 (rVal (mC (.int 3)) (rNil))))) (sSeq (sSet 3 true (mCall f__law_take 2 (Sm.bind (mVar 0) fun _ => rIo 0 (rVal (mC (.int 4)) (rNil))))) (sSeq (sSet 4 true (mFz (c__law_row_1))) (sSeq (sIf (toB (mBin eqW true (mVar 3) (mC (.int 1)))) (sSet 4 true (mUn (sortedW false) (mVar 4))) (sNil)) (sSeq (sIf (toB (mBin eqW true (mVar 3) (mC (.int 2)))) (sSet 4 true (mUn (revW false) (mUn (sortedW false) (mVar 4)))) (sNil)) (sSeq (sIf (toB (mBin eqW true (mVar 3) (mC (.int 3)))) (sSeq (sSet 6 true (mCall f__law_take 2 (Sm.bind (mVar 0) fun _ => rIo 0 (rVal (mBin (addW false) true (mUn lenW (mVar 4)) (mC (.int 1))) (rNil))))) (sSet 4 true (mBin (addW false) true (mUn (sortedW false) (mSlice false true (mVar 4) (mNo) (mPart (mVar 6)))) (mUn (sortedW false) (mSlice false true (mVar 4) (mPart (mVar 6)) (mNo)))))) (sNil)) (sSeq (sSet 7 true (mArgs (lstW false) (mCons (mCall f__law_tag 1 (Sm.bind (mVar 0) fun _ => rIo 0 (rNil))) (mCons (mCall f__law_tag 1 (Sm.bind (mVar 0) fun _ => rIo 0 (rNil))) (mCons (mCall f__law_tag 1 (Sm.bind (mVar 0) fun _ => rIo 0 (rNil))) (mNil)))))) (sRet true (c__law_row_2))))))))
noncomputable def f__law_row : Fn := fnSem 9 [true, false] b__law_row
theorem w__law_row {f : Addr} {fd : FuncData} (F : Fun K "_law_row" "_law_row" s__law_row f fd) (g : mg "_law_row" = some (.ref f)) (hb : Binds K fd ["pool", "most"] []) (m_len : mg "len" = none) (m_range : mg "range" = none) (m_sorted : mg "sorted" = none) (F__law_take : FnT P w K mg base CA "_law_take" 2 1 f__law_take) (F__law_tag : FnT P w K mg base CA "_law_tag" 1 2 f__law_tag) (F__law_key : FnT P w K mg base CA "_law_key" 2 2 f__law_key) : FnT P w K mg base CA "_law_row" 2 3 f__law_row :=
  fnt_body F g hb sc__law_row rfl rfl rfl fun cdv A outer s H E hr => (mss_cons (ms_set (i := 2) sc__law_row.nd (me_call F__law_take (hr.mono (by decide)) zf_takes (mr_io 0 (pv 0) (mr_val (p1 := true) (p2 := true) me_int mr_nil)) (by rfl))) (mss_cons (ms_set (i := 3) sc__law_row.nd (me_call F__law_take (hr.mono (by decide)) zf_takes (mr_io 0 (pv 0) (mr_val (p1 := true) (p2 := true) me_int mr_nil)) (by rfl))) (mss_cons (ms_setLc (i := 4) false rfl sc__law_row.nd (own := [("turn", 5)]) (p := false) (pt := true) (pe := false) (mi_range1 m_range (ma_cons (p1 := false) (p2 := true) (me_call F__law_take (hr.mono (by decide)) zf_takes (mr_io 0 (pv 0) (mr_val (p1 := true) (p2 := true) (me_op (p1 := true) (p2 := true) (k1 := false) op_addW (me_var 1 (pv 1)) me_int) mr_nil)) (by rfl)) ma_nil)) (show BlkOk N__law_row (defScope s__law_row) _ _ from blkOk_by (own := [("turn", 5)]) (by decide +kernel)) (fun _ _ _ _ _ => (mg_name (i := 5) sc__law_row.nd)) (fun _ _ _ _ _ => mts_nil) (fun _ _ _ _ _ => (me_call F__law_key (hr.mono (by decide)) blk_takes (mr_io 0 (pv 0) (mr_val (p1 := true) (p2 := true) (me_var 2 (pv 2)) mr_nil)) (by rfl)))) (mss_cons (ms_if (mt_cmp (p1 := true) (p2 := true) (k1 := false) (op_eqW hr) (me_var 3 (pv 3)) me_int) (mss_one (ms_set (i := 4) sc__law_row.nd (me_sorted false hr m_sorted (me_var 4 (pv 4))))) mss_nil) (mss_cons (ms_if (mt_cmp (p1 := true) (p2 := true) (k1 := false) (op_eqW hr) (me_var 3 (pv 3)) me_int) (mss_one (ms_set (i := 4) sc__law_row.nd (me_rev false (me_sorted false hr m_sorted (me_var 4 (pv 4)))))) mss_nil) (mss_cons (ms_if (mt_cmp (p1 := true) (p2 := true) (k1 := false) (op_eqW hr) (me_var 3 (pv 3)) me_int) (mss_cons (ms_set (i := 6) sc__law_row.nd (me_call F__law_take (hr.mono (by decide)) zf_takes (mr_io 0 (pv 0) (mr_val (p1 := true) (p2 := true) (me_op (p1 := true) (p2 := true) (k1 := true) op_addW (me_len m_len (me_var 4 (pv 4))) me_int) mr_nil)) (by rfl))) (mss_one (ms_set (i := 4) sc__law_row.nd (me_op (p1 := true) (p2 := true) (k1 := true) op_addW (me_sorted false hr m_sorted (me_slice false (p := true) (p1 := true) (p2 := true) (k1 := false) (me_var 4 (pv 4)) mo_no (mo_some (me_var 6 (pv 6))))) (me_sorted false hr m_sorted (me_slice false (p := true) (p1 := true) (p2 := true) (k1 := false) (me_var 4 (pv 4)) (mo_some (me_var 6 (pv 6))) mo_no)))))) mss_nil) (mss_cons (ms_set (i := 7) sc__law_row.nd (me_lst false (ma_cons (p1 := false) (p2 := false) (me_call F__law_tag (hr.mono (by decide)) zf_takes (mr_io 0 (pv 0) mr_nil) (by rfl)) (ma_cons (p1 := false) (p2 := false) (me_call F__law_tag (hr.mono (by decide)) zf_takes (mr_io 0 (pv 0) mr_nil) (by rfl)) (ma_cons (p1 := false) (p2 := true) (me_call F__law_tag (hr.mono (by decide)) zf_takes (mr_io 0 (pv 0) mr_nil) (by rfl)) ma_nil))))) (mss_one (ms_ret (me_lc rfl sc__law_row.nd (own := [("key", 8)]) (p := true) (pt := true) (pe := false) (mi_list (me_var 4 (pv 4))) (show BlkOk N__law_row (defScope s__law_row) _ _ from blkOk_by (own := [("key", 8)]) (by decide +kernel)) (fun _ _ _ _ _ => (mg_name (i := 8) sc__law_row.nd)) (fun _ _ _ _ _ => mts_nil) (fun _ _ _ _ _ => (me_tup (ma_cons (p1 := true) (p2 := false) (me_var 8 (pv 8)) (ma_cons (p1 := false) (p2 := true) (me_slice false (p := false) (p1 := true) (p2 := false) (k1 := true) (me_ix (p1 := true) (p2 := false) (k1 := false) (me_var 7 (pv 7)) (me_call F__law_take (hr.mono (by decide)) blk_takes (mr_io 0 (pv 0) (mr_val (p1 := true) (p2 := true) me_int mr_nil)) (by rfl))) mo_no (mo_some (me_op (p1 := true) (p2 := false) (k1 := true) op_addW me_int (me_call F__law_take (hr.mono (by decide)) blk_takes (mr_io 0 (pv 0) (mr_val (p1 := true) (p2 := true) me_int mr_nil)) (by rfl))))) ma_nil))))))))))))))
/-! ### _law_rows -/
abbrev s__law_rows : Stmt := topS 22
abbrev N__law_rows : List Str := ["pool", "most", "turn"]
theorem sc__law_rows : FnScope N__law_rows ["pool", "most"] (defScope s__law_rows) := ⟨rfl, rfl, rfl, by decide +kernel, rfl, by decide +kernel, by decide +kernel⟩
noncomputable def c__law_rows_1 : Sm W := mComp false (tgN 2) (Sm.ret true) (mFz (mCall f__law_row 2 (Sm.bind (mVar 0) fun _ => rIo 0 (rVal (mVar 1) (rNil))))) [2] (iArgs rng1 (mCons (mBin (addW false) true (mC (.int 1)) (mCall f__law_take 2 (Sm.bind (mVar 0) fun _ => rIo 0 (rVal (mC (.int 6)) (rNil))))) (mNil)))
noncomputable def b__law_rows : Sm Fl := sRet true (c__law_rows_1)
noncomputable def f__law_rows : Fn := fnSem 3 [true, false] b__law_rows
theorem w__law_rows {f : Addr} {fd : FuncData} (F : Fun K "_law_rows" "_law_rows" s__law_rows f fd) (g : mg "_law_rows" = some (.ref f)) (hb : Binds K fd ["pool", "most"] []) (m_range : mg "range" = none) (F__law_take : FnT P w K mg base CA "_law_take" 2 1 f__law_take) (F__law_row : FnT P w K mg base CA "_law_row" 2 3 f__law_row) : FnT P w K mg base CA "_law_rows" 2 4 f__law_rows :=
  fnt_body F g hb sc__law_rows rfl rfl rfl fun cdv A outer s H E hr => (mss_one (ms_ret (me_lc rfl sc__law_rows.nd (own := [("turn", 2)]) (p := false) (pt := true) (pe := false) (mi_range1 m_range (ma_cons (p1 := false) (p2 := true) (me_op (p1 := true) (p2 := false) (k1 := true) op_addW me_int (me_call F__law_take (hr.mono (by decide)) zf_takes (mr_io 0 (pv 0) (mr_val (p1 := true) (p2 := true) me_int mr_nil)) (by rfl))) ma_nil)) (show BlkOk N__law_rows (defScope s__law_rows) _ _ from blkOk_by (own := [("turn", 2)]) (by decide +kernel)) (fun _ _ _ _ _ => (mg_name (i := 2) sc__law_rows.nd)) (fun _ _ _ _ _ => mts_nil) (fun _ _ _ _ _ => (me_fz (me_call F__law_row (hr.mono (by decide)) blk_takes (mr_io 0 (pv 0) (mr_val (p1 := true) (p2 := true) (me_var 1 (pv 1)) mr_nil)) (by rfl)))))))
/-! ### _law_copy -/
abbrev s__law_copy : Stmt := topS 23
abbrev N__law_copy : List Str := ["thing", "one"]
theorem sc__law_copy : FnScope N__law_copy ["thing"] (defScope s__law_copy) := ⟨rfl, rfl, rfl, by decide +kernel, rfl, by decide +kernel, by decide +kernel⟩
noncomputable def c__law_copy_1 (g_self : Fn) : Sm W := mComp true (tgN 1) (Sm.ret true) (mFz (mCallP g_self (Sm.bind (mCons (mVar 1) (mNil)) fun ws => if ws.length = 1 then Sm.ret ws else fun _ => .bad))) [1] (iSeq (mVar 0))
noncomputable def c__law_copy_2 (g_self : Fn) : Sm W := mComp true (tgN 1) (Sm.ret true) (mFz (mCallP g_self (Sm.bind (mCons (mVar 1) (mNil)) fun ws => if ws.length = 1 then Sm.ret ws else fun _ => .bad))) [1] (iSeq (mVar 0))
noncomputable def b__law_copy (g_self : Fn) : Sm Fl := sSeq (sIf (toB (mUn (isiW ["list"]) (mVar 0))) (sRet true ((c__law_copy_1 g_self))) (sNil)) (sSeq (sIf (toB (mUn (isiW ["tuple"]) (mVar 0))) (sRet true (mUn tupOfW (mFz ((c__law_copy_2 g_self))))) (sNil)) (sRet false (mVar 0)))
noncomputable def f__law_copy : Nat → Fn
  | 0 => fun _ => .bad
  | n + 1 => fnSem 2 [false] (b__law_copy (f__law_copy n))
theorem w__law_copy {f : Addr} {fd : FuncData} (F : Fun K "_law_copy" "_law_copy" s__law_copy f fd) (g : mg "_law_copy" = some (.ref f)) (hb : Binds K fd ["thing"] []) (m_isinstance : mg "isinstance" = none) (m_list : mg "list" = none) (m_tuple : mg "tuple" = none) : ∀ n : Nat, FnT P w K mg base CA "_law_copy" 1 (1 + n) (f__law_copy n)
  | 0 => fnt_bad F g hb rfl
  | n + 1 => have F_self := w__law_copy F g hb m_isinstance m_list m_tuple n
    fnt_body F g hb sc__law_copy rfl rfl rfl fun cdv A outer s H E hr => (mss_cons (ms_if (mt_val (me_isi ["list"] (ca_ty (by rfl) m_list PyProof.Rows.boot_list) m_isinstance (me_var 0 (pv 0)))) (mss_one (ms_ret (me_lc rfl sc__law_copy.nd (own := [("one", 1)]) (p := true) (pt := true) (pe := true) (mi_seq (me_var 0 (pv 0))) (show BlkOk N__law_copy (defScope s__law_copy) _ _ from blkOk_by (own := [("one", 1)]) (by decide +kernel)) (fun _ _ _ _ _ => (mg_name (i := 1) sc__law_copy.nd)) (fun _ _ _ _ _ => mts_nil) (fun _ _ _ _ _ => (me_fz (me_callP F_self (hr.mono (by first | omega | (simp only [Nat.add_eq]; omega))) blk_takes (ma_cons (p1 := true) (p2 := true) (me_var 1 (pv 1)) ma_nil) (by rfl))))))) mss_nil) (mss_cons (ms_if (mt_val (me_isi ["tuple"] (ca_ty (by rfl) m_tuple PyProof.Rows.boot_tuple) m_isinstance (me_var 0 (pv 0)))) (mss_one (ms_ret (me_tupOf m_tuple (me_fz (me_lc rfl sc__law_copy.nd (own := [("one", 1)]) (p := true) (pt := true) (pe := true) (mi_seq (me_var 0 (pv 0))) (show BlkOk N__law_copy (defScope s__law_copy) _ _ from blkOk_by (own := [("one", 1)]) (by decide +kernel)) (fun _ _ _ _ _ => (mg_name (i := 1) sc__law_copy.nd)) (fun _ _ _ _ _ => mts_nil) (fun _ _ _ _ _ => (me_fz (me_callP F_self (hr.mono (by first | omega | (simp only [Nat.add_eq]; omega))) blk_takes (ma_cons (p1 := true) (p2 := true) (me_var 1 (pv 1)) ma_nil) (by rfl))))))))) mss_nil) (mss_one (ms_ret (me_var 0 (pv 0))))))
/-! ### _law_same -/
abbrev s__law_same : Stmt := topS 24
abbrev N__law_same : List Str := ["one", "other", "a", "b"]
theorem sc__law_same : FnScope N__law_same ["one", "other"] (defScope s__law_same) := ⟨rfl, rfl, rfl, by decide +kernel, rfl, by decide +kernel, by decide +kernel⟩
noncomputable def c__law_same_1 (g_self : Fn) : Sm W := mComp true (tgT [2, 3]) (mNot (toB (mCallP g_self (Sm.bind (mCons (mVar 2) (mCons (mVar 3) (mNil))) fun ws => if ws.length = 2 then Sm.ret ws else fun _ => .bad)))) (mC (.int 1)) [2, 3] (iArgs zipA (mCons (mVar 0) (mCons (mVar 1) (mNil))))
noncomputable def b__law_same (g_self : Fn) : Sm Fl := sSeq (sIf (mOr (toB (mBin neW true (mUn (isiW ["bool"]) (mVar 0)) (mUn (isiW ["bool"]) (mVar 1)))) (toB (mBin neW true (mUn (isiW ["tuple"]) (mVar 0)) (mUn (isiW ["tuple"]) (mVar 1))))) (sRet true (mC (.bl false))) (sNil)) (sSeq (sIf (mAnd (toB (mUn (isiW ["list", "tuple"]) (mVar 0))) (toB (mUn (isiW ["list", "tuple"]) (mVar 1)))) (sRet true (mAndV (mBin eqTW true (mUn lenW (mVar 0)) (mUn lenW (mVar 1))) (mBin eqTW true ((c__law_same_1 g_self)) (mArgs (lstW true) (mNil))))) (sNil)) (sRet true (mAndV (mBin eqTW true (mUn (isiW ["str"]) (mVar 0)) (mUn (isiW ["str"]) (mVar 1))) (mBin eqTW true (mVar 0) (mVar 1)))))
noncomputable def f__law_same : Nat → Fn
  | 0 => fun _ => .bad
  | n + 1 => fnSem 4 [false, false] (b__law_same (f__law_same n))
theorem w__law_same {f : Addr} {fd : FuncData} (F : Fun K "_law_same" "_law_same" s__law_same f fd) (g : mg "_law_same" = some (.ref f)) (hb : Binds K fd ["one", "other"] []) (m_bool : mg "bool" = none) (m_isinstance : mg "isinstance" = none) (m_len : mg "len" = none) (m_list : mg "list" = none) (m_str : mg "str" = none) (m_tuple : mg "tuple" = none) (m_zip : mg "zip" = none) : ∀ n : Nat, FnT P w K mg base CA "_law_same" 2 (1 + n) (f__law_same n)
  | 0 => fnt_bad F g hb rfl
  | n + 1 => have F_self := w__law_same F g hb m_bool m_isinstance m_len m_list m_str m_tuple m_zip n
    fnt_body F g hb sc__law_same rfl rfl rfl fun cdv A outer s H E hr => (mss_cons (ms_if (mt_w (mw_or (p1 := true) (p2 := true) (mt_cmp (p1 := true) (p2 := true) (k1 := true) (op_neW hr) (me_isi ["bool"] (ca_ty (by rfl) m_bool PyProof.Rows.boot_bool) m_isinstance (me_var 0 (pv 0))) (me_isi ["bool"] (ca_ty (by rfl) m_bool PyProof.Rows.boot_bool) m_isinstance (me_var 1 (pv 1)))) (mw_or1 (mt_cmp (p1 := true) (p2 := true) (k1 := true) (op_neW hr) (me_isi ["tuple"] (ca_ty (by rfl) m_tuple PyProof.Rows.boot_tuple) m_isinstance (me_var 0 (pv 0))) (me_isi ["tuple"] (ca_ty (by rfl) m_tuple PyProof.Rows.boot_tuple) m_isinstance (me_var 1 (pv 1))))))) (mss_one (ms_ret me_bl)) mss_nil) (mss_cons (ms_if (mt_w (mw_and (p1 := true) (p2 := true) (mt_val (me_isi ["list", "tuple"] (ca_tup (cas_cons (ca_ty (by rfl) m_list PyProof.Rows.boot_list) (cas_cons (ca_ty (by rfl) m_tuple PyProof.Rows.boot_tuple) cas_nil)) (by show (2 : Nat) ≤ sizeLine; decide)) m_isinstance (me_var 0 (pv 0)))) (mw_and1 (mt_val (me_isi ["list", "tuple"] (ca_tup (cas_cons (ca_ty (by rfl) m_list PyProof.Rows.boot_list) (cas_cons (ca_ty (by rfl) m_tuple PyProof.Rows.boot_tuple) cas_nil)) (by show (2 : Nat) ≤ sizeLine; decide)) m_isinstance (me_var 1 (pv 1))))))) (mss_one (ms_ret (me_and (p1 := true) (p2 := true) (me_cmp (p1 := true) (p2 := true) (k1 := true) (op_eqTW hr) (me_len m_len (me_var 0 (pv 0))) (me_len m_len (me_var 1 (pv 1)))) (me_one (me_cmp (p1 := true) (p2 := true) (k1 := true) (op_eqTW hr) (me_lc rfl sc__law_same.nd (own := [("a", 2), ("b", 3)]) (p := true) (pt := true) (pe := true) (mi_zipA m_zip (ma_cons (p1 := true) (p2 := true) (me_var 0 (pv 0)) (ma_cons (p1 := true) (p2 := true) (me_var 1 (pv 1)) ma_nil))) (show BlkOk N__law_same (defScope s__law_same) _ _ from blkOk_by (own := [("a", 2), ("b", 3)]) (by decide +kernel)) (fun _ _ _ _ _ => (mg_tup rfl (mgs_cons (i := 2) sc__law_same.nd (mgs_cons (i := 3) sc__law_same.nd mgs_nil)))) (fun _ _ _ _ _ => (mts_one (mt_not (mt_val (me_callP F_self (hr.mono (by first | omega | (simp only [Nat.add_eq]; omega))) blk_takes (ma_cons (p1 := true) (p2 := true) (me_var 2 (pv 2)) (ma_cons (p1 := true) (p2 := true) (me_var 3 (pv 3)) ma_nil)) (by rfl)))))) (fun _ _ _ _ _ => me_int)) (me_lst true ma_nil)))))) mss_nil) (mss_one (ms_ret (me_and (p1 := true) (p2 := true) (me_cmp (p1 := true) (p2 := true) (k1 := true) (op_eqTW hr) (me_isi ["str"] (ca_ty (by rfl) m_str PyProof.Rows.boot_str) m_isinstance (me_var 0 (pv 0))) (me_isi ["str"] (ca_ty (by rfl) m_str PyProof.Rows.boot_str) m_isinstance (me_var 1 (pv 1)))) (me_one (me_cmp (p1 := true) (p2 := true) (k1 := false) (op_eqTW hr) (me_var 0 (pv 0)) (me_var 1 (pv 1)))))))))
/-! ### _law_is_thing -/
abbrev s__law_is_thing : Stmt := topS 25
abbrev N__law_is_thing : List Str := ["thing", "sign"]
theorem sc__law_is_thing : FnScope N__law_is_thing ["thing"] (defScope s__law_is_thing) := ⟨rfl, rfl, rfl, by decide +kernel, rfl, by decide +kernel, by decide +kernel⟩
noncomputable def c__law_is_thing_1 : Sm W := mComp true (tgN 1) (toB (mBin (inW true) true (mVar 1) (mC (.str "abcdefghijklmnopqrstuvwxyz")))) (mVar 1) [1] (iChr (mBin ixW true (mVar 0) (mC (.int 1))))
noncomputable def b__law_is_thing : Sm Fl := sSeq (sIf (mOr (mNot (toB (mUn (isiW ["tuple"]) (mVar 0)))) (toB (mBin neW true (mUn lenW (mVar 0)) (mC (.int 2))))) (sRet true (mC (.bl false))) (sNil)) (sSeq (sIf (mOr (mNot (toB (mUn (isiW ["int"]) (mBin ixW true (mVar 0) (mC (.int 0)))))) (toB (mUn (isiW ["bool"]) (mBin ixW true (mVar 0) (mC (.int 0)))))) (sRet true (mC (.bl false))) (sNil)) (sSeq (sIf (mOr (mNot (toB (mUn (isiW ["str"]) (mBin ixW true (mVar 0) (mC (.int 1)))))) (mOr (toB (mBin ltW true (mUn lenW (mBin ixW true (mVar 0) (mC (.int 1)))) (mC (.int 1)))) (toB (mBin gtW true (mUn lenW (mBin ixW true (mVar 0) (mC (.int 1)))) (mC (.int 8)))))) (sRet true (mC (.bl false))) (sNil)) (sRet true (mBin eqW true (c__law_is_thing_1) (mArgs (lstW true) (mNil))))))
noncomputable def f__law_is_thing : Fn := fnSem 2 [false] b__law_is_thing
theorem w__law_is_thing {f : Addr} {fd : FuncData} (F : Fun K "_law_is_thing" "_law_is_thing" s__law_is_thing f fd) (g : mg "_law_is_thing" = some (.ref f)) (hb : Binds K fd ["thing"] []) (m_bool : mg "bool" = none) (m_int : mg "int" = none) (m_isinstance : mg "isinstance" = none) (m_len : mg "len" = none) (m_str : mg "str" = none) (m_tuple : mg "tuple" = none) : FnT P w K mg base CA "_law_is_thing" 1 1 f__law_is_thing :=
  fnt_body F g hb sc__law_is_thing rfl rfl rfl fun cdv A outer s H E hr => (mss_cons (ms_if (mt_w (mw_or (p1 := true) (p2 := true) (mt_not (mt_val (me_isi ["tuple"] (ca_ty (by rfl) m_tuple PyProof.Rows.boot_tuple) m_isinstance (me_var 0 (pv 0))))) (mw_or1 (mt_cmp (p1 := true) (p2 := true) (k1 := true) (op_neW hr) (me_len m_len (me_var 0 (pv 0))) me_int)))) (mss_one (ms_ret me_bl)) mss_nil) (mss_cons (ms_if (mt_w (mw_or (p1 := true) (p2 := true) (mt_not (mt_val (me_isi ["int"] (ca_ty (by rfl) m_int PyProof.Rows.boot_int) m_isinstance (me_ix (p1 := true) (p2 := true) (k1 := false) (me_var 0 (pv 0)) me_int)))) (mw_or1 (mt_val (me_isi ["bool"] (ca_ty (by rfl) m_bool PyProof.Rows.boot_bool) m_isinstance (me_ix (p1 := true) (p2 := true) (k1 := false) (me_var 0 (pv 0)) me_int)))))) (mss_one (ms_ret me_bl)) mss_nil) (mss_cons (ms_if (mt_w (mw_or (p1 := true) (p2 := true) (mt_not (mt_val (me_isi ["str"] (ca_ty (by rfl) m_str PyProof.Rows.boot_str) m_isinstance (me_ix (p1 := true) (p2 := true) (k1 := false) (me_var 0 (pv 0)) me_int)))) (mw_or (p1 := true) (p2 := true) (mt_cmp (p1 := true) (p2 := true) (k1 := true) (op_ltW hr) (me_len m_len (me_ix (p1 := true) (p2 := true) (k1 := false) (me_var 0 (pv 0)) me_int)) me_int) (mw_or1 (mt_cmp (p1 := true) (p2 := true) (k1 := true) (op_gtW hr) (me_len m_len (me_ix (p1 := true) (p2 := true) (k1 := false) (me_var 0 (pv 0)) me_int)) me_int))))) (mss_one (ms_ret me_bl)) mss_nil) (mss_one (ms_ret (me_cmp (p1 := true) (p2 := true) (k1 := true) (op_eqW hr) (me_lc rfl sc__law_is_thing.nd (own := [("sign", 1)]) (p := true) (pt := true) (pe := true) (mi_chr (me_ix (p1 := true) (p2 := true) (k1 := false) (me_var 0 (pv 0)) me_int)) (show BlkOk N__law_is_thing (defScope s__law_is_thing) _ _ from blkOk_by (own := [("sign", 1)]) (by decide +kernel)) (fun _ _ _ _ _ => (mg_name (i := 1) sc__law_is_thing.nd)) (fun _ _ _ _ _ => (mts_one (mt_cmp (p1 := true) (p2 := true) (k1 := false) (op_notInW hr) (me_var 1 (pv 1)) me_str))) (fun _ _ _ _ _ => (me_var 1 (pv 1)))) (me_lst true ma_nil)))))))
/-! ### _law_due -/
abbrev s__law_due : Stmt := topS 26
abbrev N__law_due : List Str := ["thing", "row", "one"]
theorem sc__law_due : FnScope N__law_due ["thing"] (defScope s__law_due) := ⟨rfl, rfl, rfl, by decide +kernel, rfl, by decide +kernel, by decide +kernel⟩
noncomputable def c__law_due_1 : Sm W := mComp true (tgN 2) (mNot (toB (mCallP f__law_is_thing (Sm.bind (mCons (mVar 2) (mNil)) fun ws => if ws.length = 1 then Sm.ret ws else fun _ => .bad)))) (mVar 2) [2] (iLst (mVar 1))
noncomputable def b__law_due_1 : Sm Fl := sIf (mOr (mNot (toB (mUn (isiW ["list"]) (mVar 1)))) (toB (mBin neW true (mFz (c__law_due_1)) (mArgs (lstW false) (mNil))))) (sRet true (mC (.bl false))) (sNil)
noncomputable def b__law_due : Sm Fl := sSeq (sIf (mOr (mNot (toB (mUn (isiW ["list"]) (mVar 0)))) (mOr (toB (mBin ltW true (mUn lenW (mVar 0)) (mC (.int 1)))) (toB (mBin gtW true (mUn lenW (mVar 0)) (mC (.int 6)))))) (sRet true (mC (.bl false))) (sNil)) (sSeq (sFor (tgN 1) b__law_due_1 [1] (iLst (mVar 0))) (sRet true (mC (.bl true))))
noncomputable def f__law_due : Fn := fnSem 3 [false] b__law_due
theorem w__law_due {f : Addr} {fd : FuncData} (F : Fun K "_law_due" "_law_due" s__law_due f fd) (g : mg "_law_due" = some (.ref f)) (hb : Binds K fd ["thing"] []) (m_isinstance : mg "isinstance" = none) (m_len : mg "len" = none) (m_list : mg "list" = none) (F__law_is_thing : FnT P w K mg base CA "_law_is_thing" 1 1 f__law_is_thing) : FnT P w K mg base CA "_law_due" 1 2 f__law_due :=
  fnt_body F g hb sc__law_due rfl rfl rfl fun cdv A outer s H E hr => (mss_cons (ms_if (mt_w (mw_or (p1 := true) (p2 := true) (mt_not (mt_val (me_isi ["list"] (ca_ty (by rfl) m_list PyProof.Rows.boot_list) m_isinstance (me_var 0 (pv 0))))) (mw_or (p1 := true) (p2 := true) (mt_cmp (p1 := true) (p2 := true) (k1 := true) (op_ltW hr) (me_len m_len (me_var 0 (pv 0))) me_int) (mw_or1 (mt_cmp (p1 := true) (p2 := true) (k1 := true) (op_gtW hr) (me_len m_len (me_var 0 (pv 0))) me_int))))) (mss_one (ms_ret me_bl)) mss_nil) (mss_cons (ms_for [1] zf_pass rfl (mi_list (me_var 0 (pv 0))) (mg_name (i := 1) sc__law_due.nd) (mss_one (ms_if (mt_w (mw_or (p1 := true) (p2 := true) (mt_not (mt_val (me_isi ["list"] (ca_ty (by rfl) m_list PyProof.Rows.boot_list) m_isinstance (me_var 1 (pv 1))))) (mw_or1 (mt_cmp (p1 := true) (p2 := true) (k1 := true) (op_neW hr) (me_fz (me_lc rfl sc__law_due.nd (own := [("one", 2)]) (p := true) (pt := true) (pe := true) (mi_list (me_var 1 (pv 1))) (show BlkOk N__law_due (defScope s__law_due) _ _ from blkOk_by (own := [("one", 2)]) (by decide +kernel)) (fun _ _ _ _ _ => (mg_name (i := 2) sc__law_due.nd)) (fun _ _ _ _ _ => (mts_one (mt_not (mt_val (me_callP F__law_is_thing (hr.mono (by decide)) blk_takes (ma_cons (p1 := true) (p2 := true) (me_var 2 (pv 2)) ma_nil) (by rfl)))))) (fun _ _ _ _ _ => (me_var 2 (pv 2))))) (me_lst false ma_nil))))) (mss_one (ms_ret me_bl)) mss_nil))) (mss_one (ms_ret me_bl))))
/-! ### _law_bad_thing -/
abbrev s__law_bad_thing : Stmt := topS 27
abbrev N__law_bad_thing : List Str := ["pool", "key", "tag", "at", "sign", "tags", "keys", "rows"]
theorem sc__law_bad_thing : FnScope N__law_bad_thing ["pool", "key", "tag"] (defScope s__law_bad_thing) := ⟨rfl, rfl, rfl, by decide +kernel, rfl, by decide +kernel, by decide +kernel⟩
noncomputable def b__law_bad_thing : Sm Fl := sSeq (sSet 3 true (mCall f__law_take 2 (Sm.bind (mVar 0) fun _ => rIo 0 (rVal (mUn lenW (mVar 2)) (rNil))))) (sSeq (sSet 4 true (mBin ixW true (mC (.str "AZaz_09 -.+'@\x5b`{~\t\n")) (mCall f__law_take 2 (Sm.bind (mVar 0) fun _ => rIo 0 (rVal (mC (.int 19)) (rNil)))))) (sSeq (sSet 5 true (mArgs (lstW false) (mCons (mC (.str "")) (mCons (mC (.str "A")) (mCons (mC (.str "a1")) (mCons (mC (.str "abcdefghi")) (mCons (mC .non) (mCons (mC (.int 1)) (mCons (mArgs (lstW false) (mCons (mC (.str "a")) (mNil))) (mCons (mArgs tupW (mCons (mC (.str "a")) (mNil))) (mCons (mBin (addW false) true (mVar 2) (mC (.str "abcdefgh"))) (mCons (mC (.bl true)) (mCons (mBin (addW false) true (mVar 2) (mC (.str " "))) (mNil)))))))))))))) (sSeq (sSet 5 true (mBin (addW false) true (mVar 5) (mBin (mulW false) true (mArgs (lstW false) (mCons (mBin (addW false) true (mBin (addW false) true (mSlice false true (mVar 2) (mNo) (mPart (mVar 3))) (mVar 4)) (mSlice false true (mVar 2) (mPart (mVar 3)) (mNo))) (mCons (mBin (addW false) true (mBin (addW false) true (mSlice false true (mVar 2) (mNo) (mPart (mVar 3))) (mVar 4)) (mSlice false true (mVar 2) (mPart (mBin (addW false) true (mVar 3) (mC (.int 1)))) (mNo))) (mCons (mBin (addW false) true (mVar 2) (mVar 4)) (mNil))))) (mC (.int 3))))) (sSeq (sSet 6 true (mArgs (lstW false) (mCons (mC (.bl true)) (mCons (mC (.bl false)) (mCons (mC .non) (mCons (mUn strOfW (mVar 1)) (mCons (mArgs (lstW false) (mCons (mVar 1) (mNil))) (mCons (mArgs tupW (mCons (mVar 1) (mNil))) (mCons (mC (.str "")) (mCons (mC .edc) (mCons (mUn negW (mVar 1)) (mCons (mBin (addW false) true (mVar 1) (mC (.int 1))) (mNil))))))))))))) (sSeq (sSet 7 true (mBin (addW false) true (mBin (mulW false) true (mArgs (lstW false) (mCons (mArgs tupW (mCons (mBin ixW false (mVar 6) (mCall f__law_take 2 (Sm.bind (mVar 0) fun _ => rIo 0 (rVal (mC (.int 10)) (rNil))))) (mCons (mVar 2) (mNil)))) (mNil))) (mC (.int 4))) (mBin (mulW false) true (mArgs (lstW false) (mCons (mArgs tupW (mCons (mVar 1) (mCons (mBin ixW false (mVar 5) (mCall f__law_take 2 (Sm.bind (mVar 0) fun _ => rIo 0 (rVal (mC (.int 20)) (rNil))))) (mNil)))) (mNil))) (mC (.int 6))))) (sSeq (sSet 7 true (mBin (addW false) true (mVar 7) (mArgs (lstW false) (mCons (mArgs (lstW false) (mCons (mVar 1) (mCons (mVar 2) (mNil)))) (mCons (mArgs tupW (mCons (mVar 1) (mNil))) (mCons (mArgs tupW (mCons (mVar 2) (mCons (mVar 1) (mNil)))) (mCons (mArgs tupW (mCons (mVar 1) (mCons (mVar 2) (mCons (mC (.int 0)) (mNil))))) (mCons (mVar 1) (mCons (mVar 2) (mCons (mC .non) (mCons (mArgs tupW (mNil)) (mNil)))))))))))) (sRet true (mBin ixW true (mBin (addW true) true (mVar 7) (mArgs (lstW true) (mCons (mDisp1 (mVar 1) (mVar 2)) (mCons (mArgs tupW (mCons (mVar 1) (mCons (mVar 2) (mCons (mVar 2) (mNil))))) (mNil))))) (mCall f__law_take 2 (Sm.bind (mVar 0) fun _ => rIo 0 (rVal (mC (.int 20)) (rNil))))))))))))
noncomputable def f__law_bad_thing : Fn := fnSem 8 [true, false, false] b__law_bad_thing
theorem w__law_bad_thing {f : Addr} {fd : FuncData} (F : Fun K "_law_bad_thing" "_law_bad_thing" s__law_bad_thing f fd) (g : mg "_law_bad_thing" = some (.ref f)) (hb : Binds K fd ["pool", "key", "tag"] []) (m_len : mg "len" = none) (m_str : mg "str" = none) (F__law_take : FnT P w K mg base CA "_law_take" 2 1 f__law_take) : FnT P w K mg base CA "_law_bad_thing" 3 2 f__law_bad_thing :=
  fnt_body F g hb sc__law_bad_thing rfl rfl rfl fun cdv A outer s H E hr => (mss_cons (ms_set (i := 3) sc__law_bad_thing.nd (me_call F__law_take (hr.mono (by decide)) zf_takes (mr_io 0 (pv 0) (mr_val (p1 := true) (p2 := true) (me_len m_len (me_var 2 (pv 2))) mr_nil)) (by rfl))) (mss_cons (ms_set (i := 4) sc__law_bad_thing.nd (me_ix (p1 := true) (p2 := false) (k1 := true) me_str (me_call F__law_take (hr.mono (by decide)) zf_takes (mr_io 0 (pv 0) (mr_val (p1 := true) (p2 := true) me_int mr_nil)) (by rfl)))) (mss_cons (ms_set (i := 5) sc__law_bad_thing.nd (me_lst false (ma_cons (p1 := true) (p2 := true) me_str (ma_cons (p1 := true) (p2 := true) me_str (ma_cons (p1 := true) (p2 := true) me_str (ma_cons (p1 := true) (p2 := true) me_str (ma_cons (p1 := true) (p2 := true) me_non (ma_cons (p1 := true) (p2 := true) me_int (ma_cons (p1 := true) (p2 := true) (me_lst false (ma_cons (p1 := true) (p2 := true) me_str ma_nil)) (ma_cons (p1 := true) (p2 := true) (me_tup (ma_cons (p1 := true) (p2 := true) me_str ma_nil)) (ma_cons (p1 := true) (p2 := true) (me_op (p1 := true) (p2 := true) (k1 := false) op_addW (me_var 2 (pv 2)) me_str) (ma_cons (p1 := true) (p2 := true) me_bl (ma_cons (p1 := true) (p2 := true) (me_op (p1 := true) (p2 := true) (k1 := false) op_addW (me_var 2 (pv 2)) me_str) ma_nil))))))))))))) (mss_cons (ms_set (i := 5) sc__law_bad_thing.nd (me_op (p1 := true) (p2 := true) (k1 := false) op_addW (me_var 5 (pv 5)) (me_op (p1 := true) (p2 := true) (k1 := true) op_mulW (me_lst false (ma_cons (p1 := true) (p2 := true) (me_op (p1 := true) (p2 := true) (k1 := true) op_addW (me_op (p1 := true) (p2 := true) (k1 := true) op_addW (me_slice false (p := true) (p1 := true) (p2 := true) (k1 := false) (me_var 2 (pv 2)) mo_no (mo_some (me_var 3 (pv 3)))) (me_var 4 (pv 4))) (me_slice false (p := true) (p1 := true) (p2 := true) (k1 := false) (me_var 2 (pv 2)) (mo_some (me_var 3 (pv 3))) mo_no)) (ma_cons (p1 := true) (p2 := true) (me_op (p1 := true) (p2 := true) (k1 := true) op_addW (me_op (p1 := true) (p2 := true) (k1 := true) op_addW (me_slice false (p := true) (p1 := true) (p2 := true) (k1 := false) (me_var 2 (pv 2)) mo_no (mo_some (me_var 3 (pv 3)))) (me_var 4 (pv 4))) (me_slice false (p := true) (p1 := true) (p2 := true) (k1 := false) (me_var 2 (pv 2)) (mo_some (me_op (p1 := true) (p2 := true) (k1 := false) op_addW (me_var 3 (pv 3)) me_int)) mo_no)) (ma_cons (p1 := true) (p2 := true) (me_op (p1 := true) (p2 := true) (k1 := false) op_addW (me_var 2 (pv 2)) (me_var 4 (pv 4))) ma_nil)))) me_int))) (mss_cons (ms_set (i := 6) sc__law_bad_thing.nd (me_lst false (ma_cons (p1 := true) (p2 := true) me_bl (ma_cons (p1 := true) (p2 := true) me_bl (ma_cons (p1 := true) (p2 := true) me_non (ma_cons (p1 := true) (p2 := true) (me_strOf m_str (me_var 1 (pv 1))) (ma_cons (p1 := true) (p2 := true) (me_lst false (ma_cons (p1 := true) (p2 := true) (me_var 1 (pv 1)) ma_nil)) (ma_cons (p1 := true) (p2 := true) (me_tup (ma_cons (p1 := true) (p2 := true) (me_var 1 (pv 1)) ma_nil)) (ma_cons (p1 := true) (p2 := true) me_str (ma_cons (p1 := true) (p2 := true) me_edc (ma_cons (p1 := true) (p2 := true) (me_neg (me_var 1 (pv 1))) (ma_cons (p1 := true) (p2 := true) (me_op (p1 := true) (p2 := true) (k1 := false) op_addW (me_var 1 (pv 1)) me_int) ma_nil)))))))))))) (mss_cons (ms_set (i := 7) sc__law_bad_thing.nd (me_op (p1 := false) (p2 := false) (k1 := true) op_addW (me_op (p1 := false) (p2 := true) (k1 := true) op_mulW (me_lst false (ma_cons (p1 := false) (p2 := true) (me_tup (ma_cons (p1 := false) (p2 := true) (me_ix (p1 := true) (p2 := false) (k1 := false) (me_var 6 (pv 6)) (me_call F__law_take (hr.mono (by decide)) zf_takes (mr_io 0 (pv 0) (mr_val (p1 := true) (p2 := true) me_int mr_nil)) (by rfl))) (ma_cons (p1 := true) (p2 := true) (me_var 2 (pv 2)) ma_nil))) ma_nil)) me_int) (me_op (p1 := false) (p2 := true) (k1 := true) op_mulW (me_lst false (ma_cons (p1 := false) (p2 := true) (me_tup (ma_cons (p1 := true) (p2 := false) (me_var 1 (pv 1)) (ma_cons (p1 := false) (p2 := true) (me_ix (p1 := true) (p2 := false) (k1 := false) (me_var 5 (pv 5)) (me_call F__law_take (hr.mono (by decide)) zf_takes (mr_io 0 (pv 0) (mr_val (p1 := true) (p2 := true) me_int mr_nil)) (by rfl))) ma_nil))) ma_nil)) me_int))) (mss_cons (ms_set (i := 7) sc__law_bad_thing.nd (me_op (p1 := true) (p2 := true) (k1 := false) op_addW (me_var 7 (pv 7)) (me_lst false (ma_cons (p1 := true) (p2 := true) (me_lst false (ma_cons (p1 := true) (p2 := true) (me_var 1 (pv 1)) (ma_cons (p1 := true) (p2 := true) (me_var 2 (pv 2)) ma_nil))) (ma_cons (p1 := true) (p2 := true) (me_tup (ma_cons (p1 := true) (p2 := true) (me_var 1 (pv 1)) ma_nil)) (ma_cons (p1 := true) (p2 := true) (me_tup (ma_cons (p1 := true) (p2 := true) (me_var 2 (pv 2)) (ma_cons (p1 := true) (p2 := true) (me_var 1 (pv 1)) ma_nil))) (ma_cons (p1 := true) (p2 := true) (me_tup (ma_cons (p1 := true) (p2 := true) (me_var 1 (pv 1)) (ma_cons (p1 := true) (p2 := true) (me_var 2 (pv 2)) (ma_cons (p1 := true) (p2 := true) me_int ma_nil)))) (ma_cons (p1 := true) (p2 := true) (me_var 1 (pv 1)) (ma_cons (p1 := true) (p2 := true) (me_var 2 (pv 2)) (ma_cons (p1 := true) (p2 := true) me_non (ma_cons (p1 := true) (p2 := true) (me_tup ma_nil) ma_nil))))))))))) (mss_one (ms_ret (me_ix (p1 := true) (p2 := false) (k1 := true) (me_op (p1 := true) (p2 := true) (k1 := false) op_addW (me_var 7 (pv 7)) (me_lst true (ma_cons (p1 := true) (p2 := true) (me_disp1 (me_var 1 (pv 1)) (me_var 2 (pv 2))) (ma_cons (p1 := true) (p2 := true) (me_tup (ma_cons (p1 := true) (p2 := true) (me_var 1 (pv 1)) (ma_cons (p1 := true) (p2 := true) (me_var 2 (pv 2)) (ma_cons (p1 := true) (p2 := true) (me_var 2 (pv 2)) ma_nil)))) ma_nil)))) (me_call F__law_take (hr.mono (by decide)) zf_takes (mr_io 0 (pv 0) (mr_val (p1 := true) (p2 := true) me_int mr_nil)) (by rfl))))))))))))
/-! ### _law_spoilt -/
abbrev s__law_spoilt : Stmt := topS 28
abbrev N__law_spoilt : List Str := ["pool", "rows", "found", "row", "hand", "way", "at", "odd", "some"]
theorem sc__law_spoilt : FnScope N__law_spoilt ["pool", "rows"] (defScope s__law_spoilt) := ⟨rfl, rfl, rfl, by decide +kernel, rfl, by decide +kernel, by decide +kernel⟩
noncomputable def c__law_spoilt_1 : Sm W := mCompN (tgN 3) (Sm.ret true) (mUn (listOfW true) (mVar 3)) [3] (iLst (mVar 1))
noncomputable def b__law_spoilt : Sm Fl := sSeq (sSet 2 true (c__law_spoilt_1)) (sSeq (sSet 4 true (mCall f__law_take 2 (Sm.bind (mVar 0) fun _ => rIo 0 (rVal (mUn lenW (mVar 2)) (rNil))))) (sAli 2 3 (pI 2 (pV 2) (mVar 4)) (fun p => sSeq (sBor 2 3 (sSet 5 true (mCall f__law_take 2 (Sm.bind (mVar 0) fun _ => rIo 0 (rVal (mC (.int 8)) (rNil))))) p) ((sIfB 2 3 (mAnd (toB (mBin ltW true (mVar 5) (mC (.int 5)))) (toB (mBin neW true (mVar 3) (mArgs (lstW false) (mNil))))) (fun p => sSeq (sBor 2 3 (sSet 6 true (mCall f__law_take 2 (Sm.bind (mVar 0) fun _ => rIo 0 (rVal (mUn lenW (mVar 3)) (rNil))))) p) ((fun p => sSeq (sBor 2 3 (sSto 3 (mVar 6) (mCall f__law_bad_thing 3 (Sm.bind (mVar 0) fun _ => rIo 0 (rVal (mBin ixW true (mBin ixW true (mVar 3) (mVar 6)) (mC (.int 0))) (rVal (mBin ixW true (mBin ixW true (mVar 3) (mVar 6)) (mC (.int 1))) (rNil)))))) p) ((fun _ => sRet true (mMove 2)) p)) p)) (sIfB 2 3 (toB (mBin eqW true (mVar 5) (mC (.int 5)))) (fun p => sSeq (sBor 2 3 (sSet 7 true (mBin ixW true (mArgs (lstW false) (mCons (mC .non) (mCons (mArgs tupW (mNil)) (mCons (mArgs (lstW false) (mNil)) (mCons (mC (.str "a")) (mCons (mC (.int 0)) (mCons (mArgs tupW (mCons (mC (.int 1)) (mCons (mC (.int 2)) (mNil)))) (mCons (mArgs tupW (mCons (mC (.str "a")) (mCons (mC (.str "a")) (mNil)))) (mCons (mC .edc) (mNil)))))))))) (mCall f__law_take 2 (Sm.bind (mVar 0) fun _ => rIo 0 (rVal (mC (.int 8)) (rNil)))))) p) ((fun p => sSeq (sBor 2 3 (sDrop (mMut 3 fInsert (mCons (mCall f__law_take 2 (Sm.bind (mVar 0) fun _ => rIo 0 (rVal (mBin (addW false) true (mUn lenW (mVar 3)) (mC (.int 1))) (rNil)))) (mCons (mVar 7) (mNil))))) p) ((fun _ => sRet true (mMove 2)) p)) p)) (sIfB 2 3 (toB (mBin eqW true (mVar 5) (mC (.int 6)))) (sFzA 2 3 (sSeq (sSto 2 (mVar 4) (mBin ixW true (mArgs (lstW false) (mCons (mUn tupOfW (mVar 3)) (mCons (mC .non) (mCons (mC .edc) (mCons (mC (.str "")) (mCons (mC (.int 0)) (mCons (mArgs tupW (mCons (mC (.int 1)) (mCons (mC (.str "a")) (mNil)))) (mCons (mArgs (lstW false) (mCons (mVar 3) (mNil))) (mCons (mUn dictFW (mVar 3)) (mNil)))))))))) (mCall f__law_take 2 (Sm.bind (mVar 0) fun _ => rIo 0 (rVal (mC (.int 8)) (rNil)))))) (sRet true (mMove 2)))) (sFzA 2 3 (sSeq (sSet 8 true (mArgs (lstW false) (mCons (mBin (addW false) true (mSlice false true (mVar 2) (mNo) (mPart (mVar 4))) (mSlice false true (mVar 2) (mPart (mBin (addW false) true (mVar 4) (mC (.int 1)))) (mNo))) (mCons (mBin (addW false) true (mVar 2) (mArgs (lstW false) (mCons (mVar 3) (mNil)))) (mCons (mBin (addW false) true (mVar 2) (mBin (mulW false) true (mArgs (lstW false) (mCons (mArgs (lstW false) (mNil)) (mNil))) (mC (.int 6)))) (mCons (mArgs (lstW false) (mNil)) (mCons (mUn tupOfW (mVar 2)) (mNil)))))))) (sRet true (mBin ixW true (mBin (addW true) true (mVar 8) (mArgs (lstW true) (mCons (mC .non) (mCons (mVar 3) (mCons (mDisp1 (mC (.int 0)) (mVar 3)) (mCons (mBin (mulW false) true (mArgs (lstW false) (mCons (mArgs (lstW false) (mNil)) (mNil))) (mC (.int 6))) (mCons (mBin (mulW false) true (mArgs (lstW false) (mCons (mArgs (lstW false) (mNil)) (mNil))) (mC (.int 7))) (mNil)))))))) (mCall f__law_take 2 (Sm.bind (mVar 0) fun _ => rIo 0 (rVal (mC (.int 10)) (rNil))))))))))) p))))
noncomputable def f__law_spoilt : Fn := fnSem 9 [true, false] b__law_spoilt
theorem w__law_spoilt {f : Addr} {fd : FuncData} (F : Fun K "_law_spoilt" "_law_spoilt" s__law_spoilt f fd) (g : mg "_law_spoilt" = some (.ref f)) (hb : Binds K fd ["pool", "rows"] []) (m_dict : mg "dict" = none) (m_len : mg "len" = none) (m_list : mg "list" = none) (m_tuple : mg "tuple" = none) (F__law_take : FnT P w K mg base CA "_law_take" 2 1 f__law_take) (F__law_bad_thing : FnT P w K mg base CA "_law_bad_thing" 3 2 f__law_bad_thing) : FnT P w K mg base CA "_law_spoilt" 2 3 f__law_spoilt :=
  fnt_body F g hb sc__law_spoilt rfl rfl rfl fun cdv A outer s H E hr => (mss_cons (ms_setLcN (i := 2) rfl sc__law_spoilt.nd (own := [("row", 3)]) (mi_list (me_var 1 (pv 1))) (show BlkOk N__law_spoilt (defScope s__law_spoilt) _ _ from blkOk_by (own := [("row", 3)]) (by decide +kernel)) (fun _ _ _ _ _ => (mg_name (i := 3) sc__law_spoilt.nd)) (fun _ _ _ _ _ => mts_nil) (fun _ _ _ _ _ => (me_listOf true m_list (me_var 3 (pv 3))))) (mss_cons (ms_set (i := 4) sc__law_spoilt.nd (me_call F__law_take (hr.mono (by decide)) zf_takes (mr_io 0 (pv 0) (mr_val (p1 := true) (p2 := true) (me_len m_len (me_var 2 (pv 2))) mr_nil)) (by rfl))) (mss_ali sc__law_spoilt.nd (mp_ix (mp_var 2 (pv 2)) (me_var 4 (pv 4))) (msa_bor (ms_set (i := 5) sc__law_spoilt.nd (me_call F__law_take (hr.mono (by decide)) (zf_takes (CA := CA) (io := [])) (mr_io 0 (pv 0) (mr_val (p1 := true) (p2 := true) me_int mr_nil)) (by rfl))) (msa_ifB (mt_w (mw_and (p1 := true) (p2 := true) (mt_cmp (p1 := true) (p2 := true) (k1 := false) (op_ltW hr) (me_var 5 (pv 5)) me_int) (mw_and1 (mt_cmp (p1 := true) (p2 := true) (k1 := false) (op_neW hr) (me_var 3 (pv 3)) (me_lst false ma_nil))))) (msa_bor (ms_set (i := 6) sc__law_spoilt.nd (me_call F__law_take (hr.mono (by decide)) (zf_takes (CA := CA) (io := [])) (mr_io 0 (pv 0) (mr_val (p1 := true) (p2 := true) (me_len m_len (me_var 3 (pv 3))) mr_nil)) (by rfl))) (msa_bor (ms_sto (me_call F__law_bad_thing (hr.mono (by decide)) (zf_takes (CA := CA) (io := [])) (mr_io 0 (pv 0) (mr_val (p1 := true) (p2 := true) (me_ix (p1 := true) (p2 := true) (k1 := true) (me_ix (p1 := true) (p2 := true) (k1 := false) (me_var 3 (pv 3)) (me_var 6 (pv 6))) me_int) (mr_val (p1 := true) (p2 := true) (me_ix (p1 := true) (p2 := true) (k1 := true) (me_ix (p1 := true) (p2 := true) (k1 := false) (me_var 3 (pv 3)) (me_var 6 (pv 6))) me_int) mr_nil))) (by rfl)) (pv 3) (me_var 6 (pv 6))) (msa_of (mss_one (ms_ret (me_move 2 (pv 2) rfl)))))) (msa_ifB (mt_cmp (p1 := true) (p2 := true) (k1 := false) (op_eqW hr) (me_var 5 (pv 5)) me_int) (msa_bor (ms_set (i := 7) sc__law_spoilt.nd (me_ix (p1 := true) (p2 := false) (k1 := true) (me_lst false (ma_cons (p1 := true) (p2 := true) me_non (ma_cons (p1 := true) (p2 := true) (me_tup ma_nil) (ma_cons (p1 := true) (p2 := true) (me_lst false ma_nil) (ma_cons (p1 := true) (p2 := true) me_str (ma_cons (p1 := true) (p2 := true) me_int (ma_cons (p1 := true) (p2 := true) (me_tup (ma_cons (p1 := true) (p2 := true) me_int (ma_cons (p1 := true) (p2 := true) me_int ma_nil))) (ma_cons (p1 := true) (p2 := true) (me_tup (ma_cons (p1 := true) (p2 := true) me_str (ma_cons (p1 := true) (p2 := true) me_str ma_nil))) (ma_cons (p1 := true) (p2 := true) me_edc ma_nil))))))))) (me_call F__law_take (hr.mono (by decide)) (zf_takes (CA := CA) (io := [])) (mr_io 0 (pv 0) (mr_val (p1 := true) (p2 := true) me_int mr_nil)) (by rfl)))) (msa_bor (ms_expr (me_insert (pv 3) (ma_cons (p1 := false) (p2 := true) (me_call F__law_take (hr.mono (by decide)) (zf_takes (CA := CA) (io := [])) (mr_io 0 (pv 0) (mr_val (p1 := true) (p2 := true) (me_op (p1 := true) (p2 := true) (k1 := true) op_addW (me_len m_len (me_var 3 (pv 3))) me_int) mr_nil)) (by rfl)) (ma_cons (p1 := true) (p2 := true) (me_var 7 (pv 7)) ma_nil)))) (msa_of (mss_one (ms_ret (me_move 2 (pv 2) rfl)))))) (msa_ifB (mt_cmp (p1 := true) (p2 := true) (k1 := false) (op_eqW hr) (me_var 5 (pv 5)) me_int) (msa_fz (mss_cons (ms_sto (me_ix (p1 := true) (p2 := false) (k1 := true) (me_lst false (ma_cons (p1 := true) (p2 := true) (me_tupOf m_tuple (me_var 3 (pv 3))) (ma_cons (p1 := true) (p2 := true) me_non (ma_cons (p1 := true) (p2 := true) me_edc (ma_cons (p1 := true) (p2 := true) me_str (ma_cons (p1 := true) (p2 := true) me_int (ma_cons (p1 := true) (p2 := true) (me_tup (ma_cons (p1 := true) (p2 := true) me_int (ma_cons (p1 := true) (p2 := true) me_str ma_nil))) (ma_cons (p1 := true) (p2 := true) (me_lst false (ma_cons (p1 := true) (p2 := true) (me_var 3 (pv 3)) ma_nil)) (ma_cons (p1 := true) (p2 := true) (me_dictF rfl m_dict (me_var 3 (pv 3))) ma_nil))))))))) (me_call F__law_take (hr.mono (by decide)) zf_takes (mr_io 0 (pv 0) (mr_val (p1 := true) (p2 := true) me_int mr_nil)) (by rfl))) (pv 2) (me_var 4 (pv 4))) (mss_one (ms_ret (me_move 2 (pv 2) rfl))))) (msa_fz (mss_cons (ms_set (i := 8) sc__law_spoilt.nd (me_lst false (ma_cons (p1 := true) (p2 := true) (me_op (p1 := true) (p2 := true) (k1 := true) op_addW (me_slice false (p := true) (p1 := true) (p2 := true) (k1 := false) (me_var 2 (pv 2)) mo_no (mo_some (me_var 4 (pv 4)))) (me_slice false (p := true) (p1 := true) (p2 := true) (k1 := false) (me_var 2 (pv 2)) (mo_some (me_op (p1 := true) (p2 := true) (k1 := false) op_addW (me_var 4 (pv 4)) me_int)) mo_no)) (ma_cons (p1 := true) (p2 := true) (me_op (p1 := true) (p2 := true) (k1 := false) op_addW (me_var 2 (pv 2)) (me_lst false (ma_cons (p1 := true) (p2 := true) (me_var 3 (pv 3)) ma_nil))) (ma_cons (p1 := true) (p2 := true) (me_op (p1 := true) (p2 := true) (k1 := false) op_addW (me_var 2 (pv 2)) (me_op (p1 := true) (p2 := true) (k1 := true) op_mulW (me_lst false (ma_cons (p1 := true) (p2 := true) (me_lst false ma_nil) ma_nil)) me_int)) (ma_cons (p1 := true) (p2 := true) (me_lst false ma_nil) (ma_cons (p1 := true) (p2 := true) (me_tupOf m_tuple (me_var 2 (pv 2))) ma_nil))))))) (mss_one (ms_ret (me_ix (p1 := true) (p2 := false) (k1 := true) (me_op (p1 := true) (p2 := true) (k1 := false) op_addW (me_var 8 (pv 8)) (me_lst true (ma_cons (p1 := true) (p2 := true) me_non (ma_cons (p1 := true) (p2 := true) (me_var 3 (pv 3)) (ma_cons (p1 := true) (p2 := true) (me_disp1 me_int (me_var 3 (pv 3))) (ma_cons (p1 := true) (p2 := true) (me_op (p1 := true) (p2 := true) (k1 := true) op_mulW (me_lst false (ma_cons (p1 := true) (p2 := true) (me_lst false ma_nil) ma_nil)) me_int) (ma_cons (p1 := true) (p2 := true) (me_op (p1 := true) (p2 := true) (k1 := true) op_mulW (me_lst false (ma_cons (p1 := true) (p2 := true) (me_lst false ma_nil) ma_nil)) me_int) ma_nil))))))) (me_call F__law_take (hr.mono (by decide)) zf_takes (mr_io 0 (pv 0) (mr_val (p1 := true) (p2 := true) me_int mr_nil)) (by rfl))))))))))))))
/-! ### law -/
abbrev isTab_LotError : Nat → Option Bool := tabU [some 0] 6
abbrev isTab_ValueError : Nat → Option Bool := tabU [none] 6
abbrev s_law : Stmt := topS 29
abbrev N_law : List Str := ["script", "k", "pool", "rows", "thing", "turn", "handed", "found", "many", "far", "row", "key", "at", "odd", "some", "caught"]
theorem sc_law : FnScope N_law ["script"] (defScope s_law) := ⟨rfl, rfl, rfl, by decide +kernel, rfl, by decide +kernel, by decide +kernel⟩
noncomputable def c_law_1 : Sm W := mComp false (tgN 5) (Sm.ret true) (mFzD (mCall f__law_spoilt 2 (Sm.bind (mVar 2) fun _ => rIo 2 (rVal (mVar 3) (rNil))))) [5] (iArgs rng1 (mCons (mC (.int 8)) (mNil)))
noncomputable def b_law_2 : Sm Fl := sSeq (sSet 6 true (mFz (mCallP (f__law_copy 7) (Sm.bind (mCons (mVar 4) (mNil)) fun ws => if ws.length = 1 then Sm.ret ws else fun _ => .bad)))) (sSeq (sSet 7 true (mCallP f_are_rows (Sm.bind (mCons (mVar 6) (mNil)) fun ws => if ws.length = 1 then Sm.ret ws else fun _ => .bad))) (sSeq (sIf (mOr (mNot (toB (mUn (isiW ["bool"]) (mVar 7)))) (toB (mBin neW true (mVar 7) (mCallP f__law_due (Sm.bind (mCons (mVar 4) (mNil)) fun ws => if ws.length = 1 then Sm.ret ws else fun _ => .bad))))) (sRet true (mC (.bl false))) (sNil)) (sIf (mNot (toB (mCallP (f__law_same 7) (Sm.bind (mCons (mVar 6) (mCons (mVar 4) (mNil))) fun ws => if ws.length = 2 then Sm.ret ws else fun _ => .bad)))) (sRet true (mC (.bl false))) (sNil))))
noncomputable def b_law_1 : Sm Fl := sSeq (sSet 2 true (mCallP f__law_pool (Sm.bind (mCons (mVar 0) (mCons (mVar 1) (mNil))) fun ws => if ws.length = 2 then Sm.ret ws else fun _ => .bad))) (sSeq (sSet 3 true (mFz (mCall f__law_rows 2 (Sm.bind (mVar 2) fun _ => rIo 2 (rVal (mC (.int 8)) (rNil)))))) (sSeq (sFor (tgN 4) b_law_2 [6, 7] (iLst (mBin (addW false) true (mArgs (lstW false) (mCons (mVar 3) (mNil))) (mFz (c_law_1))))) (sIf (toB (mBin (isBW true) true (mCallP f_are_rows (Sm.bind (mCons (mVar 3) (mNil)) fun ws => if ws.length = 1 then Sm.ret ws else fun _ => .bad)) (mC (.bl true)))) (sRet true (mC (.bl false))) (sNil))))
noncomputable def c_law_2 : Sm W := mComp false (tgN 11) (Sm.ret true) (mArgs tupW (mCons (mVar 11) (mCons (mCall f__law_tag 1 (Sm.bind (mVar 2) fun _ => rIo 2 (rNil))) (mNil)))) [11] (iLst (mArgs (lstW false) (mCons (mBin powW true (mC (.int 10)) (mC (.int 30))) (mCons (mBin subW true (mC (.int 0)) (mBin powW true (mC (.int 10)) (mC (.int 30)))) (mCons (mVar 9) (mNil))))))
noncomputable def b_law_3 : Sm Fl := sIf (toB (mBin (isBW true) true (mCallP f_are_rows (Sm.bind (mCons (mVar 4) (mNil)) fun ws => if ws.length = 1 then Sm.ret ws else fun _ => .bad)) (mC (.bl true)))) (sRet true (mC (.bl false))) (sNil)
noncomputable def b_law_4 : Sm Fl := sIf (toB (mBin (isBW true) true (mCallP f_are_rows (Sm.bind (mCons (mVar 4) (mNil)) fun ws => if ws.length = 1 then Sm.ret ws else fun _ => .bad)) (mC (.bl false)))) (sRet true (mC (.bl false))) (sNil)
noncomputable def b_law_5 : Sm Fl := sIf (mOr (mNot (toB (mUn (isxW isTab_LotError) (mVar 15)))) (mOr (mNot (toB (mUn (isxW isTab_ValueError) (mVar 15)))) (toB (mBin neW true (mUn (strEW 6) (mVar 15)) (mC (.str "why")))))) (sRet true (mC (.bl false))) (sNil)
noncomputable def b_law : Sm Fl := sSeq (sFor (tgN 1) b_law_1 [1, 2, 3, 4, 6, 7] (iArgs rng1 (mCons (mArgs max2W (mCons (mC (.int 1)) (mCons (mArgs min2W (mCons (mC (.int 15)) (mCons (mUn lenW (mVar 0)) (mNil)))) (mNil)))) (mNil)))) (sSeq (sSet 2 true (mCallP f__law_pool (Sm.bind (mCons (mVar 0) (mCons (mC (.int 1)) (mNil))) fun ws => if ws.length = 2 then Sm.ret ws else fun _ => .bad))) (sSeq (sSet 8 true (mBin (addW false) true (mC (.int 201)) (mCall f__law_take 2 (Sm.bind (mVar 2) fun _ => rIo 2 (rVal (mC (.int 1800)) (rNil)))))) (sSeq (sSet 9 true (mBin mulXW true (mBin powW true (mC (.int 10)) (mC (.int 30))) (mBin (addW false) true (mC (.int 1)) (mCall f__law_take 2 (Sm.bind (mVar 2) fun _ => rIo 2 (rVal (mBin powW true (mC (.int 10)) (mC (.int 20))) (rNil))))))) (sSeq (sSet 10 true (mFz (c_law_2))) (sSeq (sSet 10 true (mBin (addW false) false (mVar 10) (mBin (mulW false) true (mArgs (lstW false) (mCons (mArgs tupW (mCons (mBin (mulW false) true (mCall f__law_key 2 (Sm.bind (mVar 2) fun _ => rIo 2 (rVal (mC (.int 2)) (rNil)))) (mBin powW true (mC (.int 10)) (mC (.int 5)))) (mCons (mC (.str "a")) (mNil)))) (mNil))) (mVar 8)))) (sSeq (sSet 12 true (mCall f__law_take 2 (Sm.bind (mVar 2) fun _ => rIo 2 (rVal (mUn lenW (mVar 10)) (rNil))))) (sSeq (sSet 13 true (mBin ixW true (mArgs (lstW false) (mCons (mArgs tupW (mCons (mC (.bl true)) (mCons (mC (.str "a")) (mNil)))) (mCons (mArgs tupW (mCons (mC (.int 1)) (mCons (mC (.str "")) (mNil)))) (mCons (mArgs (lstW false) (mCons (mC (.int 1)) (mCons (mC (.str "a")) (mNil)))) (mCons (mArgs tupW (mCons (mC (.int 1)) (mCons (mC (.str "a")) (mCons (mC (.int 1)) (mNil))))) (mCons (mC .non) (mCons (mArgs tupW (mCons (mC (.str "1")) (mCons (mC (.str "a")) (mNil)))) (mCons (mArgs tupW (mCons (mC (.int 1)) (mCons (mC (.str "A")) (mNil)))) (mNil))))))))) (mCall f__law_take 2 (Sm.bind (mVar 2) fun _ => rIo 2 (rVal (mC (.int 7)) (rNil)))))) (sSeq (sFor (tgN 4) b_law_3 [4] (iLst (mArgs (lstW false) (mCons (mArgs (lstW false) (mCons (mVar 10) (mNil))) (mCons (mArgs (lstW false) (mCons (mSlice false true (mVar 10) (mNo) (mPart (mC (.int 3)))) (mCons (mArgs (lstW false) (mNil)) (mNil)))) (mCons (mBin (mulW false) true (mArgs (lstW false) (mCons (mArgs (lstW false) (mNil)) (mCons (mVar 10) (mNil)))) (mC (.int 3))) (mNil))))))) (sSeq (sIf (toB (mBin (isBW true) true (mCallP f_are_rows (Sm.bind (mCons (mArgs (lstW false) (mCons (mArgs (lstW false) (mNil)) (mCons (mBin (addW false) true (mBin (addW false) true (mSlice false true (mVar 10) (mNo) (mPart (mVar 12))) (mArgs (lstW false) (mCons (mVar 13) (mNil)))) (mSlice false true (mVar 10) (mPart (mBin (addW false) true (mVar 12) (mC (.int 1)))) (mNo))) (mNil)))) (mNil)) fun ws => if ws.length = 1 then Sm.ret ws else fun _ => .bad)) (mC (.bl false)))) (sRet true (mC (.bl false))) (sNil)) (sSeq (sSet 14 true (mArgs (lstW false) (mCons (mC .non) (mCons (mC (.int 0)) (mCons (mC (.bl true)) (mCons (mC (.str "")) (mCons (mC (.str "-")) (mCons (mArgs tupW (mNil)) (mCons (mArgs (lstW false) (mNil)) (mCons (mC .edc) (mCons (mArgs (lstW false) (mCons (mArgs tupW (mNil)) (mNil))) (mCons (mArgs (lstW false) (mCons (mC .non) (mNil))) (mCons (mArgs (lstW false) (mCons (mArgs (lstW false) (mCons (mC .non) (mNil))) (mNil))) (mCons (mArgs (lstW false) (mCons (mArgs (lstW false) (mCons (mArgs tupW (mNil)) (mNil))) (mNil))) (mCons (mArgs tupW (mCons (mArgs (lstW false) (mNil)) (mNil))) (mNil)))))))))))))))) (sSeq (sFor (tgN 4) b_law_4 [4] (iLst (mBin (addW false) true (mVar 14) (mArgs (lstW false) (mCons (mArgs (lstW false) (mCons (mArgs (lstW false) (mCons (mArgs tupW (mCons (mC (.int 1)) (mCons (mC (.str "a")) (mNil)))) (mNil))) (mCons (mArgs tupW (mNil)) (mNil)))) (mCons (mArgs (lstW false) (mCons (mArgs (lstW false) (mCons (mArgs tupW (mCons (mC (.int 1)) (mCons (mC (.str "a")) (mNil)))) (mCons (mArgs tupW (mCons (mC (.int 1)) (mNil))) (mNil)))) (mNil))) (mNil))))))) (sSeq (mForX 15 b_law_5 [15] [(1, "why"), (2, "why"), (3, "why"), (4, "why"), (5, "why"), (0, "why")]) (sRet true (mBin (isBW false) true (mCallP f_are_rows (Sm.bind (mCons (mArgs (lstW false) (mCons (mArgs (lstW false) (mNil)) (mNil))) (mNil)) fun ws => if ws.length = 1 then Sm.ret ws else fun _ => .bad)) (mC (.bl true))))))))))))))))
noncomputable def f_law : Fn := fnSem 16 [false] b_law
theorem o_law {f : Addr} {fd : FuncData} (F : Fun K "law" "law" s_law f fd) (m_ValueError : mg "ValueError" = none) (m_bool : mg "bool" = none) (m_isinstance : mg "isinstance" = none) (m_len : mg "len" = none) (m_max : mg "max" = none) (m_min : mg "min" = none) (m_range : mg "range" = none) (m_str : mg "str" = none) (k_LotError : ClsT K mg CA "LotError" 0) (k_NoDeed : ClsT K mg CA "NoDeed" 2) (k_NoName : ClsT K mg CA "NoName" 4) (k_NoNumber : ClsT K mg CA "NoNumber" 1) (k_NoRow : ClsT K mg CA "NoRow" 5) (k_NoText : ClsT K mg CA "NoText" 3) (h_isTab_LotError : ∀ c b, isTab_LotError c = some b → ExcC K (CA c) ∧ isAns K (.ref (CA c)) [.ref (CA 0)] true = some b) (h_isTab_ValueError : ∀ c b, isTab_ValueError c = some b → ExcC K (CA c) ∧ isAns K (.ref (CA c)) [.type "ValueError"] true = some b) (h_strs : ∀ c, c < 6 → PySem.W.findIn K (.ref (CA c)) "__str__" = some (some (.builtin "BaseException.__str__")) ∧ PySem.W.subIn K (.ref (CA c)) (.type "BaseException") = some true) (F_are_rows : FnT P w K mg base CA "are_rows" 1 4 f_are_rows) (F__law_pool : FnT P w K mg base CA "_law_pool" 2 1 f__law_pool) (F__law_take : FnT P w K mg base CA "_law_take" 2 1 f__law_take) (F__law_tag : FnT P w K mg base CA "_law_tag" 1 2 f__law_tag) (F__law_key : FnT P w K mg base CA "_law_key" 2 2 f__law_key) (F__law_rows : FnT P w K mg base CA "_law_rows" 2 4 f__law_rows) (F__law_copy : FnT P w K mg base CA "_law_copy" 1 8 (f__law_copy 7)) (F__law_same : FnT P w K mg base CA "_law_same" 2 8 (f__law_same 7)) (F__law_due : FnT P w K mg base CA "_law_due" 1 2 f__law_due) (F__law_spoilt : FnT P w K mg base CA "_law_spoilt" 2 3 f__law_spoilt) : FnOk P w K mg base (L2.CX P w) 9 f fd ["script"] (spOf ⟨K, CA⟩ 1 f_law) :=
  fn_body F sc_law rfl rfl fun cdv A outer s H E hr => (mss_cons (ms_for [1, 2, 3, 4, 6, 7] zf_pass rfl (mi_range1 m_range (ma_cons (p1 := true) (p2 := true) (me_max2 rfl m_max (ma_cons (p1 := true) (p2 := true) me_int (ma_cons (p1 := true) (p2 := true) (me_min2 rfl m_min (ma_cons (p1 := true) (p2 := true) me_int (ma_cons (p1 := true) (p2 := true) (me_len m_len (me_var 0 (pv 0))) ma_nil))) ma_nil))) ma_nil)) (mg_name (i := 1) sc_law.nd) (mss_cons (ms_set (i := 2) sc_law.nd (me_callP F__law_pool (hr.mono (by decide)) zf_takes (ma_cons (p1 := true) (p2 := true) (me_var 0 (pv 0)) (ma_cons (p1 := true) (p2 := true) (me_var 1 (pv 1)) ma_nil)) (by rfl))) (mss_cons (ms_set (i := 3) sc_law.nd (me_fz (me_call F__law_rows (hr.mono (by decide)) zf_takes (mr_io 2 (pv 2) (mr_val (p1 := true) (p2 := true) me_int mr_nil)) (by rfl)))) (mss_cons (ms_for [6, 7] zf_pass rfl (mi_list (me_op (p1 := true) (p2 := false) (k1 := true) op_addW (me_lst false (ma_cons (p1 := true) (p2 := true) (me_var 3 (pv 3)) ma_nil)) (me_fz (me_lc rfl sc_law.nd (own := [("turn", 5)]) (p := true) (pt := true) (pe := false) (mi_range1 m_range (ma_cons (p1 := true) (p2 := true) me_int ma_nil)) (show BlkOk N_law (defScope s_law) _ _ from blkOk_by (own := [("turn", 5)]) (by decide +kernel)) (fun _ _ _ _ _ => (mg_name (i := 5) sc_law.nd)) (fun _ _ _ _ _ => mts_nil) (fun _ _ _ _ _ => (me_fzD (me_call F__law_spoilt (hr.mono (by decide)) blk_takes (mr_io 2 (pv 2) (mr_val (p1 := true) (p2 := true) (me_var 3 (pv 3)) mr_nil)) (by rfl)))))))) (mg_name (i := 4) sc_law.nd) (mss_cons (ms_set (i := 6) sc_law.nd (me_fz (me_callP F__law_copy (hr.mono (by decide)) zf_takes (ma_cons (p1 := true) (p2 := true) (me_var 4 (pv 4)) ma_nil) (by rfl)))) (mss_cons (ms_set (i := 7) sc_law.nd (me_callP F_are_rows (hr.mono (by decide)) zf_takes (ma_cons (p1 := true) (p2 := true) (me_var 6 (pv 6)) ma_nil) (by rfl))) (mss_cons (ms_if (mt_w (mw_or (p1 := true) (p2 := true) (mt_not (mt_val (me_isi ["bool"] (ca_ty (by rfl) m_bool PyProof.Rows.boot_bool) m_isinstance (me_var 7 (pv 7))))) (mw_or1 (mt_cmp (p1 := true) (p2 := true) (k1 := false) (op_neW hr) (me_var 7 (pv 7)) (me_callP F__law_due (hr.mono (by decide)) zf_takes (ma_cons (p1 := true) (p2 := true) (me_var 4 (pv 4)) ma_nil) (by rfl)))))) (mss_one (ms_ret me_bl)) mss_nil) (mss_one (ms_if (mt_not (mt_val (me_callP F__law_same (hr.mono (by decide)) zf_takes (ma_cons (p1 := true) (p2 := true) (me_var 6 (pv 6)) (ma_cons (p1 := true) (p2 := true) (me_var 4 (pv 4)) ma_nil)) (by rfl)))) (mss_one (ms_ret me_bl)) mss_nil)))))) (mss_one (ms_if (mt_cmp (p1 := true) (p2 := true) (k1 := true) op_isNotBW (me_callP F_are_rows (hr.mono (by decide)) zf_takes (ma_cons (p1 := true) (p2 := true) (me_var 3 (pv 3)) ma_nil) (by rfl)) me_bl) (mss_one (ms_ret me_bl)) mss_nil)))))) (mss_cons (ms_set (i := 2) sc_law.nd (me_callP F__law_pool (hr.mono (by decide)) zf_takes (ma_cons (p1 := true) (p2 := true) (me_var 0 (pv 0)) (ma_cons (p1 := true) (p2 := true) me_int ma_nil)) (by rfl))) (mss_cons (ms_set (i := 8) sc_law.nd (me_op (p1 := true) (p2 := false) (k1 := true) op_addW me_int (me_call F__law_take (hr.mono (by decide)) zf_takes (mr_io 2 (pv 2) (mr_val (p1 := true) (p2 := true) me_int mr_nil)) (by rfl)))) (mss_cons (ms_set (i := 9) sc_law.nd (me_op (p1 := true) (p2 := false) (k1 := true) op_mulXW (me_op (p1 := true) (p2 := true) (k1 := true) op_powW me_int me_int) (me_op (p1 := true) (p2 := false) (k1 := true) op_addW me_int (me_call F__law_take (hr.mono (by decide)) zf_takes (mr_io 2 (pv 2) (mr_val (p1 := true) (p2 := true) (me_op (p1 := true) (p2 := true) (k1 := true) op_powW me_int me_int) mr_nil)) (by rfl))))) (mss_cons (ms_setLc (i := 10) false rfl sc_law.nd (own := [("key", 11)]) (p := true) (pt := true) (pe := false) (mi_list (me_lst false (ma_cons (p1 := true) (p2 := true) (me_op (p1 := true) (p2 := true) (k1 := true) op_powW me_int me_int) (ma_cons (p1 := true) (p2 := true) (me_op (p1 := true) (p2 := true) (k1 := true) op_subW me_int (me_op (p1 := true) (p2 := true) (k1 := true) op_powW me_int me_int)) (ma_cons (p1 := true) (p2 := true) (me_var 9 (pv 9)) ma_nil))))) (show BlkOk N_law (defScope s_law) _ _ from blkOk_by (own := [("key", 11)]) (by decide +kernel)) (fun _ _ _ _ _ => (mg_name (i := 11) sc_law.nd)) (fun _ _ _ _ _ => mts_nil) (fun _ _ _ _ _ => (me_tup (ma_cons (p1 := true) (p2 := false) (me_var 11 (pv 11)) (ma_cons (p1 := false) (p2 := true) (me_call F__law_tag (hr.mono (by decide)) blk_takes (mr_io 2 (pv 2) mr_nil) (by rfl)) ma_nil))))) (mss_cons (ms_set (i := 10) sc_law.nd (me_op (p1 := true) (p2 := false) (k1 := false) op_addW (me_var 10 (pv 10)) (me_op (p1 := false) (p2 := true) (k1 := true) op_mulW (me_lst false (ma_cons (p1 := false) (p2 := true) (me_tup (ma_cons (p1 := false) (p2 := true) (me_op (p1 := false) (p2 := true) (k1 := true) op_mulW (me_call F__law_key (hr.mono (by decide)) zf_takes (mr_io 2 (pv 2) (mr_val (p1 := true) (p2 := true) me_int mr_nil)) (by rfl)) (me_op (p1 := true) (p2 := true) (k1 := true) op_powW me_int me_int)) (ma_cons (p1 := true) (p2 := true) me_str ma_nil))) ma_nil)) (me_var 8 (pv 8))))) (mss_cons (ms_set (i := 12) sc_law.nd (me_call F__law_take (hr.mono (by decide)) zf_takes (mr_io 2 (pv 2) (mr_val (p1 := true) (p2 := true) (me_len m_len (me_var 10 (pv 10))) mr_nil)) (by rfl))) (mss_cons (ms_set (i := 13) sc_law.nd (me_ix (p1 := true) (p2 := false) (k1 := true) (me_lst false (ma_cons (p1 := true) (p2 := true) (me_tup (ma_cons (p1 := true) (p2 := true) me_bl (ma_cons (p1 := true) (p2 := true) me_str ma_nil))) (ma_cons (p1 := true) (p2 := true) (me_tup (ma_cons (p1 := true) (p2 := true) me_int (ma_cons (p1 := true) (p2 := true) me_str ma_nil))) (ma_cons (p1 := true) (p2 := true) (me_lst false (ma_cons (p1 := true) (p2 := true) me_int (ma_cons (p1 := true) (p2 := true) me_str ma_nil))) (ma_cons (p1 := true) (p2 := true) (me_tup (ma_cons (p1 := true) (p2 := true) me_int (ma_cons (p1 := true) (p2 := true) me_str (ma_cons (p1 := true) (p2 := true) me_int ma_nil)))) (ma_cons (p1 := true) (p2 := true) me_non (ma_cons (p1 := true) (p2 := true) (me_tup (ma_cons (p1 := true) (p2 := true) me_str (ma_cons (p1 := true) (p2 := true) me_str ma_nil))) (ma_cons (p1 := true) (p2 := true) (me_tup (ma_cons (p1 := true) (p2 := true) me_int (ma_cons (p1 := true) (p2 := true) me_str ma_nil))) ma_nil)))))))) (me_call F__law_take (hr.mono (by decide)) zf_takes (mr_io 2 (pv 2) (mr_val (p1 := true) (p2 := true) me_int mr_nil)) (by rfl)))) (mss_cons (ms_for [4] zf_pass rfl (mi_list (me_lst false (ma_cons (p1 := true) (p2 := true) (me_lst false (ma_cons (p1 := true) (p2 := true) (me_var 10 (pv 10)) ma_nil)) (ma_cons (p1 := true) (p2 := true) (me_lst false (ma_cons (p1 := true) (p2 := true) (me_slice false (p := true) (p1 := true) (p2 := true) (k1 := false) (me_var 10 (pv 10)) mo_no (mo_some me_int)) (ma_cons (p1 := true) (p2 := true) (me_lst false ma_nil) ma_nil))) (ma_cons (p1 := true) (p2 := true) (me_op (p1 := true) (p2 := true) (k1 := true) op_mulW (me_lst false (ma_cons (p1 := true) (p2 := true) (me_lst false ma_nil) (ma_cons (p1 := true) (p2 := true) (me_var 10 (pv 10)) ma_nil))) me_int) ma_nil))))) (mg_name (i := 4) sc_law.nd) (mss_one (ms_if (mt_cmp (p1 := true) (p2 := true) (k1 := true) op_isNotBW (me_callP F_are_rows (hr.mono (by decide)) zf_takes (ma_cons (p1 := true) (p2 := true) (me_var 4 (pv 4)) ma_nil) (by rfl)) me_bl) (mss_one (ms_ret me_bl)) mss_nil))) (mss_cons (ms_if (mt_cmp (p1 := true) (p2 := true) (k1 := true) op_isNotBW (me_callP F_are_rows (hr.mono (by decide)) zf_takes (ma_cons (p1 := true) (p2 := true) (me_lst false (ma_cons (p1 := true) (p2 := true) (me_lst false ma_nil) (ma_cons (p1 := true) (p2 := true) (me_op (p1 := true) (p2 := true) (k1 := true) op_addW (me_op (p1 := true) (p2 := true) (k1 := true) op_addW (me_slice false (p := true) (p1 := true) (p2 := true) (k1 := false) (me_var 10 (pv 10)) mo_no (mo_some (me_var 12 (pv 12)))) (me_lst false (ma_cons (p1 := true) (p2 := true) (me_var 13 (pv 13)) ma_nil))) (me_slice false (p := true) (p1 := true) (p2 := true) (k1 := false) (me_var 10 (pv 10)) (mo_some (me_op (p1 := true) (p2 := true) (k1 := false) op_addW (me_var 12 (pv 12)) me_int)) mo_no)) ma_nil))) ma_nil) (by rfl)) me_bl) (mss_one (ms_ret me_bl)) mss_nil) (mss_cons (ms_set (i := 14) sc_law.nd (me_lst false (ma_cons (p1 := true) (p2 := true) me_non (ma_cons (p1 := true) (p2 := true) me_int (ma_cons (p1 := true) (p2 := true) me_bl (ma_cons (p1 := true) (p2 := true) me_str (ma_cons (p1 := true) (p2 := true) me_str (ma_cons (p1 := true) (p2 := true) (me_tup ma_nil) (ma_cons (p1 := true) (p2 := true) (me_lst false ma_nil) (ma_cons (p1 := true) (p2 := true) me_edc (ma_cons (p1 := true) (p2 := true) (me_lst false (ma_cons (p1 := true) (p2 := true) (me_tup ma_nil) ma_nil)) (ma_cons (p1 := true) (p2 := true) (me_lst false (ma_cons (p1 := true) (p2 := true) me_non ma_nil)) (ma_cons (p1 := true) (p2 := true) (me_lst false (ma_cons (p1 := true) (p2 := true) (me_lst false (ma_cons (p1 := true) (p2 := true) me_non ma_nil)) ma_nil)) (ma_cons (p1 := true) (p2 := true) (me_lst false (ma_cons (p1 := true) (p2 := true) (me_lst false (ma_cons (p1 := true) (p2 := true) (me_tup ma_nil) ma_nil)) ma_nil)) (ma_cons (p1 := true) (p2 := true) (me_tup (ma_cons (p1 := true) (p2 := true) (me_lst false ma_nil) ma_nil)) ma_nil))))))))))))))) (mss_cons (ms_for [4] zf_pass rfl (mi_list (me_op (p1 := true) (p2 := true) (k1 := false) op_addW (me_var 14 (pv 14)) (me_lst false (ma_cons (p1 := true) (p2 := true) (me_lst false (ma_cons (p1 := true) (p2 := true) (me_lst false (ma_cons (p1 := true) (p2 := true) (me_tup (ma_cons (p1 := true) (p2 := true) me_int (ma_cons (p1 := true) (p2 := true) me_str ma_nil))) ma_nil)) (ma_cons (p1 := true) (p2 := true) (me_tup ma_nil) ma_nil))) (ma_cons (p1 := true) (p2 := true) (me_lst false (ma_cons (p1 := true) (p2 := true) (me_lst false (ma_cons (p1 := true) (p2 := true) (me_tup (ma_cons (p1 := true) (p2 := true) me_int (ma_cons (p1 := true) (p2 := true) me_str ma_nil))) (ma_cons (p1 := true) (p2 := true) (me_tup (ma_cons (p1 := true) (p2 := true) me_int ma_nil)) ma_nil))) ma_nil)) ma_nil))))) (mg_name (i := 4) sc_law.nd) (mss_one (ms_if (mt_cmp (p1 := true) (p2 := true) (k1 := true) op_isNotBW (me_callP F_are_rows (hr.mono (by decide)) zf_takes (ma_cons (p1 := true) (p2 := true) (me_var 4 (pv 4)) ma_nil) (by rfl)) me_bl) (mss_one (ms_ret me_bl)) mss_nil))) (mss_cons (ms_forX (i := 15) [15] zf_pass rfl (mxs_cons k_NoNumber (mxs_cons k_NoDeed (mxs_cons k_NoText (mxs_cons k_NoName (mxs_cons k_NoRow (mxs_cons k_LotError mxs_nil)))))) (mss_one (ms_if (mt_w (mw_or (p1 := true) (p2 := true) (mt_not (mt_val (me_isx isTab_LotError (ca_own (by rfl) (k_LotError).g) m_isinstance h_isTab_LotError (me_var 15 (pv 15))))) (mw_or (p1 := true) (p2 := true) (mt_not (mt_val (me_isx isTab_ValueError (ca_ty (by rfl) m_ValueError boot_VE) m_isinstance h_isTab_ValueError (me_var 15 (pv 15))))) (mw_or1 (mt_cmp (p1 := true) (p2 := true) (k1 := true) (op_neW hr) (me_strE 6 hr m_str h_strs (me_var 15 (pv 15))) me_str))))) (mss_one (ms_ret me_bl)) mss_nil)) sc_law.nd) (mss_one (ms_ret (me_cmp (p1 := true) (p2 := true) (k1 := true) op_isBW (me_callP F_are_rows (hr.mono (by decide)) zf_takes (ma_cons (p1 := true) (p2 := true) (me_lst false (ma_cons (p1 := true) (p2 := true) (me_lst false ma_nil) ma_nil)) ma_nil) (by rfl)) me_bl))))))))))))))))
end
end Ev
namespace Ev
open PySem PySem.Spec L2
local macro_rules
  | `(tactic| simp_arith [$ls,*] $[$l:location]?) => `(tactic| simp only [↓r_bind, ↓r_ret, ↓r_lft, ↓r_c, ↓r_var2, ↓r_move, ↓r_un, ↓r_bin, ↓r_chain, ↓r_toB, ↓r_ofB, ↓r_and, ↓r_or, ↓r_not, ↓r_nil, ↓r_cons, ↓r_args, ↓r_iargs, ↓r_ilst, ↓r_part, ↓r_no, ↓r_slice, ↓r_callP, ↓r_rnil, ↓r_rval, ↓r_rvalX, ↓r_pick, pas_str, pas_int, pas_bl, pas_non, pas_tup, pas_lst, pas_edc, pick_edc, ↓r_rio, ↓r_call, ↓r_callL, ↓r_fz, ↓r_seq, ↓r_snil, ↓r_if, ↓r_drop, ↓r_sret, ↓r_set, ↓r_asg, ↓r_aug, ↓r_sfor, ↓r_mut, ↓r_sto, ↓r_go, ↓r_gfz, ↓r_push, ↓r_gfzD, ↓r_fzD,  ↓r_raise, ↓r_try, ↓r_itup, ↓r_iseq, ↓r_andV, ↓r_orV, ↓r_notV, ↓r_fn, ↓r_meth, ↓r_augS, ↓r_ichr, ↓r_pair, ↓r_mutN, ↓r_mutT, ↓r_app, ↓r_gfzC, ↓r_callO, ↓r_asgN, ↓r_takeK, pick_nst, pick_ntp, w_strL, w_zip3, ↓r_dnew, ↓r_key1, ↓r_keyT, ↓r_dget, ↓r_dget2, ↓r_dput, ↓r_mutP, ↓r_mutKP, ↓r_stoP, ↓r_stoN, ↓r_dputP, ↓r_fldP, ↓r_callM, ↓r_makeL, ↓r_gfzK, ↓r_gfzP, ↓r_dpopP, ↓r_augP, ↓r_forP, ↓r_chainI, ↓r_callT, ↓r_ikeys, ↓r_keyCut, w_keyI, w_keyS, w_keyT2, w_lookT, w_lookK, w_lookDT, w_lookDK, w_dputT, w_dputK, w_dkeysT, w_dkeysK, isDW_dct, frz_dct, pick_dct, w_geX, ty_str, and_self,
      maskL_nil, maskL_cons, frz_non, frz_bl, frz_int, frz_str, frz_tup, frz_lst, frz_scr, fz_lst, fz_int, fz_tup, fz_str, fz_bl, w_lst, w_tup, w_add, w_addL, w_addB, w_sub, w_mul, w_rep, w_fdiv, w_mod, w_pow, w_neg, w_lt, w_le, w_ge, w_gt, w_bl, w_intW, w_toI, w_toB, w_max2, w_min2, w_abs, w_lenL, w_lenC, w_lenT, w_listL, w_listC, w_listT, w_tupL, w_rev, w_ixL, w_ixC, w_ixT, w_cutL, w_cutC, w_frzL, w_frzC, w_rng1, w_rng2, w_enum, w_enumC, w_zip, w_app, w_ext, w_pop, w_sum, w_isx, w_isiI, w_isiB, w_tgN, w_tgT, w_killN, w_killC, w_takeN, w_takeV, w_takeI, w_putI, w_putV, w_putN, w_lendN, w_lendV, w_lendI, flat_bl, flat_int, flat_non,
      pick_non, pick_bl, pick_int, pick_str, pick_tup, pick_lst, pick_scr, pick_exc, pick_T, pick_R, pick_N, frzT, frzR, frzN, w_seqL, w_seqT, w_seqC, w_zipT, w_zipA, w_tupLt, w_leX, eqW_int, neW_int, eqW_nil, neW_nil, eqW_str, neW_str, List.cons_append, List.nil_append, List.length_cons, List.length_nil, List.replicate_succ, List.replicate_zero, List.getElem?_cons_zero, List.getElem?_cons_succ, List.set_cons_zero, List.set_cons_succ, List.length_map, Option.map_some, Option.bind_some, cond_true, cond_false, Bool.true_or, Bool.or_true, Bool.false_or, Bool.or_false, Bool.not_true, Bool.not_false, Bool.true_and, Bool.false_and, Nat.reduceSub, Nat.reduceAdd, Nat.reduceLeDiff, ↓reduceIte, if_true, if_false, reduceCtorEq, decide_true, decide_false, decide_eq_true_eq, Nat.zero_add, Nat.add_zero, $ls,*] $[$l]?)
/-! ### the values that the law hands in -/
def leafW : W → Prop
  | .non => True
  | .bl _ => True
  | .int _ => True
  | .str z => z.length ≤ 1000
  | .fdc _ ws => ∀ x ∈ ws, x.nd = true ∧ x.dat.depth ≤ 40
  | _ => False
def Gd : Nat → W → Prop
  | 0, w => leafW w
  | n + 1, w => leafW w ∨ ∃ ws, (w = .tup ws ∨ w = .lst false ws) ∧ ws.length ≤ 100000 ∧ ∀ x ∈ ws, Gd n x
theorem leaf_up {w : W} (h : leafW w) : ∀ n, Gd n w
  | 0 => h
  | _ + 1 => .inl h
theorem Gd.up : ∀ {n : Nat} {w : W}, Gd n w → Gd (n + 1) w
  | 0, _, h => .inl h
  | n + 1, w, h => by
    rcases h with h | ⟨ws, e, hl, h⟩
    · exact .inl h
    · exact .inr ⟨ws, e, hl, fun x hx => (h x hx).up⟩
theorem Gd.le {n m : Nat} {w : W} (h : Gd n w) (l : n ≤ m) : Gd m w := by
  induction l with
  | refl => exact h
  | step _ ih => exact ih.up
theorem Gd.tup {n : Nat} {ws : List W} (hl : ws.length ≤ 100000) (h : ∀ x ∈ ws, Gd n x) : Gd (n + 1) (.tup ws) := .inr ⟨ws, .inl rfl, hl, h⟩
theorem Gd.lst {n : Nat} {ws : List W} (hl : ws.length ≤ 100000) (h : ∀ x ∈ ws, Gd n x) : Gd (n + 1) (.lst false ws) := .inr ⟨ws, .inr rfl, hl, h⟩
/-- what a value is -/
inductive Vw : Nat → W → Prop
  | non {n : Nat} : Vw n .non
  | bl {n : Nat} (b : Bool) : Vw n (.bl b)
  | int {n : Nat} (i : Int) : Vw n (.int i)
  | str {n : Nat} (z : Str) (h : z.length ≤ 1000) : Vw n (.str z)
  | fdc {n : Nat} (ks : List Key) (ws : List W) (h : ∀ x ∈ ws, x.nd = true ∧ x.dat.depth ≤ 40) : Vw n (.fdc ks ws)
  | tup {n : Nat} (ws : List W) (hl : ws.length ≤ 100000) (h : ∀ x ∈ ws, Gd n x) : Vw (n + 1) (.tup ws)
  | lst {n : Nat} (ws : List W) (hl : ws.length ≤ 100000) (h : ∀ x ∈ ws, Gd n x) : Vw (n + 1) (.lst false ws)
theorem leaf_vw {n : Nat} {w : W} (h : leafW w) : Vw n w := by
  cases w with
  | non => exact .non
  | bl b => exact .bl b
  | int i => exact .int i
  | str z => exact .str z h
  | fdc ks ws => exact .fdc ks ws h
  | _ => exact h.elim
theorem Gd.vw : ∀ {n : Nat} {w : W}, Gd n w → Vw n w
  | 0, _, h => leaf_vw h
  | n + 1, w, h => by
    rcases h with h | ⟨ws, rfl | rfl, hl, h⟩
    · exact leaf_vw h
    · exact .tup ws hl h
    · exact .lst ws hl h
theorem Gd.pk {n : Nat} {w : W} (h : Gd n w) (env : List W) : pickV (some w) env = .ok w env := by cases h.vw <;> rfl
theorem Gd.fz {n : Nat} {w : W} (h : Gd n w) : w.frz = true := by cases h.vw <;> rfl
/-- a list as its maker has it -/
def ownW : W → W
  | .lst false ws => .lst true ws
  | w => w
theorem Gd.own {n : Nat} {w : W} (h : Gd n w) : (ownW w).fz = w := by cases h.vw <;> rfl
theorem map_self {α : Type} (l : List α) : l.map (fun x => x) = l := by simp
/-! ### copies -/
theorem e_copy : ∀ (n : Nat) (w : W), Gd n w → f__law_copy (n + 1) [w] = .ok (ownW w) [.dead] := by
  intro n
  induction n with
  | zero =>
    intro w h
    show fnSem 2 [false] (b__law_copy (f__law_copy 0)) [w] = _
    unfold b__law_copy
    cases h.vw with
    | non =>
      have i1 : isiW ["list"] .non = some (.bl false) := rfl
      have i2 : isiW ["tuple"] .non = some (.bl false) := rfl
      simp_arith [i1, i2]
      rfl
    | bl b =>
      have i1 : isiW ["list"] (.bl b) = some (.bl false) := rfl
      have i2 : isiW ["tuple"] (.bl b) = some (.bl false) := rfl
      simp_arith [i1, i2]
      rfl
    | int b =>
      have i1 : isiW ["list"] (.int b) = some (.bl false) := rfl
      have i2 : isiW ["tuple"] (.int b) = some (.bl false) := rfl
      simp_arith [i1, i2]
      rfl
    | str b =>
      have i1 : isiW ["list"] (.str b) = some (.bl false) := rfl
      have i2 : isiW ["tuple"] (.str b) = some (.bl false) := rfl
      simp_arith [i1, i2]
      rfl
    | fdc ks ws =>
      have i1 : isiW ["list"] (.fdc ks ws) = some (.bl false) := rfl
      have i2 : isiW ["tuple"] (.fdc ks ws) = some (.bl false) := rfl
      have pF : ∀ env, pickV (some (W.fdc ks ws)) env = .ok (.fdc ks ws) env := fun _ => rfl
      simp_arith [i1, i2, pF]
      rfl
  | succ n ih =>
    intro w h
    have lg := line_ge
    show fnSem 2 [false] (b__law_copy (f__law_copy (n + 1))) [w] = _
    have one : ∀ (g : Fn) (x a : W), g = f__law_copy (n + 1) → Gd n x → mCallP g (Sm.bind (mCons (mVar 1) (mNil)) fun ws => if ws.length = 1 then Sm.ret ws else fun _ => .bad) [a, x] = .ok (ownW x) [a, x] := fun g x a eg hx => by
      have c := ih x hx
      rw [← eg] at c
      have pk := hx.pk
      have fz := hx.fz
      simp_arith [pk, fz, c]
    unfold b__law_copy
    obtain ⟨g, hg⟩ : ∃ g, g = f__law_copy (n + 1) := ⟨_, rfl⟩
    rw [← hg]
    cases h.vw with
    | non =>
      have i1 : isiW ["list"] .non = some (.bl false) := rfl
      have i2 : isiW ["tuple"] .non = some (.bl false) := rfl
      simp_arith [i1, i2]
      rfl
    | bl b =>
      have i1 : isiW ["list"] (.bl b) = some (.bl false) := rfl
      have i2 : isiW ["tuple"] (.bl b) = some (.bl false) := rfl
      simp_arith [i1, i2]
      rfl
    | int b =>
      have i1 : isiW ["list"] (.int b) = some (.bl false) := rfl
      have i2 : isiW ["tuple"] (.int b) = some (.bl false) := rfl
      simp_arith [i1, i2]
      rfl
    | str b =>
      have i1 : isiW ["list"] (.str b) = some (.bl false) := rfl
      have i2 : isiW ["tuple"] (.str b) = some (.bl false) := rfl
      simp_arith [i1, i2]
      rfl
    | fdc ks ws =>
      have i1 : isiW ["list"] (.fdc ks ws) = some (.bl false) := rfl
      have i2 : isiW ["tuple"] (.fdc ks ws) = some (.bl false) := rfl
      have pF : ∀ env, pickV (some (W.fdc ks ws)) env = .ok (.fdc ks ws) env := fun _ => rfl
      simp_arith [i1, i2, pF]
      rfl
    | tup ws hl hx =>
      have i1 : isiW ["list"] (.tup ws) = some (.bl false) := rfl
      have i2 : isiW ["tuple"] (.tup ws) = some (.bl true) := rfl
      have pT : ∀ env, pickV (some (W.tup ws)) env = .ok (.tup ws) env := fun _ => rfl
      have c2 : c__law_copy_2 g [.tup ws, .dead] = .ok (.lst true ws) [.tup ws, .dead] := by
        unfold c__law_copy_2
        rw [comp_map (fun x : W => x) (fun x : W => x) (xs := ws) (by rw [map_self]; simp_arith [pT]) (by omega) (by
          intro x m
          have o := one g x (.tup ws) hg (hx x m)
          unfold lcOne
          simp_arith [-r_callP, ↓o, (hx x m).own, (hx x m).fz]), map_self]
      have tw : tupOfW (.lst false ws) = some (.tup ws) := rfl
      simp_arith [i1, i2, c2, tw]
      rfl
    | lst ws hl hx =>
      have i1 : isiW ["list"] (.lst false ws) = some (.bl true) := rfl
      have c1 : c__law_copy_1 g [.lst false ws, .dead] = .ok (.lst true ws) [.lst false ws, .dead] := by
        unfold c__law_copy_1
        rw [comp_map (fun x : W => x) (fun x : W => x) (xs := ws) (by rw [map_self]; simp_arith []) (by omega) (by
          intro x m
          have o := one g x (.lst false ws) hg (hx x m)
          unfold lcOne
          simp_arith [-r_callP, ↓o, (hx x m).own, (hx x m).fz]), map_self]
      simp_arith [i1, c1]
      rfl
end Ev

namespace Ev
open PySem PySem.Spec L2
local macro_rules
  | `(tactic| simp_arith [$ls,*] $[$l:location]?) => `(tactic| simp only [↓r_bind, ↓r_ret, ↓r_lft, ↓r_c, ↓r_var2, ↓r_move, ↓r_un, ↓r_bin, ↓r_chain, ↓r_toB, ↓r_ofB, ↓r_and, ↓r_or, ↓r_not, ↓r_nil, ↓r_cons, ↓r_args, ↓r_iargs, ↓r_ilst, ↓r_part, ↓r_no, ↓r_slice, ↓r_callP, ↓r_rnil, ↓r_rval, ↓r_rvalX, ↓r_pick, pas_str, pas_int, pas_bl, pas_non, pas_tup, pas_lst, pas_edc, pick_edc, ↓r_rio, ↓r_call, ↓r_callL, ↓r_fz, ↓r_seq, ↓r_snil, ↓r_if, ↓r_drop, ↓r_sret, ↓r_set, ↓r_asg, ↓r_aug, ↓r_sfor, ↓r_mut, ↓r_sto, ↓r_go, ↓r_gfz, ↓r_push, ↓r_gfzD, ↓r_fzD,  ↓r_raise, ↓r_try, ↓r_itup, ↓r_iseq, ↓r_andV, ↓r_orV, ↓r_notV, ↓r_fn, ↓r_meth, ↓r_augS, ↓r_ichr, ↓r_pair, ↓r_mutN, ↓r_mutT, ↓r_app, ↓r_gfzC, ↓r_callO, ↓r_asgN, ↓r_takeK, pick_nst, pick_ntp, w_strL, w_zip3, ↓r_dnew, ↓r_key1, ↓r_keyT, ↓r_dget, ↓r_dget2, ↓r_dput, ↓r_mutP, ↓r_mutKP, ↓r_stoP, ↓r_stoN, ↓r_dputP, ↓r_fldP, ↓r_callM, ↓r_makeL, ↓r_gfzK, ↓r_gfzP, ↓r_dpopP, ↓r_augP, ↓r_forP, ↓r_chainI, ↓r_callT, ↓r_ikeys, ↓r_keyCut, w_keyI, w_keyS, w_keyT2, w_lookT, w_lookK, w_lookDT, w_lookDK, w_dputT, w_dputK, w_dkeysT, w_dkeysK, isDW_dct, frz_dct, pick_dct, w_geX, ty_str, and_self,
      maskL_nil, maskL_cons, frz_non, frz_bl, frz_int, frz_str, frz_tup, frz_lst, frz_scr, fz_lst, fz_int, fz_tup, fz_str, fz_bl, w_lst, w_tup, w_add, w_addL, w_addB, w_sub, w_mul, w_rep, w_fdiv, w_mod, w_pow, w_neg, w_lt, w_le, w_ge, w_gt, w_bl, w_intW, w_toI, w_toB, w_max2, w_min2, w_abs, w_lenL, w_lenC, w_lenT, w_listL, w_listC, w_listT, w_tupL, w_rev, w_ixL, w_ixC, w_ixT, w_cutL, w_cutC, w_frzL, w_frzC, w_rng1, w_rng2, w_enum, w_enumC, w_zip, w_app, w_ext, w_pop, w_sum, w_isx, w_isiI, w_isiB, w_tgN, w_tgT, w_killN, w_killC, w_takeN, w_takeV, w_takeI, w_putI, w_putV, w_putN, w_lendN, w_lendV, w_lendI, flat_bl, flat_int, flat_non,
      pick_non, pick_bl, pick_int, pick_str, pick_tup, pick_lst, pick_scr, pick_exc, pick_T, pick_R, pick_N, frzT, frzR, frzN, w_seqL, w_seqT, w_seqC, w_zipT, w_zipA, w_tupLt, w_leX, eqW_int, neW_int, eqW_nil, neW_nil, eqW_str, neW_str, List.cons_append, List.nil_append, List.length_cons, List.length_nil, List.replicate_succ, List.replicate_zero, List.getElem?_cons_zero, List.getElem?_cons_succ, List.set_cons_zero, List.set_cons_succ, List.length_map, Option.map_some, Option.bind_some, cond_true, cond_false, Bool.true_or, Bool.or_true, Bool.false_or, Bool.or_false, Bool.not_true, Bool.not_false, Bool.true_and, Bool.false_and, Nat.reduceSub, Nat.reduceAdd, Nat.reduceLeDiff, ↓reduceIte, if_true, if_false, reduceCtorEq, decide_true, decide_false, decide_eq_true_eq, Nat.zero_add, Nat.add_zero, $ls,*] $[$l]?)
/-! ### the same through and through -/
theorem EncOk.blB : EncOk W.bl 0 := ⟨fun _ => rfl, fun _ => rfl, fun a b => by cases a <;> cases b <;> simp [W.dat, PyData.eqv], fun a => by simp [W.dat, PyData.depth]⟩
theorem neW_bl (a b : Bool) : neW (.bl a) (.bl b) = some (.bl (!decide (a = b))) := neW_of EncOk.blB a b
theorem eqTW_bl (a b : Bool) : eqTW (.bl a) (.bl b) = some (.bl (decide (a = b))) := eqW_of EncOk.blB a b
theorem eqTW_int (a b : Int) : eqTW (.int a) (.int b) = some (.bl (decide (a = b))) := eqW_int a b
theorem eqTW_str (a b : Str) : eqTW (.str a) (.str b) = some (.bl (decide (a = b))) := eqW_str a b
theorem eqTW_nil (b c : Bool) (ws : List W) : eqTW (.lst b ws) (.lst c []) = some (.bl (decide (ws = []))) := eqW_nil b c ws
theorem eqTW_non : eqTW .non .non = some (.bl true) := by
  show (if okE .non .non = true ∧ smallD .non .non then some (W.bl (PyData.eqv W.non.dat W.non.dat)) else none) = _
  rw [if_pos ⟨by decide, .inl (by decide)⟩]
  rfl
theorem eqTW_fdc (ks : List Key) (ws : List W) (h : ∀ x ∈ ws, x.nd = true ∧ x.dat.depth ≤ 40) : eqTW (.fdc ks ws) (.fdc ks ws) = some (.bl true) := by
  unfold eqTW
  exact if_pos ⟨rfl, rfl, h⟩
theorem len_tup (ws : List W) : lenW (.tup ws) = some (.int (ws.length : Nat)) := rfl
theorem zip_same {α : Type} : ∀ (l : List α) (q : α × α), q ∈ l.zip l → q.1 = q.2
  | [], _, h => by cases h
  | a :: l, q, h => by
    rw [List.zip_cons_cons] at h
    rcases List.mem_cons.mp h with rfl | h
    · rfl
    · exact zip_same l q h
theorem e_same : ∀ (n : Nat) (w : W), Gd n w → f__law_same (n + 1) [w, w] = .ok (.bl true) [.dead, .dead] := by
  intro n
  induction n with
  | zero =>
    intro w h
    show fnSem 4 [false, false] (b__law_same (f__law_same 0)) [w, w] = _
    unfold b__law_same
    cases h.vw with
    | non =>
      have i1 : isiW ["bool"] .non = some (.bl false) := rfl
      have i2 : isiW ["tuple"] .non = some (.bl false) := rfl
      have i3 : isiW ["list", "tuple"] .non = some (.bl false) := rfl
      have i4 : isiW ["str"] .non = some (.bl false) := rfl
      simp_arith [i1, i2, i3, i4, neW_bl, eqTW_bl, eqTW_non]
      try rfl
    | bl b =>
      have i1 : isiW ["bool"] (.bl b) = some (.bl true) := rfl
      have i2 : isiW ["tuple"] (.bl b) = some (.bl false) := rfl
      have i3 : isiW ["list", "tuple"] (.bl b) = some (.bl false) := rfl
      have i4 : isiW ["str"] (.bl b) = some (.bl false) := rfl
      simp_arith [i1, i2, i3, i4, neW_bl, eqTW_bl]
      try rfl
    | int b =>
      have i1 : isiW ["bool"] (.int b) = some (.bl false) := rfl
      have i2 : isiW ["tuple"] (.int b) = some (.bl false) := rfl
      have i3 : isiW ["list", "tuple"] (.int b) = some (.bl false) := rfl
      have i4 : isiW ["str"] (.int b) = some (.bl false) := rfl
      simp_arith [i1, i2, i3, i4, neW_bl, eqTW_bl, eqTW_int]
      try rfl
    | str b =>
      have i1 : isiW ["bool"] (.str b) = some (.bl false) := rfl
      have i2 : isiW ["tuple"] (.str b) = some (.bl false) := rfl
      have i3 : isiW ["list", "tuple"] (.str b) = some (.bl false) := rfl
      have i4 : isiW ["str"] (.str b) = some (.bl true) := rfl
      simp_arith [i1, i2, i3, i4, neW_bl, eqTW_bl, eqTW_str]
      try rfl
    | fdc ks ws hx =>
      have i1 : isiW ["bool"] (.fdc ks ws) = some (.bl false) := rfl
      have i2 : isiW ["tuple"] (.fdc ks ws) = some (.bl false) := rfl
      have i3 : isiW ["list", "tuple"] (.fdc ks ws) = some (.bl false) := rfl
      have i4 : isiW ["str"] (.fdc ks ws) = some (.bl false) := rfl
      have pF : ∀ env, pickV (some (W.fdc ks ws)) env = .ok (.fdc ks ws) env := fun _ => rfl
      have e := eqTW_fdc ks ws hx
      simp_arith [i1, i2, i3, i4, pF, neW_bl, eqTW_bl, e]
      try rfl
  | succ n ih =>
    intro w h
    have lg := line_ge
    show fnSem 4 [false, false] (b__law_same (f__law_same (n + 1))) [w, w] = _
    unfold b__law_same
    obtain ⟨g, hg⟩ : ∃ g, g = f__law_same (n + 1) := ⟨_, rfl⟩
    rw [← hg]
    have one : ∀ (x a b : W), Gd n x → mCallP g (Sm.bind (mCons (mVar 2) (mCons (mVar 3) (mNil))) fun ws => if ws.length = 2 then Sm.ret ws else fun _ => .bad) [a, b, x, x] = .ok (.bl true) [a, b, x, x] := fun x a b hx => by
      have c := ih x hx
      rw [← hg] at c
      have pk := hx.pk
      have fz := hx.fz
      simp_arith [pk, fz, c]
    have cmp : ∀ (a : W) (ws : List W), ws.length ≤ 100000 → (∀ x ∈ ws, Gd n x) → (∀ env, pickV (some a) env = .ok a env) → a.frz = true → zipA [a, a] = some ((ws.zip ws).map fun q => .tup [q.1, q.2]) → c__law_same_1 g [a, a, .dead, .dead] = .ok (.lst true []) [a, a, .dead, .dead] := fun a ws hl hx pa fa hz => by
      unfold c__law_same_1
      rw [comp_filter (fun q : W × W => W.tup [q.1, q.2]) (fun _ => false) (fun q : W × W => W.tup [q.1, q.2]) (xs := ws.zip ws) (by simp_arith [pa, fa, hz]) (by rw [List.length_zip]; omega) (by
        intro q m
        have e12 : q.1 = q.2 := zip_same ws q m
        have hq := hx q.1 (List.of_mem_zip m).1
        have o := one q.1 a a hq
        obtain ⟨x, y⟩ := q
        dsimp only at e12 o hq ⊢
        subst e12
        unfold lcOne
        simp_arith [-r_callP, tgL, ↓o])]
      rw [List.filter_eq_nil_iff.mpr (fun _ _ => by simp)]
      rfl
    cases h.vw with
    | non =>
      have i1 : isiW ["bool"] .non = some (.bl false) := rfl
      have i2 : isiW ["tuple"] .non = some (.bl false) := rfl
      have i3 : isiW ["list", "tuple"] .non = some (.bl false) := rfl
      have i4 : isiW ["str"] .non = some (.bl false) := rfl
      simp_arith [i1, i2, i3, i4, neW_bl, eqTW_bl, eqTW_non]
      try rfl
    | bl b =>
      have i1 : isiW ["bool"] (.bl b) = some (.bl true) := rfl
      have i2 : isiW ["tuple"] (.bl b) = some (.bl false) := rfl
      have i3 : isiW ["list", "tuple"] (.bl b) = some (.bl false) := rfl
      have i4 : isiW ["str"] (.bl b) = some (.bl false) := rfl
      simp_arith [i1, i2, i3, i4, neW_bl, eqTW_bl]
      try rfl
    | int b =>
      have i1 : isiW ["bool"] (.int b) = some (.bl false) := rfl
      have i2 : isiW ["tuple"] (.int b) = some (.bl false) := rfl
      have i3 : isiW ["list", "tuple"] (.int b) = some (.bl false) := rfl
      have i4 : isiW ["str"] (.int b) = some (.bl false) := rfl
      simp_arith [i1, i2, i3, i4, neW_bl, eqTW_bl, eqTW_int]
      try rfl
    | str b =>
      have i1 : isiW ["bool"] (.str b) = some (.bl false) := rfl
      have i2 : isiW ["tuple"] (.str b) = some (.bl false) := rfl
      have i3 : isiW ["list", "tuple"] (.str b) = some (.bl false) := rfl
      have i4 : isiW ["str"] (.str b) = some (.bl true) := rfl
      simp_arith [i1, i2, i3, i4, neW_bl, eqTW_bl, eqTW_str]
      try rfl
    | fdc ks ws hx =>
      have i1 : isiW ["bool"] (.fdc ks ws) = some (.bl false) := rfl
      have i2 : isiW ["tuple"] (.fdc ks ws) = some (.bl false) := rfl
      have i3 : isiW ["list", "tuple"] (.fdc ks ws) = some (.bl false) := rfl
      have i4 : isiW ["str"] (.fdc ks ws) = some (.bl false) := rfl
      have pF : ∀ env, pickV (some (W.fdc ks ws)) env = .ok (.fdc ks ws) env := fun _ => rfl
      have e := eqTW_fdc ks ws hx
      simp_arith [i1, i2, i3, i4, pF, neW_bl, eqTW_bl, e]
      try rfl
    | tup ws hl hx =>
      have i1 : isiW ["bool"] (.tup ws) = some (.bl false) := rfl
      have i2 : isiW ["tuple"] (.tup ws) = some (.bl true) := rfl
      have i3 : isiW ["list", "tuple"] (.tup ws) = some (.bl true) := rfl
      have pT : ∀ env, pickV (some (W.tup ws)) env = .ok (.tup ws) env := fun _ => rfl
      have c1 := cmp (.tup ws) ws hl hx pT rfl (w_zipT ws ws)
      have z0 : 0 ≤ sizeLine := Nat.zero_le _
      simp_arith [i1, i2, i3, pT, neW_bl, len_tup, eqTW_int, ↓c1, z0, eqTW_nil]
      try rfl
    | lst ws hl hx =>
      have i1 : isiW ["bool"] (.lst false ws) = some (.bl false) := rfl
      have i2 : isiW ["tuple"] (.lst false ws) = some (.bl false) := rfl
      have i3 : isiW ["list", "tuple"] (.lst false ws) = some (.bl true) := rfl
      have c1 := cmp (.lst false ws) ws hl hx (fun _ => rfl) rfl (w_zipA ws ws)
      have z0 : 0 ≤ sizeLine := Nat.zero_le _
      simp_arith [i1, i2, i3, neW_bl, w_lenL, eqTW_int, ↓c1, z0, eqTW_nil]
      try rfl
end Ev

namespace Ev
open PySem PySem.Spec L2
local macro_rules
  | `(tactic| simp_arith [$ls,*] $[$l:location]?) => `(tactic| simp only [↓r_bind, ↓r_ret, ↓r_lft, ↓r_c, ↓r_var2, ↓r_move, ↓r_un, ↓r_bin, ↓r_chain, ↓r_toB, ↓r_ofB, ↓r_and, ↓r_or, ↓r_not, ↓r_nil, ↓r_cons, ↓r_args, ↓r_iargs, ↓r_ilst, ↓r_part, ↓r_no, ↓r_slice, ↓r_callP, ↓r_rnil, ↓r_rval, ↓r_rvalX, ↓r_pick, pas_str, pas_int, pas_bl, pas_non, pas_tup, pas_lst, pas_edc, pick_edc, ↓r_rio, ↓r_call, ↓r_callL, ↓r_fz, ↓r_seq, ↓r_snil, ↓r_if, ↓r_drop, ↓r_sret, ↓r_set, ↓r_asg, ↓r_aug, ↓r_sfor, ↓r_mut, ↓r_sto, ↓r_go, ↓r_gfz, ↓r_push, ↓r_gfzD, ↓r_fzD,  ↓r_raise, ↓r_try, ↓r_itup, ↓r_iseq, ↓r_andV, ↓r_orV, ↓r_notV, ↓r_fn, ↓r_meth, ↓r_augS, ↓r_ichr, ↓r_pair, ↓r_mutN, ↓r_mutT, ↓r_app, ↓r_gfzC, ↓r_callO, ↓r_asgN, ↓r_takeK, pick_nst, pick_ntp, w_strL, w_zip3, ↓r_dnew, ↓r_key1, ↓r_keyT, ↓r_dget, ↓r_dget2, ↓r_dput, ↓r_mutP, ↓r_mutKP, ↓r_stoP, ↓r_stoN, ↓r_dputP, ↓r_fldP, ↓r_callM, ↓r_makeL, ↓r_gfzK, ↓r_gfzP, ↓r_dpopP, ↓r_augP, ↓r_forP, ↓r_chainI, ↓r_callT, ↓r_ikeys, ↓r_keyCut, w_keyI, w_keyS, w_keyT2, w_lookT, w_lookK, w_lookDT, w_lookDK, w_dputT, w_dputK, w_dkeysT, w_dkeysK, isDW_dct, frz_dct, pick_dct, w_geX, ty_str, and_self,
      maskL_nil, maskL_cons, frz_non, frz_bl, frz_int, frz_str, frz_tup, frz_lst, frz_scr, fz_lst, fz_int, fz_tup, fz_str, fz_bl, w_lst, w_tup, w_add, w_addL, w_addB, w_sub, w_mul, w_rep, w_fdiv, w_mod, w_pow, w_neg, w_lt, w_le, w_ge, w_gt, w_bl, w_intW, w_toI, w_toB, w_max2, w_min2, w_abs, w_lenL, w_lenC, w_lenT, w_listL, w_listC, w_listT, w_tupL, w_rev, w_ixL, w_ixC, w_ixT, w_cutL, w_cutC, w_frzL, w_frzC, w_rng1, w_rng2, w_enum, w_enumC, w_zip, w_app, w_ext, w_pop, w_sum, w_isx, w_isiI, w_isiB, w_tgN, w_tgT, w_killN, w_killC, w_takeN, w_takeV, w_takeI, w_putI, w_putV, w_putN, w_lendN, w_lendV, w_lendI, flat_bl, flat_int, flat_non,
      pick_non, pick_bl, pick_int, pick_str, pick_tup, pick_lst, pick_scr, pick_exc, pick_T, pick_R, pick_N, frzT, frzR, frzN, w_seqL, w_seqT, w_seqC, w_zipT, w_zipA, w_tupLt, w_leX, eqW_int, neW_int, eqW_nil, neW_nil, eqW_str, neW_str, List.cons_append, List.nil_append, List.length_cons, List.length_nil, List.replicate_succ, List.replicate_zero, List.getElem?_cons_zero, List.getElem?_cons_succ, List.set_cons_zero, List.set_cons_succ, List.length_map, Option.map_some, Option.bind_some, cond_true, cond_false, Bool.true_or, Bool.or_true, Bool.false_or, Bool.or_false, Bool.not_true, Bool.not_false, Bool.true_and, Bool.false_and, Nat.reduceSub, Nat.reduceAdd, Nat.reduceLeDiff, ↓reduceIte, if_true, if_false, reduceCtorEq, decide_true, decide_false, decide_eq_true_eq, Nat.zero_add, Nat.add_zero, $ls,*] $[$l]?)
/-! ### what rows are -/
def tagB (z : Str) : Bool := decide (1 ≤ z.length) && (decide (z.length ≤ 8) && z.cps.toList.all fun c => decide (c ∈ (Str.cps "abcdefghijklmnopqrstuvwxyz").toList))
def intB : W → Bool
  | .int _ => true
  | _ => false
def tgB : W → Bool
  | .str z => tagB z
  | _ => false
def thB : W → Bool
  | .tup [a, b] => intB a && tgB b
  | _ => false
def rowB : W → Bool
  | .lst _ ws => ws.all thB
  | _ => false
def rowsB : W → Bool
  | .lst _ ws => decide (1 ≤ ws.length) && (decide (ws.length ≤ 6) && ws.all rowB)
  | _ => false
theorem e_whole {n : Nat} (w : W) (h : Gd n w) : f_is_whole_number [w] = .ok (.bl (intB w)) [.dead] := by
  unfold f_is_whole_number b_is_whole_number
  cases h.vw with
  | non =>
    have i1 : isiW ["int"] .non = some (.bl false) := rfl
    simp_arith [i1]
    try rfl
  | bl b =>
    have i1 : isiW ["int"] (.bl b) = some (.bl true) := rfl
    have i2 : isiW ["bool"] (.bl b) = some (.bl true) := rfl
    simp_arith [i1, i2]
    try rfl
  | int b =>
    have i1 : isiW ["int"] (.int b) = some (.bl true) := rfl
    have i2 : isiW ["bool"] (.int b) = some (.bl false) := rfl
    simp_arith [i1, i2]
    try rfl
  | str b =>
    have i1 : isiW ["int"] (.str b) = some (.bl false) := rfl
    simp_arith [i1]
    try rfl
  | fdc ks ws =>
    have i1 : isiW ["int"] (.fdc ks ws) = some (.bl false) := rfl
    have pF : ∀ env, pickV (some (W.fdc ks ws)) env = .ok (.fdc ks ws) env := fun _ => rfl
    simp_arith [i1, pF]
    try rfl
  | tup ws =>
    have i1 : isiW ["int"] (.tup ws) = some (.bl false) := rfl
    have pF : ∀ env, pickV (some (W.tup ws)) env = .ok (.tup ws) env := fun _ => rfl
    simp_arith [i1, pF]
    try rfl
  | lst ws =>
    have i1 : isiW ["int"] (.lst false ws) = some (.bl false) := rfl
    simp_arith [i1]
    try rfl
theorem e_istag (z : Str) (hz : z.length ≤ 900000) : f_is_tag [.str z] = .ok (.bl (tagB z)) [.dead] := by
  unfold f_is_tag b_is_tag
  have lg := line_ge
  have hlen : z.cps.toList.length = z.length := Array.length_toList
  have i1 : isiW ["str"] (.str z) = some (.bl true) := rfl
  have hl : lenW (.str z) = some (.int (z.length : Int)) := w_lenS z (by omega)
  have c1 : c_is_tag_1 [.str z, .dead] = .ok (.lst true ((z.cps.toList.filter fun c => !decide (c ∈ (Str.cps "abcdefghijklmnopqrstuvwxyz").toList)).map fun c : Nat => W.str ⟨#[c]⟩)) [.str z, .dead] := by
    unfold c_is_tag_1
    rw [comp_filter (fun c : Nat => W.str ⟨#[c]⟩) (fun c => !decide (c ∈ (Str.cps "abcdefghijklmnopqrstuvwxyz").toList)) (fun c : Nat => W.str ⟨#[c]⟩) (xs := z.cps.toList) (by simp_arith []) (by omega) (by
      intro c hc
      have hw : inW true (.str ⟨#[c]⟩) (.str "abcdefghijklmnopqrstuvwxyz") = some (.bl (!decide (c ∈ (Str.cps "abcdefghijklmnopqrstuvwxyz").toList))) := by
        rw [w_inS]
        cases decide (c ∈ (Str.cps "abcdefghijklmnopqrstuvwxyz").toList) <;> rfl
      unfold lcOne
      cases hd : decide (c ∈ (Str.cps "abcdefghijklmnopqrstuvwxyz").toList)
      · rw [hd] at hw
        simp_arith [hw]
      · rw [hd] at hw
        simp_arith [hw])]
  obtain ⟨l, hl0⟩ : ∃ l, l = (z.cps.toList.filter fun c => !decide (c ∈ (Str.cps "abcdefghijklmnopqrstuvwxyz").toList)).map fun c : Nat => W.str ⟨#[c]⟩ := ⟨_, rfl⟩
  have all : decide (l = []) = z.cps.toList.all fun c => decide (c ∈ (Str.cps "abcdefghijklmnopqrstuvwxyz").toList) := by
    rw [hl0, Bool.eq_iff_iff, decide_eq_true_eq, List.all_eq_true, List.map_eq_nil_iff, List.filter_eq_nil_iff]
    constructor
    · intro h c hc
      simpa using h c hc
    · intro h c hc
      rw [h c hc]
      decide
  have eL := fun b => eqW_nil b true l
  rw [← hl0] at c1
  unfold tagB
  rw [← all]
  by_cases g1 : 1 ≤ z.length
  · by_cases g2 : z.length ≤ 8
    · have g1' : (1 : Int) ≤ (z.length : Int) := by omega
      have g2' : (z.length : Int) ≤ 8 := by omega
      rw [decide_eq_true g1, decide_eq_true g2, Bool.true_and, Bool.true_and]
      simp_arith [i1, hl, w_leX, g1', g2', c1, ↓eL, Nat.zero_le]
      try rfl
    · have g1' : (1 : Int) ≤ (z.length : Int) := by omega
      have g2' : ¬ (z.length : Int) ≤ 8 := by omega
      rw [decide_eq_false g2, Bool.false_and, Bool.and_false]
      simp_arith [i1, hl, w_leX, g1', g2']
      try rfl
  · have g1' : ¬ (1 : Int) ≤ (z.length : Int) := by omega
    rw [decide_eq_false g1, Bool.false_and]
    simp_arith [i1, hl, w_leX, g1']
    try rfl
theorem e_tagG {n : Nat} (w : W) (h : Gd n w) : f_is_tag [w] = .ok (.bl (tgB w)) [.dead] := by
  cases h.vw with
  | str z hz => exact e_istag z (by omega)
  | non =>
    unfold f_is_tag b_is_tag
    have i1 : isiW ["str"] .non = some (.bl false) := rfl
    simp_arith [i1]
    try rfl
  | bl b =>
    unfold f_is_tag b_is_tag
    have i1 : isiW ["str"] (.bl b) = some (.bl false) := rfl
    simp_arith [i1]
    try rfl
  | int b =>
    unfold f_is_tag b_is_tag
    have i1 : isiW ["str"] (.int b) = some (.bl false) := rfl
    simp_arith [i1]
    try rfl
  | fdc ks ws =>
    unfold f_is_tag b_is_tag
    have i1 : isiW ["str"] (.fdc ks ws) = some (.bl false) := rfl
    have pF : ∀ env, pickV (some (W.fdc ks ws)) env = .ok (.fdc ks ws) env := fun _ => rfl
    simp_arith [i1, pF]
    try rfl
  | tup ws =>
    unfold f_is_tag b_is_tag
    have i1 : isiW ["str"] (.tup ws) = some (.bl false) := rfl
    have pF : ∀ env, pickV (some (W.tup ws)) env = .ok (.tup ws) env := fun _ => rfl
    simp_arith [i1, pF]
    try rfl
  | lst ws =>
    unfold f_is_tag b_is_tag
    have i1 : isiW ["str"] (.lst false ws) = some (.bl false) := rfl
    simp_arith [i1]
    try rfl
theorem thB_len {ws : List W} (h : ws.length ≠ 2) : thB (.tup ws) = false := by
  match ws, h with
  | [], _ => rfl
  | [_], _ => rfl
  | [_, _], h => exact absurd rfl h
  | _ :: _ :: _ :: _, _ => rfl
theorem e_keyed {n : Nat} (w : W) (h : Gd n w) : f_is_keyed [w] = .ok (.bl (thB w)) [.dead] := by
  unfold f_is_keyed b_is_keyed
  cases h.vw with
  | non =>
    have i1 : isiW ["tuple"] .non = some (.bl false) := rfl
    simp_arith [i1]
    try rfl
  | bl b =>
    have i1 : isiW ["tuple"] (.bl b) = some (.bl false) := rfl
    simp_arith [i1]
    try rfl
  | int b =>
    have i1 : isiW ["tuple"] (.int b) = some (.bl false) := rfl
    simp_arith [i1]
    try rfl
  | str b =>
    have i1 : isiW ["tuple"] (.str b) = some (.bl false) := rfl
    simp_arith [i1]
    try rfl
  | fdc ks ws =>
    have i1 : isiW ["tuple"] (.fdc ks ws) = some (.bl false) := rfl
    have pF : ∀ env, pickV (some (W.fdc ks ws)) env = .ok (.fdc ks ws) env := fun _ => rfl
    simp_arith [i1, pF]
    try rfl
  | lst ws =>
    have i1 : isiW ["tuple"] (.lst false ws) = some (.bl false) := rfl
    simp_arith [i1]
    try rfl
  | tup ws hl hx =>
    have i1 : isiW ["tuple"] (.tup ws) = some (.bl true) := rfl
    have pF : ∀ env, pickV (some (W.tup ws)) env = .ok (.tup ws) env := fun _ => rfl
    by_cases c : ws.length = 2
    · match ws, c, hx with
      | [a, b], _, hx =>
        have ha := e_whole a (hx a (by simp))
        have hb := e_tagG b (hx b (by simp))
        have pa := (hx a (by simp)).fz
        have pb := (hx b (by simp)).fz
        have x0 : ixW (.tup [a, b]) (.int 0) = some a := rfl
        have x1 : ixW (.tup [a, b]) (.int 1) = some b := rfl
        have l2 : lenW (.tup [a, b]) = some (.int 2) := rfl
        have e : thB (.tup [a, b]) = (intB a && tgB b) := rfl
        rw [e]
        cases hi : intB a
        · rw [hi] at ha
          simp_arith [i1, pF, l2, eqW_int, x0, pa, ha]
          try rfl
        · rw [hi] at ha
          simp_arith [i1, pF, l2, eqW_int, x0, pa, ha, x1, pb, hb]
          try rfl
    · have c2 : ¬ ((ws.length : Int) = 2) := by omega
      rw [thB_len c]
      simp_arith [i1, pF, len_tup, eqW_int, c2]
      try rfl
theorem filt_all (p : W → Bool) (l : List W) : decide ((l.filter fun x => !p x) = []) = l.all p := by
  rw [Bool.eq_iff_iff, decide_eq_true_eq, List.all_eq_true, List.filter_eq_nil_iff]
  constructor
  · intro h c hc
    simpa using h c hc
  · intro h c hc
    rw [h c hc]
    decide
theorem e_isrow {n : Nat} (w : W) (h : Gd n w) : f_is_row [w] = .ok (.bl (rowB w)) [.dead] := by
  unfold f_is_row b_is_row
  have lg := line_ge
  cases h.vw with
  | non =>
    have i1 : isiW ["list"] .non = some (.bl false) := rfl
    simp_arith [i1]
    try rfl
  | bl b =>
    have i1 : isiW ["list"] (.bl b) = some (.bl false) := rfl
    simp_arith [i1]
    try rfl
  | int b =>
    have i1 : isiW ["list"] (.int b) = some (.bl false) := rfl
    simp_arith [i1]
    try rfl
  | str b =>
    have i1 : isiW ["list"] (.str b) = some (.bl false) := rfl
    simp_arith [i1]
    try rfl
  | fdc ks ws =>
    have i1 : isiW ["list"] (.fdc ks ws) = some (.bl false) := rfl
    have pF : ∀ env, pickV (some (W.fdc ks ws)) env = .ok (.fdc ks ws) env := fun _ => rfl
    simp_arith [i1, pF]
    try rfl
  | tup ws =>
    have i1 : isiW ["list"] (.tup ws) = some (.bl false) := rfl
    have pF : ∀ env, pickV (some (W.tup ws)) env = .ok (.tup ws) env := fun _ => rfl
    simp_arith [i1, pF]
    try rfl
  | lst ws hl hx =>
    have i1 : isiW ["list"] (.lst false ws) = some (.bl true) := rfl
    have c1 : c_is_row_1 [.lst false ws, .dead] = .ok (.lst true (ws.filter fun t => !thB t)) [.lst false ws, .dead] := by
      unfold c_is_row_1
      rw [comp_filter (fun x : W => x) (fun t => !thB t) (fun x : W => x) (xs := ws) (by rw [map_self]; simp_arith []) (by omega) (by
        intro t ht
        have k := e_keyed t (hx t ht)
        have pk := (hx t ht).pk
        have fz := (hx t ht).fz
        unfold lcOne
        cases hb : thB t
        · rw [hb] at k
          simp_arith [pk, fz, k]
        · rw [hb] at k
          simp_arith [pk, fz, k]), map_self]
    have fa := filt_all thB ws
    have e : rowB (.lst false ws) = ws.all thB := rfl
    rw [e, ← fa]
    have eL := eqW_nil true true (ws.filter fun t => !thB t)
    simp_arith [i1, c1, eL, Nat.zero_le]
    try rfl
theorem e_areR {n : Nat} (w : W) (h : Gd n w) : f_are_rows [w] = .ok (.bl (rowsB w)) [.dead] := by
  unfold f_are_rows b_are_rows
  have lg := line_ge
  cases h.vw with
  | non =>
    have i1 : isiW ["list"] .non = some (.bl false) := rfl
    simp_arith [i1]
    try rfl
  | bl b =>
    have i1 : isiW ["list"] (.bl b) = some (.bl false) := rfl
    simp_arith [i1]
    try rfl
  | int b =>
    have i1 : isiW ["list"] (.int b) = some (.bl false) := rfl
    simp_arith [i1]
    try rfl
  | str b =>
    have i1 : isiW ["list"] (.str b) = some (.bl false) := rfl
    simp_arith [i1]
    try rfl
  | fdc ks ws =>
    have i1 : isiW ["list"] (.fdc ks ws) = some (.bl false) := rfl
    have pF : ∀ env, pickV (some (W.fdc ks ws)) env = .ok (.fdc ks ws) env := fun _ => rfl
    simp_arith [i1, pF]
    try rfl
  | tup ws =>
    have i1 : isiW ["list"] (.tup ws) = some (.bl false) := rfl
    have pF : ∀ env, pickV (some (W.tup ws)) env = .ok (.tup ws) env := fun _ => rfl
    simp_arith [i1, pF]
    try rfl
  | lst ws hl hx =>
    have i1 : isiW ["list"] (.lst false ws) = some (.bl true) := rfl
    have c1 : c_are_rows_1 [.lst false ws, .dead] = .ok (.lst true (ws.filter fun t => !rowB t)) [.lst false ws, .dead] := by
      unfold c_are_rows_1
      rw [comp_filter (fun x : W => x) (fun t => !rowB t) (fun x : W => x) (xs := ws) (by rw [map_self]; simp_arith []) (by omega) (by
        intro t ht
        have k := e_isrow t (hx t ht)
        have pk := (hx t ht).pk
        have fz := (hx t ht).fz
        unfold lcOne
        cases hb : rowB t
        · rw [hb] at k
          simp_arith [pk, fz, k]
        · rw [hb] at k
          simp_arith [pk, fz, k]), map_self]
    have fa := filt_all rowB ws
    have e : rowsB (.lst false ws) = (decide (1 ≤ ws.length) && (decide (ws.length ≤ 6) && ws.all rowB)) := rfl
    have eL := eqW_nil true true (ws.filter fun t => !rowB t)
    rw [e]
    by_cases g1 : 1 ≤ ws.length
    · by_cases g2 : ws.length ≤ 6
      · have g1' : (1 : Int) ≤ (ws.length : Int) := by omega
        have g2' : (ws.length : Int) ≤ 6 := by omega
        rw [decide_eq_true g1, decide_eq_true g2, Bool.true_and, Bool.true_and, ← fa]
        simp_arith [i1, w_leX, w_lenL, g1', g2', c1, eL, Nat.zero_le]
        try rfl
      · have g1' : (1 : Int) ≤ (ws.length : Int) := by omega
        have g2' : ¬ (ws.length : Int) ≤ 6 := by omega
        rw [decide_eq_false g2, Bool.false_and, Bool.and_false]
        simp_arith [i1, w_leX, w_lenL, g1', g2']
        try rfl
    · have g1' : ¬ (1 : Int) ≤ (ws.length : Int) := by omega
      rw [decide_eq_false g1, Bool.false_and]
      simp_arith [i1, w_leX, w_lenL, g1']
      try rfl
end Ev

namespace Ev
open PySem PySem.Spec L2
local macro_rules
  | `(tactic| simp_arith [$ls,*] $[$l:location]?) => `(tactic| simp only [↓r_bind, ↓r_ret, ↓r_lft, ↓r_c, ↓r_var2, ↓r_move, ↓r_un, ↓r_bin, ↓r_chain, ↓r_toB, ↓r_ofB, ↓r_and, ↓r_or, ↓r_not, ↓r_nil, ↓r_cons, ↓r_args, ↓r_iargs, ↓r_ilst, ↓r_part, ↓r_no, ↓r_slice, ↓r_callP, ↓r_rnil, ↓r_rval, ↓r_rvalX, ↓r_pick, pas_str, pas_int, pas_bl, pas_non, pas_tup, pas_lst, pas_edc, pick_edc, ↓r_rio, ↓r_call, ↓r_callL, ↓r_fz, ↓r_seq, ↓r_snil, ↓r_if, ↓r_drop, ↓r_sret, ↓r_set, ↓r_asg, ↓r_aug, ↓r_sfor, ↓r_mut, ↓r_sto, ↓r_go, ↓r_gfz, ↓r_push, ↓r_gfzD, ↓r_fzD,  ↓r_raise, ↓r_try, ↓r_itup, ↓r_iseq, ↓r_andV, ↓r_orV, ↓r_notV, ↓r_fn, ↓r_meth, ↓r_augS, ↓r_ichr, ↓r_pair, ↓r_mutN, ↓r_mutT, ↓r_app, ↓r_gfzC, ↓r_callO, ↓r_asgN, ↓r_takeK, pick_nst, pick_ntp, w_strL, w_zip3, ↓r_dnew, ↓r_key1, ↓r_keyT, ↓r_dget, ↓r_dget2, ↓r_dput, ↓r_mutP, ↓r_mutKP, ↓r_stoP, ↓r_stoN, ↓r_dputP, ↓r_fldP, ↓r_callM, ↓r_makeL, ↓r_gfzK, ↓r_gfzP, ↓r_dpopP, ↓r_augP, ↓r_forP, ↓r_chainI, ↓r_callT, ↓r_ikeys, ↓r_keyCut, w_keyI, w_keyS, w_keyT2, w_lookT, w_lookK, w_lookDT, w_lookDK, w_dputT, w_dputK, w_dkeysT, w_dkeysK, isDW_dct, frz_dct, pick_dct, w_geX, ty_str, and_self,
      maskL_nil, maskL_cons, frz_non, frz_bl, frz_int, frz_str, frz_tup, frz_lst, frz_scr, fz_lst, fz_int, fz_tup, fz_str, fz_bl, w_lst, w_tup, w_add, w_addL, w_addB, w_sub, w_mul, w_rep, w_fdiv, w_mod, w_pow, w_neg, w_lt, w_le, w_ge, w_gt, w_bl, w_intW, w_toI, w_toB, w_max2, w_min2, w_abs, w_lenL, w_lenC, w_lenT, w_listL, w_listC, w_listT, w_tupL, w_rev, w_ixL, w_ixC, w_ixT, w_cutL, w_cutC, w_frzL, w_frzC, w_rng1, w_rng2, w_enum, w_enumC, w_zip, w_app, w_ext, w_pop, w_sum, w_isx, w_isiI, w_isiB, w_tgN, w_tgT, w_killN, w_killC, w_takeN, w_takeV, w_takeI, w_putI, w_putV, w_putN, w_lendN, w_lendV, w_lendI, flat_bl, flat_int, flat_non,
      pick_non, pick_bl, pick_int, pick_str, pick_tup, pick_lst, pick_scr, pick_exc, pick_T, pick_R, pick_N, frzT, frzR, frzN, w_seqL, w_seqT, w_seqC, w_zipT, w_zipA, w_tupLt, w_leX, eqW_int, neW_int, eqW_nil, neW_nil, eqW_str, neW_str, List.cons_append, List.nil_append, List.length_cons, List.length_nil, List.replicate_succ, List.replicate_zero, List.getElem?_cons_zero, List.getElem?_cons_succ, List.set_cons_zero, List.set_cons_succ, List.length_map, Option.map_some, Option.bind_some, cond_true, cond_false, Bool.true_or, Bool.or_true, Bool.false_or, Bool.or_false, Bool.not_true, Bool.not_false, Bool.true_and, Bool.false_and, Nat.reduceSub, Nat.reduceAdd, Nat.reduceLeDiff, ↓reduceIte, if_true, if_false, reduceCtorEq, decide_true, decide_false, decide_eq_true_eq, Nat.zero_add, Nat.add_zero, $ls,*] $[$l]?)
theorem e_isthing {n : Nat} (w : W) (h : Gd n w) : f__law_is_thing [w] = .ok (.bl (thB w)) [.dead] := by
  unfold f__law_is_thing b__law_is_thing
  cases h.vw with
  | non =>
    have i1 : isiW ["tuple"] .non = some (.bl false) := rfl
    simp_arith [i1]
    try rfl
  | bl b =>
    have i1 : isiW ["tuple"] (.bl b) = some (.bl false) := rfl
    simp_arith [i1]
    try rfl
  | int b =>
    have i1 : isiW ["tuple"] (.int b) = some (.bl false) := rfl
    simp_arith [i1]
    try rfl
  | str b =>
    have i1 : isiW ["tuple"] (.str b) = some (.bl false) := rfl
    simp_arith [i1]
    try rfl
  | fdc ks ws =>
    have i1 : isiW ["tuple"] (.fdc ks ws) = some (.bl false) := rfl
    have pF : ∀ env, pickV (some (W.fdc ks ws)) env = .ok (.fdc ks ws) env := fun _ => rfl
    simp_arith [i1, pF]
    try rfl
  | lst ws =>
    have i1 : isiW ["tuple"] (.lst false ws) = some (.bl false) := rfl
    simp_arith [i1]
    try rfl
  | tup ws hl hx =>
    have i1 : isiW ["tuple"] (.tup ws) = some (.bl true) := rfl
    have pF : ∀ env, pickV (some (W.tup ws)) env = .ok (.tup ws) env := fun _ => rfl
    by_cases c : ws.length = 2
    · match ws, c, hx with
      | [a, b], _, hx =>
        have l2 : lenW (.tup [a, b]) = some (.int 2) := rfl
        have x0 : ixW (.tup [a, b]) (.int 0) = some a := rfl
        have x1 : ixW (.tup [a, b]) (.int 1) = some b := rfl
        have e : thB (.tup [a, b]) = (intB a && tgB b) := rfl
        have ia : ∃ p q : Bool, isiW ["int"] a = some (.bl p) ∧ isiW ["bool"] a = some (.bl q) ∧ intB a = (p && !q) := by
          cases (hx a (by simp)).vw with
          | non => exact ⟨false, false, rfl, rfl, rfl⟩
          | bl b => exact ⟨true, true, rfl, rfl, rfl⟩
          | int b => exact ⟨true, false, rfl, rfl, rfl⟩
          | str b => exact ⟨false, false, rfl, rfl, rfl⟩
          | fdc ks ws => exact ⟨false, false, rfl, rfl, rfl⟩
          | tup ws => exact ⟨false, false, rfl, rfl, rfl⟩
          | lst ws => exact ⟨false, false, rfl, rfl, rfl⟩
        obtain ⟨p, q, a1, a2, a3⟩ := ia
        rw [e, a3]
        cases p with
        | false =>
          simp_arith [i1, pF, l2, neW_int, x0, a1]
          try rfl
        | true =>
          cases q with
          | true =>
            simp_arith [i1, pF, l2, neW_int, x0, a1, a2]
            try rfl
          | false =>
            have hb : (∃ z, z.length ≤ 1000 ∧ b = .str z) ∨ (isiW ["str"] b = some (.bl false) ∧ tgB b = false) := by
              cases (hx b (by simp)).vw with
              | non => exact .inr ⟨rfl, rfl⟩
              | bl b => exact .inr ⟨rfl, rfl⟩
              | int b => exact .inr ⟨rfl, rfl⟩
              | str z hz => exact .inl ⟨z, hz, rfl⟩
              | fdc ks ws => exact .inr ⟨rfl, rfl⟩
              | tup ws => exact .inr ⟨rfl, rfl⟩
              | lst ws => exact .inr ⟨rfl, rfl⟩
            rcases hb with ⟨z, hz, rfl⟩ | ⟨b1, b2⟩
            · have lg := line_ge
              have s1 : isiW ["str"] (.str z) = some (.bl true) := rfl
              have hlen : z.cps.toList.length = z.length := Array.length_toList
              have hl2 : lenW (.str z) = some (.int (z.length : Int)) := w_lenS z (by omega)
              have et : tgB (.str z) = tagB z := rfl
              have c1 : c__law_is_thing_1 [.tup [a, .str z], .dead] = .ok (.lst true ((z.cps.toList.filter fun c => !decide (c ∈ (Str.cps "abcdefghijklmnopqrstuvwxyz").toList)).map fun c : Nat => W.str ⟨#[c]⟩)) [.tup [a, .str z], .dead] := by
                unfold c__law_is_thing_1
                rw [comp_filter (fun c : Nat => W.str ⟨#[c]⟩) (fun c => !decide (c ∈ (Str.cps "abcdefghijklmnopqrstuvwxyz").toList)) (fun c : Nat => W.str ⟨#[c]⟩) (xs := z.cps.toList) (by simp_arith [pF, x1]) (by omega) (by
                  intro c hc
                  have hw : inW true (.str ⟨#[c]⟩) (.str "abcdefghijklmnopqrstuvwxyz") = some (.bl (!decide (c ∈ (Str.cps "abcdefghijklmnopqrstuvwxyz").toList))) := by
                    rw [w_inS]
                    cases decide (c ∈ (Str.cps "abcdefghijklmnopqrstuvwxyz").toList) <;> rfl
                  unfold lcOne
                  cases hd : decide (c ∈ (Str.cps "abcdefghijklmnopqrstuvwxyz").toList)
                  · rw [hd] at hw
                    simp_arith [hw]
                  · rw [hd] at hw
                    simp_arith [hw])]
              obtain ⟨l, hl0⟩ : ∃ l, l = (z.cps.toList.filter fun c => !decide (c ∈ (Str.cps "abcdefghijklmnopqrstuvwxyz").toList)).map fun c : Nat => W.str ⟨#[c]⟩ := ⟨_, rfl⟩
              have all : decide (l = []) = z.cps.toList.all fun c => decide (c ∈ (Str.cps "abcdefghijklmnopqrstuvwxyz").toList) := by
                rw [hl0, Bool.eq_iff_iff, decide_eq_true_eq, List.all_eq_true, List.map_eq_nil_iff, List.filter_eq_nil_iff]
                constructor
                · intro h c hc
                  simpa using h c hc
                · intro h c hc
                  rw [h c hc]
                  decide
              have eL := fun b => eqW_nil b true l
              rw [← hl0] at c1
              rw [et]
              unfold tagB
              rw [← all]
              by_cases g1 : 1 ≤ z.length
              · by_cases g2 : z.length ≤ 8
                · have g1' : ¬ (z.length : Int) < 1 := by omega
                  have g2' : ¬ (z.length : Int) > 8 := by omega
                  have g3' : ¬ (8 : Int) < (z.length : Int) := by omega
                  rw [decide_eq_true g1, decide_eq_true g2]
                  simp_arith [i1, pF, l2, neW_int, x0, a1, a2, x1, s1, hl2, g1', g2', g3', c1, ↓eL, Nat.zero_le]
                  try rfl
                · have g1' : ¬ (z.length : Int) < 1 := by omega
                  have g2' : (z.length : Int) > 8 := by omega
                  have g3' : (8 : Int) < (z.length : Int) := by omega
                  rw [decide_eq_true g1, decide_eq_false g2]
                  simp_arith [i1, pF, l2, neW_int, x0, a1, a2, x1, s1, hl2, g1', g2', g3']
                  try rfl
              · have g1' : (z.length : Int) < 1 := by omega
                rw [decide_eq_false g1]
                simp_arith [i1, pF, l2, neW_int, x0, a1, a2, x1, s1, hl2, g1']
                try rfl
            · rw [b2]
              simp_arith [i1, pF, l2, neW_int, x0, a1, a2, x1, b1]
              try rfl
    · have c2 : ¬ ((ws.length : Int) = 2) := by omega
      rw [thB_len c]
      simp_arith [i1, pF, len_tup, neW_int, c2]
      try rfl
theorem due_turn {n : Nat} (T x : W) (h : Gd n x) : (rowB x = true → turn (tgN 1) b__law_due_1 [1] x [T, .dead, .dead] = .ok .nx [T, .dead, .dead]) ∧ (rowB x = false → turn (tgN 1) b__law_due_1 [1] x [T, .dead, .dead] = .ok (.rt (.bl false)) [T, x, .dead]) := by
  have lg := line_ge
  have z0 : 0 ≤ sizeLine := Nat.zero_le _
  cases h.vw with
  | non =>
    have i1 : isiW ["list"] .non = some (.bl false) := rfl
    refine ⟨(fun z => nomatch z), fun _ => ?_⟩
    unfold turn b__law_due_1
    simp_arith [i1]
  | bl b =>
    have i1 : isiW ["list"] (.bl b) = some (.bl false) := rfl
    refine ⟨(fun z => nomatch z), fun _ => ?_⟩
    unfold turn b__law_due_1
    simp_arith [i1]
  | int b =>
    have i1 : isiW ["list"] (.int b) = some (.bl false) := rfl
    refine ⟨(fun z => nomatch z), fun _ => ?_⟩
    unfold turn b__law_due_1
    simp_arith [i1]
  | str b =>
    have i1 : isiW ["list"] (.str b) = some (.bl false) := rfl
    refine ⟨(fun z => nomatch z), fun _ => ?_⟩
    unfold turn b__law_due_1
    simp_arith [i1]
  | fdc ks ws =>
    have i1 : isiW ["list"] (.fdc ks ws) = some (.bl false) := rfl
    have pF : ∀ env, pickV (some (W.fdc ks ws)) env = .ok (.fdc ks ws) env := fun _ => rfl
    refine ⟨(fun z => nomatch z), fun _ => ?_⟩
    unfold turn b__law_due_1
    simp_arith [i1, pF]
  | tup ws =>
    have i1 : isiW ["list"] (.tup ws) = some (.bl false) := rfl
    have pF : ∀ env, pickV (some (W.tup ws)) env = .ok (.tup ws) env := fun _ => rfl
    refine ⟨(fun z => nomatch z), fun _ => ?_⟩
    unfold turn b__law_due_1
    simp_arith [i1, pF]
  | lst ws hl hx =>
    have i1 : isiW ["list"] (.lst false ws) = some (.bl true) := rfl
    have c1 : c__law_due_1 [T, .lst false ws, .dead] = .ok (.lst true (ws.filter fun t => !thB t)) [T, .lst false ws, .dead] := by
      unfold c__law_due_1
      rw [comp_filter (fun x : W => x) (fun t => !thB t) (fun x : W => x) (xs := ws) (by rw [map_self]; simp_arith []) (by omega) (by
        intro t ht
        have k := e_isthing t (hx t ht)
        have pk := (hx t ht).pk
        have fz := (hx t ht).fz
        unfold lcOne
        cases hb : thB t
        · rw [hb] at k
          simp_arith [pk, fz, k]
        · rw [hb] at k
          simp_arith [pk, fz, k]), map_self]
    have fa := filt_all thB ws
    have e : rowB (.lst false ws) = ws.all thB := rfl
    have eL := neW_nil false false (ws.filter fun t => !thB t)
    rw [e, fa] at *
    refine ⟨fun z => ?_, fun z => ?_⟩
    · rw [z] at eL
      unfold turn b__law_due_1
      simp_arith [i1, c1, ↓eL, z0]
    · rw [z] at eL
      unfold turn b__law_due_1
      simp_arith [i1, c1, ↓eL, z0]
theorem due_loop {n : Nat} (T : W) : ∀ ws : List W, (∀ x ∈ ws, Gd n x) → (ws.all rowB = true ∧ mFor (tgN 1) b__law_due_1 [1] ws [T, .dead, .dead] = .ok .nx [T, .dead, .dead]) ∨ (ws.all rowB = false ∧ ∃ x, mFor (tgN 1) b__law_due_1 [1] ws [T, .dead, .dead] = .ok (.rt (.bl false)) [T, x, .dead])
  | [], _ => .inl ⟨rfl, rfl⟩
  | x :: ws, h => by
    obtain ⟨t1, t2⟩ := due_turn T x (h x List.mem_cons_self)
    rw [mFor_cons, List.all_cons]
    cases hb : rowB x with
    | true =>
      rw [t1 hb, Bool.true_and]
      exact due_loop T ws fun y hy => h y (List.mem_cons_of_mem _ hy)
    | false =>
      rw [t2 hb, Bool.false_and]
      exact .inr ⟨rfl, x, rfl⟩
theorem e_due {n : Nat} (w : W) (h : Gd n w) : f__law_due [w] = .ok (.bl (rowsB w)) [.dead] := by
  unfold f__law_due b__law_due
  have lg := line_ge
  cases h.vw with
  | non =>
    have i1 : isiW ["list"] .non = some (.bl false) := rfl
    simp_arith [i1]
    try rfl
  | bl b =>
    have i1 : isiW ["list"] (.bl b) = some (.bl false) := rfl
    simp_arith [i1]
    try rfl
  | int b =>
    have i1 : isiW ["list"] (.int b) = some (.bl false) := rfl
    simp_arith [i1]
    try rfl
  | str b =>
    have i1 : isiW ["list"] (.str b) = some (.bl false) := rfl
    simp_arith [i1]
    try rfl
  | fdc ks ws =>
    have i1 : isiW ["list"] (.fdc ks ws) = some (.bl false) := rfl
    have pF : ∀ env, pickV (some (W.fdc ks ws)) env = .ok (.fdc ks ws) env := fun _ => rfl
    simp_arith [i1, pF]
    try rfl
  | tup ws =>
    have i1 : isiW ["list"] (.tup ws) = some (.bl false) := rfl
    have pF : ∀ env, pickV (some (W.tup ws)) env = .ok (.tup ws) env := fun _ => rfl
    simp_arith [i1, pF]
    try rfl
  | lst ws hl hx =>
    have i1 : isiW ["list"] (.lst false ws) = some (.bl true) := rfl
    have e : rowsB (.lst false ws) = (decide (1 ≤ ws.length) && (decide (ws.length ≤ 6) && ws.all rowB)) := rfl
    rw [e]
    by_cases g1 : 1 ≤ ws.length
    · by_cases g2 : ws.length ≤ 6
      · have g1' : ¬ (ws.length : Int) < 1 := by omega
        have g2' : ¬ (ws.length : Int) > 6 := by omega
        have g3' : ¬ (6 : Int) < (ws.length : Int) := by omega
        rw [decide_eq_true g1, decide_eq_true g2, Bool.true_and, Bool.true_and]
        rcases due_loop (.lst false ws) ws hx with ⟨a, lp⟩ | ⟨a, x, lp⟩
        · rw [a]
          simp_arith [i1, w_lenL, g1', g2', g3', ↓lp]
          try rfl
        · rw [a]
          simp_arith [i1, w_lenL, g1', g2', g3', ↓lp]
          try rfl
      · have g1' : ¬ (ws.length : Int) < 1 := by omega
        have g2' : (ws.length : Int) > 6 := by omega
        have g3' : (6 : Int) < (ws.length : Int) := by omega
        rw [decide_eq_false g2, Bool.false_and, Bool.and_false]
        simp_arith [i1, w_lenL, g1', g2', g3']
        try rfl
    · have g1' : (ws.length : Int) < 1 := by omega
      rw [decide_eq_false g1, Bool.false_and]
      simp_arith [i1, w_lenL, g1']
      try rfl
end Ev

namespace Ev
open PySem PySem.Spec L2
local macro_rules
  | `(tactic| simp_arith [$ls,*] $[$l:location]?) => `(tactic| simp only [↓r_bind, ↓r_ret, ↓r_lft, ↓r_c, ↓r_var2, ↓r_move, ↓r_un, ↓r_bin, ↓r_chain, ↓r_toB, ↓r_ofB, ↓r_and, ↓r_or, ↓r_not, ↓r_nil, ↓r_cons, ↓r_args, ↓r_iargs, ↓r_ilst, ↓r_part, ↓r_no, ↓r_slice, ↓r_callP, ↓r_rnil, ↓r_rval, ↓r_rvalX, ↓r_pick, pas_str, pas_int, pas_bl, pas_non, pas_tup, pas_lst, pas_edc, pick_edc, ↓r_rio, ↓r_call, ↓r_callL, ↓r_fz, ↓r_seq, ↓r_snil, ↓r_if, ↓r_drop, ↓r_sret, ↓r_set, ↓r_asg, ↓r_aug, ↓r_sfor, ↓r_mut, ↓r_sto, ↓r_go, ↓r_gfz, ↓r_push, ↓r_gfzD, ↓r_fzD,  ↓r_raise, ↓r_try, ↓r_itup, ↓r_iseq, ↓r_andV, ↓r_orV, ↓r_notV, ↓r_fn, ↓r_meth, ↓r_augS, ↓r_ichr, ↓r_pair, ↓r_mutN, ↓r_mutT, ↓r_app, ↓r_gfzC, ↓r_callO, ↓r_asgN, ↓r_takeK, pick_nst, pick_ntp, w_strL, w_zip3, ↓r_dnew, ↓r_key1, ↓r_keyT, ↓r_dget, ↓r_dget2, ↓r_dput, ↓r_mutP, ↓r_mutKP, ↓r_stoP, ↓r_stoN, ↓r_dputP, ↓r_fldP, ↓r_callM, ↓r_makeL, ↓r_gfzK, ↓r_gfzP, ↓r_dpopP, ↓r_augP, ↓r_forP, ↓r_chainI, ↓r_callT, ↓r_ikeys, ↓r_keyCut, w_keyI, w_keyS, w_keyT2, w_lookT, w_lookK, w_lookDT, w_lookDK, w_dputT, w_dputK, w_dkeysT, w_dkeysK, isDW_dct, frz_dct, pick_dct, w_geX, ty_str, and_self,
      maskL_nil, maskL_cons, frz_non, frz_bl, frz_int, frz_str, frz_tup, frz_lst, frz_scr, fz_lst, fz_int, fz_tup, fz_str, fz_bl, w_lst, w_tup, w_add, w_addL, w_addB, w_sub, w_mul, w_rep, w_fdiv, w_mod, w_pow, w_neg, w_lt, w_le, w_ge, w_gt, w_bl, w_intW, w_toI, w_toB, w_max2, w_min2, w_abs, w_lenL, w_lenC, w_lenT, w_listL, w_listC, w_listT, w_tupL, w_rev, w_ixL, w_ixC, w_ixT, w_cutL, w_cutC, w_frzL, w_frzC, w_rng1, w_rng2, w_enum, w_enumC, w_zip, w_app, w_ext, w_pop, w_sum, w_isx, w_isiI, w_isiB, w_tgN, w_tgT, w_killN, w_killC, w_takeN, w_takeV, w_takeI, w_putI, w_putV, w_putN, w_lendN, w_lendV, w_lendI, flat_bl, flat_int, flat_non,
      pick_non, pick_bl, pick_int, pick_str, pick_tup, pick_lst, pick_scr, pick_exc, pick_T, pick_R, pick_N, frzT, frzR, frzN, w_seqL, w_seqT, w_seqC, w_zipT, w_zipA, w_tupLt, w_leX, eqW_int, neW_int, eqW_nil, neW_nil, eqW_str, neW_str, List.cons_append, List.nil_append, List.length_cons, List.length_nil, List.replicate_succ, List.replicate_zero, List.getElem?_cons_zero, List.getElem?_cons_succ, List.set_cons_zero, List.set_cons_succ, List.length_map, Option.map_some, Option.bind_some, cond_true, cond_false, Bool.true_or, Bool.or_true, Bool.false_or, Bool.or_false, Bool.not_true, Bool.not_false, Bool.true_and, Bool.false_and, Nat.reduceSub, Nat.reduceAdd, Nat.reduceLeDiff, ↓reduceIte, if_true, if_false, reduceCtorEq, decide_true, decide_false, decide_eq_true_eq, Nat.zero_add, Nat.add_zero, $ls,*] $[$l]?)
/-! ### a comprehension, by what holds between its things -/
theorem mLc_inv {α β : Type} {f : Tg} {tt : Sm Bool} {te : Sm W} {vs : List Nat} (e : α → W) (d : β → W) (P : β → Prop) (I : Nat → List W → Prop) : ∀ {xs : List α} {acc env : List W}, I xs.length (killE vs env) → acc.length + xs.length ≤ sizeLine →
    (∀ x ∈ xs, ∀ n env, I (n + 1) env → ∃ y env', lcOne f tt te vs (e x) env = .ok (some (d y)) env' ∧ P y ∧ I n env') → ∃ (ys : List β) (env' : List W), mLc f tt te vs (xs.map e) acc env = .ok (acc ++ ys.map d) env' ∧ I 0 env' ∧ ys.length = xs.length ∧ ∀ y ∈ ys, P y
  | [], acc, env, i, hl, _ => ⟨[], killE vs env, by rw [List.map_nil, List.map_nil, List.append_nil, mLc], i, rfl, fun _ z => nomatch z⟩
  | x :: xs, acc, env, i, hl, h => by
    rw [List.length_cons] at hl
    obtain ⟨y, env', h1, h2, h3⟩ := h x List.mem_cons_self _ _ i
    obtain ⟨env2, h4, h5⟩ := mLc_cons (xs := xs.map e) (acc := acc) h1 (by omega)
    rw [← h4] at h3
    obtain ⟨ys, env3, g1, g2, g3, g4⟩ := mLc_inv (acc := acc ++ [d y]) e d P I h3 (by rw [List.length_append, List.length_singleton]; omega) fun z hz => h z (List.mem_cons_of_mem _ hz)
    refine ⟨y :: ys, env3, ?_, g2, by rw [List.length_cons, g3, List.length_cons], fun z hz => ?_⟩
    · rw [List.map_cons, h5]
      show mLc f tt te vs (xs.map e) (acc ++ [d y]) env2 = _
      rw [g1, List.map_cons, List.append_assoc]
      rfl
    · rcases List.mem_cons.mp hz with rfl | hz
      · exact h2
      · exact g4 z hz
theorem comp_inv {α β : Type} {f : Tg} {tt : Sm Bool} {te : Sm W} {vs : List Nat} {mi : Sm (List W)} {env env1 : List W} (e : α → W) (d : β → W) (P : β → Prop) (I : Nat → List W → Prop) {xs : List α} (hm : mi env = .ok (xs.map e) env1) (hi : I xs.length (killE vs env1)) (hl : xs.length ≤ sizeLine)
    (h : ∀ x ∈ xs, ∀ n env, I (n + 1) env → ∃ y env', lcOne f tt te vs (e x) env = .ok (some (d y)) env' ∧ P y ∧ I n env') : ∃ (ys : List β) (env' : List W), mComp false f tt te vs mi env = .ok (.lst true (ys.map d)) env' ∧ I 0 env' ∧ ys.length = xs.length ∧ ∀ y ∈ ys, P y := by
  obtain ⟨ys, env', h1, h2, h3, h4⟩ := mLc_inv (acc := []) (env := env1) (f := f) (tt := tt) (te := te) (vs := vs) e d P I hi (by simpa using hl) h
  refine ⟨ys, env', ?_, h2, h3, h4⟩
  unfold mComp
  rw [r_bind, hm]
  dsimp only
  rw [h1]
  rfl
/-! ### pools -/
abbrev pl (a b c : Int) : W := .lst true [.int a, .int b, .int c]
theorem powW18 : powW (.int 10) (.int 18) = some (.int 1000000000000000000) := by
  have h : powOk 10 18 := ⟨by decide, by decide, by decide⟩
  rw [w_pow, if_pos h]
  rfl
theorem powW10 : powW (.int 10) (.int 10) = some (.int 10000000000) := by
  have h : powOk 10 10 := ⟨by decide, by decide, by decide⟩
  rw [w_pow, if_pos h]
  rfl
theorem r_stoAt (i : Nat) (w : W) (n : Int) (env : List W) : stoAt i w (.int n) env = match env[i]? with
  | some (.lst true xs) => (match ixN xs.length n with
    | some k => .ok .nx (env.set i (.lst true (xs.set k w)))
    | none => .bad)
  | _ => .bad := rfl
theorem ix30 : ixN 3 0 = some 0 := rfl
theorem ix32 : ixN 3 2 = some 2 := rfl
def mk (a s : Int) : Int := (a % 9999999589 + 997) * (31 * s + 61) + 3539 * s * s
theorem mk_bound (a s : Int) (s0 : 0 ≤ s) (s1 : s ≤ 1000001) : 0 ≤ mk a s ∧ mk a s < 9223372036854775808 := by
  unfold mk
  obtain ⟨u, hu, u0, u1⟩ : ∃ u, u = a % 9999999589 + 997 ∧ 0 ≤ u ∧ u ≤ 10000000600 := ⟨_, rfl, by omega, by omega⟩
  obtain ⟨v, hv, v0, v1⟩ : ∃ v, v = 31 * s + 61 ∧ 0 ≤ v ∧ v ≤ 31000100 := ⟨_, rfl, by omega, by omega⟩
  obtain ⟨w, hw, w0, w1⟩ : ∃ w, w = 3539 * s ∧ 0 ≤ w ∧ w ≤ 3539003539 := ⟨_, rfl, by omega, by omega⟩
  rw [← hu, ← hv, ← hw]
  have a1 : 0 ≤ u * v := Int.mul_nonneg u0 v0
  have a2 : u * v ≤ 10000000600 * 31000100 := Int.mul_le_mul u1 v1 v0 (by omega)
  have a3 : 0 ≤ w * s := Int.mul_nonneg w0 s0
  have a4 : w * s ≤ 3539003539 * 1000001 := Int.mul_le_mul w1 s1 s0 (by omega)
  omega
theorem divOk_big {j : Int} (h1 : 0 < j) (h2 : j < 100000000000000000000000000000000) : divOk j := by
  refine ⟨h1, ?_⟩
  have e : (2 : Nat) ^ 107 = 162259276829213363391578010288128 := by decide
  have h3 : j.natAbs < 2 ^ 107 := by rw [e]; omega
  have h4 := (Nat.log2_lt (n := j.natAbs) (k := 107) (by omega)).mpr h3
  omega
theorem powW20 : powW (.int 10) (.int 20) = some (.int 100000000000000000000) := by
  have h : powOk 10 20 := ⟨by decide, by decide, by decide⟩
  rw [w_pow, if_pos h]
  rfl
theorem powW30 : powW (.int 10) (.int 30) = some (.int 1000000000000000000000000000000) := by
  have h : powOk 10 30 := ⟨by decide, by decide, by decide⟩
  rw [w_pow, if_pos h]
  rfl
theorem powW5 : powW (.int 10) (.int 5) = some (.int 100000) := by
  have h : powOk 10 5 := ⟨by decide, by decide, by decide⟩
  rw [w_pow, if_pos h]
  rfl
theorem e_take (a b c many : Int) (hb : b = 0 ∨ b = 1) (c0 : 0 ≤ c) (c1 : c ≤ 1000000) (m0 : 0 < many) (m1 : many < 100000000000000000000000000000000) : ∃ v a' c', 0 ≤ v ∧ v < many ∧ c ≤ c' ∧ c' ≤ c + 1 ∧ f__law_take [pl a b c, .int many] = .ok (.int v) [pl a' b c', .dead] := by
  rcases hb with rfl | rfl
  · have hm := mk_bound a (c + 1) (by omega) (by omega)
    refine ⟨mk a (c + 1) * mk a (c + 1) % 99999999629 * (mk a (c + 1) * mk a (c + 1) % 99999999629 + 43) % 99999999911 / 97 % many, a, c + 1, Int.emod_nonneg _ (by omega), Int.emod_lt_of_pos _ m0, by omega, by omega, ?_⟩
    unfold f__law_take b__law_take
    have k1 : mulOk (a % 9999999589 + 997) (31 * (c + 1) + 61) := mulOk_l (by omega) (by omega)
    have k2 : mulOk 31 (c + 1) := mulOk_l (by omega) (by omega)
    have k3 : mulOk 3539 (c + 1) := mulOk_l (by omega) (by omega)
    have k4 : mulOk (3539 * (c + 1)) (c + 1) := mulOk_l (by omega) (by omega)
    have k5 : mulOk (mk a (c + 1)) (mk a (c + 1)) := mulOk_l (by omega) (by omega)
    have k6 : mulOk (mk a (c + 1) * mk a (c + 1) % 99999999629) (mk a (c + 1) * mk a (c + 1) % 99999999629 + 43) := mulOk_l (by omega) (by omega)
    have em : (a % 9999999589 + 997) * (31 * (c + 1) + 61) + 3539 * (c + 1) * (c + 1) = mk a (c + 1) := rfl
    simp_arith [atI_pos, Int.reduceLE, Int.reduceToNat, Int.reduceEq, r_stoAt, ix30, ix32, Int.reduceLT, k1, k2, k3, k4, em, k5, k6, divOk_of (j := 97) (by decide) (by decide), m0]
  · refine ⟨a % many, a / many, c, Int.emod_nonneg _ (by omega), Int.emod_lt_of_pos _ m0, by omega, by omega, ?_⟩
    unfold f__law_take b__law_take
    have hd : divOk many := divOk_big m0 m1
    simp_arith [atI_pos, Int.reduceLE, Int.reduceToNat, m0, hd, r_stoAt, ix30]
def abcL : List Nat := (Str.cps "abcdefghijklmnopqrstuvwxyz").toList
def tagOk (z : Str) : Prop := 1 ≤ z.length ∧ z.length ≤ 8 ∧ ∀ c ∈ z.cps.toList, c ∈ abcL
theorem tag_cut {z : Str} (h : tagOk z) (u : Int) (u0 : 0 ≤ u) : tagOk (cutS z none (some (1 + u))) := by
  obtain ⟨h1, h2, h3⟩ := h
  obtain ⟨n, rfl⟩ : ∃ n : Nat, u = (n : Int) := ⟨u.toNat, by omega⟩
  have e : cutS z none (some (1 + (n : Int))) = ⟨(z.cps.toList.take (min (1 + n) z.length)).toArray⟩ := by
    unfold cutS
    rw [show (1 : Int) + (n : Int) = ((1 + n : Nat) : Int) by omega, HT.sIx_none, HT.sIx_nat, List.drop_zero, Nat.sub_zero]
  have hl : (cutS z none (some (1 + (n : Int)))).length = min (1 + n) z.length := by
    rw [e]
    show ((z.cps.toList.take (min (1 + n) z.length)).toArray).size = _
    rw [List.size_toArray, List.length_take, Array.length_toList]
    have : z.cps.size = z.length := rfl
    omega
  refine ⟨by omega, by omega, fun c hc => ?_⟩
  rw [e] at hc
  have hc2 : c ∈ z.cps.toList.take (min (1 + n) z.length) := by simpa using hc
  exact h3 c (List.mem_of_mem_take hc2)
theorem abc26_len : Str.length "abcdefghijklmnopqrstuvwxyz" = 26 := by decide
theorem abc_at (v : Int) (v0 : 0 ≤ v) (v1 : v < 26) : ∃ z : Str, (z.length = 1 ∧ ∀ c ∈ z.cps.toList, c ∈ abcL) ∧ ixW (.str "abcdefghijklmnopqrstuvwxyz") (.int v) = some (.str z) := by
  have h : (Str.length "abcdefghijklmnopqrstuvwxyz") ≤ sizeLine := by rw [abc26_len]; have := line_ge; omega
  have hl : (Str.cps "abcdefghijklmnopqrstuvwxyz").toList.length = 26 := by decide
  show ∃ z : Str, (z.length = 1 ∧ ∀ c ∈ z.cps.toList, c ∈ abcL) ∧ (if (Str.length "abcdefghijklmnopqrstuvwxyz") ≤ sizeLine then (atI (Str.cps "abcdefghijklmnopqrstuvwxyz").toList v).map fun c => W.str ⟨#[c]⟩ else none) = some (.str z)
  rw [if_pos h, atI_pos _ v0, List.getElem?_eq_getElem (by rw [hl]; omega)]
  refine ⟨_, ⟨rfl, fun c hc => ?_⟩, rfl⟩
  have e : c = (Str.cps "abcdefghijklmnopqrstuvwxyz").toList[v.toNat]'(by rw [hl]; omega) := by simpa using hc
  rw [e]
  exact List.getElem_mem _
/-- between the turns of a tag -/
def InTag (C : Int) (b : Int) (L : Nat) (n : Nat) (env : List W) : Prop := ∃ (a c : Int) (z : Str), 0 ≤ c ∧ c + n ≤ C ∧ (z.length + n = L ∧ ∀ c ∈ z.cps.toList, c ∈ abcL) ∧ env = [pl a b c, .str z, .dead]
theorem e_tag (a b c : Int) (hb : b = 0 ∨ b = 1) (c0 : 0 ≤ c) (c1 : c ≤ 900000) : ∃ (z : Str) (a' c' : Int), tagOk z ∧ 0 ≤ c' ∧ c' ≤ c + 9 ∧ f__law_tag [pl a b c] = .ok (.str z) [pl a' b c'] := by
  unfold f__law_tag b__law_tag
  have lg := line_ge
  obtain ⟨v, a1, c2, v0, v1, h1, h2, h3⟩ := e_take a b c 8 hb c0 (by omega) (by omega) (by omega)
  obtain ⟨m, hm⟩ : ∃ m : Nat, (m : Int) = 1 + v := ⟨(1 + v).toNat, by omega⟩
  have hr : rngOk (m : Int) := rngOk_of (by omega) (by omega)
  obtain ⟨env', g1, a3, c3, z, g2, g3, g4, rfl⟩ := mFor_inv (f := tgN 2) (body := b__law_tag_1) (kill := [2]) (xs := List.range m) (fun i : Nat => W.int (0 + (i : Int))) (InTag (c2 + m) b m)
    (env := [pl a1 b c2, .str "", .dead]) ⟨a1, c2, "", by omega, by rw [List.length_range]; omega, by
      rw [List.length_range]
      have : Str.length "" = 0 := rfl
      exact ⟨by omega, fun c hc => by simp [show (Str.cps "").toList = [] from rfl] at hc⟩, rfl⟩ (by
      rintro k _ n env ⟨a, c, z, q1, q2, q3, rfl⟩
      obtain ⟨v, a', c', v0, v1, p1, p2, p3⟩ := e_take a b c 26 hb q1 (by omega) (by omega) (by omega)
      obtain ⟨y, y1, y2⟩ := abc_at v v0 v1
      have y1' := y1.1
      have ly : (z ++ y).length = z.length + 1 := by rw [Str.length_append, y1']
      have lt : ∀ c ∈ (z ++ y).cps.toList, c ∈ abcL := fun c hc => by
        have e : (z ++ y).cps.toList = z.cps.toList ++ y.cps.toList := by
          show (z.cps ++ y.cps).toList = _
          simp
        rw [e] at hc
        rcases List.mem_append.mp hc with h | h
        · exact q3.2 c h
        · exact y1.2 c h
      have hs : z.length + y.length ≤ sizeLine := by have := q3.1; have := List.mem_range.mp (by assumption : _ ∈ List.range m); omega
      have ad : addW false (.str z) (.str y) = some (.str (z ++ y)) := by
        show (if z.length + y.length ≤ sizeLine then some (W.str (z ++ y)) else none) = _
        rw [if_pos hs]
      refine ⟨[pl a' b c', .str (z ++ y), .dead], ?_, a', c', z ++ y, by omega, by omega, ⟨by have := q3.1; omega, lt⟩, rfl⟩
      unfold b__law_tag_1 turn
      simp_arith [p3, y2, ad])
  refine ⟨z, a3, c3, ⟨by have := g4.1; omega, by have := g4.1; omega, g4.2⟩, g2, by omega, ?_⟩
  · simp_arith [h3, ← hm, hr, rngL_nat, Int.toNat_natCast, g1]
/-- between the turns of a key -/
def kB (v : Int) : Prop := -100000000000000000000000000000000 < v ∧ v < 100000000000000000000000000000000
def kBnd : Nat → Int
  | 0 => 1000000000000000000000000000000
  | 1 => 100000000000000000000
  | 2 => 10000000000
  | _ => 1
theorem kBnd_pos (n : Nat) : 0 < kBnd n := by
  match n with
  | 0 => decide
  | 1 => decide
  | 2 => decide
  | _ + 3 => exact (by decide : (0 : Int) < 1)
theorem kBnd_step {n : Nat} (h : n + 1 ≤ 3) {x v : Int} (x0 : 0 ≤ x) (x1 : x < kBnd (n + 1)) (v0 : 0 ≤ v) (v1 : v < 10000000000) : 0 ≤ x * 10000000000 + v ∧ x * 10000000000 + v < kBnd n := by
  have : n = 0 ∨ n = 1 ∨ n = 2 := by omega
  rcases this with rfl | rfl | rfl
  · have x2 : x < 100000000000000000000 := x1
    show _ ∧ _ < (1000000000000000000000000000000 : Int)
    constructor <;> omega
  · have x2 : x < 10000000000 := x1
    show _ ∧ _ < (100000000000000000000 : Int)
    constructor <;> omega
  · have x2 : x < 1 := x1
    show _ ∧ _ < (10000000000 : Int)
    constructor <;> omega
def InKey (C : Int) (b : Int) (k s : W) (n : Nat) (env : List W) : Prop := ∃ (a c m : Int), 0 ≤ c ∧ c + n ≤ C ∧ n ≤ 3 ∧ 0 ≤ m ∧ m < kBnd n ∧ env = [pl a b c, k, s, .int m, .dead]
theorem e_key (a b c kind : Int) (hb : b = 0 ∨ b = 1) (c0 : 0 ≤ c) (c1 : c ≤ 900000) : ∃ (v a' c' : Int), kB v ∧ 0 ≤ c' ∧ c' ≤ c + 5 ∧ f__law_key [pl a b c, .int kind] = .ok (.int v) [pl a' b c', .dead] := by
  unfold f__law_key b__law_key
  have lg := line_ge
  by_cases k0 : kind = 0
  · obtain ⟨v, a1, c2, v0, v1, h1, h2, h3⟩ := e_take a b c 3 hb c0 (by omega) (by omega) (by omega)
    refine ⟨v, a1, c2, ⟨by omega, by omega⟩, by omega, by omega, ?_⟩
    subst k0
    simp_arith [h3]
  · by_cases k1 : kind = 1
    · obtain ⟨v, a1, c2, v0, v1, h1, h2, h3⟩ := e_take a b c 40 hb c0 (by omega) (by omega) (by omega)
      refine ⟨v - 20, a1, c2, ⟨by omega, by omega⟩, by omega, by omega, ?_⟩
      subst k1
      simp_arith [h3, Int.reduceEq]
    · obtain ⟨v, a1, c2, v0, v1, h1, h2, h3⟩ := e_take a b c 2 hb c0 (by omega) (by omega) (by omega)
      obtain ⟨w, a3, c4, w0, w1, h4, h5, h6⟩ := e_take a1 b c2 3 hb (by omega) (by omega) (by omega) (by omega)
      obtain ⟨m, hm, m0, m1⟩ : ∃ m : Nat, ixW (.lst false [.int 1, .int 2, .int 3]) (.int w) = some (.int (m : Int)) ∧ 1 ≤ m ∧ m ≤ 3 := by
        have : w = 0 ∨ w = 1 ∨ w = 2 := by omega
        rcases this with h | h | h <;> rw [h]
        · exact ⟨1, rfl, by omega, by omega⟩
        · exact ⟨2, rfl, by omega, by omega⟩
        · exact ⟨3, rfl, by omega, by omega⟩
      have hr : rngOk (m : Int) := rngOk_of (by omega) (by omega)
      have hz3 : 3 ≤ sizeLine := by omega
      obtain ⟨env', g1, a5, c5, n5, g2, g3, _, n0, n1, rfl⟩ := mFor_inv (f := tgN 4) (body := b__law_key_1) (kill := [4]) (xs := List.range m) (fun i : Nat => W.int (0 + (i : Int))) (InKey (c4 + m) b (.int kind) (.int (1 - 2 * v)))
        (env := [pl a3 b c4, .int kind, .int (1 - 2 * v), .int 0, .dead]) ⟨a3, c4, 0, by omega, by rw [List.length_range]; omega, by rw [List.length_range]; omega, Int.le_refl _, kBnd_pos _, rfl⟩ (by
          rintro k _ n env ⟨a, c, x, q1, q2, q3, q4, q5, rfl⟩
          obtain ⟨n3, q6⟩ : ∃ n3, n3 = n + 1 := ⟨_, rfl⟩
          obtain ⟨v', a', c', v0, v1, p1, p2, p3⟩ := e_take a b c 10000000000 hb q1 (by omega) (by omega) (by omega)
          have km : mulOk x 10000000000 := mulOk_r (by omega) (by omega)
          refine ⟨[pl a' b c', .int kind, .int (1 - 2 * v), .int (x * 10000000000 + v'), .dead], ?_, a', c', _, by omega, by omega, by omega, (kBnd_step q3 q4 q5 v0 v1).1, (kBnd_step q3 q4 q5 v0 v1).2, rfl⟩
          unfold b__law_key_1 turn
          simp_arith [↓powW10, p3, km])
      have k2 : mulOk 2 v := mulOk_l (by omega) (by omega)
      have k3 : mulOk (1 - 2 * v) n5 := mulOk_l (by omega) (by omega)
      have kb : kB ((1 - 2 * v) * n5) := by
        have n2 : n5 < 1000000000000000000000000000000 := n1
        rcases (by omega : v = 0 ∨ v = 1) with rfl | rfl
        · exact ⟨by omega, by omega⟩
        · exact ⟨by omega, by omega⟩
      refine ⟨(1 - 2 * v) * n5, a5, c5, kb, g2, by omega, ?_⟩
      simp_arith [k0, k1, h3, k2, h6, hz3, ↓hm, hr, rngL_nat, Int.toNat_natCast, g1, k3]
theorem cut_takeN (xs : List W) (k : Nat) : cutL xs none (some (k : Int)) = xs.take k := by
  unfold cutL
  rw [HT.sIx_none, HT.sIx_nat, List.drop_zero, Nat.sub_zero]
  rcases Nat.le_total k xs.length with h | h
  · rw [Nat.min_eq_left h]
  · rw [Nat.min_eq_right h, List.take_of_length_le (Nat.le_refl _), List.take_of_length_le h]
theorem cut_dropN (xs : List W) (k : Nat) : cutL xs (some (k : Int)) none = xs.drop k := by
  unfold cutL
  rw [HT.sIx_none, HT.sIx_nat]
  rcases Nat.le_total k xs.length with h | h
  · rw [Nat.min_eq_left h, List.take_of_length_le (by rw [List.length_drop]; omega)]
  · rw [Nat.min_eq_right h, List.drop_of_length_le (Nat.le_refl _), List.drop_of_length_le h]
    simp
def InKeys (C : Int) (b : Int) (mo ki wa : W) (n : Nat) (env : List W) : Prop := ∃ (a c : Int), 0 ≤ c ∧ c + 5 * n ≤ C ∧ env = [pl a b c, mo, ki, wa, .dead, .dead, .dead, .dead, .dead]
theorem e_keys (a b c most kind : Int) (wa : W) (hb : b = 0 ∨ b = 1) (c0 : 0 ≤ c) (c1 : c ≤ 800000) (m0 : 0 ≤ most) (m1 : most ≤ 200) : ∃ (ks : List Int) (a' c' : Int), (∀ k ∈ ks, kB k) ∧ (ks.length : Int) ≤ most ∧ 0 ≤ c' ∧ c' ≤ c + 1 + 5 * most ∧
    c__law_row_1 [pl a b c, .int most, .int kind, wa, .dead, .dead, .dead, .dead, .dead] = .ok (.lst true (ks.map W.int)) [pl a' b c', .int most, .int kind, wa, .dead, .dead, .dead, .dead, .dead] := by
  unfold c__law_row_1
  have lg := line_ge
  obtain ⟨v, a1, c2, v0, v1, h1, h2, h3⟩ := e_take a b c (most + 1) hb c0 (by omega) (by omega) (by omega)
  obtain ⟨m, hm⟩ : ∃ m : Nat, (m : Int) = v := ⟨v.toNat, by omega⟩
  have hr : rngOk (m : Int) := rngOk_of (by omega) (by omega)
  obtain ⟨ks, env', g1, ⟨a3, c3, g2, g3, rfl⟩, g4, g5⟩ := comp_inv (f := tgN 5) (tt := Sm.ret true) (te := mCall f__law_key 2 (Sm.bind (mVar 0) fun _ => rIo 0 (rVal (mVar 2) (rNil)))) (vs := [5])
    (mi := iArgs rng1 (mCons (mCall f__law_take 2 (Sm.bind (mVar 0) fun _ => rIo 0 (rVal (mBin (addW false) true (mVar 1) (mC (.int 1))) (rNil)))) (mNil)))
    (env := [pl a b c, .int most, .int kind, wa, .dead, .dead, .dead, .dead, .dead]) (env1 := [pl a1 b c2, .int most, .int kind, wa, .dead, .dead, .dead, .dead, .dead])
    (fun i : Nat => W.int (0 + (i : Int))) W.int kB (InKeys (c2 + 5 * m) b (.int most) (.int kind) wa) (xs := List.range m)
    (by simp_arith [h3, ← hm, hr, rngL_nat, Int.toNat_natCast]) ⟨a1, c2, by omega, by rw [List.length_range]; omega, by simp_arith []⟩ (by rw [List.length_range]; omega) (by
      rintro k _ n env ⟨a, c, q1, q2, rfl⟩
      obtain ⟨y, a', c', p0, p1, p2, p3⟩ := e_key a b c kind hb q1 (by omega)
      refine ⟨y, [pl a' b c', .int most, .int kind, wa, .dead, .dead, .dead, .dead, .dead], ?_, p0, a', c', p1, by omega, rfl⟩
      unfold lcOne
      simp_arith [p3])
  rw [List.length_range] at g4
  exact ⟨ks, a3, c3, g5, by omega, g2, by omega, g1⟩
/-! ### a row drawn -/
def InThs (C : Int) (b : Int) (mo ki wa ks at_ tg : W) (n : Nat) (env : List W) : Prop := ∃ (a c : Int), 0 ≤ c ∧ c + 2 * n ≤ C ∧ env = [pl a b c, mo, ki, wa, ks, .dead, at_, tg, .dead]
theorem tag_at (z1 z2 z3 : Str) (h1 : tagOk z1) (h2 : tagOk z2) (h3 : tagOk z3) (v : Int) (v0 : 0 ≤ v) (v1 : v < 3) : ∃ z, tagOk z ∧ ixW (.lst false [.str z1, .str z2, .str z3]) (.int v) = some (.str z) := by
  have : v = 0 ∨ v = 1 ∨ v = 2 := by omega
  rcases this with h | h | h <;> rw [h]
  · exact ⟨z1, h1, rfl⟩
  · exact ⟨z2, h2, rfl⟩
  · exact ⟨z3, h3, rfl⟩
theorem e_things (a b c : Int) (ks : List Int) (z1 z2 z3 : Str) (t1 : tagOk z1) (t2 : tagOk z2) (t3 : tagOk z3) (mo ki wa at_ : W) (hb : b = 0 ∨ b = 1) (c0 : 0 ≤ c) (c1 : c ≤ 800000) (hl : ks.length ≤ 200) (hk : ∀ k ∈ ks, kB k) : ∃ (r : List Th) (a' c' : Int), (r.length = ks.length ∧ ∀ t ∈ r, kB t.1 ∧ tagOk t.2) ∧ 0 ≤ c' ∧ c' ≤ c + 400 ∧
    c__law_row_2 [pl a b c, mo, ki, wa, .lst false (ks.map W.int), .dead, at_, .lst false [.str z1, .str z2, .str z3], .dead] = .ok (.lst true (r.map encT)) [pl a' b c', mo, ki, wa, .lst false (ks.map W.int), .dead, at_, .lst false [.str z1, .str z2, .str z3], .dead] := by
  unfold c__law_row_2
  have lg := line_ge
  have hz2 : 2 ≤ sizeLine := by omega
  obtain ⟨r, env', g1, ⟨a3, c3, g2, g3, rfl⟩, g4, g5⟩ := comp_inv (f := tgN 8) (tt := Sm.ret true) (te := mArgs tupW (mCons (mVar 8) (mCons (mSlice false true (mBin ixW false (mVar 7) (mCall f__law_take 2 (Sm.bind (mVar 0) fun _ => rIo 0 (rVal (mC (.int 3)) (rNil))))) (mNo) (mPart (mBin (addW false) true (mC (.int 1)) (mCall f__law_take 2 (Sm.bind (mVar 0) fun _ => rIo 0 (rVal (mC (.int 8)) (rNil))))))) (mNil)))) (vs := [8])
    (mi := iLst (mVar 4))
    (env := [pl a b c, mo, ki, wa, .lst false (ks.map W.int), .dead, at_, .lst false [.str z1, .str z2, .str z3], .dead]) (env1 := [pl a b c, mo, ki, wa, .lst false (ks.map W.int), .dead, at_, .lst false [.str z1, .str z2, .str z3], .dead])
    W.int encT (fun t => kB t.1 ∧ tagOk t.2) (InThs (c + 2 * ks.length) b mo ki wa (.lst false (ks.map W.int)) at_ (.lst false [.str z1, .str z2, .str z3])) (xs := ks)
    (by simp_arith []) ⟨a, c, c0, by omega, by simp_arith []⟩ (by omega) (by
      rintro k km n env ⟨a, c, q1, q2, rfl⟩
      obtain ⟨v, a', c', v0, v1, p1, p2, p3⟩ := e_take a b c 3 hb q1 (by omega) (by omega) (by omega)
      obtain ⟨u, a5, c5, u0, u1, p4, p5, p6⟩ := e_take a' b c' 8 hb (by omega) (by omega) (by omega) (by omega)
      obtain ⟨z, tz, hz⟩ := tag_at z1 z2 z3 t1 t2 t3 v v0 v1
      have hs : z.length ≤ sizeLine := by unfold tagOk at tz; omega
      refine ⟨(k, cutS z none (some (1 + u))), [pl a5 b c5, mo, ki, wa, .lst false (ks.map W.int), .dead, at_, .lst false [.str z1, .str z2, .str z3], .dead], ?_, ⟨hk k km, tag_cut tz u u0⟩, a5, c5, by omega, by omega, rfl⟩
      have e : W.tup [.int k, .str (cutS z none (some (1 + u)))] = encT (k, cutS z none (some (1 + u))) := rfl
      unfold lcOne
      simp_arith [p3, ↓hz, p6, w_cutS _ _ _ _ hs, hz2, e])
  exact ⟨r, a3, c3, ⟨g4, g5⟩, g2, by omega, g1⟩
theorem e_row (a b c most : Int) (hb : b = 0 ∨ b = 1) (c0 : 0 ≤ c) (c1 : c ≤ 700000) (m0 : 0 ≤ most) (m1 : most ≤ 200) : ∃ (r : List Th) (a' c' : Int), ((r.length : Int) ≤ most ∧ ∀ t ∈ r, kB t.1 ∧ tagOk t.2) ∧ 0 ≤ c' ∧ c' ≤ c + 3000 ∧ f__law_row [pl a b c, .int most] = .ok (.lst true (r.map encT)) [pl a' b c', .dead] := by
  have lg := line_ge
  have hz3 : 3 ≤ sizeLine := by omega
  obtain ⟨ki, a1, d1, k0, k1, p1, p2, p3⟩ := e_take a b c 3 hb c0 (by omega) (by omega) (by omega)
  obtain ⟨w, a2, d2, w0, w1, p4, p5, p6⟩ := e_take a1 b d1 4 hb (by omega) (by omega) (by omega) (by omega)
  obtain ⟨ks, a3, d3, kb, lk, p7, p8, p9⟩ := e_keys a2 b d2 most ki (.int w) hb (by omega) (by omega) m0 m1
  have hsl : ks.length ≤ sizeLine := by omega
  have mS : ∀ l : List Int, ∀ k, k ∈ l.mergeSort (fun a b => decide (a ≤ b)) → k ∈ l := fun l k h => (List.mergeSort_perm _ _).mem_iff.mp h
  have len1 : (ks.mergeSort fun a b => decide (a ≤ b)).length = ks.length := (List.mergeSort_perm _ _).length_eq
  by_cases w1 : w = 1
  · obtain ⟨z1, a4, d4, t1, q1, q2, q3⟩ := e_tag a3 b d3 hb p7 (by omega)
    obtain ⟨z2, a5, d5, t2, q4, q5, q6⟩ := e_tag a4 b d4 hb q1 (by omega)
    obtain ⟨z3, a6, d6, t3, q7, q8, q9⟩ := e_tag a5 b d5 hb q4 (by omega)
    obtain ⟨r, a7, d7, ⟨r1, rt⟩, r2, r3, r4⟩ := e_things a6 b d6 (ks.mergeSort fun a b => decide (a ≤ b)) z1 z2 z3 t1 t2 t3 (.int most) (.int ki) (.int w) .dead hb q7 (by omega) (by omega) (fun k h => kb k (mS _ k h))
    refine ⟨r, a7, d7, ⟨by omega, rt⟩, r2, by omega, ?_⟩
    subst w1
    unfold f__law_row b__law_row
    simp_arith [p3, p6, p9, sortedW_int _ _ _ hsl, Int.reduceEq, q3, q6, q9, hz3, r4]
  · by_cases w2 : w = 2
    · obtain ⟨z1, a4, d4, t1, q1, q2, q3⟩ := e_tag a3 b d3 hb p7 (by omega)
      obtain ⟨z2, a5, d5, t2, q4, q5, q6⟩ := e_tag a4 b d4 hb q1 (by omega)
      obtain ⟨z3, a6, d6, t3, q7, q8, q9⟩ := e_tag a5 b d5 hb q4 (by omega)
      obtain ⟨r, a7, d7, ⟨r1, rt⟩, r2, r3, r4⟩ := e_things a6 b d6 (ks.mergeSort fun a b => decide (a ≤ b)).reverse z1 z2 z3 t1 t2 t3 (.int most) (.int ki) (.int w) .dead hb q7 (by omega) (by rw [List.length_reverse]; omega) (fun k h => kb k (mS _ k (List.mem_reverse.mp h)))
      rw [List.length_reverse] at r1
      refine ⟨r, a7, d7, ⟨by omega, rt⟩, r2, by omega, ?_⟩
      subst w2
      rw [List.map_reverse] at r4
      unfold f__law_row b__law_row
      simp_arith [p3, p6, p9, sortedW_int _ _ _ hsl, Int.reduceEq, q3, q6, q9, hz3, r4]
    · by_cases w3 : w = 3
      · obtain ⟨v, a35, d35, v0, v1, s1, s2, s3⟩ := e_take a3 b d3 ((ks.length : Int) + 1) hb p7 (by omega) (by omega) (by omega)
        obtain ⟨m, hm⟩ : ∃ m : Nat, (m : Int) = v := ⟨v.toNat, by omega⟩
        obtain ⟨z1, a4, d4, t1, q1, q2, q3⟩ := e_tag a35 b d35 hb (by omega) (by omega)
        obtain ⟨z2, a5, d5, t2, q4, q5, q6⟩ := e_tag a4 b d4 hb q1 (by omega)
        obtain ⟨z3, a6, d6, t3, q7, q8, q9⟩ := e_tag a5 b d5 hb q4 (by omega)
        have l1 : (ks.take m).length ≤ sizeLine := by rw [List.length_take]; omega
        have l2 : (ks.drop m).length ≤ sizeLine := by rw [List.length_drop]; omega
        have l3 : ((ks.take m).mergeSort fun a b => decide (a ≤ b)).length = (ks.take m).length := (List.mergeSort_perm _ _).length_eq
        have l4 : ((ks.drop m).mergeSort fun a b => decide (a ≤ b)).length = (ks.drop m).length := (List.mergeSort_perm _ _).length_eq
        have lt : (ks.take m).length + (ks.drop m).length = ks.length := by rw [← List.length_append, List.take_append_drop]
        have l5 : ((ks.take m).mergeSort fun a b => decide (a ≤ b)).length + ((ks.drop m).mergeSort fun a b => decide (a ≤ b)).length ≤ sizeLine := by omega
        obtain ⟨r, a7, d7, ⟨r1, rt⟩, r2, r3, r4⟩ := e_things a6 b d6 (((ks.take m).mergeSort fun a b => decide (a ≤ b)) ++ ((ks.drop m).mergeSort fun a b => decide (a ≤ b))) z1 z2 z3 t1 t2 t3 (.int most) (.int ki) (.int w) (.int v) hb q7 (by omega) (by rw [List.length_append]; omega) (fun k h => (List.mem_append.mp h).elim (fun z => kb k (List.mem_of_mem_take (mS _ k z))) (fun z => kb k (List.mem_of_mem_drop (mS _ k z))))
        rw [List.length_append] at r1
        refine ⟨r, a7, d7, ⟨by omega, rt⟩, r2, by omega, ?_⟩
        subst w3
        rw [List.map_append] at r4
        rw [← hm] at s3 r4
        have e1 : (ks.map W.int).take m = (ks.take m).map W.int := List.map_take.symm
        have e2 : (ks.map W.int).drop m = (ks.drop m).map W.int := List.map_drop.symm
        unfold f__law_row b__law_row
        simp_arith [p3, p6, p9, Int.reduceEq, s3, cut_takeN, cut_dropN, e1, e2, sortedW_int _ _ _ l1, sortedW_int _ _ _ l2, l5, q3, q6, q9, hz3, r4]
      · obtain ⟨z1, a4, d4, t1, q1, q2, q3⟩ := e_tag a3 b d3 hb p7 (by omega)
        obtain ⟨z2, a5, d5, t2, q4, q5, q6⟩ := e_tag a4 b d4 hb q1 (by omega)
        obtain ⟨z3, a6, d6, t3, q7, q8, q9⟩ := e_tag a5 b d5 hb q4 (by omega)
        obtain ⟨r, a7, d7, ⟨r1, rt⟩, r2, r3, r4⟩ := e_things a6 b d6 ks z1 z2 z3 t1 t2 t3 (.int most) (.int ki) (.int w) .dead hb q7 (by omega) (by omega) kb
        refine ⟨r, a7, d7, ⟨by omega, rt⟩, r2, by omega, ?_⟩
        unfold f__law_row b__law_row
        simp_arith [p3, p6, p9, w1, w2, w3, q3, q6, q9, hz3, r4]
def InRows (C : Int) (b : Int) (mo : W) (n : Nat) (env : List W) : Prop := ∃ (a c : Int), 0 ≤ c ∧ c + 3000 * n ≤ C ∧ env = [pl a b c, mo, .dead]
structure RowsOk (rs : List (List Th)) : Prop where
  ne : 1 ≤ rs.length
  six : rs.length ≤ 6
  len : ∀ r ∈ rs, r.length ≤ 200
theorem e_rows (a b c most : Int) (hb : b = 0 ∨ b = 1) (c0 : 0 ≤ c) (c1 : c ≤ 500000) (m0 : 0 ≤ most) (m1 : most ≤ 200) : ∃ (rs : List (List Th)) (a' c' : Int), (RowsOk rs ∧ ∀ r ∈ rs, (r.length : Int) ≤ most ∧ ∀ t ∈ r, kB t.1 ∧ tagOk t.2) ∧ 0 ≤ c' ∧ c' ≤ c + 20000 ∧ f__law_rows [pl a b c, .int most] = .ok (.lst true (rs.map encR)) [pl a' b c', .dead] := by
  unfold f__law_rows b__law_rows
  have lg := line_ge
  obtain ⟨v, a1, c2, v0, v1, h1, h2, h3⟩ := e_take a b c 6 hb c0 (by omega) (by omega) (by omega)
  obtain ⟨m, hm⟩ : ∃ m : Nat, (m : Int) = 1 + v := ⟨(1 + v).toNat, by omega⟩
  have hr : rngOk (m : Int) := rngOk_of (by omega) (by omega)
  have key : ∃ (rs : List (List Th)) (a' c' : Int), (RowsOk rs ∧ ∀ r ∈ rs, (r.length : Int) ≤ most ∧ ∀ t ∈ r, kB t.1 ∧ tagOk t.2) ∧ 0 ≤ c' ∧ c' ≤ c + 20000 ∧ c__law_rows_1 [pl a b c, .int most, .dead] = .ok (.lst true (rs.map encR)) [pl a' b c', .int most, .dead] := by
    unfold c__law_rows_1
    obtain ⟨rs, env', g1, ⟨a3, c3, g2, g3, rfl⟩, g4, g5⟩ := comp_inv (f := tgN 2) (tt := Sm.ret true) (te := mFz (mCall f__law_row 2 (Sm.bind (mVar 0) fun _ => rIo 0 (rVal (mVar 1) (rNil))))) (vs := [2])
      (mi := iArgs rng1 (mCons (mBin (addW false) true (mC (.int 1)) (mCall f__law_take 2 (Sm.bind (mVar 0) fun _ => rIo 0 (rVal (mC (.int 6)) (rNil))))) (mNil)))
      (env := [pl a b c, .int most, .dead]) (env1 := [pl a1 b c2, .int most, .dead])
      (fun i : Nat => W.int (0 + (i : Int))) encR (fun r => (r.length : Int) ≤ most ∧ ∀ t ∈ r, kB t.1 ∧ tagOk t.2) (InRows (c2 + 3000 * m) b (.int most)) (xs := List.range m)
      (by simp_arith [h3, ← hm, hr, rngL_nat, Int.toNat_natCast]) ⟨a1, c2, by omega, by rw [List.length_range]; omega, by simp_arith []⟩ (by rw [List.length_range]; omega) (by
        rintro k _ n env ⟨a, c, q1, q2, rfl⟩
        obtain ⟨r, a', c', p0, p1, p2, p3⟩ := e_row a b c most hb q1 (by omega) m0 m1
        refine ⟨r, [pl a' b c', .int most, .dead], ?_, p0, a', c', p1, by omega, rfl⟩
        unfold lcOne
        simp_arith [p3]
        rfl)
    rw [List.length_range] at g4
    exact ⟨rs, a3, c3, ⟨⟨by omega, by omega, fun r hr => by have := g5 r hr; omega⟩, g5⟩, g2, by omega, g1⟩
  obtain ⟨rs, a', c', k1, k2, k3, k4⟩ := key
  exact ⟨rs, a', c', k1, k2, k3, by simp_arith [k4]⟩
end Ev

namespace Ev
open PySem PySem.Spec L2
local macro_rules
  | `(tactic| simp_arith [$ls,*] $[$l:location]?) => `(tactic| simp only [↓r_bind, ↓r_ret, ↓r_lft, ↓r_c, ↓r_var2, ↓r_move, ↓r_un, ↓r_bin, ↓r_chain, ↓r_toB, ↓r_ofB, ↓r_and, ↓r_or, ↓r_not, ↓r_nil, ↓r_cons, ↓r_args, ↓r_iargs, ↓r_ilst, ↓r_part, ↓r_no, ↓r_slice, ↓r_callP, ↓r_rnil, ↓r_rval, ↓r_rvalX, ↓r_pick, pas_str, pas_int, pas_bl, pas_non, pas_tup, pas_lst, pas_edc, pick_edc, ↓r_rio, ↓r_call, ↓r_callL, ↓r_fz, ↓r_seq, ↓r_snil, ↓r_if, ↓r_drop, ↓r_sret, ↓r_set, ↓r_asg, ↓r_aug, ↓r_sfor, ↓r_mut, ↓r_sto, ↓r_go, ↓r_gfz, ↓r_push, ↓r_gfzD, ↓r_fzD,  ↓r_raise, ↓r_try, ↓r_itup, ↓r_iseq, ↓r_andV, ↓r_orV, ↓r_notV, ↓r_fn, ↓r_meth, ↓r_augS, ↓r_ichr, ↓r_pair, ↓r_mutN, ↓r_mutT, ↓r_app, ↓r_gfzC, ↓r_callO, ↓r_asgN, ↓r_takeK, pick_nst, pick_ntp, w_strL, w_zip3, ↓r_dnew, ↓r_key1, ↓r_keyT, ↓r_dget, ↓r_dget2, ↓r_dput, ↓r_mutP, ↓r_mutKP, ↓r_stoP, ↓r_stoN, ↓r_dputP, ↓r_fldP, ↓r_callM, ↓r_makeL, ↓r_gfzK, ↓r_gfzP, ↓r_dpopP, ↓r_augP, ↓r_forP, ↓r_chainI, ↓r_callT, ↓r_ikeys, ↓r_keyCut, w_keyI, w_keyS, w_keyT2, w_lookT, w_lookK, w_lookDT, w_lookDK, w_dputT, w_dputK, w_dkeysT, w_dkeysK, isDW_dct, frz_dct, pick_dct, w_geX, ty_str, and_self,
      maskL_nil, maskL_cons, frz_non, frz_bl, frz_int, frz_str, frz_tup, frz_lst, frz_scr, fz_lst, fz_int, fz_tup, fz_str, fz_bl, w_lst, w_tup, w_add, w_addL, w_addB, w_sub, w_mul, w_rep, w_fdiv, w_mod, w_pow, w_neg, w_lt, w_le, w_ge, w_gt, w_bl, w_intW, w_toI, w_toB, w_max2, w_min2, w_abs, w_lenL, w_lenC, w_lenT, w_listL, w_listC, w_listT, w_tupL, w_rev, w_ixL, w_ixC, w_ixT, w_cutL, w_cutC, w_frzL, w_frzC, w_rng1, w_rng2, w_enum, w_enumC, w_zip, w_app, w_ext, w_pop, w_sum, w_isx, w_isiI, w_isiB, w_tgN, w_tgT, w_killN, w_killC, w_takeN, w_takeV, w_takeI, w_putI, w_putV, w_putN, w_lendN, w_lendV, w_lendI, flat_bl, flat_int, flat_non,
      pick_non, pick_bl, pick_int, pick_str, pick_tup, pick_lst, pick_scr, pick_exc, pick_T, pick_R, pick_N, frzT, frzR, frzN, w_seqL, w_seqT, w_seqC, w_zipT, w_zipA, w_tupLt, w_leX, eqW_int, neW_int, eqW_nil, neW_nil, eqW_str, neW_str, List.cons_append, List.nil_append, List.length_cons, List.length_nil, List.replicate_succ, List.replicate_zero, List.getElem?_cons_zero, List.getElem?_cons_succ, List.set_cons_zero, List.set_cons_succ, List.length_map, Option.map_some, Option.bind_some, cond_true, cond_false, Bool.true_or, Bool.or_true, Bool.false_or, Bool.or_false, Bool.not_true, Bool.not_false, Bool.true_and, Bool.false_and, Nat.reduceSub, Nat.reduceAdd, Nat.reduceLeDiff, ↓reduceIte, if_true, if_false, reduceCtorEq, decide_true, decide_false, decide_eq_true_eq, Nat.zero_add, Nat.add_zero, $ls,*] $[$l]?)
/-! ### the law's pool -/
theorem e_pool (ns : List Int) (k : Nat) (hk : k ≤ 1000) : ∃ a b c : Int, (b = 0 ∨ b = 1) ∧ 0 ≤ c ∧ c ≤ 100000 ∧ f__law_pool [.scr (ns.map W.int), .int (k : Int)] = .ok (pl a b c) [.dead, .dead] := by
  have lg := line_ge
  have hz3 : 3 ≤ sizeLine := by omega
  have hm : mulOk 41 (k : Int) := mulOk_l (by omega) (by omega)
  by_cases h : k < ns.length
  · have h2 : (k : Int) < (ns.length : Int) := by omega
    have ix : ixW (.scr (ns.map W.int)) (.int (k : Int)) = some (.int ns[k]) := by
      rw [w_ixC, atI_map, List.getElem?_eq_getElem h]
      rfl
    by_cases q : 1000000000000000000 ≤ ns[k]
    · refine ⟨ns[k] - 1000000000000000000, 1, 0, .inr rfl, by omega, by omega, ?_⟩
      unfold f__law_pool b__law_pool
      simp_arith [h2, ↓ix, ↓powW18, q, hz3]
    · refine ⟨ns[k], 0, 41 * (k : Int), .inl rfl, by omega, by omega, ?_⟩
      unfold f__law_pool b__law_pool
      simp_arith [h2, ↓ix, ↓powW18, q, hz3, hm]
  · have h2 : ¬ (k : Int) < (ns.length : Int) := by omega
    refine ⟨0, 0, 41 * (k : Int), .inl rfl, by omega, by omega, ?_⟩
    unfold f__law_pool b__law_pool
    simp_arith [h2, ↓powW18, Int.reduceLE, hz3, hm]
end Ev

namespace Ev
open PySem PySem.Spec L2
local macro_rules
  | `(tactic| simp_arith [$ls,*] $[$l:location]?) => `(tactic| simp only [↓r_bind, ↓r_ret, ↓r_lft, ↓r_c, ↓r_var2, ↓r_move, ↓r_un, ↓r_bin, ↓r_chain, ↓r_toB, ↓r_ofB, ↓r_and, ↓r_or, ↓r_not, ↓r_nil, ↓r_cons, ↓r_args, ↓r_iargs, ↓r_ilst, ↓r_part, ↓r_no, ↓r_slice, ↓r_callP, ↓r_rnil, ↓r_rval, ↓r_rvalX, ↓r_pick, pas_str, pas_int, pas_bl, pas_non, pas_tup, pas_lst, pas_edc, pick_edc, ↓r_rio, ↓r_call, ↓r_callL, ↓r_fz, ↓r_seq, ↓r_snil, ↓r_if, ↓r_drop, ↓r_sret, ↓r_set, ↓r_asg, ↓r_aug, ↓r_sfor, ↓r_mut, ↓r_sto, ↓r_go, ↓r_gfz, ↓r_push, ↓r_gfzD, ↓r_fzD,  ↓r_raise, ↓r_try, ↓r_itup, ↓r_iseq, ↓r_andV, ↓r_orV, ↓r_notV, ↓r_fn, ↓r_meth, ↓r_augS, ↓r_ichr, ↓r_pair, ↓r_mutN, ↓r_mutT, ↓r_app, ↓r_gfzC, ↓r_callO, ↓r_asgN, ↓r_takeK, pick_nst, pick_ntp, w_strL, w_zip3, ↓r_dnew, ↓r_key1, ↓r_keyT, ↓r_dget, ↓r_dget2, ↓r_dput, ↓r_mutP, ↓r_mutKP, ↓r_stoP, ↓r_stoN, ↓r_dputP, ↓r_fldP, ↓r_callM, ↓r_makeL, ↓r_gfzK, ↓r_gfzP, ↓r_dpopP, ↓r_augP, ↓r_forP, ↓r_chainI, ↓r_callT, ↓r_ikeys, ↓r_keyCut, w_keyI, w_keyS, w_keyT2, w_lookT, w_lookK, w_lookDT, w_lookDK, w_dputT, w_dputK, w_dkeysT, w_dkeysK, isDW_dct, frz_dct, pick_dct, w_geX, ty_str, and_self,
      maskL_nil, maskL_cons, frz_non, frz_bl, frz_int, frz_str, frz_tup, frz_lst, frz_scr, fz_lst, fz_int, fz_tup, fz_str, fz_bl, w_lst, w_tup, w_add, w_addL, w_addB, w_sub, w_mul, w_rep, w_fdiv, w_mod, w_pow, w_neg, w_lt, w_le, w_ge, w_gt, w_bl, w_intW, w_toI, w_toB, w_max2, w_min2, w_abs, w_lenL, w_lenC, w_lenT, w_listL, w_listC, w_listT, w_tupL, w_rev, w_ixL, w_ixC, w_ixT, w_cutL, w_cutC, w_frzL, w_frzC, w_rng1, w_rng2, w_enum, w_enumC, w_zip, w_app, w_ext, w_pop, w_sum, w_isx, w_isiI, w_isiB, w_tgN, w_tgT, w_killN, w_killC, w_takeN, w_takeV, w_takeI, w_putI, w_putV, w_putN, w_lendN, w_lendV, w_lendI, flat_bl, flat_int, flat_non,
      pick_non, pick_bl, pick_int, pick_str, pick_tup, pick_lst, pick_scr, pick_exc, pick_T, pick_R, pick_N, frzT, frzR, frzN, w_seqL, w_seqT, w_seqC, w_zipT, w_zipA, w_tupLt, w_leX, eqW_int, neW_int, eqW_nil, neW_nil, eqW_str, neW_str, List.cons_append, List.nil_append, List.length_cons, List.length_nil, List.replicate_succ, List.replicate_zero, List.getElem?_cons_zero, List.getElem?_cons_succ, List.set_cons_zero, List.set_cons_succ, List.length_map, Option.map_some, Option.bind_some, cond_true, cond_false, Bool.true_or, Bool.or_true, Bool.false_or, Bool.or_false, Bool.not_true, Bool.not_false, Bool.true_and, Bool.false_and, Nat.reduceSub, Nat.reduceAdd, Nat.reduceLeDiff, ↓reduceIte, if_true, if_false, reduceCtorEq, decide_true, decide_false, decide_eq_true_eq, Nat.zero_add, Nat.add_zero, $ls,*] $[$l]?)
open TL
/-! ### a spoilt thing -/
abbrev GL (n : Nat) (ws : List W) : Prop := ∀ x ∈ ws, Gd n x
theorem gl_nil {n : Nat} : GL n [] := by intro x h; cases h
theorem gl_cons {n : Nat} {w : W} {ws : List W} (h : Gd n w) (t : GL n ws) : GL n (w :: ws) := by
  intro x hx
  rcases List.mem_cons.mp hx with rfl | hx
  · exact h
  · exact t x hx
theorem gl_app {n : Nat} {us ws : List W} (h : GL n us) (t : GL n ws) : GL n (us ++ ws) := by
  intro x hx
  rcases List.mem_append.mp hx with hx | hx
  · exact h x hx
  · exact t x hx
theorem gl_up {n m : Nat} {ws : List W} (h : GL n ws) (l : n ≤ m) : GL m ws := fun x hx => (h x hx).le l
theorem ix_gl {n : Nat} (b : Bool) {ws : List W} (h : GL n ws) {v : Int} (v0 : 0 ≤ v) (v1 : v < (ws.length : Int)) : ∃ w, ixW (.lst b ws) (.int v) = some w ∧ Gd n w := by
  have hv : v.toNat < ws.length := by omega
  refine ⟨ws[v.toNat], ?_, h _ (List.getElem_mem hv)⟩
  rw [w_ixL, atI_pos _ v0, List.getElem?_eq_getElem hv]
theorem g_s {n : Nat} (z : Str) (h : z.length ≤ 1000) : Gd n (.str z) := leaf_up (w := .str z) h n
theorem g_i {n : Nat} (i : Int) : Gd n (.int i) := leaf_up (w := .int i) trivial n
theorem g_n {n : Nat} : Gd n .non := leaf_up (w := .non) trivial n
theorem g_b {n : Nat} (b : Bool) : Gd n (.bl b) := leaf_up (w := .bl b) trivial n
theorem g_e {n : Nat} : Gd n .edc := leaf_up (w := .edc) (by intro x h; cases h) n
theorem g_t {n : Nat} {ws : List W} (h : GL n ws) (hl : ws.length ≤ 100 := by simp only [List.length_cons, List.length_nil]; omega) : Gd (n + 1) (.tup ws) := Gd.tup (by omega) h
theorem g_l {n : Nat} {ws : List W} (h : GL n ws) (hl : ws.length ≤ 100 := by simp only [List.length_cons, List.length_nil]; omega) : Gd (n + 1) (.lst false ws) := Gd.lst (by omega) h
theorem cutS_le (z : Str) (lo hi : Option Int) : (cutS z lo hi).length ≤ z.length := by
  unfold cutS
  show (((z.cps.toList.drop _).take _).toArray).size ≤ z.cps.size
  rw [List.size_toArray, List.length_take, List.length_drop, Array.length_toList]
  omega
theorem sign_len : Str.length "AZaz_09 -.+'@\x5b`{~\t\n" = 19 := by decide
theorem sign_at (v : Int) (v0 : 0 ≤ v) (v1 : v < 19) : ∃ z : Str, z.length = 1 ∧ ixW (.str "AZaz_09 -.+'@\x5b`{~\t\n") (.int v) = some (.str z) := by
  have h : (Str.length "AZaz_09 -.+'@\x5b`{~\t\n") ≤ sizeLine := by rw [sign_len]; have := line_ge; omega
  have hl : (Str.cps "AZaz_09 -.+'@\x5b`{~\t\n").toList.length = 19 := by decide
  show ∃ z : Str, z.length = 1 ∧ (if (Str.length "AZaz_09 -.+'@\x5b`{~\t\n") ≤ sizeLine then (atI (Str.cps "AZaz_09 -.+'@\x5b`{~\t\n").toList v).map fun c => W.str ⟨#[c]⟩ else none) = some (.str z)
  rw [if_pos h, atI_pos _ v0, List.getElem?_eq_getElem (by rw [hl]; omega)]
  exact ⟨_, rfl, rfl⟩
noncomputable def bt0 : Sm Fl := sSet 3 true (mCall f__law_take 2 (Sm.bind (mVar 0) fun _ => rIo 0 (rVal (mUn lenW (mVar 2)) (rNil))))
noncomputable def bt1 : Sm Fl := sSet 4 true (mBin ixW true (mC (.str "AZaz_09 -.+'@\x5b`{~\t\n")) (mCall f__law_take 2 (Sm.bind (mVar 0) fun _ => rIo 0 (rVal (mC (.int 19)) (rNil)))))
noncomputable def bt2 : Sm Fl := sSet 5 true (mArgs (lstW false) (mCons (mC (.str "")) (mCons (mC (.str "A")) (mCons (mC (.str "a1")) (mCons (mC (.str "abcdefghi")) (mCons (mC .non) (mCons (mC (.int 1)) (mCons (mArgs (lstW false) (mCons (mC (.str "a")) (mNil))) (mCons (mArgs tupW (mCons (mC (.str "a")) (mNil))) (mCons (mBin (addW false) true (mVar 2) (mC (.str "abcdefgh"))) (mCons (mC (.bl true)) (mCons (mBin (addW false) true (mVar 2) (mC (.str " "))) (mNil)))))))))))))
noncomputable def bt3 : Sm Fl := sSet 5 true (mBin (addW false) true (mVar 5) (mBin (mulW false) true (mArgs (lstW false) (mCons (mBin (addW false) true (mBin (addW false) true (mSlice false true (mVar 2) (mNo) (mPart (mVar 3))) (mVar 4)) (mSlice false true (mVar 2) (mPart (mVar 3)) (mNo))) (mCons (mBin (addW false) true (mBin (addW false) true (mSlice false true (mVar 2) (mNo) (mPart (mVar 3))) (mVar 4)) (mSlice false true (mVar 2) (mPart (mBin (addW false) true (mVar 3) (mC (.int 1)))) (mNo))) (mCons (mBin (addW false) true (mVar 2) (mVar 4)) (mNil))))) (mC (.int 3))))
noncomputable def bt4 : Sm Fl := sSet 6 true (mArgs (lstW false) (mCons (mC (.bl true)) (mCons (mC (.bl false)) (mCons (mC .non) (mCons (mUn strOfW (mVar 1)) (mCons (mArgs (lstW false) (mCons (mVar 1) (mNil))) (mCons (mArgs tupW (mCons (mVar 1) (mNil))) (mCons (mC (.str "")) (mCons (mC .edc) (mCons (mUn negW (mVar 1)) (mCons (mBin (addW false) true (mVar 1) (mC (.int 1))) (mNil))))))))))))
noncomputable def bt5 : Sm Fl := sSet 7 true (mBin (addW false) true (mBin (mulW false) true (mArgs (lstW false) (mCons (mArgs tupW (mCons (mBin ixW false (mVar 6) (mCall f__law_take 2 (Sm.bind (mVar 0) fun _ => rIo 0 (rVal (mC (.int 10)) (rNil))))) (mCons (mVar 2) (mNil)))) (mNil))) (mC (.int 4))) (mBin (mulW false) true (mArgs (lstW false) (mCons (mArgs tupW (mCons (mVar 1) (mCons (mBin ixW false (mVar 5) (mCall f__law_take 2 (Sm.bind (mVar 0) fun _ => rIo 0 (rVal (mC (.int 20)) (rNil))))) (mNil)))) (mNil))) (mC (.int 6))))
noncomputable def bt6 : Sm Fl := sSet 7 true (mBin (addW false) true (mVar 7) (mArgs (lstW false) (mCons (mArgs (lstW false) (mCons (mVar 1) (mCons (mVar 2) (mNil)))) (mCons (mArgs tupW (mCons (mVar 1) (mNil))) (mCons (mArgs tupW (mCons (mVar 2) (mCons (mVar 1) (mNil)))) (mCons (mArgs tupW (mCons (mVar 1) (mCons (mVar 2) (mCons (mC (.int 0)) (mNil))))) (mCons (mVar 1) (mCons (mVar 2) (mCons (mC .non) (mCons (mArgs tupW (mNil)) (mNil)))))))))))
noncomputable def bt7 : Sm Fl := sRet true (mBin ixW true (mBin (addW true) true (mVar 7) (mArgs (lstW true) (mCons (mDisp1 (mVar 1) (mVar 2)) (mCons (mArgs tupW (mCons (mVar 1) (mCons (mVar 2) (mCons (mVar 2) (mNil))))) (mNil))))) (mCall f__law_take 2 (Sm.bind (mVar 0) fun _ => rIo 0 (rVal (mC (.int 20)) (rNil)))))
theorem bt_eq : b__law_bad_thing = sSeq bt0 (sSeq bt1 (sSeq bt2 (sSeq bt3 (sSeq bt4 (sSeq bt5 (sSeq bt6 (bt7))))))) := rfl
theorem rep3 (a b c : W) : mulW false (.lst false [a, b, c]) (.int 3) = some (.lst false [a, b, c, a, b, c, a, b, c]) := by
  have lg := line_ge
  rw [w_rep, if_pos (show repOk (List.length [a, b, c]) 3 from ⟨by decide, by decide, by show 3 * 3 ≤ sizeLine; omega⟩)]
  rfl
theorem rep4 (a : W) : mulW false (.lst false [a]) (.int 4) = some (.lst false [a, a, a, a]) := by
  have lg := line_ge
  rw [w_rep, if_pos (show repOk (List.length [a]) 4 from ⟨by decide, by decide, by show 1 * 4 ≤ sizeLine; omega⟩)]
  rfl
theorem rep6 (a : W) : mulW false (.lst false [a]) (.int 6) = some (.lst false [a, a, a, a, a, a]) := by
  have lg := line_ge
  rw [w_rep, if_pos (show repOk (List.length [a]) 6 from ⟨by decide, by decide, by show 1 * 6 ≤ sizeLine; omega⟩)]
  rfl
theorem rep7 (a : W) : mulW false (.lst false [a]) (.int 7) = some (.lst false [a, a, a, a, a, a, a]) := by
  have lg := line_ge
  rw [w_rep, if_pos (show repOk (List.length [a]) 7 from ⟨by decide, by decide, by show 1 * 7 ≤ sizeLine; omega⟩)]
  rfl
theorem numL_le : ∀ (k n : Nat), n < 10 ^ (k + 1) → (numL n).length ≤ k + 1
  | 0, n, h => by
    rw [numL_lt (by omega)]
    exact Nat.le_refl _
  | k + 1, n, h => by
    by_cases c : n < 10
    · rw [numL_lt c, List.length_singleton]
      omega
    · rw [numL_step (by omega), List.length_append, List.length_singleton]
      have := numL_le k (n / 10) (by rw [Nat.pow_succ] at h; omega)
      omega
theorem keyS_le {k : Int} (h : kB k) : (keyS k).length ≤ 1000 := by
  unfold kB at h
  have e : (keyS k).length = (tl (keyS k)).length := (len_tl (keyS k)).symm
  have l : (numL k.natAbs).length ≤ 33 := numL_le 32 _ (by
    have : k.natAbs < 100000000000000000000000000000000 := by omega
    have : (100000000000000000000000000000000 : Nat) ≤ 10 ^ (32 + 1) := by decide
    omega)
  rw [e, tl_key]
  unfold keyL
  by_cases c : k < 0
  · rw [if_pos c, List.length_cons]
    omega
  · rw [if_neg c]
    omega
section
variable (P : W) (key : Int) (z : Str) (kb : kB key) (t1 : 1 ≤ z.length) (t8 : z.length ≤ 8)
include t8 in
theorem bt2_ok (v : Int) (sg : Str) (x6 x7 : W) : ∃ T, T.length = 11 ∧ GL 1 T ∧ bt2 [P, .int key, .str z, .int v, .str sg, .dead, x6, x7] = .ok .nx [P, .int key, .str z, .int v, .str sg, .lst false T, x6, x7] := by
  have lg := line_ge
  have l8 : Str.length "abcdefgh" = 8 := by decide
  have l1 : Str.length " " = 1 := by decide
  have a1 := w_addZ false z "abcdefgh" (by omega)
  have a2 := w_addZ false z " " (by omega)
  have h1 : 1 ≤ sizeLine := by omega
  have h11 : 11 ≤ sizeLine := by omega
  refine ⟨[.str "", .str "A", .str "a1", .str "abcdefghi", .non, .int 1, .lst false [.str "a"], .tup [.str "a"], .str (z ++ "abcdefgh"), .bl true, .str (z ++ " ")], rfl, ?_, ?_⟩
  · have q : ∀ s : Str, s.length ≤ 20 → Gd 1 (.str s) := fun s h => g_s s (by omega)
    refine gl_cons (q _ (by decide)) (gl_cons (q _ (by decide)) (gl_cons (q _ (by decide)) (gl_cons (q _ (by decide)) (gl_cons g_n (gl_cons (g_i _) (gl_cons (g_l (gl_cons (g_s _ (by decide)) gl_nil)) (gl_cons (g_t (gl_cons (g_s _ (by decide)) gl_nil)) (gl_cons (q _ ?_) (gl_cons (g_b _) (gl_cons (q _ ?_) gl_nil))))))))))
    · rw [Str.length_append]; omega
    · rw [Str.length_append]; omega
  · unfold bt2
    simp_arith [↓a1, ↓a2, h1, h11]
include t8 in
theorem bt3_ok (v : Int) (sg : Str) (sl : sg.length = 1) (T : List W) (tl : T.length = 11) (tg : GL 1 T) (x6 x7 : W) : ∃ T', T'.length = 20 ∧ GL 1 T' ∧ bt3 [P, .int key, .str z, .int v, .str sg, .lst false T, x6, x7] = .ok .nx [P, .int key, .str z, .int v, .str sg, .lst false T', x6, x7] := by
  have lg := line_ge
  have c1 := cutS_le z none (some v)
  have c2 := cutS_le z (some v) none
  have c3 := cutS_le z (some (v + 1)) none
  have k1 := fun b => w_cutZ b z none (some v) (by omega)
  have k2 := fun b => w_cutZ b z (some v) none (by omega)
  have k3 := fun b => w_cutZ b z (some (v + 1)) none (by omega)
  have a1 := w_addZ false (cutS z none (some v)) sg (by omega)
  have a2 := w_addZ false (cutS z none (some v) ++ sg) (cutS z (some v) none) (by rw [Str.length_append]; omega)
  have a3 := w_addZ false (cutS z none (some v) ++ sg) (cutS z (some (v + 1)) none) (by rw [Str.length_append]; omega)
  have a4 := w_addZ false z sg (by omega)
  have h3 : 3 ≤ sizeLine := by omega
  obtain ⟨y1, e1⟩ : ∃ y, y = cutS z none (some v) ++ sg ++ cutS z (some v) none := ⟨_, rfl⟩
  obtain ⟨y2, e2⟩ : ∃ y, y = cutS z none (some v) ++ sg ++ cutS z (some (v + 1)) none := ⟨_, rfl⟩
  obtain ⟨y3, e3⟩ : ∃ y, y = z ++ sg := ⟨_, rfl⟩
  have q1 : Gd 1 (.str y1) := g_s _ (by rw [e1, Str.length_append, Str.length_append]; omega)
  have q2 : Gd 1 (.str y2) := g_s _ (by rw [e2, Str.length_append, Str.length_append]; omega)
  have q3 : Gd 1 (.str y3) := g_s _ (by rw [e3, Str.length_append]; omega)
  rw [← e1] at a2
  rw [← e2] at a3
  rw [← e3] at a4
  have r3 := rep3 (.str y1) (.str y2) (.str y3)
  have ad : addW false (.lst false T) (.lst false [.str y1, .str y2, .str y3, .str y1, .str y2, .str y3, .str y1, .str y2, .str y3]) = some (.lst false (T ++ [.str y1, .str y2, .str y3, .str y1, .str y2, .str y3, .str y1, .str y2, .str y3])) := by
    rw [w_addL, if_pos (by rw [tl]; show 11 + 9 ≤ sizeLine; omega)]
  refine ⟨T ++ [.str y1, .str y2, .str y3, .str y1, .str y2, .str y3, .str y1, .str y2, .str y3], by rw [List.length_append, tl]; rfl, gl_app tg (gl_cons q1 (gl_cons q2 (gl_cons q3 (gl_cons q1 (gl_cons q2 (gl_cons q3 (gl_cons q1 (gl_cons q2 (gl_cons q3 gl_nil))))))))), ?_⟩
  unfold bt3
  simp_arith [↓k1, ↓k2, ↓k3, ↓a1, ↓a2, ↓a3, ↓a4, ↓r3, ↓ad, h3]
include kb in
theorem bt4_ok (x3 x4 x5 x7 : W) : ∃ K, K.length = 10 ∧ GL 1 K ∧ bt4 [P, .int key, .str z, x3, x4, x5, .dead, x7] = .ok .nx [P, .int key, .str z, x3, x4, x5, .lst false K, x7] := by
  have lg := line_ge
  have s1 := w_strOf key (by
    unfold kB at kb
    have : key.natAbs < 100000000000000000000000000000000 := by omega
    have : (100000000000000000000000000000000 : Nat) ≤ 2 ^ 1900 := by decide
    omega)
  have h1 : 1 ≤ sizeLine := by omega
  have h10 : 10 ≤ sizeLine := by omega
  have ng : negW (.int key) = some (.int (-key)) := rfl
  have fe : W.edc.frz = true := rfl
  refine ⟨[.bl true, .bl false, .non, .str (keyS key), .lst false [.int key], .tup [.int key], .str "", .edc, .int (-key), .int (key + 1)], rfl, ?_, ?_⟩
  · exact gl_cons (g_b _) (gl_cons (g_b _) (gl_cons g_n (gl_cons (g_s _ (keyS_le kb)) (gl_cons (g_l (gl_cons (g_i _) gl_nil)) (gl_cons (g_t (gl_cons (g_i _) gl_nil)) (gl_cons (g_s _ (by decide)) (gl_cons g_e (gl_cons (g_i _) (gl_cons (g_i _) gl_nil)))))))))
  · unfold bt4
    simp_arith [↓s1, ng, fe, h1, h10]
include t8 in
theorem bt5_ok (a b c : Int) (hb : b = 0 ∨ b = 1) (c0 : 0 ≤ c) (c1 : c ≤ 900000) (x3 x4 : W) (T K : List W) (tl : T.length = 20) (tg : GL 1 T) (kl : K.length = 10) (kg : GL 1 K) : ∃ (a' c' : Int) (R : List W), 0 ≤ c' ∧ c' ≤ c + 2 ∧ R.length = 10 ∧ GL 2 R ∧ bt5 [pl a b c, .int key, .str z, x3, x4, .lst false T, .lst false K, .dead] = .ok .nx [pl a' b c', .int key, .str z, x3, x4, .lst false T, .lst false K, .lst false R] := by
  have lg := line_ge
  have h1 : 1 ≤ sizeLine := by omega
  have h2 : 2 ≤ sizeLine := by omega
  obtain ⟨v, a1, d1, v0, v1, p1, p2, p3⟩ := e_take a b c 10 hb c0 (by omega) (by omega) (by omega)
  obtain ⟨u, a2, d2, u0, u1, p4, p5, p6⟩ := e_take a1 b d1 20 hb (by omega) (by omega) (by omega) (by omega)
  obtain ⟨k, ek, gk⟩ := ix_gl false kg v0 (by omega)
  obtain ⟨t, et, gt⟩ := ix_gl false tg u0 (by omega)
  have fk := gk.fz
  have ft := gt.fz
  have r4 := rep4 (.tup [k, .str z])
  have r6 := rep6 (.tup [.int key, t])
  have ad : addW false (.lst false [.tup [k, .str z], .tup [k, .str z], .tup [k, .str z], .tup [k, .str z]]) (.lst false [.tup [.int key, t], .tup [.int key, t], .tup [.int key, t], .tup [.int key, t], .tup [.int key, t], .tup [.int key, t]]) = some (.lst false [.tup [k, .str z], .tup [k, .str z], .tup [k, .str z], .tup [k, .str z], .tup [.int key, t], .tup [.int key, t], .tup [.int key, t], .tup [.int key, t], .tup [.int key, t], .tup [.int key, t]]) := by
    rw [w_addL, if_pos (by show 4 + 6 ≤ sizeLine; omega)]
    rfl
  have q1 : Gd 2 (.tup [k, .str z]) := g_t (gl_cons gk (gl_cons (g_s _ (by omega)) gl_nil))
  have q2 : Gd 2 (.tup [.int key, t]) := g_t (gl_cons (g_i _) (gl_cons gt gl_nil))
  refine ⟨a2, d2, [.tup [k, .str z], .tup [k, .str z], .tup [k, .str z], .tup [k, .str z], .tup [.int key, t], .tup [.int key, t], .tup [.int key, t], .tup [.int key, t], .tup [.int key, t], .tup [.int key, t]], by omega, by omega, rfl, ?_, ?_⟩
  · exact gl_cons q1 (gl_cons q1 (gl_cons q1 (gl_cons q1 (gl_cons q2 (gl_cons q2 (gl_cons q2 (gl_cons q2 (gl_cons q2 (gl_cons q2 gl_nil)))))))))
  · unfold bt5
    simp_arith [p3, p6, ↓ek, ↓et, fk, ft, ↓r4, ↓r6, ↓ad, h1, h2]
include t8 in
theorem bt6_ok (x3 x4 x5 x6 : W) (R : List W) (rl : R.length = 10) (rg : GL 2 R) : ∃ R', R'.length = 18 ∧ GL 2 R' ∧ bt6 [P, .int key, .str z, x3, x4, x5, x6, .lst false R] = .ok .nx [P, .int key, .str z, x3, x4, x5, x6, .lst false R'] := by
  have lg := line_ge
  have h0 : 0 ≤ sizeLine := by omega
  have h1 : 1 ≤ sizeLine := by omega
  have h2 : 2 ≤ sizeLine := by omega
  have h3 : 3 ≤ sizeLine := by omega
  have h8 : 8 ≤ sizeLine := by omega
  have ad : addW false (.lst false R) (.lst false [.lst false [.int key, .str z], .tup [.int key], .tup [.str z, .int key], .tup [.int key, .str z, .int 0], .int key, .str z, .non, .tup []]) = some (.lst false (R ++ [.lst false [.int key, .str z], .tup [.int key], .tup [.str z, .int key], .tup [.int key, .str z, .int 0], .int key, .str z, .non, .tup []])) := by
    rw [w_addL, if_pos (by rw [rl]; show 10 + 8 ≤ sizeLine; omega)]
  have qz : ∀ {n : Nat}, Gd n (.str z) := g_s z (by omega)
  refine ⟨_, ?_, gl_app rg (gl_cons (w := .lst false [.int key, .str z]) (g_l (gl_cons (g_i _) (gl_cons qz gl_nil))) (gl_cons (w := .tup [.int key]) (g_t (gl_cons (g_i _) gl_nil)) (gl_cons (w := .tup [.str z, .int key]) (g_t (gl_cons qz (gl_cons (g_i _) gl_nil))) (gl_cons (w := .tup [.int key, .str z, .int 0]) (g_t (gl_cons (g_i _) (gl_cons qz (gl_cons (g_i _) gl_nil)))) (gl_cons (w := .int key) (g_i _) (gl_cons (w := .str z) qz (gl_cons (w := .non) g_n (gl_cons (w := .tup []) (g_t gl_nil) gl_nil)))))))), ?_⟩
  · rw [List.length_append, rl]
    rfl
  · unfold bt6
    simp_arith [↓ad, h0, h1, h2, h3, h8]
include t8 in
theorem bt7_ok (a b c : Int) (hb : b = 0 ∨ b = 1) (c0 : 0 ≤ c) (c1 : c ≤ 900000) (x3 x4 x5 x6 : W) (R : List W) (rl : R.length = 18) (rg : GL 2 R) : ∃ (a' c' : Int) (w : W), 0 ≤ c' ∧ c' ≤ c + 1 ∧ Gd 2 w ∧ bt7 [pl a b c, .int key, .str z, x3, x4, x5, x6, .lst false R] = .ok (.rt w) [pl a' b c', .int key, .str z, x3, x4, x5, x6, .lst false R] := by
  have lg := line_ge
  have h2 : 2 ≤ sizeLine := by omega
  have h3 : 3 ≤ sizeLine := by omega
  obtain ⟨v, a1, d1, v0, v1, p1, p2, p3⟩ := e_take a b c 20 hb c0 (by omega) (by omega) (by omega)
  obtain ⟨F, eF⟩ : ∃ F, F = W.fdc [.inl key] [.str z] := ⟨_, rfl⟩
  have dsp : ∀ P : W, mDisp1 (mVar 1) (mVar 2) [P, .int key, .str z, x3, x4, x5, x6, .lst false R] = .ok F [P, .int key, .str z, x3, x4, x5, x6, .lst false R] := fun P => by
    rw [eF]
    unfold mDisp1
    simp_arith []
    try rfl
  have fF : F.frz = true := by rw [eF]; rfl
  have gF : Gd 2 F := by
    rw [eF]
    exact leaf_up (w := .fdc [.inl key] [.str z]) (by
      intro x hx
      rw [List.mem_singleton.mp hx]
      exact ⟨(EncOk.str.eqv z z).mpr rfl, Nat.le_trans (EncOk.str.dep z) (Nat.zero_le _)⟩) 2
  have ad : addW true (.lst false R) (.lst true [F, .tup [.int key, .str z, .str z]]) = some (.lst true (R ++ [F, .tup [.int key, .str z, .str z]])) := by
    rw [w_addL, if_pos (by rw [rl]; show 18 + 2 ≤ sizeLine; omega)]
  have g20 : GL 2 (R ++ [F, .tup [.int key, .str z, .str z]]) := gl_app rg (gl_cons gF (gl_cons (g_t (gl_cons (g_i _) (gl_cons (g_s _ (by omega)) (gl_cons (g_s _ (by omega)) gl_nil)))) gl_nil))
  obtain ⟨w, ew, gw⟩ := ix_gl true g20 v0 (by rw [List.length_append, rl]; show v < ((18 + 2 : Nat) : Int); omega)
  refine ⟨a1, d1, w, by omega, by omega, gw, ?_⟩
  unfold bt7
  simp_arith [p3, ↓dsp, fF, ↓ad, ↓ew, h2, h3]
include kb t1 t8 in
theorem e_bad (a b c : Int) (hb : b = 0 ∨ b = 1) (c0 : 0 ≤ c) (c1 : c ≤ 800000) : ∃ (a' c' : Int) (w : W), 0 ≤ c' ∧ c' ≤ c + 5 ∧ Gd 2 w ∧ f__law_bad_thing [pl a b c, .int key, .str z] = .ok w [pl a' b c', .dead, .dead] := by
  have lg := line_ge
  obtain ⟨v, a1, d1, v0, v1, p1, p2, p3⟩ := e_take a b c (z.length : Int) hb c0 (by omega) (by omega) (by omega)
  obtain ⟨u, a2, d2, u0, u1, p4, p5, p6⟩ := e_take a1 b d1 19 hb (by omega) (by omega) (by omega) (by omega)
  obtain ⟨sg, sl, es⟩ := sign_at u u0 u1
  have zl := w_lenS z (by omega)
  have s0 : bt0 [pl a b c, .int key, .str z, .dead, .dead, .dead, .dead, .dead] = .ok .nx [pl a1 b d1, .int key, .str z, .int v, .dead, .dead, .dead, .dead] := by
    unfold bt0
    simp_arith [zl, p3]
  have s1 : bt1 [pl a1 b d1, .int key, .str z, .int v, .dead, .dead, .dead, .dead] = .ok .nx [pl a2 b d2, .int key, .str z, .int v, .str sg, .dead, .dead, .dead] := by
    unfold bt1
    simp_arith [p6, ↓es]
  obtain ⟨T, tl, tg, s2⟩ := bt2_ok (pl a2 b d2) key z t8 v sg .dead .dead
  obtain ⟨T', tl', tg', s3⟩ := bt3_ok (pl a2 b d2) key z t8 v sg sl T tl tg .dead .dead
  obtain ⟨K, kl, kg, s4⟩ := bt4_ok (pl a2 b d2) key z kb (.int v) (.str sg) (.lst false T') .dead
  obtain ⟨a3, d3, R, q1, q2, rl, rg, s5⟩ := bt5_ok key z t8 a2 b d2 hb (by omega) (by omega) (.int v) (.str sg) T' K tl' tg' kl kg
  obtain ⟨R', rl', rg', s6⟩ := bt6_ok (pl a3 b d3) key z t8 (.int v) (.str sg) (.lst false T') (.lst false K) R rl rg
  obtain ⟨a4, d4, w, q3, q4, gw, s7⟩ := bt7_ok key z t8 a3 b d3 hb (by omega) (by omega) (.int v) (.str sg) (.lst false T') (.lst false K) R' rl' rg'
  refine ⟨a4, d4, w, q3, by omega, gw, ?_⟩
  have body : b__law_bad_thing [pl a b c, .int key, .str z, .dead, .dead, .dead, .dead, .dead] = .ok (.rt w) [pl a4 b d4, .int key, .str z, .int v, .str sg, .lst false T', .lst false K, .lst false R'] := by
    rw [bt_eq, r_seq, s0]
    dsimp only
    rw [r_seq, s1]
    dsimp only
    rw [r_seq, s2]
    dsimp only
    rw [r_seq, s3]
    dsimp only
    rw [r_seq, s4]
    dsimp only
    rw [r_seq, s5]
    dsimp only
    rw [r_seq, s6]
    dsimp only
    exact s7
  unfold f__law_bad_thing fnSem
  simp_arith [body]
end
end Ev

namespace Ev
open PySem PySem.Spec L2
local macro_rules
  | `(tactic| simp_arith [$ls,*] $[$l:location]?) => `(tactic| simp only [↓r_bind, ↓r_ret, ↓r_lft, ↓r_c, ↓r_var2, ↓r_move, ↓r_un, ↓r_bin, ↓r_chain, ↓r_toB, ↓r_ofB, ↓r_and, ↓r_or, ↓r_not, ↓r_nil, ↓r_cons, ↓r_args, ↓r_iargs, ↓r_ilst, ↓r_part, ↓r_no, ↓r_slice, ↓r_callP, ↓r_rnil, ↓r_rval, ↓r_rvalX, ↓r_pick, pas_str, pas_int, pas_bl, pas_non, pas_tup, pas_lst, pas_edc, pick_edc, ↓r_rio, ↓r_call, ↓r_callL, ↓r_fz, ↓r_seq, ↓r_snil, ↓r_if, ↓r_drop, ↓r_sret, ↓r_set, ↓r_asg, ↓r_aug, ↓r_sfor, ↓r_mut, ↓r_sto, ↓r_go, ↓r_gfz, ↓r_push, ↓r_gfzD, ↓r_fzD,  ↓r_raise, ↓r_try, ↓r_itup, ↓r_iseq, ↓r_andV, ↓r_orV, ↓r_notV, ↓r_fn, ↓r_meth, ↓r_augS, ↓r_ichr, ↓r_pair, ↓r_mutN, ↓r_mutT, ↓r_app, ↓r_gfzC, ↓r_callO, ↓r_asgN, ↓r_takeK, pick_nst, pick_ntp, w_strL, w_zip3, ↓r_dnew, ↓r_key1, ↓r_keyT, ↓r_dget, ↓r_dget2, ↓r_dput, ↓r_mutP, ↓r_mutKP, ↓r_stoP, ↓r_stoN, ↓r_dputP, ↓r_fldP, ↓r_callM, ↓r_makeL, ↓r_gfzK, ↓r_gfzP, ↓r_dpopP, ↓r_augP, ↓r_forP, ↓r_chainI, ↓r_callT, ↓r_ikeys, ↓r_keyCut, w_keyI, w_keyS, w_keyT2, w_lookT, w_lookK, w_lookDT, w_lookDK, w_dputT, w_dputK, w_dkeysT, w_dkeysK, isDW_dct, frz_dct, pick_dct, w_geX, ty_str, and_self,
      maskL_nil, maskL_cons, frz_non, frz_bl, frz_int, frz_str, frz_tup, frz_lst, frz_scr, fz_lst, fz_int, fz_tup, fz_str, fz_bl, w_lst, w_tup, w_add, w_addL, w_addB, w_sub, w_mul, w_rep, w_fdiv, w_mod, w_pow, w_neg, w_lt, w_le, w_ge, w_gt, w_bl, w_intW, w_toI, w_toB, w_max2, w_min2, w_abs, w_lenL, w_lenC, w_lenT, w_listL, w_listC, w_listT, w_tupL, w_rev, w_ixL, w_ixC, w_ixT, w_cutL, w_cutC, w_frzL, w_frzC, w_rng1, w_rng2, w_enum, w_enumC, w_zip, w_app, w_ext, w_pop, w_sum, w_isx, w_isiI, w_isiB, w_tgN, w_tgT, w_killN, w_killC, w_takeN, w_takeV, w_takeI, w_putI, w_putV, w_putN, w_lendN, w_lendV, w_lendI, flat_bl, flat_int, flat_non,
      pick_non, pick_bl, pick_int, pick_str, pick_tup, pick_lst, pick_scr, pick_exc, pick_T, pick_R, pick_N, frzT, frzR, frzN, w_seqL, w_seqT, w_seqC, w_zipT, w_zipA, w_tupLt, w_leX, eqW_int, neW_int, eqW_nil, neW_nil, eqW_str, neW_str, List.cons_append, List.nil_append, List.length_cons, List.length_nil, List.replicate_succ, List.replicate_zero, List.getElem?_cons_zero, List.getElem?_cons_succ, List.set_cons_zero, List.set_cons_succ, List.length_map, Option.map_some, Option.bind_some, cond_true, cond_false, Bool.true_or, Bool.or_true, Bool.false_or, Bool.or_false, Bool.not_true, Bool.not_false, Bool.true_and, Bool.false_and, Nat.reduceSub, Nat.reduceAdd, Nat.reduceLeDiff, ↓reduceIte, if_true, if_false, reduceCtorEq, decide_true, decide_false, decide_eq_true_eq, Nat.zero_add, Nat.add_zero, $ls,*] $[$l]?)
open TL
/-! ### spoilt rows -/
theorem bor_ok {m : Sm Fl} {env env' : List W} {i j h : Nat} {ws : List W} {x y : W} (e : env[i]? = some (.nst ws)) (hx : ws[h]? = some x) (hm : m ((env.set i .dead).set j x) = .ok .nx env') (he : env'[j]? = some y) (ly : lvW y = true) : sBor i j m [h] env = .ok .nx ((env'.set i (.nst (ws.set h y))).set j .dead) := by
  unfold sBor
  have g : getP (.nst ws) [h] = some x := by
    unfold getP
    show (match ws[h]? with | some x => getP x [] | none => none) = _
    rw [hx]
    rfl
  have st : setP (.nst ws) [h] y = .nst (ws.set h y) := by
    unfold setP
    show (match ws[h]? with | some x => (W.nst ws).withKids (ws.set h (setP x [] y)) | none => _) = _
    rw [hx]
    rfl
  rw [e]
  dsimp only
  rw [g]
  dsimp only
  rw [if_pos (show lvW (.nst ws) = true from rfl), hm]
  dsimp only
  rw [he]
  dsimp only
  rw [if_pos ly, st]
theorem ifB_ok {mc : Sm Bool} {m1 m2 : List Nat → Sm Fl} {env env' : List W} {i j h : Nat} {ws : List W} {x : W} (b : Bool) (e : env[i]? = some (.nst ws)) (hx : ws[h]? = some x) (hm : mc ((env.set i .dead).set j x) = .ok b env') : sIfB i j mc m1 m2 [h] env = if b = true then noNx (m1 [h] env) else m2 [h] env := by
  unfold sIfB
  have g : getP (.nst ws) [h] = some x := by
    unfold getP
    show (match ws[h]? with | some x => getP x [] | none => none) = _
    rw [hx]
    rfl
  rw [e]
  dsimp only
  rw [g]
  dsimp only
  rw [if_pos (show lvW (.nst ws) = true from rfl), hm]
  cases b <;> rfl
theorem fzA_ok {m : Sm Fl} {env : List W} {i j h : Nat} {ws : List W} {x : W} (e : env[i]? = some (.nst ws)) (hf : fzOks ws = true) (hx : (fzDs ws)[h]? = some x) : sFzA i j m [h] env = m ((env.set i (.lst true (fzDs ws))).set j x) := by
  unfold sFzA
  rw [e]
  dsimp only
  rw [if_pos hf, hx]
theorem dSet_all {P : W → Prop} {k : Key} {y : W} (py : P y) : ∀ {l : List Key} {ws : List W}, (∀ x ∈ ws, P x) → ∀ x ∈ dSet l ws k y, P x
  | [], _, _ => by
    intro x hx
    simp [dSet] at hx
  | _ :: _, [], _ => by
    intro x hx
    simp [dSet] at hx
  | a :: l, w :: ws, h => by
    unfold dSet
    intro x hx
    rcases List.mem_cons.mp hx with e | hx
    · rw [e]
      by_cases c : a = k
      · rw [if_pos c]
        exact py
      · rw [if_neg c]
        exact h _ List.mem_cons_self
    · exact dSet_all py (fun z hz => h z (List.mem_cons_of_mem _ hz)) x hx
theorem mrg_all {P : W → Prop} : ∀ {q : List (Key × W)} {l : List Key} {ws : List W}, (∀ x ∈ ws, P x) → (∀ p ∈ q, P p.2) → ∀ x ∈ (mrgW l ws q).2, P x
  | [], _, _, h, _ => h
  | (k, w) :: r, l, ws, h, hq => by
    unfold mrgW
    refine mrg_all ?_ (fun p hp => hq p (List.mem_cons_of_mem _ hp))
    have pw : P w := hq (k, w) List.mem_cons_self
    unfold dPut
    by_cases c : k ∈ l
    · rw [if_pos c]
      exact dSet_all pw h
    · rw [if_neg c]
      intro x hx
      rcases List.mem_append.mp hx with hx | hx
      · exact h x hx
      · rw [List.mem_singleton.mp hx]
        exact pw
theorem pairs_row : ∀ r : List Th, pairsD (r.map encT) = some (r.map fun t => .inl t.1, r.map fun t => .str t.2)
  | [] => rfl
  | t :: r => by
    rw [List.map_cons]
    unfold encT pairsD
    rw [show r.map (fun t : Th => W.tup [.int t.1, .str t.2]) = r.map encT from rfl, pairs_row r]
    rfl
theorem zip_snd_all {P : W → Prop} : ∀ (l : List Key) (ws : List W), (∀ x ∈ ws, P x) → ∀ p ∈ l.zip ws, P p.2
  | [], _, _ => by intro p hp; cases hp
  | _ :: _, [], _ => by intro p hp; cases hp
  | a :: l, w :: ws, h => by
    intro p hp
    rw [List.zip_cons_cons] at hp
    rcases List.mem_cons.mp hp with rfl | hp
    · exact h w List.mem_cons_self
    · exact zip_snd_all l ws (fun x hx => h x (List.mem_cons_of_mem _ hx)) p hp
theorem dict_row (r : List Th) : ∃ F, dictFW (encR r) = some F ∧ ∀ n, Gd n F := by
  refine ⟨.fdc (mrgW [] [] ((r.map fun t => .inl t.1).zip (r.map fun t => .str t.2))).1 (mrgW [] [] ((r.map fun t => .inl t.1).zip (r.map fun t => .str t.2))).2, ?_, fun n => leaf_up (w := .fdc _ _) ?_ n⟩
  · unfold dictFW encR
    show (pairsD (r.map encT)).bind _ = _
    rw [pairs_row r]
    rfl
  · refine mrg_all (P := fun x => x.nd = true ∧ x.dat.depth ≤ 40) (by intro x h; cases h) (zip_snd_all (P := fun x => x.nd = true ∧ x.dat.depth ≤ 40) _ _ ?_)
    intro x hx
    obtain ⟨t, _, rfl⟩ := List.mem_map.mp hx
    exact ⟨(EncOk.str.eqv t.2 t.2).mpr rfl, Nat.le_trans (EncOk.str.dep t.2) (Nat.zero_le _)⟩
theorem ixN_nat {n k : Nat} (h : k < n) : ixN n (k : Int) = some k := by
  unfold ixN
  rw [if_pos (by omega), if_pos (by omega), Int.toNat_natCast]
/-- a drawn row -/
structure RwOk (r : List Th) : Prop where
  len : r.length ≤ 8
  ok : ∀ t ∈ r, kB t.1 ∧ tagOk t.2
theorem RwOk.gl {r : List Th} (h : RwOk r) : GL 1 (r.map encT) := by
  intro x hx
  obtain ⟨t, ht, rfl⟩ := List.mem_map.mp hx
  have := (h.ok t ht).2.2.1
  exact g_t (gl_cons (g_i _) (gl_cons (g_s _ (by omega)) gl_nil))
theorem RwOk.gd {r : List Th} (h : RwOk r) : Gd 2 (encR r) := g_l h.gl (by rw [List.length_map]; have := h.len; omega)
theorem fzOks_all : ∀ {ws : List W}, (∀ x ∈ ws, x.fzOk = true) → fzOks ws = true
  | [], _ => rfl
  | w :: ws, h => by
    unfold fzOks
    rw [h w List.mem_cons_self, fzOks_all fun x hx => h x (List.mem_cons_of_mem _ hx)]
    rfl
theorem nst_good {ws : List W} (h : ∀ x ∈ ws, ∃ zs, x = .lst true zs ∧ zs.length ≤ 1000 ∧ GL 2 zs) (hl : ws.length ≤ 100) : (W.nst ws).fzOk = true ∧ Gd 4 (W.nst ws).fzD := by
  constructor
  · unfold W.fzOk
    exact fzOks_all fun x hx => by
      obtain ⟨zs, rfl, _⟩ := h x hx
      rfl
  · unfold W.fzD
    rw [fzDs_map]
    refine g_l ?_ (by rw [List.length_map]; exact hl)
    intro x hx
    obtain ⟨y, hy, rfl⟩ := List.mem_map.mp hx
    obtain ⟨zs, rfl, zl, zg⟩ := h y hy
    exact Gd.lst (by omega) zg
theorem Gd.fzk {n : Nat} {w : W} (h : Gd n w) : w.fzOk = true ∧ w.fzD = w := by cases h.vw <;> exact ⟨rfl, rfl⟩
abbrev ownR (r : List Th) : W := .lst true (r.map encT)
theorem own_fz (rs : List (List Th)) : fzOks (rs.map ownR) = true ∧ fzDs (rs.map ownR) = rs.map encR := by
  constructor
  · refine fzOks_all fun x hx => ?_
    obtain ⟨r, _, rfl⟩ := List.mem_map.mp hx
    rfl
  · rw [fzDs_map, List.map_map]
    rfl
noncomputable def sp0 : Sm Fl := sSet 2 true (c__law_spoilt_1)
noncomputable def sp1 : Sm Fl := sSet 4 true (mCall f__law_take 2 (Sm.bind (mVar 0) fun _ => rIo 0 (rVal (mUn lenW (mVar 2)) (rNil))))
noncomputable def spx0 : Sm Fl := sSet 5 true (mCall f__law_take 2 (Sm.bind (mVar 0) fun _ => rIo 0 (rVal (mC (.int 8)) (rNil))))
noncomputable def spx1 : Sm Bool := mAnd (toB (mBin ltW true (mVar 5) (mC (.int 5)))) (toB (mBin neW true (mVar 3) (mArgs (lstW false) (mNil))))
noncomputable def spx2 : Sm Fl := sSet 6 true (mCall f__law_take 2 (Sm.bind (mVar 0) fun _ => rIo 0 (rVal (mUn lenW (mVar 3)) (rNil))))
noncomputable def spx3 : Sm Fl := sSto 3 (mVar 6) (mCall f__law_bad_thing 3 (Sm.bind (mVar 0) fun _ => rIo 0 (rVal (mBin ixW true (mBin ixW true (mVar 3) (mVar 6)) (mC (.int 0))) (rVal (mBin ixW true (mBin ixW true (mVar 3) (mVar 6)) (mC (.int 1))) (rNil)))))
noncomputable def spx4 : Sm Bool := toB (mBin eqW true (mVar 5) (mC (.int 5)))
noncomputable def spx5 : Sm Fl := sSet 7 true (mBin ixW true (mArgs (lstW false) (mCons (mC .non) (mCons (mArgs tupW (mNil)) (mCons (mArgs (lstW false) (mNil)) (mCons (mC (.str "a")) (mCons (mC (.int 0)) (mCons (mArgs tupW (mCons (mC (.int 1)) (mCons (mC (.int 2)) (mNil)))) (mCons (mArgs tupW (mCons (mC (.str "a")) (mCons (mC (.str "a")) (mNil)))) (mCons (mC .edc) (mNil)))))))))) (mCall f__law_take 2 (Sm.bind (mVar 0) fun _ => rIo 0 (rVal (mC (.int 8)) (rNil)))))
noncomputable def spx6 : Sm Fl := sDrop (mMut 3 fInsert (mCons (mCall f__law_take 2 (Sm.bind (mVar 0) fun _ => rIo 0 (rVal (mBin (addW false) true (mUn lenW (mVar 3)) (mC (.int 1))) (rNil)))) (mCons (mVar 7) (mNil))))
noncomputable def spx7 : Sm Bool := toB (mBin eqW true (mVar 5) (mC (.int 6)))
noncomputable def spx8 : Sm Fl := sSeq (sSto 2 (mVar 4) (mBin ixW true (mArgs (lstW false) (mCons (mUn tupOfW (mVar 3)) (mCons (mC .non) (mCons (mC .edc) (mCons (mC (.str "")) (mCons (mC (.int 0)) (mCons (mArgs tupW (mCons (mC (.int 1)) (mCons (mC (.str "a")) (mNil)))) (mCons (mArgs (lstW false) (mCons (mVar 3) (mNil))) (mCons (mUn dictFW (mVar 3)) (mNil)))))))))) (mCall f__law_take 2 (Sm.bind (mVar 0) fun _ => rIo 0 (rVal (mC (.int 8)) (rNil)))))) (sRet true (mMove 2))
noncomputable def spx9 : Sm Fl := sSeq (sSet 8 true (mArgs (lstW false) (mCons (mBin (addW false) true (mSlice false true (mVar 2) (mNo) (mPart (mVar 4))) (mSlice false true (mVar 2) (mPart (mBin (addW false) true (mVar 4) (mC (.int 1)))) (mNo))) (mCons (mBin (addW false) true (mVar 2) (mArgs (lstW false) (mCons (mVar 3) (mNil)))) (mCons (mBin (addW false) true (mVar 2) (mBin (mulW false) true (mArgs (lstW false) (mCons (mArgs (lstW false) (mNil)) (mNil))) (mC (.int 6)))) (mCons (mArgs (lstW false) (mNil)) (mCons (mUn tupOfW (mVar 2)) (mNil)))))))) (sRet true (mBin ixW true (mBin (addW true) true (mVar 8) (mArgs (lstW true) (mCons (mC .non) (mCons (mVar 3) (mCons (mDisp1 (mC (.int 0)) (mVar 3)) (mCons (mBin (mulW false) true (mArgs (lstW false) (mCons (mArgs (lstW false) (mNil)) (mNil))) (mC (.int 6))) (mCons (mBin (mulW false) true (mArgs (lstW false) (mCons (mArgs (lstW false) (mNil)) (mNil))) (mC (.int 7))) (mNil)))))))) (mCall f__law_take 2 (Sm.bind (mVar 0) fun _ => rIo 0 (rVal (mC (.int 10)) (rNil))))))
theorem sp_eq2 : b__law_spoilt = sSeq sp0 (sSeq sp1 (sAli 2 3 (pI 2 (pV 2) (mVar 4)) (fun p => sSeq (sBor 2 3 spx0 p) ((sIfB 2 3 spx1 (fun p => sSeq (sBor 2 3 spx2 p) ((fun p => sSeq (sBor 2 3 spx3 p) ((fun _ => sRet true (mMove 2)) p)) p)) (sIfB 2 3 spx4 (fun p => sSeq (sBor 2 3 spx5 p) ((fun p => sSeq (sBor 2 3 spx6 p) ((fun _ => sRet true (mMove 2)) p)) p)) (sIfB 2 3 spx7 (sFzA 2 3 spx8) (sFzA 2 3 spx9)))) p)))) := rfl
theorem sp0_ok (P : W) (rs : List (List Th)) (hl : rs.length ≤ 6) : sp0 [P, .lst false (rs.map encR), .dead, .dead, .dead, .dead, .dead, .dead, .dead] = .ok .nx [P, .lst false (rs.map encR), .nst (rs.map ownR), .dead, .dead, .dead, .dead, .dead, .dead] := by
  have lg := line_ge
  have h := compN_map (f := tgN 3) (tt := Sm.ret true) (te := mUn (listOfW true) (mVar 3)) (vs := [3]) (mi := iLst (mVar 1)) (env := [P, .lst false (rs.map encR), .dead, .dead, .dead, .dead, .dead, .dead, .dead]) encR ownR (xs := rs) (by simp_arith []) (by omega) (fun r hr => ⟨[P, .lst false (rs.map encR), .dead, encR r, .dead, .dead, .dead, .dead, .dead], rfl, rfl, [P, .lst false (rs.map encR), .dead, encR r, .dead, .dead, .dead, .dead, .dead], by unfold encR; simp_arith [], rfl⟩)
  unfold sp0 c__law_spoilt_1
  rw [r_set, h]
  rfl
theorem own_get {rs : List (List Th)} {h : Nat} {r : List Th} (e : rs[h]? = some r) : (rs.map ownR)[h]? = some (ownR r) := by rw [List.getElem?_map, e]; rfl
theorem ali_ok {m : List Nat → Sm Fl} {P R : W} {rs : List (List Th)} {h : Nat} {r : List Th} (e : rs[h]? = some r) : sAli 2 3 (pI 2 (pV 2) (mVar 4)) m [P, R, .nst (rs.map ownR), .dead, .int (h : Int), .dead, .dead, .dead, .dead] = m [h] [P, R, .nst (rs.map ownR), .dead, .int (h : Int), .dead, .dead, .dead, .dead] := by
  have hl : h < (rs.map ownR).length := by rw [List.length_map]; exact (List.getElem?_eq_some_iff.mp e).1
  have g : getP (.nst (rs.map ownR)) [h] = some (ownR r) := by
    unfold getP
    show (match (rs.map ownR)[h]? with | some x => getP x [] | none => none) = _
    rw [own_get e]
    rfl
  have p : pI 2 (pV 2) (mVar 4) [P, R, .nst (rs.map ownR), .dead, .int (h : Int), .dead, .dead, .dead, .dead] = .ok [h] [P, R, .nst (rs.map ownR), .dead, .int (h : Int), .dead, .dead, .dead, .dead] := by
    unfold pI
    rw [r_bind]
    have q : pV 2 [P, R, .nst (rs.map ownR), .dead, .int (h : Int), .dead, .dead, .dead, .dead] = .ok [] [P, R, .nst (rs.map ownR), .dead, .int (h : Int), .dead, .dead, .dead, .dead] := rfl
    rw [q]
    dsimp only
    have nd : nodeAt 2 [] [P, R, .nst (rs.map ownR), .dead, .int (h : Int), .dead, .dead, .dead, .dead] = some (.nst (rs.map ownR)) := rfl
    rw [nd]
    dsimp only
    have v4 : mVar 4 [P, R, .nst (rs.map ownR), .dead, .int (h : Int), .dead, .dead, .dead, .dead] = .ok (.int (h : Int)) [P, R, .nst (rs.map ownR), .dead, .int (h : Int), .dead, .dead, .dead, .dead] := rfl
    rw [v4]
    dsimp only
    rw [ixN_nat hl]
    rfl
  unfold sAli
  rw [p]
  show (match (if true = true then getP (.nst (rs.map ownR)) [h] else none) with | some _ => _ | none => _) = _
  rw [if_pos rfl, g]
  rfl
end Ev

namespace Ev
open PySem PySem.Spec L2
local macro_rules
  | `(tactic| simp_arith [$ls,*] $[$l:location]?) => `(tactic| simp only [↓r_bind, ↓r_ret, ↓r_lft, ↓r_c, ↓r_var2, ↓r_move, ↓r_un, ↓r_bin, ↓r_chain, ↓r_toB, ↓r_ofB, ↓r_and, ↓r_or, ↓r_not, ↓r_nil, ↓r_cons, ↓r_args, ↓r_iargs, ↓r_ilst, ↓r_part, ↓r_no, ↓r_slice, ↓r_callP, ↓r_rnil, ↓r_rval, ↓r_rvalX, ↓r_pick, pas_str, pas_int, pas_bl, pas_non, pas_tup, pas_lst, pas_edc, pick_edc, ↓r_rio, ↓r_call, ↓r_callL, ↓r_fz, ↓r_seq, ↓r_snil, ↓r_if, ↓r_drop, ↓r_sret, ↓r_set, ↓r_asg, ↓r_aug, ↓r_sfor, ↓r_mut, ↓r_sto, ↓r_go, ↓r_gfz, ↓r_push, ↓r_gfzD, ↓r_fzD,  ↓r_raise, ↓r_try, ↓r_itup, ↓r_iseq, ↓r_andV, ↓r_orV, ↓r_notV, ↓r_fn, ↓r_meth, ↓r_augS, ↓r_ichr, ↓r_pair, ↓r_mutN, ↓r_mutT, ↓r_app, ↓r_gfzC, ↓r_callO, ↓r_asgN, ↓r_takeK, pick_nst, pick_ntp, w_strL, w_zip3, ↓r_dnew, ↓r_key1, ↓r_keyT, ↓r_dget, ↓r_dget2, ↓r_dput, ↓r_mutP, ↓r_mutKP, ↓r_stoP, ↓r_stoN, ↓r_dputP, ↓r_fldP, ↓r_callM, ↓r_makeL, ↓r_gfzK, ↓r_gfzP, ↓r_dpopP, ↓r_augP, ↓r_forP, ↓r_chainI, ↓r_callT, ↓r_ikeys, ↓r_keyCut, w_keyI, w_keyS, w_keyT2, w_lookT, w_lookK, w_lookDT, w_lookDK, w_dputT, w_dputK, w_dkeysT, w_dkeysK, isDW_dct, frz_dct, pick_dct, w_geX, ty_str, and_self,
      maskL_nil, maskL_cons, frz_non, frz_bl, frz_int, frz_str, frz_tup, frz_lst, frz_scr, fz_lst, fz_int, fz_tup, fz_str, fz_bl, w_lst, w_tup, w_add, w_addL, w_addB, w_sub, w_mul, w_rep, w_fdiv, w_mod, w_pow, w_neg, w_lt, w_le, w_ge, w_gt, w_bl, w_intW, w_toI, w_toB, w_max2, w_min2, w_abs, w_lenL, w_lenC, w_lenT, w_listL, w_listC, w_listT, w_tupL, w_rev, w_ixL, w_ixC, w_ixT, w_cutL, w_cutC, w_frzL, w_frzC, w_rng1, w_rng2, w_enum, w_enumC, w_zip, w_app, w_ext, w_pop, w_sum, w_isx, w_isiI, w_isiB, w_tgN, w_tgT, w_killN, w_killC, w_takeN, w_takeV, w_takeI, w_putI, w_putV, w_putN, w_lendN, w_lendV, w_lendI, flat_bl, flat_int, flat_non,
      pick_non, pick_bl, pick_int, pick_str, pick_tup, pick_lst, pick_scr, pick_exc, pick_T, pick_R, pick_N, frzT, frzR, frzN, w_seqL, w_seqT, w_seqC, w_zipT, w_zipA, w_tupLt, w_leX, eqW_int, neW_int, eqW_nil, neW_nil, eqW_str, neW_str, List.cons_append, List.nil_append, List.length_cons, List.length_nil, List.replicate_succ, List.replicate_zero, List.getElem?_cons_zero, List.getElem?_cons_succ, List.set_cons_zero, List.set_cons_succ, List.length_map, Option.map_some, Option.bind_some, cond_true, cond_false, Bool.true_or, Bool.or_true, Bool.false_or, Bool.or_false, Bool.not_true, Bool.not_false, Bool.true_and, Bool.false_and, Nat.reduceSub, Nat.reduceAdd, Nat.reduceLeDiff, ↓reduceIte, if_true, if_false, reduceCtorEq, decide_true, decide_false, decide_eq_true_eq, Nat.zero_add, Nat.add_zero, $ls,*] $[$l]?)
open TL
/-! ### spoilt rows: the ways -/
def SpD (b c : Int) (R : W) (o : Out Fl) : Prop := ∃ (a' c' : Int) (w x2 x3 x4 x5 x6 x7 x8 : W), 0 ≤ c' ∧ c' ≤ c + 10 ∧ w.fzOk = true ∧ Gd 5 w.fzD ∧ o = .ok (.rt w) [pl a' b c', R, x2, x3, x4, x5, x6, x7, x8]
theorem own_set_good {rs : List (List Th)} (hr : ∀ r ∈ rs, RwOk r) (hl : rs.length ≤ 6) (h : Nat) {zs : List W} (zl : zs.length ≤ 1000) (zg : GL 2 zs) : (W.nst ((rs.map ownR).set h (.lst true zs))).fzOk = true ∧ Gd 5 (W.nst ((rs.map ownR).set h (.lst true zs))).fzD := by
  have z := nst_good (ws := (rs.map ownR).set h (.lst true zs)) (by
    intro x hx
    rcases List.mem_or_eq_of_mem_set hx with hx | rfl
    · obtain ⟨r, m, rfl⟩ := List.mem_map.mp hx
      have k := hr r m
      exact ⟨_, rfl, by rw [List.length_map]; have := k.len; omega, gl_up k.gl (by omega)⟩
    · exact ⟨zs, rfl, zl, zg⟩) (by rw [List.length_set, List.length_map]; omega)
  exact ⟨z.1, z.2.up⟩
theorem gl_set {n : Nat} {ws : List W} {y : W} (h : GL n ws) (hy : Gd n y) (k : Nat) : GL n (ws.set k y) := by
  intro x hx
  rcases List.mem_or_eq_of_mem_set hx with hx | rfl
  · exact h x hx
  · exact hy
theorem gl_take {n : Nat} {ws : List W} (h : GL n ws) (k : Nat) : GL n (ws.take k) := fun x hx => h x (List.mem_of_mem_take hx)
theorem gl_drop {n : Nat} {ws : List W} (h : GL n ws) (k : Nat) : GL n (ws.drop k) := fun x hx => h x (List.mem_of_mem_drop hx)
theorem gl_cut {n : Nat} {ws : List W} (h : GL n ws) (lo hi : Option Int) : GL n (cutL ws lo hi) := by
  unfold cutL
  exact gl_take (gl_drop h _) _
theorem cutL_le (ws : List W) (lo hi : Option Int) : (cutL ws lo hi).length ≤ ws.length := by
  unfold cutL
  rw [List.length_take, List.length_drop]
  omega
theorem row_nd (r : List Th) : (encR r).nd = true ∧ (encR r).dat.depth ≤ 40 := by
  have k := EncOk.lst (EncOk.pair EncOk.int EncOk.str)
  have e : encR r = (fun xs : List (Int × Str) => W.lst false (xs.map fun p : Int × Str => W.tup [.int p.1, .str p.2])) r := rfl
  rw [e]
  exact ⟨(k.eqv r r).mpr rfl, Nat.le_trans (k.dep r) (by decide)⟩
section
variable {rs : List (List Th)} {h : Nat} {r : List Th} (e : rs[h]? = some r) (hr : ∀ r ∈ rs, RwOk r) (hl : rs.length ≤ 6) (R : W)
include e in
theorem spA_ok (a b c : Int) (hb : b = 0 ∨ b = 1) (c0 : 0 ≤ c) (c1 : c ≤ 900000) : ∃ (a' c' v : Int), 0 ≤ v ∧ v < 8 ∧ 0 ≤ c' ∧ c' ≤ c + 1 ∧ sBor 2 3 spx0 [h] [pl a b c, R, .nst (rs.map ownR), .dead, .int (h : Int), .dead, .dead, .dead, .dead] = .ok .nx [pl a' b c', R, .nst (rs.map ownR), .dead, .int (h : Int), .int v, .dead, .dead, .dead] := by
  obtain ⟨v, a1, d1, v0, v1, p1, p2, p3⟩ := e_take a b c 8 hb c0 (by omega) (by omega) (by omega)
  refine ⟨a1, d1, v, v0, v1, by omega, by omega, ?_⟩
  have hm : spx0 [pl a b c, R, .dead, ownR r, .int (h : Int), .dead, .dead, .dead, .dead] = .ok .nx [pl a1 b d1, R, .dead, ownR r, .int (h : Int), .int v, .dead, .dead, .dead] := by
    unfold spx0
    simp_arith [p3]
  have z := bor_ok (i := 2) (j := 3) (env := [pl a b c, R, .nst (rs.map ownR), .dead, .int (h : Int), .dead, .dead, .dead, .dead]) rfl (own_get e) hm rfl rfl
  rw [set_self (own_get e)] at z
  exact z
theorem spc1_ok (P : W) (v : Int) : spx1 [P, R, .dead, ownR r, .int (h : Int), .int v, .dead, .dead, .dead] = .ok (decide (v < 5) && !decide (r = [])) [P, R, .dead, ownR r, .int (h : Int), .int v, .dead, .dead, .dead] := by
  have en : decide (r.map encT = []) = decide (r = []) := by
    rw [Bool.eq_iff_iff, decide_eq_true_eq, decide_eq_true_eq, List.map_eq_nil_iff]
  unfold spx1
  by_cases c : v < 5
  · have h0 : 0 ≤ sizeLine := Nat.zero_le _
    simp_arith [c, h0, en]
  · simp_arith [c]
theorem spc4_ok (P : W) (v : Int) : spx4 [P, R, .dead, ownR r, .int (h : Int), .int v, .dead, .dead, .dead] = .ok (decide (v = 5)) [P, R, .dead, ownR r, .int (h : Int), .int v, .dead, .dead, .dead] := by
  unfold spx4
  simp_arith []
theorem spc7_ok (P : W) (v : Int) : spx7 [P, R, .dead, ownR r, .int (h : Int), .int v, .dead, .dead, .dead] = .ok (decide (v = 6)) [P, R, .dead, ownR r, .int (h : Int), .int v, .dead, .dead, .dead] := by
  unfold spx7
  simp_arith []
include e hr hl in
theorem spB_ok (a b c : Int) (hb : b = 0 ∨ b = 1) (c0 : 0 ≤ c) (c1 : c ≤ 700000) (v : Int) (ne : r ≠ []) : SpD b c R (noNx ((sSeq (sBor 2 3 spx2 [h]) (sSeq (sBor 2 3 spx3 [h]) (sRet true (mMove 2)))) [pl a b c, R, .nst (rs.map ownR), .dead, .int (h : Int), .int v, .dead, .dead, .dead])) := by
  have lg := line_ge
  have rm : r ∈ rs := List.mem_of_getElem? e
  have ro := hr r rm
  have len := ro.len
  have pos : 0 < r.length := List.length_pos_iff.mpr ne
  obtain ⟨u, a1, d1, u0, u1, p1, p2, p3⟩ := e_take a b c (r.length : Int) hb c0 (by omega) (by omega) (by omega)
  obtain ⟨k, rfl⟩ : ∃ k : Nat, u = (k : Int) := ⟨u.toNat, by omega⟩
  have kl : k < r.length := by omega
  obtain ⟨t, et⟩ : ∃ t, r[k]? = some t := ⟨_, List.getElem?_eq_getElem kl⟩
  have tm : t ∈ r := List.mem_of_getElem? et
  obtain ⟨kb, t1, t8, _⟩ := ro.ok t tm
  obtain ⟨a2, d2, y, q1, q2, gy, q3⟩ := e_bad t.1 t.2 kb t1 t8 a1 b d1 hb (by omega) (by omega)
  have fy := gy.fz
  have s1 : sBor 2 3 spx2 [h] [pl a b c, R, .nst (rs.map ownR), .dead, .int (h : Int), .int v, .dead, .dead, .dead] = .ok .nx [pl a1 b d1, R, .nst (rs.map ownR), .dead, .int (h : Int), .int v, .int (k : Int), .dead, .dead] := by
    have hm : spx2 [pl a b c, R, .dead, ownR r, .int (h : Int), .int v, .dead, .dead, .dead] = .ok .nx [pl a1 b d1, R, .dead, ownR r, .int (h : Int), .int v, .int (k : Int), .dead, .dead] := by
      unfold spx2
      simp_arith [p3]
    have z := bor_ok (i := 2) (j := 3) (env := [pl a b c, R, .nst (rs.map ownR), .dead, .int (h : Int), .int v, .dead, .dead, .dead]) rfl (own_get e) hm rfl rfl
    rw [set_self (own_get e)] at z
    exact z
  have s2 : sBor 2 3 spx3 [h] [pl a1 b d1, R, .nst (rs.map ownR), .dead, .int (h : Int), .int v, .int (k : Int), .dead, .dead] = .ok .nx [pl a2 b d2, R, .nst ((rs.map ownR).set h (.lst true ((r.map encT).set k y))), .dead, .int (h : Int), .int v, .int (k : Int), .dead, .dead] := by
    have ex : ∀ b, ixW (.lst b (r.map encT)) (.int (k : Int)) = some (.tup [.int t.1, .str t.2]) := fun b => by
      rw [w_ixL, atI_nat, List.getElem?_map, et]
      rfl
    have ek : ixN (r.map encT).length (k : Int) = some k := ixN_nat (by rw [List.length_map]; exact kl)
    have e0 : ixW (.tup [.int t.1, .str t.2]) (.int 0) = some (.int t.1) := rfl
    have e1 : ixW (.tup [.int t.1, .str t.2]) (.int 1) = some (.str t.2) := rfl
    have hm : spx3 [pl a1 b d1, R, .dead, ownR r, .int (h : Int), .int v, .int (k : Int), .dead, .dead] = .ok .nx [pl a2 b d2, R, .dead, .lst true ((r.map encT).set k y), .int (h : Int), .int v, .int (k : Int), .dead, .dead] := by
      unfold spx3
      simp_arith [-List.length_map, ↓ex, ↓e0, ↓e1, q3, fy, r_stoAt, ↓ek]
    exact bor_ok (i := 2) (j := 3) (env := [pl a1 b d1, R, .nst (rs.map ownR), .dead, .int (h : Int), .int v, .int (k : Int), .dead, .dead]) rfl (own_get e) hm rfl rfl
  obtain ⟨g1, g2⟩ := own_set_good hr hl h (zs := (r.map encT).set k y) (by rw [List.length_set, List.length_map]; omega) (gl_set (gl_up ro.gl (by omega)) gy k)
  refine ⟨a2, d2, _, .dead, .dead, .int (h : Int), .int v, .int (k : Int), .dead, .dead, by omega, by omega, g1, g2, ?_⟩
  rw [r_seq, s1]
  dsimp only
  rw [r_seq, s2]
  rfl
include e hr hl in
theorem spC_ok (a b c : Int) (hb : b = 0 ∨ b = 1) (c0 : 0 ≤ c) (c1 : c ≤ 700000) (v : Int) : SpD b c R (noNx ((sSeq (sBor 2 3 spx5 [h]) (sSeq (sBor 2 3 spx6 [h]) (sRet true (mMove 2)))) [pl a b c, R, .nst (rs.map ownR), .dead, .int (h : Int), .int v, .dead, .dead, .dead])) := by
  have lg := line_ge
  have rm : r ∈ rs := List.mem_of_getElem? e
  have ro := hr r rm
  have len := ro.len
  have h0 : 0 ≤ sizeLine := Nat.zero_le _
  have h2 : 2 ≤ sizeLine := by omega
  have h8 : 8 ≤ sizeLine := by omega
  obtain ⟨u, a1, d1, u0, u1, p1, p2, p3⟩ := e_take a b c 8 hb c0 (by omega) (by omega) (by omega)
  have g8 : GL 2 [.non, .tup [], .lst false [], .str "a", .int 0, .tup [.int 1, .int 2], .tup [.str "a", .str "a"], .edc] := gl_cons g_n (gl_cons (g_t gl_nil) (gl_cons (g_l gl_nil) (gl_cons (g_s _ (by decide)) (gl_cons (g_i _) (gl_cons (g_t (gl_cons (g_i _) (gl_cons (g_i _) gl_nil))) (gl_cons (g_t (gl_cons (g_s _ (by decide)) (gl_cons (g_s _ (by decide)) gl_nil))) (gl_cons g_e gl_nil)))))))
  obtain ⟨o, eo, go⟩ := ix_gl false g8 u0 u1
  have fo := go.fz
  have po := go.pk
  have fe : W.edc.frz = true := rfl
  obtain ⟨u2, a2, d2, w0, w1, p4, p5, p6⟩ := e_take a1 b d1 ((r.length : Int) + 1) hb (by omega) (by omega) (by omega) (by omega)
  have s1 : sBor 2 3 spx5 [h] [pl a b c, R, .nst (rs.map ownR), .dead, .int (h : Int), .int v, .dead, .dead, .dead] = .ok .nx [pl a1 b d1, R, .nst (rs.map ownR), .dead, .int (h : Int), .int v, .dead, o, .dead] := by
    have hm : spx5 [pl a b c, R, .dead, ownR r, .int (h : Int), .int v, .dead, .dead, .dead] = .ok .nx [pl a1 b d1, R, .dead, ownR r, .int (h : Int), .int v, .dead, o, .dead] := by
      unfold spx5
      simp_arith [p3, fe, h0, h2, h8, ↓eo]
    have z := bor_ok (i := 2) (j := 3) (env := [pl a b c, R, .nst (rs.map ownR), .dead, .int (h : Int), .int v, .dead, .dead, .dead]) rfl (own_get e) hm rfl rfl
    rw [set_self (own_get e)] at z
    exact z
  have fi : fInsert (r.map encT) [.int u2, o] = some (.non, (r.map encT).take u2.toNat ++ [o] ++ (r.map encT).drop u2.toNat) := if_pos ⟨by rw [List.length_map]; omega, w0, by omega⟩
  have s2 : sBor 2 3 spx6 [h] [pl a1 b d1, R, .nst (rs.map ownR), .dead, .int (h : Int), .int v, .dead, o, .dead] = .ok .nx [pl a2 b d2, R, .nst ((rs.map ownR).set h (.lst true ((r.map encT).take u2.toNat ++ [o] ++ (r.map encT).drop u2.toNat))), .dead, .int (h : Int), .int v, .dead, o, .dead] := by
    have hm : spx6 [pl a1 b d1, R, .dead, ownR r, .int (h : Int), .int v, .dead, o, .dead] = .ok .nx [pl a2 b d2, R, .dead, .lst true ((r.map encT).take u2.toNat ++ [o] ++ (r.map encT).drop u2.toNat), .int (h : Int), .int v, .dead, o, .dead] := by
      unfold spx6
      simp_arith [p6, po, fo, ↓fi]
    exact bor_ok (i := 2) (j := 3) (env := [pl a1 b d1, R, .nst (rs.map ownR), .dead, .int (h : Int), .int v, .dead, o, .dead]) rfl (own_get e) hm rfl rfl
  have gr : GL 2 (r.map encT) := gl_up ro.gl (by omega)
  obtain ⟨g1, g2⟩ := own_set_good hr hl h (zs := (r.map encT).take u2.toNat ++ [o] ++ (r.map encT).drop u2.toNat) (by rw [List.length_append, List.length_append, List.length_take, List.length_drop, List.length_map, List.length_singleton]; omega) (gl_app (gl_app (gl_take gr _) (gl_cons go gl_nil)) (gl_drop gr _))
  refine ⟨a2, d2, _, .dead, .dead, .int (h : Int), .int v, .dead, o, .dead, by omega, by omega, g1, g2, ?_⟩
  rw [r_seq, s1]
  dsimp only
  rw [r_seq, s2]
  rfl
theorem rows_gl (hr : ∀ r ∈ rs, RwOk r) : GL 2 (rs.map encR) := by
  intro x hx
  obtain ⟨r, m, rfl⟩ := List.mem_map.mp hx
  exact (hr r m).gd
include e hr hl in
theorem spD_ok (a b c : Int) (hb : b = 0 ∨ b = 1) (c0 : 0 ≤ c) (c1 : c ≤ 700000) (v : Int) : SpD b c R (noNx ((sFzA 2 3 spx8 [h]) [pl a b c, R, .nst (rs.map ownR), .dead, .int (h : Int), .int v, .dead, .dead, .dead])) := by
  have lg := line_ge
  have rm : r ∈ rs := List.mem_of_getElem? e
  have ro := hr r rm
  have len := ro.len
  have hlt : h < rs.length := (List.getElem?_eq_some_iff.mp e).1
  have h1 : 1 ≤ sizeLine := by omega
  have h2 : 2 ≤ sizeLine := by omega
  have h8 : 8 ≤ sizeLine := by omega
  obtain ⟨f1, f2⟩ := own_fz rs
  have gx : (fzDs (rs.map ownR))[h]? = some (encR r) := by rw [f2, List.getElem?_map, e]; rfl
  rw [fzA_ok (i := 2) (j := 3) (env := [pl a b c, R, .nst (rs.map ownR), .dead, .int (h : Int), .int v, .dead, .dead, .dead]) rfl f1 gx, f2]
  simp only [List.set_cons_succ, List.set_cons_zero]
  obtain ⟨u, a1, d1, u0, u1, p1, p2, p3⟩ := e_take a b c 8 hb c0 (by omega) (by omega) (by omega)
  obtain ⟨F, eF, gF⟩ := dict_row r
  have fF := (gF 0).fz
  have g8 : GL 3 [.tup (r.map encT), .non, .edc, .str "", .int 0, .tup [.int 1, .str "a"], .lst false [encR r], F] := gl_cons (g_t (gl_up ro.gl (by omega)) (by rw [List.length_map]; omega)) (gl_cons g_n (gl_cons g_e (gl_cons (g_s _ (by decide)) (gl_cons (g_i _) (gl_cons (g_t (gl_cons (g_i _) (gl_cons (g_s _ (by decide)) gl_nil))) (gl_cons (g_l (gl_cons ro.gd gl_nil)) (gl_cons (gF _) gl_nil)))))))
  obtain ⟨o, eo, go⟩ := ix_gl false g8 u0 u1
  have fo := go.fz
  have fe : W.edc.frz = true := rfl
  have tu : tupOfW (.lst false (r.map encT)) = some (.tup (r.map encT)) := rfl
  have ek : ixN (rs.map encR).length (h : Int) = some h := ixN_nat (by rw [List.length_map]; exact hlt)
  have s1 : spx8 [pl a b c, R, .lst true (rs.map encR), encR r, .int (h : Int), .int v, .dead, .dead, .dead] = .ok (.rt (.lst true ((rs.map encR).set h o))) [pl a1 b d1, R, .dead, encR r, .int (h : Int), .int v, .dead, .dead, .dead] := by
    unfold spx8
    unfold encR at eF eo ek ⊢
    simp_arith [-List.length_map, p3, fe, fF, h1, h2, h8, ↓tu, ↓eF, ↓eo, fo, r_stoAt, ↓ek]
  refine ⟨a1, d1, .lst true ((rs.map encR).set h o), .dead, encR r, .int (h : Int), .int v, .dead, .dead, .dead, by omega, by omega, rfl, ?_, ?_⟩
  · exact (g_l (gl_set (gl_up (rows_gl hr) (by omega)) go h) (by rw [List.length_set, List.length_map]; omega)).up
  · rw [s1]
    rfl
include e hr hl in
theorem spE_ok (a b c : Int) (hb : b = 0 ∨ b = 1) (c0 : 0 ≤ c) (c1 : c ≤ 700000) (v : Int) : SpD b c R ((sFzA 2 3 spx9 [h]) [pl a b c, R, .nst (rs.map ownR), .dead, .int (h : Int), .int v, .dead, .dead, .dead]) := by
  have lg := line_ge
  have rm : r ∈ rs := List.mem_of_getElem? e
  have ro := hr r rm
  have len := ro.len
  have h0 : 0 ≤ sizeLine := Nat.zero_le _
  have h1 : 1 ≤ sizeLine := by omega
  have h5 : 5 ≤ sizeLine := by omega
  obtain ⟨f1, f2⟩ := own_fz rs
  have gx : (fzDs (rs.map ownR))[h]? = some (encR r) := by rw [f2, List.getElem?_map, e]; rfl
  rw [fzA_ok (i := 2) (j := 3) (env := [pl a b c, R, .nst (rs.map ownR), .dead, .int (h : Int), .int v, .dead, .dead, .dead]) rfl f1 gx, f2]
  simp only [List.set_cons_succ, List.set_cons_zero]
  obtain ⟨u, a1, d1, u0, u1, p1, p2, p3⟩ := e_take a b c 10 hb c0 (by omega) (by omega) (by omega)
  have gR := rows_gl (rs := rs) hr
  have rl : (rs.map encR).length ≤ 6 := by rw [List.length_map]; exact hl
  have k1 := cutL_le (rs.map encR) none (some (h : Int))
  have k2 := cutL_le (rs.map encR) (some ((h : Int) + 1)) none
  have gw := ro.gd
  obtain ⟨w, ew⟩ : ∃ w, w = encR r := ⟨_, rfl⟩
  obtain ⟨ws, es⟩ : ∃ ws, ws = rs.map encR := ⟨_, rfl⟩
  have nw := row_nd r
  rw [← ew] at gw nw ⊢
  rw [← es] at gR rl k1 k2 ⊢
  have fw := gw.fz
  have pw := gw.pk
  obtain ⟨F, eF⟩ : ∃ F, F = W.fdc [.inl 0] [w] := ⟨_, rfl⟩
  have gF : Gd 3 F := by
    rw [eF]
    exact leaf_up (w := .fdc [.inl 0] [w]) (by
      intro x hx
      rw [List.mem_singleton.mp hx]
      exact nw) 3
  have fF := gF.fz
  have dsp : ∀ (P y : W), mDisp1 (mC (.int 0)) (mVar 3) [P, R, .lst true ws, w, .int (h : Int), .int v, .dead, .dead, y] = .ok F [P, R, .lst true ws, w, .int (h : Int), .int v, .dead, .dead, y] := fun P y => by
    rw [eF]
    unfold mDisp1
    simp_arith [pw]
    exact if_pos fw
  have a1' : addW false (.lst false (cutL ws none (some (h : Int)))) (.lst false (cutL ws (some ((h : Int) + 1)) none)) = some (.lst false (cutL ws none (some (h : Int)) ++ cutL ws (some ((h : Int) + 1)) none)) := by rw [w_addL, if_pos (by omega)]
  have a2' : addW false (.lst true ws) (.lst false [w]) = some (.lst false (ws ++ [w])) := by rw [w_addL, if_pos (by rw [List.length_singleton]; omega)]
  have a3' : addW false (.lst true ws) (.lst false [.lst false [], .lst false [], .lst false [], .lst false [], .lst false [], .lst false []]) = some (.lst false (ws ++ [.lst false [], .lst false [], .lst false [], .lst false [], .lst false [], .lst false []])) := by rw [w_addL, if_pos (by show ws.length + 6 ≤ sizeLine; omega)]
  have tu : tupOfW (.lst true ws) = some (.tup ws) := rfl
  have r6 := rep6 (.lst false [])
  have r7 := rep7 (.lst false [])
  obtain ⟨L1, e1⟩ : ∃ L, L = cutL ws none (some (h : Int)) ++ cutL ws (some ((h : Int) + 1)) none := ⟨_, rfl⟩
  obtain ⟨L2, e2⟩ : ∃ L, L = ws ++ [w] := ⟨_, rfl⟩
  obtain ⟨L3, e3⟩ : ∃ L : List W, L = ws ++ [.lst false [], .lst false [], .lst false [], .lst false [], .lst false [], .lst false []] := ⟨_, rfl⟩
  have ge : Gd 2 (.lst false []) := g_l gl_nil
  have g1 : Gd 3 (.lst false L1) := by rw [e1]; exact g_l (gl_app (gl_cut gR _ _) (gl_cut gR _ _)) (by rw [List.length_append]; omega)
  have g2 : Gd 3 (.lst false L2) := by rw [e2]; exact g_l (gl_app gR (gl_cons gw gl_nil)) (by rw [List.length_append, List.length_singleton]; omega)
  have g3 : Gd 3 (.lst false L3) := by rw [e3]; exact g_l (gl_app gR (gl_cons ge (gl_cons ge (gl_cons ge (gl_cons ge (gl_cons ge (gl_cons ge gl_nil))))))) (by rw [List.length_append]; show ws.length + 6 ≤ 100; omega)
  have g4 : Gd 3 (.tup ws) := g_t gR (by omega)
  rw [← e1] at a1'
  rw [← e2] at a2'
  rw [← e3] at a3'
  have g10 : GL 3 [.lst false L1, .lst false L2, .lst false L3, .lst false [], .tup ws, .non, w, F, .lst false [.lst false [], .lst false [], .lst false [], .lst false [], .lst false [], .lst false []], .lst false [.lst false [], .lst false [], .lst false [], .lst false [], .lst false [], .lst false [], .lst false []]] := gl_cons g1 (gl_cons g2 (gl_cons g3 (gl_cons (g_l gl_nil) (gl_cons g4 (gl_cons g_n (gl_cons gw.up (gl_cons gF (gl_cons (g_l (gl_cons ge (gl_cons ge (gl_cons ge (gl_cons ge (gl_cons ge (gl_cons ge gl_nil))))))) (gl_cons (g_l (gl_cons ge (gl_cons ge (gl_cons ge (gl_cons ge (gl_cons ge (gl_cons ge (gl_cons ge gl_nil)))))))) gl_nil)))))))))
  obtain ⟨o, eo, go⟩ := ix_gl true g10 u0 u1
  have ad : addW true (.lst false [.lst false L1, .lst false L2, .lst false L3, .lst false [], .tup ws]) (.lst true [.non, w, F, .lst false [.lst false [], .lst false [], .lst false [], .lst false [], .lst false [], .lst false []], .lst false [.lst false [], .lst false [], .lst false [], .lst false [], .lst false [], .lst false [], .lst false []]]) = some (.lst true [.lst false L1, .lst false L2, .lst false L3, .lst false [], .tup ws, .non, w, F, .lst false [.lst false [], .lst false [], .lst false [], .lst false [], .lst false [], .lst false []], .lst false [.lst false [], .lst false [], .lst false [], .lst false [], .lst false [], .lst false [], .lst false []]]) := by
    rw [w_addL, if_pos (by show 5 + 5 ≤ sizeLine; omega)]
    rfl
  have s1 : spx9 [pl a b c, R, .lst true ws, w, .int (h : Int), .int v, .dead, .dead, .dead] = .ok (.rt o) [pl a1 b d1, R, .lst true ws, w, .int (h : Int), .int v, .dead, .dead, .lst false [.lst false L1, .lst false L2, .lst false L3, .lst false [], .tup ws]] := by
    unfold spx9
    simp_arith [p3, pw, fw, fF, h0, h1, h5, ↓tu, ↓r6, ↓r7, ↓a1', ↓a2', ↓a3', ↓dsp, ↓ad, ↓eo]
  obtain ⟨q1, q2⟩ := go.fzk
  exact ⟨a1, d1, o, .lst true ws, w, .int (h : Int), .int v, .dead, .dead, _, by omega, by omega, q1, by rw [q2]; exact go.le (by omega), s1⟩
end
/-- the spoilt ones are things that may be handed in -/
theorem e_spoilt (a b c : Int) (hb : b = 0 ∨ b = 1) (c0 : 0 ≤ c) (c1 : c ≤ 600000) (rs : List (List Th)) (hr : ∀ r ∈ rs, RwOk r) (h1 : 1 ≤ rs.length) (hl : rs.length ≤ 6) : ∃ (a' c' : Int) (w : W), 0 ≤ c' ∧ c' ≤ c + 20 ∧ w.fzOk = true ∧ Gd 5 w.fzD ∧ f__law_spoilt [pl a b c, .lst false (rs.map encR)] = .ok w [pl a' b c', .dead] := by
  have lg := line_ge
  have s0 := sp0_ok (pl a b c) rs hl
  obtain ⟨u, a1, d1, u0, u1, p1, p2, p3⟩ := e_take a b c (rs.length : Int) hb c0 (by omega) (by omega) (by omega)
  obtain ⟨h, rfl⟩ : ∃ h : Nat, u = (h : Int) := ⟨u.toNat, by omega⟩
  have hh : h < rs.length := by omega
  obtain ⟨r, e⟩ : ∃ r, rs[h]? = some r := ⟨_, List.getElem?_eq_getElem hh⟩
  have ln : lenW (.nst (rs.map ownR)) = some (.int (rs.length : Int)) := by
    show some (W.int ((rs.map ownR).length : Nat)) = _
    rw [List.length_map]
  have s1 : sp1 [pl a b c, .lst false (rs.map encR), .nst (rs.map ownR), .dead, .dead, .dead, .dead, .dead, .dead] = .ok .nx [pl a1 b d1, .lst false (rs.map encR), .nst (rs.map ownR), .dead, .int (h : Int), .dead, .dead, .dead, .dead] := by
    unfold sp1
    simp_arith [ln, p3]
  obtain ⟨a2, d2, v, v0, v1, q1, q2, s2⟩ := spA_ok e (.lst false (rs.map encR)) a1 b d1 hb (by omega) (by omega)
  have b1 := fun (m1 m2 : List Nat → Sm Fl) => ifB_ok (m1 := m1) (m2 := m2) (i := 2) (j := 3) (env := [pl a2 b d2, .lst false (rs.map encR), .nst (rs.map ownR), .dead, .int (h : Int), .int v, .dead, .dead, .dead]) _ rfl (own_get e) (spc1_ok (r := r) (h := h) (.lst false (rs.map encR)) (pl a2 b d2) v)
  have b4 := fun (m1 m2 : List Nat → Sm Fl) => ifB_ok (m1 := m1) (m2 := m2) (i := 2) (j := 3) (env := [pl a2 b d2, .lst false (rs.map encR), .nst (rs.map ownR), .dead, .int (h : Int), .int v, .dead, .dead, .dead]) _ rfl (own_get e) (spc4_ok (r := r) (h := h) (.lst false (rs.map encR)) (pl a2 b d2) v)
  have b7 := fun (m1 m2 : List Nat → Sm Fl) => ifB_ok (m1 := m1) (m2 := m2) (i := 2) (j := 3) (env := [pl a2 b d2, .lst false (rs.map encR), .nst (rs.map ownR), .dead, .int (h : Int), .int v, .dead, .dead, .dead]) _ rfl (own_get e) (spc7_ok (r := r) (h := h) (.lst false (rs.map encR)) (pl a2 b d2) v)
  have key : SpD b d2 (.lst false (rs.map encR)) (b__law_spoilt [pl a b c, .lst false (rs.map encR), .dead, .dead, .dead, .dead, .dead, .dead, .dead]) := by
    rw [sp_eq2, r_seq, s0]
    dsimp only
    rw [r_seq, s1]
    dsimp only
    rw [ali_ok e, r_seq, s2]
    dsimp only
    rw [b1]
    by_cases c1 : (decide (v < 5) && !decide (r = [])) = true
    · rw [if_pos c1]
      rw [Bool.and_eq_true, Bool.not_eq_true', decide_eq_false_iff_not] at c1
      exact spB_ok e hr hl _ a2 b d2 hb (by omega) (by omega) v c1.2
    · rw [if_neg c1, b4]
      by_cases c4 : decide (v = 5) = true
      · rw [if_pos c4]
        exact spC_ok e hr hl _ a2 b d2 hb (by omega) (by omega) v
      · rw [if_neg c4, b7]
        by_cases c7 : decide (v = 6) = true
        · rw [if_pos c7]
          exact spD_ok e hr hl _ a2 b d2 hb (by omega) (by omega) v
        · rw [if_neg c7]
          exact spE_ok e hr hl _ a2 b d2 hb (by omega) (by omega) v
  obtain ⟨a3, d3, w, x2, x3, x4, x5, x6, x7, x8, q3, q4, q5, q6, q7⟩ := key
  refine ⟨a3, d3, w, q3, by omega, q5, q6, ?_⟩
  unfold f__law_spoilt fnSem
  simp_arith [q7]
end Ev

namespace Ev
open PySem PySem.Spec L2
local macro_rules
  | `(tactic| simp_arith [$ls,*] $[$l:location]?) => `(tactic| simp only [↓r_bind, ↓r_ret, ↓r_lft, ↓r_c, ↓r_var2, ↓r_move, ↓r_un, ↓r_bin, ↓r_chain, ↓r_toB, ↓r_ofB, ↓r_and, ↓r_or, ↓r_not, ↓r_nil, ↓r_cons, ↓r_args, ↓r_iargs, ↓r_ilst, ↓r_part, ↓r_no, ↓r_slice, ↓r_callP, ↓r_rnil, ↓r_rval, ↓r_rvalX, ↓r_pick, pas_str, pas_int, pas_bl, pas_non, pas_tup, pas_lst, pas_edc, pick_edc, ↓r_rio, ↓r_call, ↓r_callL, ↓r_fz, ↓r_seq, ↓r_snil, ↓r_if, ↓r_drop, ↓r_sret, ↓r_set, ↓r_asg, ↓r_aug, ↓r_sfor, ↓r_mut, ↓r_sto, ↓r_go, ↓r_gfz, ↓r_push, ↓r_gfzD, ↓r_fzD,  ↓r_raise, ↓r_try, ↓r_itup, ↓r_iseq, ↓r_andV, ↓r_orV, ↓r_notV, ↓r_fn, ↓r_meth, ↓r_augS, ↓r_ichr, ↓r_pair, ↓r_mutN, ↓r_mutT, ↓r_app, ↓r_gfzC, ↓r_callO, ↓r_asgN, ↓r_takeK, pick_nst, pick_ntp, w_strL, w_zip3, ↓r_dnew, ↓r_key1, ↓r_keyT, ↓r_dget, ↓r_dget2, ↓r_dput, ↓r_mutP, ↓r_mutKP, ↓r_stoP, ↓r_stoN, ↓r_dputP, ↓r_fldP, ↓r_callM, ↓r_makeL, ↓r_gfzK, ↓r_gfzP, ↓r_dpopP, ↓r_augP, ↓r_forP, ↓r_chainI, ↓r_callT, ↓r_ikeys, ↓r_keyCut, w_keyI, w_keyS, w_keyT2, w_lookT, w_lookK, w_lookDT, w_lookDK, w_dputT, w_dputK, w_dkeysT, w_dkeysK, isDW_dct, frz_dct, pick_dct, w_geX, ty_str, and_self,
      maskL_nil, maskL_cons, frz_non, frz_bl, frz_int, frz_str, frz_tup, frz_lst, frz_scr, fz_lst, fz_int, fz_tup, fz_str, fz_bl, w_lst, w_tup, w_add, w_addL, w_addB, w_sub, w_mul, w_rep, w_fdiv, w_mod, w_pow, w_neg, w_lt, w_le, w_ge, w_gt, w_bl, w_intW, w_toI, w_toB, w_max2, w_min2, w_abs, w_lenL, w_lenC, w_lenT, w_listL, w_listC, w_listT, w_tupL, w_rev, w_ixL, w_ixC, w_ixT, w_cutL, w_cutC, w_frzL, w_frzC, w_rng1, w_rng2, w_enum, w_enumC, w_zip, w_app, w_ext, w_pop, w_sum, w_isx, w_isiI, w_isiB, w_tgN, w_tgT, w_killN, w_killC, w_takeN, w_takeV, w_takeI, w_putI, w_putV, w_putN, w_lendN, w_lendV, w_lendI, flat_bl, flat_int, flat_non,
      pick_non, pick_bl, pick_int, pick_str, pick_tup, pick_lst, pick_scr, pick_exc, pick_T, pick_R, pick_N, frzT, frzR, frzN, w_seqL, w_seqT, w_seqC, w_zipT, w_zipA, w_tupLt, w_leX, eqW_int, neW_int, eqW_nil, neW_nil, eqW_str, neW_str, List.cons_append, List.nil_append, List.length_cons, List.length_nil, List.replicate_succ, List.replicate_zero, List.getElem?_cons_zero, List.getElem?_cons_succ, List.set_cons_zero, List.set_cons_succ, List.length_map, Option.map_some, Option.bind_some, cond_true, cond_false, Bool.true_or, Bool.or_true, Bool.false_or, Bool.or_false, Bool.not_true, Bool.not_false, Bool.true_and, Bool.false_and, Nat.reduceSub, Nat.reduceAdd, Nat.reduceLeDiff, ↓reduceIte, if_true, if_false, reduceCtorEq, decide_true, decide_false, decide_eq_true_eq, Nat.zero_add, Nat.add_zero, $ls,*] $[$l]?)
/-! ### the law's first half -/
noncomputable def lw0 : Sm Fl := sFor (tgN 1) b_law_1 [1, 2, 3, 4, 6, 7] (iArgs rng1 (mCons (mArgs max2W (mCons (mC (.int 1)) (mCons (mArgs min2W (mCons (mC (.int 15)) (mCons (mUn lenW (mVar 0)) (mNil)))) (mNil)))) (mNil)))
noncomputable def lw1 : Sm Fl := sSet 2 true (mCallP f__law_pool (Sm.bind (mCons (mVar 0) (mCons (mC (.int 1)) (mNil))) fun ws => if ws.length = 2 then Sm.ret ws else fun _ => .bad))
noncomputable def lw2 : Sm Fl := sSet 8 true (mBin (addW false) true (mC (.int 201)) (mCall f__law_take 2 (Sm.bind (mVar 2) fun _ => rIo 2 (rVal (mC (.int 1800)) (rNil)))))
noncomputable def lw3 : Sm Fl := sSet 9 true (mBin mulXW true (mBin powW true (mC (.int 10)) (mC (.int 30))) (mBin (addW false) true (mC (.int 1)) (mCall f__law_take 2 (Sm.bind (mVar 2) fun _ => rIo 2 (rVal (mBin powW true (mC (.int 10)) (mC (.int 20))) (rNil))))))
noncomputable def lw4 : Sm Fl := sSet 10 true (mFz (c_law_2))
noncomputable def lw5 : Sm Fl := sSet 10 true (mBin (addW false) false (mVar 10) (mBin (mulW false) true (mArgs (lstW false) (mCons (mArgs tupW (mCons (mBin (mulW false) true (mCall f__law_key 2 (Sm.bind (mVar 2) fun _ => rIo 2 (rVal (mC (.int 2)) (rNil)))) (mBin powW true (mC (.int 10)) (mC (.int 5)))) (mCons (mC (.str "a")) (mNil)))) (mNil))) (mVar 8)))
noncomputable def lw6 : Sm Fl := sSet 12 true (mCall f__law_take 2 (Sm.bind (mVar 2) fun _ => rIo 2 (rVal (mUn lenW (mVar 10)) (rNil))))
noncomputable def lw7 : Sm Fl := sSet 13 true (mBin ixW true (mArgs (lstW false) (mCons (mArgs tupW (mCons (mC (.bl true)) (mCons (mC (.str "a")) (mNil)))) (mCons (mArgs tupW (mCons (mC (.int 1)) (mCons (mC (.str "")) (mNil)))) (mCons (mArgs (lstW false) (mCons (mC (.int 1)) (mCons (mC (.str "a")) (mNil)))) (mCons (mArgs tupW (mCons (mC (.int 1)) (mCons (mC (.str "a")) (mCons (mC (.int 1)) (mNil))))) (mCons (mC .non) (mCons (mArgs tupW (mCons (mC (.str "1")) (mCons (mC (.str "a")) (mNil)))) (mCons (mArgs tupW (mCons (mC (.int 1)) (mCons (mC (.str "A")) (mNil)))) (mNil))))))))) (mCall f__law_take 2 (Sm.bind (mVar 2) fun _ => rIo 2 (rVal (mC (.int 7)) (rNil)))))
noncomputable def lw8 : Sm Fl := sFor (tgN 4) b_law_3 [4] (iLst (mArgs (lstW false) (mCons (mArgs (lstW false) (mCons (mVar 10) (mNil))) (mCons (mArgs (lstW false) (mCons (mSlice false true (mVar 10) (mNo) (mPart (mC (.int 3)))) (mCons (mArgs (lstW false) (mNil)) (mNil)))) (mCons (mBin (mulW false) true (mArgs (lstW false) (mCons (mArgs (lstW false) (mNil)) (mCons (mVar 10) (mNil)))) (mC (.int 3))) (mNil))))))
noncomputable def lw9 : Sm Fl := sIf (toB (mBin (isBW true) true (mCallP f_are_rows (Sm.bind (mCons (mArgs (lstW false) (mCons (mArgs (lstW false) (mNil)) (mCons (mBin (addW false) true (mBin (addW false) true (mSlice false true (mVar 10) (mNo) (mPart (mVar 12))) (mArgs (lstW false) (mCons (mVar 13) (mNil)))) (mSlice false true (mVar 10) (mPart (mBin (addW false) true (mVar 12) (mC (.int 1)))) (mNo))) (mNil)))) (mNil)) fun ws => if ws.length = 1 then Sm.ret ws else fun _ => .bad)) (mC (.bl false)))) (sRet true (mC (.bl false))) (sNil)
noncomputable def lw10 : Sm Fl := sSet 14 true (mArgs (lstW false) (mCons (mC .non) (mCons (mC (.int 0)) (mCons (mC (.bl true)) (mCons (mC (.str "")) (mCons (mC (.str "-")) (mCons (mArgs tupW (mNil)) (mCons (mArgs (lstW false) (mNil)) (mCons (mC .edc) (mCons (mArgs (lstW false) (mCons (mArgs tupW (mNil)) (mNil))) (mCons (mArgs (lstW false) (mCons (mC .non) (mNil))) (mCons (mArgs (lstW false) (mCons (mArgs (lstW false) (mCons (mC .non) (mNil))) (mNil))) (mCons (mArgs (lstW false) (mCons (mArgs (lstW false) (mCons (mArgs tupW (mNil)) (mNil))) (mNil))) (mCons (mArgs tupW (mCons (mArgs (lstW false) (mNil)) (mNil))) (mNil)))))))))))))))
noncomputable def lw11 : Sm Fl := sFor (tgN 4) b_law_4 [4] (iLst (mBin (addW false) true (mVar 14) (mArgs (lstW false) (mCons (mArgs (lstW false) (mCons (mArgs (lstW false) (mCons (mArgs tupW (mCons (mC (.int 1)) (mCons (mC (.str "a")) (mNil)))) (mNil))) (mCons (mArgs tupW (mNil)) (mNil)))) (mCons (mArgs (lstW false) (mCons (mArgs (lstW false) (mCons (mArgs tupW (mCons (mC (.int 1)) (mCons (mC (.str "a")) (mNil)))) (mCons (mArgs tupW (mCons (mC (.int 1)) (mNil))) (mNil)))) (mNil))) (mNil))))))
noncomputable def lw12 : Sm Fl := mForX 15 b_law_5 [15] [(1, "why"), (2, "why"), (3, "why"), (4, "why"), (5, "why"), (0, "why")]
noncomputable def lw13 : Sm Fl := sRet true (mBin (isBW false) true (mCallP f_are_rows (Sm.bind (mCons (mArgs (lstW false) (mCons (mArgs (lstW false) (mNil)) (mNil))) (mNil)) fun ws => if ws.length = 1 then Sm.ret ws else fun _ => .bad)) (mC (.bl true)))
theorem lw_eq : b_law = sSeq lw0 (sSeq lw1 (sSeq lw2 (sSeq lw3 (sSeq lw4 (sSeq lw5 (sSeq lw6 (sSeq lw7 (sSeq lw8 (sSeq lw9 (sSeq lw10 (sSeq lw11 (sSeq lw12 (lw13))))))))))))) := rfl
noncomputable def la0 : Sm Fl := sSet 2 true (mCallP f__law_pool (Sm.bind (mCons (mVar 0) (mCons (mVar 1) (mNil))) fun ws => if ws.length = 2 then Sm.ret ws else fun _ => .bad))
noncomputable def la1 : Sm Fl := sSet 3 true (mFz (mCall f__law_rows 2 (Sm.bind (mVar 2) fun _ => rIo 2 (rVal (mC (.int 8)) (rNil)))))
noncomputable def la2 : Sm Fl := sFor (tgN 4) b_law_2 [6, 7] (iLst (mBin (addW false) true (mArgs (lstW false) (mCons (mVar 3) (mNil))) (mFz (c_law_1))))
noncomputable def la3 : Sm Fl := sIf (toB (mBin (isBW true) true (mCallP f_are_rows (Sm.bind (mCons (mVar 3) (mNil)) fun ws => if ws.length = 1 then Sm.ret ws else fun _ => .bad)) (mC (.bl true)))) (sRet true (mC (.bl false))) (sNil)
theorem la_eq : b_law_1 = sSeq la0 (sSeq la1 (sSeq la2 (la3))) := rfl
abbrev scrS (ns : List Int) : W := .scr (ns.map W.int)
abbrev lwE (S x1 x2 x3 x4 : W) : List W := [S, x1, x2, x3, x4, .dead, .dead, .dead, .dead, .dead, .dead, .dead, .dead, .dead, .dead, .dead]
theorem tagB_ok {z : Str} (h : tagOk z) : tagB z = true := by
  obtain ⟨h1, h2, h3⟩ := h
  unfold tagB
  rw [decide_eq_true h1, decide_eq_true h2, Bool.true_and, Bool.true_and, List.all_eq_true]
  intro c hc
  exact decide_eq_true (h3 c hc)
theorem thB_ok {t : Th} (h : tagOk t.2) : thB (encT t) = true := tagB_ok h
theorem rows_true {rs : List (List Th)} (hr : ∀ r ∈ rs, RwOk r) (h1 : 1 ≤ rs.length) (hl : rs.length ≤ 6) : rowsB (.lst false (rs.map encR)) = true := by
  unfold rowsB
  dsimp only
  rw [List.length_map, decide_eq_true h1, decide_eq_true hl, Bool.true_and, Bool.true_and, List.all_eq_true]
  intro x hx
  obtain ⟨r, m, rfl⟩ := List.mem_map.mp hx
  show (r.map encT).all thB = true
  rw [List.all_eq_true]
  intro y hy
  obtain ⟨t, tm, rfl⟩ := List.mem_map.mp hy
  exact thB_ok ((hr r m).ok t tm).2
theorem b2_ok (S x1 x2 x3 x4 w : W) (g : Gd 5 w) : turn (tgN 4) b_law_2 [6, 7] w (lwE S x1 x2 x3 x4) = .ok .nx (lwE S x1 x2 x3 w) := by
  have pk := g.pk
  have fz := g.fz
  have c : f__law_copy 7 [w] = .ok (ownW w) [.dead] := e_copy 6 w g.up
  have ow := g.own
  have ar := e_areR w g
  have du := e_due w g
  have sm : f__law_same 7 [w, w] = .ok (.bl true) [.dead, .dead] := e_same 6 w g.up
  obtain ⟨q, hq⟩ : ∃ q, q = rowsB w := ⟨_, rfl⟩
  rw [← hq] at ar du
  have i1 : isiW ["bool"] (.bl q) = some (.bl true) := rfl
  have ne : neW (.bl q) (.bl q) = some (.bl false) := by rw [neW_bl, decide_eq_true rfl]; rfl
  unfold b_law_2 turn lwE
  simp_arith [pk, fz, c, ow, ar, du, sm, i1, ne]
/-- between the spoilings -/
def InSp (C b : Int) (S x1 R : W) (n : Nat) (env : List W) : Prop := ∃ a c : Int, 0 ≤ c ∧ c + 20 * n ≤ C ∧ env = lwE S x1 (pl a b c) R .dead
theorem c1_ok (S x1 : W) (a b c : Int) (hb : b = 0 ∨ b = 1) (c0 : 0 ≤ c) (c1 : c ≤ 500000) (rs : List (List Th)) (hr : ∀ r ∈ rs, RwOk r) (h1 : 1 ≤ rs.length) (hl : rs.length ≤ 6) : ∃ (a' c' : Int) (ys : List W), ys.length = 8 ∧ GL 5 ys ∧ c_law_1 (lwE S x1 (pl a b c) (.lst false (rs.map encR)) .dead) = .ok (.lst true ys) (lwE S x1 (pl a' b c') (.lst false (rs.map encR)) .dead) := by
  have lg := line_ge
  have rk : rngOk 8 := rngOk_of (by omega) (by omega)
  have r8 : (8 : Int).toNat = 8 := rfl
  obtain ⟨ys, env', g1, ⟨a3, c3, g2, g3, rfl⟩, g4, g5⟩ := comp_inv (f := tgN 5) (tt := Sm.ret true) (te := mFzD (mCall f__law_spoilt 2 (Sm.bind (mVar 2) fun _ => rIo 2 (rVal (mVar 3) (rNil))))) (vs := [5]) (mi := iArgs rng1 (mCons (mC (.int 8)) (mNil)))
    (env := lwE S x1 (pl a b c) (.lst false (rs.map encR)) .dead) (env1 := lwE S x1 (pl a b c) (.lst false (rs.map encR)) .dead)
    (fun i : Nat => W.int (0 + (i : Int))) (fun w : W => w) (Gd 5) (InSp (c + 160) b S x1 (.lst false (rs.map encR))) (xs := List.range 8)
    (by unfold lwE; simp_arith [rk, rngL_nat, r8]) ⟨a, c, c0, by rw [List.length_range]; omega, by unfold lwE; simp_arith []⟩ (by rw [List.length_range]; omega) (by
      rintro k _ n env ⟨a, c, q1, q2, rfl⟩
      obtain ⟨a', c', w, p1, p2, p3, p4, p5⟩ := e_spoilt a b c hb q1 (by omega) rs hr h1 hl
      refine ⟨w.fzD, lwE S x1 (pl a' b c') (.lst false (rs.map encR)) .dead, ?_, p4, a', c', p1, by omega, rfl⟩
      unfold lcOne lwE
      have fz := p4.fz
      simp_arith [p5, p3, fz])
  rw [map_self] at g1
  exact ⟨a3, c3, ys, by rw [g4, List.length_range], g5, g1⟩
theorem law_turn (ns : List Int) (k : Nat) (hk : k ≤ 1000) : turn (tgN 1) b_law_1 [1, 2, 3, 4, 6, 7] (.int (0 + (k : Int))) (lwE (scrS ns) .dead .dead .dead .dead) = .ok .nx (lwE (scrS ns) .dead .dead .dead .dead) := by
  have lg := line_ge
  obtain ⟨a, b, c, hb, c0, c1, hp⟩ := e_pool ns k hk
  obtain ⟨rs, a1, d1, ⟨ok, hrs⟩, d0, d2, hrw⟩ := e_rows a b c 8 hb c0 (by omega) (by omega) (by omega)
  have hr : ∀ r ∈ rs, RwOk r := fun r m => ⟨by have := (hrs r m).1; omega, (hrs r m).2⟩
  obtain ⟨a2, d3, ys, yl, yg, hc⟩ := c1_ok (scrS ns) (.int (0 + (k : Int))) a1 b d1 hb d0 (by omega) rs hr ok.ne ok.six
  have rt := rows_true hr ok.ne ok.six
  have gR : Gd 5 (.lst false (rs.map encR)) := (g_l (n := 2) (rows_gl hr) (by rw [List.length_map]; have := ok.six; omega)).le (by omega)
  have s0 : la0 (lwE (scrS ns) (.int (0 + (k : Int))) .dead .dead .dead) = .ok .nx (lwE (scrS ns) (.int (0 + (k : Int))) (pl a b c) .dead .dead) := by
    rw [Int.zero_add]
    unfold la0 lwE
    simp_arith [hp]
  have s1 : la1 (lwE (scrS ns) (.int (0 + (k : Int))) (pl a b c) .dead .dead) = .ok .nx (lwE (scrS ns) (.int (0 + (k : Int))) (pl a1 b d1) (.lst false (rs.map encR)) .dead) := by
    unfold la1 lwE
    simp_arith [hrw]
  obtain ⟨env', g1, x4, rfl⟩ := mFor_inv (f := tgN 4) (body := b_law_2) (kill := [6, 7]) (xs := .lst false (rs.map encR) :: ys) (fun w : W => w) (fun _ env => ∃ x4, env = lwE (scrS ns) (.int (0 + (k : Int))) (pl a2 b d3) (.lst false (rs.map encR)) x4) ⟨.dead, rfl⟩ (by
    rintro x hx n env ⟨x4, rfl⟩
    have gx : Gd 5 x := by
      rcases List.mem_cons.mp hx with rfl | hx
      · exact gR
      · exact yg x hx
    exact ⟨_, b2_ok _ _ _ _ x4 x gx, x, rfl⟩)
  rw [map_self] at g1
  have s2 : la2 (lwE (scrS ns) (.int (0 + (k : Int))) (pl a1 b d1) (.lst false (rs.map encR)) .dead) = .ok .nx (lwE (scrS ns) (.int (0 + (k : Int))) (pl a2 b d3) (.lst false (rs.map encR)) x4) := by
    have h1 : 1 ≤ sizeLine := by omega
    have ad : addW false (.lst false [.lst false (rs.map encR)]) (.lst false ys) = some (.lst false (.lst false (rs.map encR) :: ys)) := by
      rw [w_addL, if_pos (by rw [yl]; show 1 + 8 ≤ sizeLine; omega)]
      rfl
    unfold la2
    unfold lwE at hc g1 ⊢
    simp_arith [hc, h1, ↓ad, g1]
  have s3 : la3 (lwE (scrS ns) (.int (0 + (k : Int))) (pl a2 b d3) (.lst false (rs.map encR)) x4) = .ok .nx (lwE (scrS ns) (.int (0 + (k : Int))) (pl a2 b d3) (.lst false (rs.map encR)) x4) := by
    have ar := e_areR _ gR
    rw [rt] at ar
    have ib : isBW true (.bl true) (.bl true) = some (.bl false) := rfl
    unfold la3 lwE
    simp_arith [ar, ib]
  have body : b_law_1 (lwE (scrS ns) (.int (0 + (k : Int))) .dead .dead .dead) = .ok .nx (lwE (scrS ns) (.int (0 + (k : Int))) (pl a2 b d3) (.lst false (rs.map encR)) x4) := by
    rw [la_eq, r_seq, s0]
    dsimp only
    rw [r_seq, s1]
    dsimp only
    rw [r_seq, s2]
    dsimp only
    exact s3
  unfold turn
  unfold lwE at body ⊢
  simp_arith [body]
theorem lw0_ok (ns : List Int) : lw0 (lwE (scrS ns) .dead .dead .dead .dead) = .ok .nx (lwE (scrS ns) .dead .dead .dead .dead) := by
  have lg := line_ge
  obtain ⟨m, hm, m1⟩ : ∃ m : Nat, (if (if (ns.length : Int) < 15 then (ns.length : Int) else 15) > 1 then (if (ns.length : Int) < 15 then (ns.length : Int) else 15) else 1) = (m : Int) ∧ m ≤ 15 := by
    refine ⟨max 1 (min 15 ns.length), ?_, by omega⟩
    by_cases c : (ns.length : Int) < 15
    · simp only [if_pos c]
      by_cases d : (ns.length : Int) > 1
      · rw [if_pos d]
        omega
      · rw [if_neg d]
        omega
    · simp only [if_neg c]
      rw [if_pos (by omega)]
      omega
  have rk : rngOk (m : Int) := rngOk_of (by omega) (by omega)
  obtain ⟨env', g1, rfl⟩ := mFor_inv (f := tgN 1) (body := b_law_1) (kill := [1, 2, 3, 4, 6, 7]) (xs := List.range m) (fun i : Nat => W.int (0 + (i : Int))) (fun _ env => env = lwE (scrS ns) .dead .dead .dead .dead) rfl (by
    rintro k hk n env rfl
    exact ⟨_, law_turn ns k (by have := List.mem_range.mp hk; omega), rfl⟩)
  have h2 : 2 ≤ sizeLine := by omega
  unfold lw0
  unfold lwE at g1 ⊢
  simp_arith [hm, rk, rngL_nat, Int.toNat_natCast, g1]
end Ev

namespace Ev
open PySem PySem.Spec L2
local macro_rules
  | `(tactic| simp_arith [$ls,*] $[$l:location]?) => `(tactic| simp only [↓r_bind, ↓r_ret, ↓r_lft, ↓r_c, ↓r_var2, ↓r_move, ↓r_un, ↓r_bin, ↓r_chain, ↓r_toB, ↓r_ofB, ↓r_and, ↓r_or, ↓r_not, ↓r_nil, ↓r_cons, ↓r_args, ↓r_iargs, ↓r_ilst, ↓r_part, ↓r_no, ↓r_slice, ↓r_callP, ↓r_rnil, ↓r_rval, ↓r_rvalX, ↓r_pick, pas_str, pas_int, pas_bl, pas_non, pas_tup, pas_lst, pas_edc, pick_edc, ↓r_rio, ↓r_call, ↓r_callL, ↓r_fz, ↓r_seq, ↓r_snil, ↓r_if, ↓r_drop, ↓r_sret, ↓r_set, ↓r_asg, ↓r_aug, ↓r_sfor, ↓r_mut, ↓r_sto, ↓r_go, ↓r_gfz, ↓r_push, ↓r_gfzD, ↓r_fzD,  ↓r_raise, ↓r_try, ↓r_itup, ↓r_iseq, ↓r_andV, ↓r_orV, ↓r_notV, ↓r_fn, ↓r_meth, ↓r_augS, ↓r_ichr, ↓r_pair, ↓r_mutN, ↓r_mutT, ↓r_app, ↓r_gfzC, ↓r_callO, ↓r_asgN, ↓r_takeK, pick_nst, pick_ntp, w_strL, w_zip3, ↓r_dnew, ↓r_key1, ↓r_keyT, ↓r_dget, ↓r_dget2, ↓r_dput, ↓r_mutP, ↓r_mutKP, ↓r_stoP, ↓r_stoN, ↓r_dputP, ↓r_fldP, ↓r_callM, ↓r_makeL, ↓r_gfzK, ↓r_gfzP, ↓r_dpopP, ↓r_augP, ↓r_forP, ↓r_chainI, ↓r_callT, ↓r_ikeys, ↓r_keyCut, w_keyI, w_keyS, w_keyT2, w_lookT, w_lookK, w_lookDT, w_lookDK, w_dputT, w_dputK, w_dkeysT, w_dkeysK, isDW_dct, frz_dct, pick_dct, w_geX, ty_str, and_self,
      maskL_nil, maskL_cons, frz_non, frz_bl, frz_int, frz_str, frz_tup, frz_lst, frz_scr, fz_lst, fz_int, fz_tup, fz_str, fz_bl, w_lst, w_tup, w_add, w_addL, w_addB, w_sub, w_mul, w_rep, w_fdiv, w_mod, w_pow, w_neg, w_lt, w_le, w_ge, w_gt, w_bl, w_intW, w_toI, w_toB, w_max2, w_min2, w_abs, w_lenL, w_lenC, w_lenT, w_listL, w_listC, w_listT, w_tupL, w_rev, w_ixL, w_ixC, w_ixT, w_cutL, w_cutC, w_frzL, w_frzC, w_rng1, w_rng2, w_enum, w_enumC, w_zip, w_app, w_ext, w_pop, w_sum, w_isx, w_isiI, w_isiB, w_tgN, w_tgT, w_killN, w_killC, w_takeN, w_takeV, w_takeI, w_putI, w_putV, w_putN, w_lendN, w_lendV, w_lendI, flat_bl, flat_int, flat_non,
      pick_non, pick_bl, pick_int, pick_str, pick_tup, pick_lst, pick_scr, pick_exc, pick_T, pick_R, pick_N, frzT, frzR, frzN, w_seqL, w_seqT, w_seqC, w_zipT, w_zipA, w_tupLt, w_leX, eqW_int, neW_int, eqW_nil, neW_nil, eqW_str, neW_str, List.cons_append, List.nil_append, List.length_cons, List.length_nil, List.replicate_succ, List.replicate_zero, List.getElem?_cons_zero, List.getElem?_cons_succ, List.set_cons_zero, List.set_cons_succ, List.length_map, Option.map_some, Option.bind_some, cond_true, cond_false, Bool.true_or, Bool.or_true, Bool.false_or, Bool.or_false, Bool.not_true, Bool.not_false, Bool.true_and, Bool.false_and, Nat.reduceSub, Nat.reduceAdd, Nat.reduceLeDiff, ↓reduceIte, if_true, if_false, reduceCtorEq, decide_true, decide_false, decide_eq_true_eq, Nat.zero_add, Nat.add_zero, $ls,*] $[$l]?)
open TL
/-! ### the law's second half -/
abbrev lxE (S P M F R A O X : W) : List W := [S, .dead, P, .dead, .dead, .dead, .dead, .dead, M, F, R, .dead, A, O, X, .dead]
theorem repN (a : W) (n : Nat) (h : n ≤ 100000) : mulW false (.lst false [a]) (.int (n : Int)) = some (.lst false (List.replicate n a)) := by
  have lg := line_ge
  rw [w_rep, if_pos (show repOk (List.length [a]) (n : Int) from ⟨by omega, by omega, by rw [Int.toNat_natCast]; show 1 * n ≤ sizeLine; omega⟩), Int.toNat_natCast]
  congr 2
  induction n with
  | zero => rfl
  | succ n ih => rw [List.replicate_succ, List.replicate_succ, List.flatten_cons, ih (by omega)]; rfl
theorem rep23 (a b : W) : mulW false (.lst false [a, b]) (.int 3) = some (.lst false [a, b, a, b, a, b]) := by
  have lg := line_ge
  rw [w_rep, if_pos (show repOk (List.length [a, b]) 3 from ⟨by decide, by decide, by show 2 * 3 ≤ sizeLine; omega⟩)]
  rfl
theorem ix_P (P : W → Prop) (b : Bool) {ws : List W} (h : ∀ x ∈ ws, P x) {v : Int} (v0 : 0 ≤ v) (v1 : v < (ws.length : Int)) : ∃ w, ixW (.lst b ws) (.int v) = some w ∧ P w := by
  have hv : v.toNat < ws.length := by omega
  refine ⟨ws[v.toNat], ?_, h _ (List.getElem_mem hv)⟩
  rw [w_ixL, atI_pos _ v0, List.getElem?_eq_getElem hv]
theorem all_nil {P : W → Prop} : ∀ x ∈ ([] : List W), P x := by intro x h; cases h
theorem all_cons {P : W → Prop} {w : W} {ws : List W} (h : P w) (t : ∀ x ∈ ws, P x) : ∀ x ∈ w :: ws, P x := by
  intro x hx
  rcases List.mem_cons.mp hx with rfl | hx
  · exact h
  · exact t x hx
/-- between the tags of the great row -/
def InTg (C b : Int) (S M F : W) (n : Nat) (env : List W) : Prop := ∃ a c : Int, 0 ≤ c ∧ c + 9 * n ≤ C ∧ env = lxE S (pl a b c) M F .dead .dead .dead .dead
theorem c2_ok (S M : W) (far : Int) (a b c : Int) (hb : b = 0 ∨ b = 1) (c0 : 0 ≤ c) (c1 : c ≤ 500000) : ∃ (a' c' : Int) (ts : List Th), ts.length = 3 ∧ (∀ t ∈ ts, tagOk t.2) ∧ 0 ≤ c' ∧ c' ≤ c + 27 ∧ c_law_2 (lxE S (pl a b c) M (.int far) .dead .dead .dead .dead) = .ok (.lst true (ts.map encT)) (lxE S (pl a' b c') M (.int far) .dead .dead .dead .dead) := by
  have lg := line_ge
  have h2 : 2 ≤ sizeLine := by omega
  have h3 : 3 ≤ sizeLine := by omega
  obtain ⟨ts, env', g1, ⟨a3, c3, g2, g3, rfl⟩, g4, g5⟩ := comp_inv (f := tgN 11) (tt := Sm.ret true) (te := mArgs tupW (mCons (mVar 11) (mCons (mCall f__law_tag 1 (Sm.bind (mVar 2) fun _ => rIo 2 (rNil))) (mNil)))) (vs := [11])
    (mi := iLst (mArgs (lstW false) (mCons (mBin powW true (mC (.int 10)) (mC (.int 30))) (mCons (mBin subW true (mC (.int 0)) (mBin powW true (mC (.int 10)) (mC (.int 30)))) (mCons (mVar 9) (mNil))))))
    (env := lxE S (pl a b c) M (.int far) .dead .dead .dead .dead) (env1 := lxE S (pl a b c) M (.int far) .dead .dead .dead .dead)
    W.int encT (fun t => tagOk t.2) (InTg (c + 27) b S M (.int far)) (xs := [1000000000000000000000000000000, 0 - 1000000000000000000000000000000, far])
    (by simp_arith [↓powW30, h3, List.map_cons, List.map_nil]) ⟨a, c, c0, by simp only [List.length_cons, List.length_nil]; omega, by simp_arith []⟩ (by simp only [List.length_cons, List.length_nil]; omega) (by
      rintro k _ n env ⟨a, c, q1, q2, rfl⟩
      obtain ⟨z, a', c', tz, p1, p2, p3⟩ := e_tag a b c hb q1 (by omega)
      refine ⟨(k, z), lxE S (pl a' b c') M (.int far) .dead .dead .dead .dead, ?_, tz, a', c', p1, by omega, rfl⟩
      have e : W.tup [.int k, .str z] = encT (k, z) := rfl
      unfold lcOne
      simp_arith [p3, h2, e]
      try rfl)
  exact ⟨a3, c3, ts, g4, g5, g2, by omega, by unfold c_law_2; exact g1⟩
theorem b3_ok (S P M F R A O X w : W) (g : Gd 5 w) (h : rowsB w = true) : turn (tgN 4) b_law_3 [4] w (lxE S P M F R A O X) = .ok .nx (lxE S P M F R A O X) := by
  have pk := g.pk
  have fz := g.fz
  have ar := e_areR w g
  rw [h] at ar
  have ib : isBW true (.bl true) (.bl true) = some (.bl false) := rfl
  unfold b_law_3 turn
  simp_arith [pk, fz, ar, ib]
theorem b4_ok (S P M F R A O X w : W) (g : Gd 5 w) (h : rowsB w = false) : turn (tgN 4) b_law_4 [4] w (lxE S P M F R A O X) = .ok .nx (lxE S P M F R A O X) := by
  have pk := g.pk
  have fz := g.fz
  have ar := e_areR w g
  rw [h] at ar
  have ib : isBW true (.bl false) (.bl false) = some (.bl false) := rfl
  unfold b_law_4 turn
  simp_arith [pk, fz, ar, ib]
theorem for3 (S P M F R A O X : W) (ws : List W) (h : ∀ x ∈ ws, Gd 5 x ∧ rowsB x = true) : mFor (tgN 4) b_law_3 [4] ws (lxE S P M F R A O X) = .ok .nx (lxE S P M F R A O X) := by
  obtain ⟨env', g1, rfl⟩ := mFor_inv (f := tgN 4) (body := b_law_3) (kill := [4]) (xs := ws) (fun w : W => w) (fun _ env => env = lxE S P M F R A O X) rfl (by
    rintro x hx n env rfl
    exact ⟨_, b3_ok S P M F R A O X x (h x hx).1 (h x hx).2, rfl⟩)
  rw [map_self] at g1
  exact g1
theorem for4 (S P M F R A O X : W) (ws : List W) (h : ∀ x ∈ ws, Gd 5 x ∧ rowsB x = false) : mFor (tgN 4) b_law_4 [4] ws (lxE S P M F R A O X) = .ok .nx (lxE S P M F R A O X) := by
  obtain ⟨env', g1, rfl⟩ := mFor_inv (f := tgN 4) (body := b_law_4) (kill := [4]) (xs := ws) (fun w : W => w) (fun _ env => env = lxE S P M F R A O X) rfl (by
    rintro x hx n env rfl
    exact ⟨_, b4_ok S P M F R A O X x (h x hx).1 (h x hx).2, rfl⟩)
  rw [map_self] at g1
  exact g1
/-- the great row -/
structure Great (big : List Th) : Prop where
  len : big.length ≤ 3000
  tag : ∀ t ∈ big, tagOk t.2
theorem Great.gl {big : List Th} (h : Great big) : GL 1 (big.map encT) := by
  intro x hx
  obtain ⟨t, ht, rfl⟩ := List.mem_map.mp hx
  have := (h.tag t ht).2.1
  exact g_t (gl_cons (g_i _) (gl_cons (g_s _ (by omega)) gl_nil))
theorem Great.th {big : List Th} (h : Great big) : ∀ x ∈ big.map encT, thB x = true := by
  intro x hx
  obtain ⟨t, ht, rfl⟩ := List.mem_map.mp hx
  exact thB_ok (h.tag t ht)
theorem mem_cut {ws : List W} {lo hi : Option Int} {x : W} (h : x ∈ cutL ws lo hi) : x ∈ ws := by
  unfold cutL at h
  exact List.mem_of_mem_drop (List.mem_of_mem_take h)
theorem row_t {ws : List W} (b : Bool) (h : ∀ x ∈ ws, thB x = true) : rowB (.lst b ws) = true := by
  show ws.all thB = true
  rw [List.all_eq_true]
  exact h
theorem rows1 {a : W} (ha : rowB a = true) : rowsB (.lst false [a]) = true := by
  show (decide (1 ≤ 1) && (decide (1 ≤ 6) && (rowB a && true))) = true
  rw [ha]
  rfl
theorem rows2 {a c : W} (ha : rowB a = true) (hc : rowB c = true) : rowsB (.lst false [a, c]) = true := by
  show (decide (1 ≤ 2) && (decide (2 ≤ 6) && (rowB a && (rowB c && true)))) = true
  rw [ha, hc]
  rfl
theorem rows6 {a c : W} (ha : rowB a = true) (hc : rowB c = true) : rowsB (.lst false [a, c, a, c, a, c]) = true := by
  show (decide (1 ≤ 6) && (decide (6 ≤ 6) && (rowB a && (rowB c && (rowB a && (rowB c && (rowB a && (rowB c && true)))))))) = true
  rw [ha, hc]
  rfl
theorem rows2f {a c : W} (hc : rowB c = false) : rowsB (.lst false [a, c]) = false := by
  show (decide (1 ≤ 2) && (decide (2 ≤ 6) && (rowB a && (rowB c && true)))) = false
  rw [hc]
  cases rowB a <;> rfl
theorem row_f {xs ys : List W} {o : W} (b : Bool) (h : thB o = false) : rowB (.lst b (xs ++ [o] ++ ys)) = false := by
  show (xs ++ [o] ++ ys).all thB = false
  rw [List.all_append, List.all_append, List.all_cons, h, Bool.false_and, Bool.and_false, Bool.false_and]
section
variable (S : W) {big : List Th} (G : Great big)
include G in
theorem lw8_ok (P M F A O : W) : lw8 (lxE S P M F (.lst false (big.map encT)) A O .dead) = .ok .nx (lxE S P M F (.lst false (big.map encT)) A O .dead) := by
  have lg := line_ge
  have h0 : 0 ≤ sizeLine := Nat.zero_le _
  have h1 : 1 ≤ sizeLine := by omega
  have h2 : 2 ≤ sizeLine := by omega
  have h3 : 3 ≤ sizeLine := by omega
  have bl : (big.map encT).length ≤ 3000 := by rw [List.length_map]; exact G.len
  obtain ⟨ws, ew⟩ : ∃ ws, ws = big.map encT := ⟨_, rfl⟩
  have gl := G.gl
  have th := G.th
  rw [← ew] at gl th bl ⊢
  have r3 := rep23 (.lst false []) (.lst false ws)
  have gw : Gd 2 (.lst false ws) := Gd.lst (by omega) gl
  have gc : Gd 2 (.lst false (cutL ws none (some 3))) := Gd.lst (by have := cutL_le ws none (some 3); omega) (gl_cut gl _ _)
  have ge : Gd 2 (.lst false []) := g_l gl_nil
  have tw := row_t false th
  have tc := row_t (ws := cutL ws none (some 3)) false (fun x hx => th x (mem_cut hx))
  have te : rowB (.lst false []) = true := rfl
  have f3 := for3 S P M F (.lst false ws) A O .dead [.lst false [.lst false ws], .lst false [.lst false (cutL ws none (some 3)), .lst false []], .lst false [.lst false [], .lst false ws, .lst false [], .lst false ws, .lst false [], .lst false ws]] (all_cons ⟨(g_l (gl_cons gw gl_nil)).le (by omega), rows1 tw⟩ (all_cons ⟨(g_l (gl_cons gc (gl_cons ge gl_nil))).le (by omega), rows2 tc te⟩ (all_cons ⟨(g_l (gl_cons ge (gl_cons gw (gl_cons ge (gl_cons gw (gl_cons ge (gl_cons gw gl_nil))))))).le (by omega), rows6 te tw⟩ all_nil)))
  unfold lw8
  simp_arith [h0, h1, h2, h3, ↓r3, ↓f3]
include G in
theorem lw9_ok (P M F O : W) (at_ : Int) (go : Gd 1 O) (ho : thB O = false) : lw9 (lxE S P M F (.lst false (big.map encT)) (.int at_) O .dead) = .ok .nx (lxE S P M F (.lst false (big.map encT)) (.int at_) O .dead) := by
  have lg := line_ge
  have h0 : 0 ≤ sizeLine := Nat.zero_le _
  have h1 : 1 ≤ sizeLine := by omega
  have h2 : 2 ≤ sizeLine := by omega
  have bl : (big.map encT).length ≤ 3000 := by rw [List.length_map]; exact G.len
  obtain ⟨ws, ew⟩ : ∃ ws, ws = big.map encT := ⟨_, rfl⟩
  have gl := G.gl
  rw [← ew] at gl bl ⊢
  have k1 := cutL_le ws none (some at_)
  have k2 := cutL_le ws (some (at_ + 1)) none
  have a1 : addW false (.lst false (cutL ws none (some at_))) (.lst false [O]) = some (.lst false (cutL ws none (some at_) ++ [O])) := by rw [w_addL, if_pos (by rw [List.length_singleton]; omega)]
  have a2 : addW false (.lst false (cutL ws none (some at_) ++ [O])) (.lst false (cutL ws (some (at_ + 1)) none)) = some (.lst false (cutL ws none (some at_) ++ [O] ++ cutL ws (some (at_ + 1)) none)) := by rw [w_addL, if_pos (by rw [List.length_append, List.length_singleton]; omega)]
  have gr : Gd 2 (.lst false (cutL ws none (some at_) ++ [O] ++ cutL ws (some (at_ + 1)) none)) := Gd.lst (by rw [List.length_append, List.length_append, List.length_singleton]; omega) (gl_app (gl_app (gl_cut gl _ _) (gl_cons go gl_nil)) (gl_cut gl _ _))
  have g5 : Gd 5 (.lst false [.lst false [], .lst false (cutL ws none (some at_) ++ [O] ++ cutL ws (some (at_ + 1)) none)]) := (g_l (gl_cons (g_l (n := 1) gl_nil) (gl_cons gr gl_nil))).le (by omega)
  have ar := e_areR _ g5
  rw [rows2f (row_f false ho)] at ar
  have ib : isBW true (.bl false) (.bl false) = some (.bl false) := rfl
  have po := go.pk
  have fo := go.fz
  unfold lw9
  simp_arith [h0, h1, h2, po, fo, ↓a1, ↓a2, ↓ar, ib]
end
def some13 : List W := [.non, .int 0, .bl true, .str "", .str "-", .tup [], .lst false [], .edc, .lst false [.tup []], .lst false [.non], .lst false [.lst false [.non]], .lst false [.lst false [.tup []]], .tup [.lst false []]]
def some2 : List W := [.lst false [.lst false [.tup [.int 1, .str "a"]], .tup []], .lst false [.lst false [.tup [.int 1, .str "a"], .tup [.int 1]]]]
theorem lw10_ok (S P M F R A O : W) : lw10 (lxE S P M F R A O .dead) = .ok .nx (lxE S P M F R A O (.lst false some13)) := by
  have lg := line_ge
  have h0 : 0 ≤ sizeLine := Nat.zero_le _
  have h1 : 1 ≤ sizeLine := by omega
  have h13 : 13 ≤ sizeLine := by omega
  have fe : W.edc.frz = true := rfl
  unfold lw10 some13
  simp_arith [h0, h1, h13, fe]
theorem some_ok : ∀ x ∈ some13 ++ some2, Gd 5 x ∧ rowsB x = false := by
  have ga : ∀ n, Gd n (.str "a") := fun n => g_s _ (by decide)
  have t1 : Gd 2 (.tup [.int 1, .str "a"]) := g_t (gl_cons (g_i _) (gl_cons (ga _) gl_nil))
  have t2 : Gd 2 (.tup [.int 1]) := g_t (gl_cons (g_i _) gl_nil)
  have t0 : ∀ n, Gd (n + 1) (.tup []) := fun n => g_t gl_nil
  have l0 : ∀ n, Gd (n + 1) (.lst false []) := fun n => g_l gl_nil
  unfold some13 some2
  refine all_cons ⟨g_n, rfl⟩ (all_cons ⟨g_i _, rfl⟩ (all_cons ⟨g_b _, rfl⟩ (all_cons ⟨g_s _ (by decide), rfl⟩ (all_cons ⟨g_s _ (by decide), rfl⟩ (all_cons ⟨t0 _, rfl⟩ (all_cons ⟨l0 _, rfl⟩ (all_cons ⟨g_e, rfl⟩ (all_cons ⟨g_l (gl_cons (t0 _) gl_nil), rfl⟩ (all_cons ⟨g_l (gl_cons g_n gl_nil), rfl⟩ (all_cons ⟨g_l (gl_cons (g_l (gl_cons g_n gl_nil)) gl_nil), rfl⟩ (all_cons ⟨g_l (gl_cons (g_l (gl_cons (t0 _) gl_nil)) gl_nil), rfl⟩ (all_cons ⟨g_t (gl_cons (l0 _) gl_nil), rfl⟩ (all_cons ⟨?_, ?_⟩ (all_cons ⟨?_, ?_⟩ all_nil))))))))))))))
  · exact (g_l (gl_cons (g_l (n := 2) (gl_cons t1 gl_nil)) (gl_cons (t0 2) gl_nil))).le (by omega)
  · exact rows2f rfl
  · exact (g_l (gl_cons (g_l (n := 2) (gl_cons t1 (gl_cons t2 gl_nil))) gl_nil)).le (by omega)
  · show (decide (1 ≤ 1) && (decide (1 ≤ 6) && ((thB (.tup [.int 1, .str "a"]) && (false && true)) && true))) = false
    cases thB (.tup [.int 1, .str "a"]) <;> rfl
theorem lw11_ok (S P M F R A O : W) : lw11 (lxE S P M F R A O (.lst false some13)) = .ok .nx (lxE S P M F R A O (.lst false some13)) := by
  have lg := line_ge
  have h0 : 0 ≤ sizeLine := Nat.zero_le _
  have h1 : 1 ≤ sizeLine := by omega
  have h2 : 2 ≤ sizeLine := by omega
  have f4 := for4 S P M F R A O (.lst false some13) _ some_ok
  have ad : addW false (.lst false some13) (.lst false some2) = some (.lst false (some13 ++ some2)) := by
    rw [w_addL, if_pos (by show 13 + 2 ≤ sizeLine; omega)]
  unfold some2 at ad f4
  unfold lw11
  simp_arith [h0, h1, h2, ↓ad, ↓f4]
theorem lw12_ok (S P M F R A O X : W) : ∃ y, lw12 (lxE S P M F R A O X) = .ok .nx [S, .dead, P, .dead, .dead, .dead, .dead, .dead, M, F, R, .dead, A, O, X, y] := by
  refine ⟨.dead, ?_⟩
  have one : ∀ c, c < 6 → b_law_5 [S, .dead, P, .dead, .dead, .dead, .dead, .dead, M, F, R, .dead, A, O, X, .exm c "why"] = .ok .nx [S, .dead, P, .dead, .dead, .dead, .dead, .dead, M, F, R, .dead, A, O, X, .exm c "why"] := by
    intro c hc
    have pk : ∀ env, pickV (some (.exm c "why")) env = .ok (.exm c "why") env := fun _ => rfl
    have i1 : isxW isTab_LotError (.exm c "why") = some (.bl true) := by
      rcases (by omega : c = 0 ∨ c = 1 ∨ c = 2 ∨ c = 3 ∨ c = 4 ∨ c = 5) with rfl | rfl | rfl | rfl | rfl | rfl <;> rfl
    have i2 : isxW isTab_ValueError (.exm c "why") = some (.bl true) := by
      rcases (by omega : c = 0 ∨ c = 1 ∨ c = 2 ∨ c = 3 ∨ c = 4 ∨ c = 5) with rfl | rfl | rfl | rfl | rfl | rfl <;> rfl
    have i3 : strEW 6 (.exm c "why") = some (.str "why") := if_pos hc
    have ne : neW (.str "why") (.str "why") = some (.bl false) := by rw [neW_str, decide_eq_true rfl]; rfl
    unfold b_law_5
    simp_arith [pk, ↓i1, ↓i2, ↓i3, ↓ne]
  have step : ∀ (c : Nat) (qs : List (Nat × Str)), c < 6 → mForX 15 b_law_5 [15] ((c, "why") :: qs) (lxE S P M F R A O X) = mForX 15 b_law_5 [15] qs (lxE S P M F R A O X) := by
    intro c qs hc
    show (match b_law_5 [S, .dead, P, .dead, .dead, .dead, .dead, .dead, M, F, R, .dead, A, O, X, .exm c "why"] with
      | .ok .nx env' => mForX 15 b_law_5 [15] qs (killE [15] env')
      | _ => .bad) = _
    rw [one c hc]
    rfl
  unfold lw12
  rw [step 1 _ (by omega), step 2 _ (by omega), step 3 _ (by omega), step 4 _ (by omega), step 5 _ (by omega), step 0 _ (by omega)]
  rfl
theorem lw13_ok (env : List W) : lw13 env = .ok (.rt (.bl true)) env := by
  have lg := line_ge
  have h0 : 0 ≤ sizeLine := Nat.zero_le _
  have h1 : 1 ≤ sizeLine := by omega
  have g : Gd 5 (.lst false [.lst false []]) := g_l (gl_cons (g_l gl_nil) gl_nil)
  have ar := e_areR _ g
  rw [show rowsB (.lst false [.lst false []]) = true from rfl] at ar
  have ib : isBW false (.bl true) (.bl true) = some (.bl true) := rfl
  unfold lw13
  simp_arith [h0, h1, ↓ar, ib]
/-! ### the law -/
theorem law_true (ns : List Int) (hl : ns.length ≤ 63) (hb : ∀ z ∈ ns, Builtin.Int.intBits z ≤ 1048576) : ∃ ws, f_law [.scr (ns.map W.int)] = .ok (.bl true) ws := by
  have lg := line_ge
  have h1 : 1 ≤ sizeLine := by omega
  have h2 : 2 ≤ sizeLine := by omega
  have h4 : 4 ≤ sizeLine := by omega
  have h7 : 7 ≤ sizeLine := by omega
  have s0 := lw0_ok ns
  obtain ⟨a, b, c, hb1, c0, c1, hp⟩ := e_pool ns 1 (by omega)
  rw [show ((1 : Nat) : Int) = 1 from rfl] at hp
  have s1 : lw1 (lxE (scrS ns) .dead .dead .dead .dead .dead .dead .dead) = .ok .nx (lxE (scrS ns) (pl a b c) .dead .dead .dead .dead .dead .dead) := by
    unfold lw1
    simp_arith [hp]
  obtain ⟨v, a1, d1, v0, v1, p1, p2, p3⟩ := e_take a b c 1800 hb1 c0 (by omega) (by omega) (by omega)
  obtain ⟨m, hm⟩ : ∃ m : Nat, (201 : Int) + v = (m : Int) := ⟨(201 + v).toNat, by omega⟩
  have s2 : lw2 (lxE (scrS ns) (pl a b c) .dead .dead .dead .dead .dead .dead) = .ok .nx (lxE (scrS ns) (pl a1 b d1) (.int (m : Int)) .dead .dead .dead .dead .dead) := by
    unfold lw2
    simp_arith [p3, hm]
  obtain ⟨u, a2, d2, u0, u1, p4, p5, p6⟩ := e_take a1 b d1 100000000000000000000 hb1 (by omega) (by omega) (by omega) (by omega)
  have s3 : ∃ far : Int, lw3 (lxE (scrS ns) (pl a1 b d1) (.int (m : Int)) .dead .dead .dead .dead .dead) = .ok .nx (lxE (scrS ns) (pl a2 b d2) (.int (m : Int)) (.int far) .dead .dead .dead .dead) := by
    have km : CMulW 1000000000000000000000000000000 (1 + u) := by
      have e : (2 : Nat) ^ 100 = 1267650600228229401496703205376 := by decide
      exact wide_mul (a := 100) (b := 100) (by rw [e]; omega) (by rw [e]; omega) (by omega) (by omega) (by omega)
    have mx := w_mulX _ _ km
    refine ⟨1000000000000000000000000000000 * (1 + u), ?_⟩
    unfold lw3
    simp_arith [↓powW30, ↓powW20, p6, ↓mx]
  obtain ⟨far, s3⟩ := s3
  obtain ⟨a3, d3, ts, tl, tt, q1, q2, hc⟩ := c2_ok (scrS ns) (.int (m : Int)) far a2 b d2 hb1 (by omega) (by omega)
  have s4 : lw4 (lxE (scrS ns) (pl a2 b d2) (.int (m : Int)) (.int far) .dead .dead .dead .dead) = .ok .nx (lxE (scrS ns) (pl a3 b d3) (.int (m : Int)) (.int far) (.lst false (ts.map encT)) .dead .dead .dead) := by
    unfold lw4
    simp_arith [hc]
  obtain ⟨key, a4, d4, kb, q3, q4, hk⟩ := e_key a3 b d3 2 hb1 q1 (by omega)
  obtain ⟨big, eb⟩ : ∃ big : List Th, big = ts ++ List.replicate m (key * 100000, ("a" : Str)) := ⟨_, rfl⟩
  have em : big.map encT = ts.map encT ++ List.replicate m (.tup [.int (key * 100000), .str "a"]) := by
    rw [eb, List.map_append, List.map_replicate]
    rfl
  have bl : big.length = 3 + m := by rw [eb, List.length_append, List.length_replicate, tl]
  have ta : tagOk ("a" : Str) := ⟨by decide, by decide, by decide⟩
  have G : Great big := ⟨by omega, by
    rw [eb]
    intro t ht
    rcases List.mem_append.mp ht with ht | ht
    · exact tt t ht
    · rw [(List.mem_replicate.mp ht).2]
      exact ta⟩
  have s5 : lw5 (lxE (scrS ns) (pl a3 b d3) (.int (m : Int)) (.int far) (.lst false (ts.map encT)) .dead .dead .dead) = .ok .nx (lxE (scrS ns) (pl a4 b d4) (.int (m : Int)) (.int far) (.lst false (big.map encT)) .dead .dead .dead) := by
    have mk : mulOk key 100000 := mulOk_r (by omega) (by omega)
    have rn := repN (.tup [.int (key * 100000), .str "a"]) m (by omega)
    have ad : addW false (.lst false (ts.map encT)) (.lst false (List.replicate m (.tup [.int (key * 100000), .str "a"]))) = some (.lst false (big.map encT)) := by
      rw [w_addL, if_pos (by rw [List.length_map, List.length_replicate, tl]; omega), em]
    unfold lw5
    simp_arith [hk, ↓powW5, mk, h1, h2, ↓rn, ↓ad]
  obtain ⟨at_, a5, d5, t0, t1, q5, q6, q7⟩ := e_take a4 b d4 (big.length : Int) hb1 q3 (by omega) (by omega) (by omega)
  have s6 : lw6 (lxE (scrS ns) (pl a4 b d4) (.int (m : Int)) (.int far) (.lst false (big.map encT)) .dead .dead .dead) = .ok .nx (lxE (scrS ns) (pl a5 b d5) (.int (m : Int)) (.int far) (.lst false (big.map encT)) (.int at_) .dead .dead) := by
    unfold lw6
    simp_arith [q7]
  obtain ⟨o, a6, d6, o0, o1, q8, q9, q10⟩ := e_take a5 b d5 7 hb1 (by omega) (by omega) (by omega) (by omega)
  have ga : ∀ n, Gd n (.str "a") := fun n => g_s _ (by decide)
  obtain ⟨O, eo, go, ho⟩ := ix_P (fun w => Gd 1 w ∧ thB w = false) false (ws := [.tup [.bl true, .str "a"], .tup [.int 1, .str ""], .lst false [.int 1, .str "a"], .tup [.int 1, .str "a", .int 1], .non, .tup [.str "1", .str "a"], .tup [.int 1, .str "A"]]) (all_cons ⟨g_t (gl_cons (g_b _) (gl_cons (ga _) gl_nil)), rfl⟩ (all_cons ⟨g_t (gl_cons (g_i _) (gl_cons (g_s _ (by decide)) gl_nil)), by decide⟩ (all_cons ⟨g_l (gl_cons (g_i _) (gl_cons (ga _) gl_nil)), rfl⟩ (all_cons ⟨g_t (gl_cons (g_i _) (gl_cons (ga _) (gl_cons (g_i _) gl_nil))), rfl⟩ (all_cons ⟨g_n, rfl⟩ (all_cons ⟨g_t (gl_cons (g_s _ (by decide)) (gl_cons (ga _) gl_nil)), rfl⟩ (all_cons ⟨g_t (gl_cons (g_i _) (gl_cons (g_s _ (by decide)) gl_nil)), by decide⟩ all_nil))))))) o0 o1
  have s7 : lw7 (lxE (scrS ns) (pl a5 b d5) (.int (m : Int)) (.int far) (.lst false (big.map encT)) (.int at_) .dead .dead) = .ok .nx (lxE (scrS ns) (pl a6 b d6) (.int (m : Int)) (.int far) (.lst false (big.map encT)) (.int at_) O .dead) := by
    have h3 : 3 ≤ sizeLine := by omega
    unfold lw7
    simp_arith [q10, h2, h3, h7, ↓eo]
  have s8 := lw8_ok (scrS ns) G (pl a6 b d6) (.int (m : Int)) (.int far) (.int at_) O
  have s9 := lw9_ok (scrS ns) G (pl a6 b d6) (.int (m : Int)) (.int far) O at_ go ho
  have s10 := lw10_ok (scrS ns) (pl a6 b d6) (.int (m : Int)) (.int far) (.lst false (big.map encT)) (.int at_) O
  have s11 := lw11_ok (scrS ns) (pl a6 b d6) (.int (m : Int)) (.int far) (.lst false (big.map encT)) (.int at_) O
  obtain ⟨y, s12⟩ := lw12_ok (scrS ns) (pl a6 b d6) (.int (m : Int)) (.int far) (.lst false (big.map encT)) (.int at_) O (.lst false some13)
  have body : b_law (lxE (scrS ns) .dead .dead .dead .dead .dead .dead .dead) = .ok (.rt (.bl true)) [scrS ns, .dead, pl a6 b d6, .dead, .dead, .dead, .dead, .dead, .int (m : Int), .int far, .lst false (big.map encT), .dead, .int at_, O, .lst false some13, y] := by
    rw [lw_eq, r_seq, s0]
    dsimp only
    rw [r_seq, s1]
    dsimp only
    rw [r_seq, s2]
    dsimp only
    rw [r_seq, s3]
    dsimp only
    rw [r_seq, s4]
    dsimp only
    rw [r_seq, s5]
    dsimp only
    rw [r_seq, s6]
    dsimp only
    rw [r_seq, s7]
    dsimp only
    rw [r_seq, s8]
    dsimp only
    rw [r_seq, s9]
    dsimp only
    rw [r_seq, s10]
    dsimp only
    rw [r_seq, s11]
    dsimp only
    rw [r_seq, s12]
    dsimp only
    exact lw13_ok _
  have e : [W.scr (ns.map W.int)] ++ List.replicate (16 - [W.scr (ns.map W.int)].length) W.dead = lxE (scrS ns) .dead .dead .dead .dead .dead .dead .dead := rfl
  have fin : f_law [.scr (ns.map W.int)] = .ok (.bl true) (maskL [false] [scrS ns, .dead, pl a6 b d6, .dead, .dead, .dead, .dead, .dead, .int (m : Int), .int far, .lst false (big.map encT), .dead, .int at_, O, .lst false some13, y]) := by
    unfold f_law fnSem
    rw [e, body]
  exact ⟨_, fin⟩
end Ev

namespace Ev
open PySem PySem.Spec L2
theorem cf_at {K : PySem.W.Frag} {C0 C1 C2 C3 C4 C5 : Addr} (q0 : CF1 K C0 "LotError") (q1 : CF1 K C1 "NoNumber") (q2 : CF1 K C2 "NoDeed") (q3 : CF1 K C3 "NoText") (q4 : CF1 K C4 "NoName") (q5 : CF1 K C5 "NoRow") (s0_0 : PySem.W.subIn K (.ref C0) (.ref C0) = some true) (s0_1 : PySem.W.subIn K (.ref C0) (.ref C1) = some false) (s0_2 : PySem.W.subIn K (.ref C0) (.ref C2) = some false) (s0_3 : PySem.W.subIn K (.ref C0) (.ref C3) = some false) (s0_4 : PySem.W.subIn K (.ref C0) (.ref C4) = some false) (s0_5 : PySem.W.subIn K (.ref C0) (.ref C5) = some false) (s1_0 : PySem.W.subIn K (.ref C1) (.ref C0) = some true) (s1_1 : PySem.W.subIn K (.ref C1) (.ref C1) = some true) (s1_2 : PySem.W.subIn K (.ref C1) (.ref C2) = some false) (s1_3 : PySem.W.subIn K (.ref C1) (.ref C3) = some false) (s1_4 : PySem.W.subIn K (.ref C1) (.ref C4) = some false) (s1_5 : PySem.W.subIn K (.ref C1) (.ref C5) = some false) (s2_0 : PySem.W.subIn K (.ref C2) (.ref C0) = some true) (s2_1 : PySem.W.subIn K (.ref C2) (.ref C1) = some false) (s2_2 : PySem.W.subIn K (.ref C2) (.ref C2) = some true) (s2_3 : PySem.W.subIn K (.ref C2) (.ref C3) = some false) (s2_4 : PySem.W.subIn K (.ref C2) (.ref C4) = some false) (s2_5 : PySem.W.subIn K (.ref C2) (.ref C5) = some false) (s3_0 : PySem.W.subIn K (.ref C3) (.ref C0) = some true) (s3_1 : PySem.W.subIn K (.ref C3) (.ref C1) = some false) (s3_2 : PySem.W.subIn K (.ref C3) (.ref C2) = some false) (s3_3 : PySem.W.subIn K (.ref C3) (.ref C3) = some true) (s3_4 : PySem.W.subIn K (.ref C3) (.ref C4) = some false) (s3_5 : PySem.W.subIn K (.ref C3) (.ref C5) = some false) (s4_0 : PySem.W.subIn K (.ref C4) (.ref C0) = some true) (s4_1 : PySem.W.subIn K (.ref C4) (.ref C1) = some false) (s4_2 : PySem.W.subIn K (.ref C4) (.ref C2) = some false) (s4_3 : PySem.W.subIn K (.ref C4) (.ref C3) = some false) (s4_4 : PySem.W.subIn K (.ref C4) (.ref C4) = some true) (s4_5 : PySem.W.subIn K (.ref C4) (.ref C5) = some false) (s5_0 : PySem.W.subIn K (.ref C5) (.ref C0) = some true) (s5_1 : PySem.W.subIn K (.ref C5) (.ref C1) = some false) (s5_2 : PySem.W.subIn K (.ref C5) (.ref C2) = some false) (s5_3 : PySem.W.subIn K (.ref C5) (.ref C3) = some false) (s5_4 : PySem.W.subIn K (.ref C5) (.ref C4) = some false) (s5_5 : PySem.W.subIn K (.ref C5) (.ref C5) = some true) : CF K ["LotError", "NoNumber", "NoDeed", "NoText", "NoName", "NoRow"] (fun c => [C0, C1, C2, C3, C4, C5].getD c 0) :=
  ⟨(fun c x h => match c, h with
    | 0, h => by cases h; exact q0
    | 1, h => by cases h; exact q1
    | 2, h => by cases h; exact q2
    | 3, h => by cases h; exact q3
    | 4, h => by cases h; exact q4
    | 5, h => by cases h; exact q5
    | n + 6, h => (nomatch h)), (fun c d hc hd => match c, d, hc, hd with
    | 0, 0, _, _ => s0_0
    | 0, 1, _, _ => s0_1
    | 0, 2, _, _ => s0_2
    | 0, 3, _, _ => s0_3
    | 0, 4, _, _ => s0_4
    | 0, 5, _, _ => s0_5
    | 1, 0, _, _ => s1_0
    | 1, 1, _, _ => s1_1
    | 1, 2, _, _ => s1_2
    | 1, 3, _, _ => s1_3
    | 1, 4, _, _ => s1_4
    | 1, 5, _, _ => s1_5
    | 2, 0, _, _ => s2_0
    | 2, 1, _, _ => s2_1
    | 2, 2, _, _ => s2_2
    | 2, 3, _, _ => s2_3
    | 2, 4, _, _ => s2_4
    | 2, 5, _, _ => s2_5
    | 3, 0, _, _ => s3_0
    | 3, 1, _, _ => s3_1
    | 3, 2, _, _ => s3_2
    | 3, 3, _, _ => s3_3
    | 3, 4, _, _ => s3_4
    | 3, 5, _, _ => s3_5
    | 4, 0, _, _ => s4_0
    | 4, 1, _, _ => s4_1
    | 4, 2, _, _ => s4_2
    | 4, 3, _, _ => s4_3
    | 4, 4, _, _ => s4_4
    | 4, 5, _, _ => s4_5
    | 5, 0, _, _ => s5_0
    | 5, 1, _, _ => s5_1
    | 5, 2, _, _ => s5_2
    | 5, 3, _, _ => s5_3
    | 5, 4, _, _ => s5_4
    | 5, 5, _, _ => s5_5
    | n + 6, _, h, _ => absurd h (by show ¬ n + 6 < 6; omega)
    | 0, n + 6, _, h => absurd h (by show ¬ n + 6 < 6; omega)
    | 1, n + 6, _, h => absurd h (by show ¬ n + 6 < 6; omega)
    | 2, n + 6, _, h => absurd h (by show ¬ n + 6 < 6; omega)
    | 3, n + 6, _, h => absurd h (by show ¬ n + 6 < 6; omega)
    | 4, n + 6, _, h => absurd h (by show ¬ n + 6 < 6; omega)
    | 5, n + 6, _, h => absurd h (by show ¬ n + 6 < 6; omega))⟩
theorem cf_of {K : PySem.W.Frag} {C0 C1 C2 C3 C4 C5 : Addr} (q0 : CF1 K C0 "LotError") (q1 : CF1 K C1 "NoNumber") (q2 : CF1 K C2 "NoDeed") (q3 : CF1 K C3 "NoText") (q4 : CF1 K C4 "NoName") (q5 : CF1 K C5 "NoRow") (s0_0 : PySem.W.subIn K (.ref C0) (.ref C0) = some true) (s0_1 : PySem.W.subIn K (.ref C0) (.ref C1) = some false) (s0_2 : PySem.W.subIn K (.ref C0) (.ref C2) = some false) (s0_3 : PySem.W.subIn K (.ref C0) (.ref C3) = some false) (s0_4 : PySem.W.subIn K (.ref C0) (.ref C4) = some false) (s0_5 : PySem.W.subIn K (.ref C0) (.ref C5) = some false) (s1_0 : PySem.W.subIn K (.ref C1) (.ref C0) = some true) (s1_1 : PySem.W.subIn K (.ref C1) (.ref C1) = some true) (s1_2 : PySem.W.subIn K (.ref C1) (.ref C2) = some false) (s1_3 : PySem.W.subIn K (.ref C1) (.ref C3) = some false) (s1_4 : PySem.W.subIn K (.ref C1) (.ref C4) = some false) (s1_5 : PySem.W.subIn K (.ref C1) (.ref C5) = some false) (s2_0 : PySem.W.subIn K (.ref C2) (.ref C0) = some true) (s2_1 : PySem.W.subIn K (.ref C2) (.ref C1) = some false) (s2_2 : PySem.W.subIn K (.ref C2) (.ref C2) = some true) (s2_3 : PySem.W.subIn K (.ref C2) (.ref C3) = some false) (s2_4 : PySem.W.subIn K (.ref C2) (.ref C4) = some false) (s2_5 : PySem.W.subIn K (.ref C2) (.ref C5) = some false) (s3_0 : PySem.W.subIn K (.ref C3) (.ref C0) = some true) (s3_1 : PySem.W.subIn K (.ref C3) (.ref C1) = some false) (s3_2 : PySem.W.subIn K (.ref C3) (.ref C2) = some false) (s3_3 : PySem.W.subIn K (.ref C3) (.ref C3) = some true) (s3_4 : PySem.W.subIn K (.ref C3) (.ref C4) = some false) (s3_5 : PySem.W.subIn K (.ref C3) (.ref C5) = some false) (s4_0 : PySem.W.subIn K (.ref C4) (.ref C0) = some true) (s4_1 : PySem.W.subIn K (.ref C4) (.ref C1) = some false) (s4_2 : PySem.W.subIn K (.ref C4) (.ref C2) = some false) (s4_3 : PySem.W.subIn K (.ref C4) (.ref C3) = some false) (s4_4 : PySem.W.subIn K (.ref C4) (.ref C4) = some true) (s4_5 : PySem.W.subIn K (.ref C4) (.ref C5) = some false) (s5_0 : PySem.W.subIn K (.ref C5) (.ref C0) = some true) (s5_1 : PySem.W.subIn K (.ref C5) (.ref C1) = some false) (s5_2 : PySem.W.subIn K (.ref C5) (.ref C2) = some false) (s5_3 : PySem.W.subIn K (.ref C5) (.ref C3) = some false) (s5_4 : PySem.W.subIn K (.ref C5) (.ref C4) = some false) (s5_5 : PySem.W.subIn K (.ref C5) (.ref C5) = some true) (z0 : PySem.W.findIn K (.ref C0) "__str__" = some (some (.builtin "BaseException.__str__"))) (z1 : PySem.W.findIn K (.ref C1) "__str__" = some (some (.builtin "BaseException.__str__"))) (z2 : PySem.W.findIn K (.ref C2) "__str__" = some (some (.builtin "BaseException.__str__"))) (z3 : PySem.W.findIn K (.ref C3) "__str__" = some (some (.builtin "BaseException.__str__"))) (z4 : PySem.W.findIn K (.ref C4) "__str__" = some (some (.builtin "BaseException.__str__"))) (z5 : PySem.W.findIn K (.ref C5) "__str__" = some (some (.builtin "BaseException.__str__"))) : ∃ A, CF K ["LotError", "NoNumber", "NoDeed", "NoText", "NoName", "NoRow"] A ∧ ∀ c, c < 6 → PySem.W.findIn K (.ref (A c)) "__str__" = some (some (.builtin "BaseException.__str__")) ∧ PySem.W.subIn K (.ref (A c)) (.type "BaseException") = some true :=
  ⟨(fun c => [C0, C1, C2, C3, C4, C5].getD c 0), cf_at q0 q1 q2 q3 q4 q5 s0_0 s0_1 s0_2 s0_3 s0_4 s0_5 s1_0 s1_1 s1_2 s1_3 s1_4 s1_5 s2_0 s2_1 s2_2 s2_3 s2_4 s2_5 s3_0 s3_1 s3_2 s3_3 s3_4 s3_5 s4_0 s4_1 s4_2 s4_3 s4_4 s4_5 s5_0 s5_1 s5_2 s5_3 s5_4 s5_5, fun c hc => match c, hc with
    | 0, _ => ⟨z0, q0.b⟩
    | 1, _ => ⟨z1, q1.b⟩
    | 2, _ => ⟨z2, q2.b⟩
    | 3, _ => ⟨z3, q3.b⟩
    | 4, _ => ⟨z4, q4.b⟩
    | 5, _ => ⟨z5, q5.b⟩
    | n + 6, h => absurd h (by show ¬ n + 6 < 6; omega)⟩
theorem all_mk {P : Program} {w : World} {K : PySem.W.Frag} {h : Heap} {mg : Str → Option Value} {fa : Addr} (X : K.In h) (G : h.Ns mainGlobals mg) (hfa : mg "law" = some (.ref fa)) (D_is_whole_number : DF K "is_whole_number" ["thing"] s_is_whole_number) (D_is_tag : DF K "is_tag" ["thing"] s_is_tag) (D_is_keyed : DF K "is_keyed" ["thing"] s_is_keyed) (D_is_row : DF K "is_row" ["thing"] s_is_row) (D_are_rows : DF K "are_rows" ["thing"] s_are_rows) (D__law_pool : DF K "_law_pool" ["script", "k"] s__law_pool) (D__law_take : DF K "_law_take" ["pool", "many"] s__law_take) (D__law_tag : DF K "_law_tag" ["pool"] s__law_tag) (D__law_key : DF K "_law_key" ["pool", "kind"] s__law_key) (D__law_row : DF K "_law_row" ["pool", "most"] s__law_row) (D__law_rows : DF K "_law_rows" ["pool", "most"] s__law_rows) (D__law_copy : DF K "_law_copy" ["thing"] s__law_copy) (D__law_same : DF K "_law_same" ["one", "other"] s__law_same) (D__law_is_thing : DF K "_law_is_thing" ["thing"] s__law_is_thing) (D__law_due : DF K "_law_due" ["thing"] s__law_due) (D__law_bad_thing : DF K "_law_bad_thing" ["pool", "key", "tag"] s__law_bad_thing) (D__law_spoilt : DF K "_law_spoilt" ["pool", "rows"] s__law_spoilt) (D_law : DF K "law" ["script"] s_law) (n_bool : PySem.W.nsIn K mainGlobals "bool" = some none) (n_int : PySem.W.nsIn K mainGlobals "int" = some none) (n_isinstance : PySem.W.nsIn K mainGlobals "isinstance" = some none) (n_len : PySem.W.nsIn K mainGlobals "len" = some none) (n_str : PySem.W.nsIn K mainGlobals "str" = some none) (n_tuple : PySem.W.nsIn K mainGlobals "tuple" = some none) (n_list : PySem.W.nsIn K mainGlobals "list" = some none) (n_range : PySem.W.nsIn K mainGlobals "range" = some none) (n_sorted : PySem.W.nsIn K mainGlobals "sorted" = some none) (n_zip : PySem.W.nsIn K mainGlobals "zip" = some none) (n_dict : PySem.W.nsIn K mainGlobals "dict" = some none) (n_ValueError : PySem.W.nsIn K mainGlobals "ValueError" = some none) (n_max : PySem.W.nsIn K mainGlobals "max" = some none) (n_min : PySem.W.nsIn K mainGlobals "min" = some none) {t_LETTERS : Tok} (n_LETTERS : PySem.W.nsIn K mainGlobals "LETTERS" = some (some (.str "abcdefghijklmnopqrstuvwxyz" t_LETTERS))) {t_LONGEST_TAG : Tok} (n_LONGEST_TAG : PySem.W.nsIn K mainGlobals "LONGEST_TAG" = some (some (.int 8 t_LONGEST_TAG))) {t_MOST_HANDS : Tok} (n_MOST_HANDS : PySem.W.nsIn K mainGlobals "MOST_HANDS" = some (some (.int 6 t_MOST_HANDS))) (hA : ∃ A, CF K ["LotError", "NoNumber", "NoDeed", "NoText", "NoName", "NoRow"] A ∧ ∀ c, c < 6 → PySem.W.findIn K (.ref (A c)) "__str__" = some (some (.builtin "BaseException.__str__")) ∧ PySem.W.subIn K (.ref (A c)) (.type "BaseException") = some true) :
    ∃ fd : FuncData, (∀ (s : Shared) (u : Value), BindsTo s fd ⟨[u], []⟩ [("script", u)]) ∧ ∃ CA : Nat → Addr, ∀ base : Heap, FnOk P w K mg base (L2.CX P w) 9 fa fd ["script"] (spOf ⟨K, CA⟩ 1 f_law) := by
  obtain ⟨f_is_whole_number_, fd_is_whole_number_, a_is_whole_number, F_is_whole_number_, b_is_whole_number_⟩ := D_is_whole_number
  obtain ⟨f_is_tag_, fd_is_tag_, a_is_tag, F_is_tag_, b_is_tag_⟩ := D_is_tag
  obtain ⟨f_is_keyed_, fd_is_keyed_, a_is_keyed, F_is_keyed_, b_is_keyed_⟩ := D_is_keyed
  obtain ⟨f_is_row_, fd_is_row_, a_is_row, F_is_row_, b_is_row_⟩ := D_is_row
  obtain ⟨f_are_rows_, fd_are_rows_, a_are_rows, F_are_rows_, b_are_rows_⟩ := D_are_rows
  obtain ⟨f__law_pool_, fd__law_pool_, a__law_pool, F__law_pool_, b__law_pool_⟩ := D__law_pool
  obtain ⟨f__law_take_, fd__law_take_, a__law_take, F__law_take_, b__law_take_⟩ := D__law_take
  obtain ⟨f__law_tag_, fd__law_tag_, a__law_tag, F__law_tag_, b__law_tag_⟩ := D__law_tag
  obtain ⟨f__law_key_, fd__law_key_, a__law_key, F__law_key_, b__law_key_⟩ := D__law_key
  obtain ⟨f__law_row_, fd__law_row_, a__law_row, F__law_row_, b__law_row_⟩ := D__law_row
  obtain ⟨f__law_rows_, fd__law_rows_, a__law_rows, F__law_rows_, b__law_rows_⟩ := D__law_rows
  obtain ⟨f__law_copy_, fd__law_copy_, a__law_copy, F__law_copy_, b__law_copy_⟩ := D__law_copy
  obtain ⟨f__law_same_, fd__law_same_, a__law_same, F__law_same_, b__law_same_⟩ := D__law_same
  obtain ⟨f__law_is_thing_, fd__law_is_thing_, a__law_is_thing, F__law_is_thing_, b__law_is_thing_⟩ := D__law_is_thing
  obtain ⟨f__law_due_, fd__law_due_, a__law_due, F__law_due_, b__law_due_⟩ := D__law_due
  obtain ⟨f__law_bad_thing_, fd__law_bad_thing_, a__law_bad_thing, F__law_bad_thing_, b__law_bad_thing_⟩ := D__law_bad_thing
  obtain ⟨f__law_spoilt_, fd__law_spoilt_, a__law_spoilt, F__law_spoilt_, b__law_spoilt_⟩ := D__law_spoilt
  obtain ⟨f_law_, fd_law_, a_law, F_law_, b_law_⟩ := D_law
  obtain ⟨A, hA, hstr⟩ := hA
  have e := hfa.symm.trans (PySem.W.mg_of X G a_law)
  cases e
  refine ⟨fd_law_, fun s u => b_law_ s [u] rfl, A, fun base => ?_⟩
  have W_is_whole_number := w_is_whole_number (P := P) (w := w) (mg := mg) (base := base) (CA := A) F_is_whole_number_ (PySem.W.mg_of X G a_is_whole_number) (binds_of b_is_whole_number_) (PySem.W.mg_none_of X G n_bool) (PySem.W.mg_none_of X G n_int) (PySem.W.mg_none_of X G n_isinstance)
  have W_is_tag := w_is_tag (P := P) (w := w) (mg := mg) (base := base) (CA := A) F_is_tag_ (PySem.W.mg_of X G a_is_tag) (binds_of b_is_tag_) (PySem.W.mg_none_of X G n_isinstance) (PySem.W.mg_none_of X G n_len) (PySem.W.mg_none_of X G n_str) (PySem.W.mg_of X G n_LETTERS) (PySem.W.mg_of X G n_LONGEST_TAG)
  have W_is_keyed := w_is_keyed (P := P) (w := w) (mg := mg) (base := base) (CA := A) F_is_keyed_ (PySem.W.mg_of X G a_is_keyed) (binds_of b_is_keyed_) (PySem.W.mg_none_of X G n_isinstance) (PySem.W.mg_none_of X G n_len) (PySem.W.mg_none_of X G n_tuple) W_is_whole_number W_is_tag
  have W_is_row := w_is_row (P := P) (w := w) (mg := mg) (base := base) (CA := A) F_is_row_ (PySem.W.mg_of X G a_is_row) (binds_of b_is_row_) (PySem.W.mg_none_of X G n_isinstance) (PySem.W.mg_none_of X G n_list) W_is_keyed
  have W_are_rows := w_are_rows (P := P) (w := w) (mg := mg) (base := base) (CA := A) F_are_rows_ (PySem.W.mg_of X G a_are_rows) (binds_of b_are_rows_) (PySem.W.mg_none_of X G n_isinstance) (PySem.W.mg_none_of X G n_len) (PySem.W.mg_none_of X G n_list) (PySem.W.mg_of X G n_MOST_HANDS) W_is_row
  have W__law_pool := w__law_pool (P := P) (w := w) (mg := mg) (base := base) (CA := A) F__law_pool_ (PySem.W.mg_of X G a__law_pool) (binds_of b__law_pool_) (PySem.W.mg_none_of X G n_len)
  have W__law_take := w__law_take (P := P) (w := w) (mg := mg) (base := base) (CA := A) F__law_take_ (PySem.W.mg_of X G a__law_take) (binds_of b__law_take_) 
  have W__law_tag := w__law_tag (P := P) (w := w) (mg := mg) (base := base) (CA := A) F__law_tag_ (PySem.W.mg_of X G a__law_tag) (binds_of b__law_tag_) (PySem.W.mg_none_of X G n_range) W__law_take
  have W__law_key := w__law_key (P := P) (w := w) (mg := mg) (base := base) (CA := A) F__law_key_ (PySem.W.mg_of X G a__law_key) (binds_of b__law_key_) (PySem.W.mg_none_of X G n_range) W__law_take
  have W__law_row := w__law_row (P := P) (w := w) (mg := mg) (base := base) (CA := A) F__law_row_ (PySem.W.mg_of X G a__law_row) (binds_of b__law_row_) (PySem.W.mg_none_of X G n_len) (PySem.W.mg_none_of X G n_range) (PySem.W.mg_none_of X G n_sorted) W__law_take W__law_tag W__law_key
  have W__law_rows := w__law_rows (P := P) (w := w) (mg := mg) (base := base) (CA := A) F__law_rows_ (PySem.W.mg_of X G a__law_rows) (binds_of b__law_rows_) (PySem.W.mg_none_of X G n_range) W__law_take W__law_row
  have W__law_copy := w__law_copy (P := P) (w := w) (mg := mg) (base := base) (CA := A) F__law_copy_ (PySem.W.mg_of X G a__law_copy) (binds_of b__law_copy_) (PySem.W.mg_none_of X G n_isinstance) (PySem.W.mg_none_of X G n_list) (PySem.W.mg_none_of X G n_tuple) 7
  have W__law_same := w__law_same (P := P) (w := w) (mg := mg) (base := base) (CA := A) F__law_same_ (PySem.W.mg_of X G a__law_same) (binds_of b__law_same_) (PySem.W.mg_none_of X G n_bool) (PySem.W.mg_none_of X G n_isinstance) (PySem.W.mg_none_of X G n_len) (PySem.W.mg_none_of X G n_list) (PySem.W.mg_none_of X G n_str) (PySem.W.mg_none_of X G n_tuple) (PySem.W.mg_none_of X G n_zip) 7
  have W__law_is_thing := w__law_is_thing (P := P) (w := w) (mg := mg) (base := base) (CA := A) F__law_is_thing_ (PySem.W.mg_of X G a__law_is_thing) (binds_of b__law_is_thing_) (PySem.W.mg_none_of X G n_bool) (PySem.W.mg_none_of X G n_int) (PySem.W.mg_none_of X G n_isinstance) (PySem.W.mg_none_of X G n_len) (PySem.W.mg_none_of X G n_str) (PySem.W.mg_none_of X G n_tuple)
  have W__law_due := w__law_due (P := P) (w := w) (mg := mg) (base := base) (CA := A) F__law_due_ (PySem.W.mg_of X G a__law_due) (binds_of b__law_due_) (PySem.W.mg_none_of X G n_isinstance) (PySem.W.mg_none_of X G n_len) (PySem.W.mg_none_of X G n_list) W__law_is_thing
  have W__law_bad_thing := w__law_bad_thing (P := P) (w := w) (mg := mg) (base := base) (CA := A) F__law_bad_thing_ (PySem.W.mg_of X G a__law_bad_thing) (binds_of b__law_bad_thing_) (PySem.W.mg_none_of X G n_len) (PySem.W.mg_none_of X G n_str) W__law_take
  have W__law_spoilt := w__law_spoilt (P := P) (w := w) (mg := mg) (base := base) (CA := A) F__law_spoilt_ (PySem.W.mg_of X G a__law_spoilt) (binds_of b__law_spoilt_) (PySem.W.mg_none_of X G n_dict) (PySem.W.mg_none_of X G n_len) (PySem.W.mg_none_of X G n_list) (PySem.W.mg_none_of X G n_tuple) W__law_take W__law_bad_thing
  exact o_law F_law_ (PySem.W.mg_none_of X G n_ValueError) (PySem.W.mg_none_of X G n_bool) (PySem.W.mg_none_of X G n_isinstance) (PySem.W.mg_none_of X G n_len) (PySem.W.mg_none_of X G n_max) (PySem.W.mg_none_of X G n_min) (PySem.W.mg_none_of X G n_range) (PySem.W.mg_none_of X G n_str) (hA.clsT X G (c := 0) rfl) (hA.clsT X G (c := 2) rfl) (hA.clsT X G (c := 4) rfl) (hA.clsT X G (c := 1) rfl) (hA.clsT X G (c := 5) rfl) (hA.clsT X G (c := 3) rfl) (hA.tab [some 0] true rfl (by decide) (by decide)) (hA.tab [none] true rfl (by decide) (by decide)) hstr W_are_rows W__law_pool W__law_take W__law_tag W__law_key W__law_rows W__law_copy W__law_same W__law_due W__law_spoilt
end Ev
open PySem PySem.W PyProof.Rows
set_option maxRecDepth 100000 in
set_option maxHeartbeats 0 in
theorem PySem.Challenge.cw_evenlots_k01_what_are_rows_holds : PySem.Challenge.rw_evenlots_k01_what_are_rows.Holds := by
  w_on; o_law; k_head; (case hw => w_witness2)
  k_fill
  refine Ev.walk_top (l := PySem.Challenge.rw_evenlots_k01_what_are_rows) (k := 9) Ev.f_law rfl rfl ⟨rfl, by decide, by decide⟩ (fun w h Y => PySem.W.kIn_of Y) ?F Ev.law_true
  case F =>
    intro w mg fa h KX G hmg
    refine' Ev.all_mk KX G hmg ?d_is_whole_number ?d_is_tag ?d_is_keyed ?d_is_row ?d_are_rows ?d__law_pool ?d__law_take ?d__law_tag ?d__law_key ?d__law_row ?d__law_rows ?d__law_copy ?d__law_same ?d__law_is_thing ?d__law_due ?d__law_bad_thing ?d__law_spoilt ?d_law ?n_bool ?n_int ?n_isinstance ?n_len ?n_str ?n_tuple ?n_list ?n_range ?n_sorted ?n_zip ?n_dict ?n_ValueError ?n_max ?n_min ?n_LETTERS ?n_LONGEST_TAG ?n_MOST_HANDS ?hA
    case d_is_whole_number =>
      refine' Ev.DF.mk (fun _ _ _ _ _ _ us hl => match us, hl with | [_], _ => rfl) ?a_is_whole_number ?l_is_whole_number ?c_is_whole_number ?k_is_whole_number
      (case a_is_whole_number => k_is); (case l_is_whole_number => k_is); (case c_is_whole_number => k_is); (case k_is_whole_number => k_is)
    case d_is_tag =>
      refine' Ev.DF.mk (fun _ _ _ _ _ _ us hl => match us, hl with | [_], _ => rfl) ?a_is_tag ?l_is_tag ?c_is_tag ?k_is_tag
      (case a_is_tag => k_is); (case l_is_tag => k_is); (case c_is_tag => k_is); (case k_is_tag => k_is)
    case d_is_keyed =>
      refine' Ev.DF.mk (fun _ _ _ _ _ _ us hl => match us, hl with | [_], _ => rfl) ?a_is_keyed ?l_is_keyed ?c_is_keyed ?k_is_keyed
      (case a_is_keyed => k_is); (case l_is_keyed => k_is); (case c_is_keyed => k_is); (case k_is_keyed => k_is)
    case d_is_row =>
      refine' Ev.DF.mk (fun _ _ _ _ _ _ us hl => match us, hl with | [_], _ => rfl) ?a_is_row ?l_is_row ?c_is_row ?k_is_row
      (case a_is_row => k_is); (case l_is_row => k_is); (case c_is_row => k_is); (case k_is_row => k_is)
    case d_are_rows =>
      refine' Ev.DF.mk (fun _ _ _ _ _ _ us hl => match us, hl with | [_], _ => rfl) ?a_are_rows ?l_are_rows ?c_are_rows ?k_are_rows
      (case a_are_rows => k_is); (case l_are_rows => k_is); (case c_are_rows => k_is); (case k_are_rows => k_is)
    case d__law_pool =>
      refine' Ev.DF.mk (fun _ _ _ _ _ _ us hl => match us, hl with | [_, _], _ => rfl) ?a__law_pool ?l__law_pool ?c__law_pool ?k__law_pool
      (case a__law_pool => k_is); (case l__law_pool => k_is); (case c__law_pool => k_is); (case k__law_pool => k_is)
    case d__law_take =>
      refine' Ev.DF.mk (fun _ _ _ _ _ _ us hl => match us, hl with | [_, _], _ => rfl) ?a__law_take ?l__law_take ?c__law_take ?k__law_take
      (case a__law_take => k_is); (case l__law_take => k_is); (case c__law_take => k_is); (case k__law_take => k_is)
    case d__law_tag =>
      refine' Ev.DF.mk (fun _ _ _ _ _ _ us hl => match us, hl with | [_], _ => rfl) ?a__law_tag ?l__law_tag ?c__law_tag ?k__law_tag
      (case a__law_tag => k_is); (case l__law_tag => k_is); (case c__law_tag => k_is); (case k__law_tag => k_is)
    case d__law_key =>
      refine' Ev.DF.mk (fun _ _ _ _ _ _ us hl => match us, hl with | [_, _], _ => rfl) ?a__law_key ?l__law_key ?c__law_key ?k__law_key
      (case a__law_key => k_is); (case l__law_key => k_is); (case c__law_key => k_is); (case k__law_key => k_is)
    case d__law_row =>
      refine' Ev.DF.mk (fun _ _ _ _ _ _ us hl => match us, hl with | [_, _], _ => rfl) ?a__law_row ?l__law_row ?c__law_row ?k__law_row
      (case a__law_row => k_is); (case l__law_row => k_is); (case c__law_row => k_is); (case k__law_row => k_is)
    case d__law_rows =>
      refine' Ev.DF.mk (fun _ _ _ _ _ _ us hl => match us, hl with | [_, _], _ => rfl) ?a__law_rows ?l__law_rows ?c__law_rows ?k__law_rows
      (case a__law_rows => k_is); (case l__law_rows => k_is); (case c__law_rows => k_is); (case k__law_rows => k_is)
    case d__law_copy =>
      refine' Ev.DF.mk (fun _ _ _ _ _ _ us hl => match us, hl with | [_], _ => rfl) ?a__law_copy ?l__law_copy ?c__law_copy ?k__law_copy
      (case a__law_copy => k_is); (case l__law_copy => k_is); (case c__law_copy => k_is); (case k__law_copy => k_is)
    case d__law_same =>
      refine' Ev.DF.mk (fun _ _ _ _ _ _ us hl => match us, hl with | [_, _], _ => rfl) ?a__law_same ?l__law_same ?c__law_same ?k__law_same
      (case a__law_same => k_is); (case l__law_same => k_is); (case c__law_same => k_is); (case k__law_same => k_is)
    case d__law_is_thing =>
      refine' Ev.DF.mk (fun _ _ _ _ _ _ us hl => match us, hl with | [_], _ => rfl) ?a__law_is_thing ?l__law_is_thing ?c__law_is_thing ?k__law_is_thing
      (case a__law_is_thing => k_is); (case l__law_is_thing => k_is); (case c__law_is_thing => k_is); (case k__law_is_thing => k_is)
    case d__law_due =>
      refine' Ev.DF.mk (fun _ _ _ _ _ _ us hl => match us, hl with | [_], _ => rfl) ?a__law_due ?l__law_due ?c__law_due ?k__law_due
      (case a__law_due => k_is); (case l__law_due => k_is); (case c__law_due => k_is); (case k__law_due => k_is)
    case d__law_bad_thing =>
      refine' Ev.DF.mk (fun _ _ _ _ _ _ us hl => match us, hl with | [_, _, _], _ => rfl) ?a__law_bad_thing ?l__law_bad_thing ?c__law_bad_thing ?k__law_bad_thing
      (case a__law_bad_thing => k_is); (case l__law_bad_thing => k_is); (case c__law_bad_thing => k_is); (case k__law_bad_thing => k_is)
    case d__law_spoilt =>
      refine' Ev.DF.mk (fun _ _ _ _ _ _ us hl => match us, hl with | [_, _], _ => rfl) ?a__law_spoilt ?l__law_spoilt ?c__law_spoilt ?k__law_spoilt
      (case a__law_spoilt => k_is); (case l__law_spoilt => k_is); (case c__law_spoilt => k_is); (case k__law_spoilt => k_is)
    case d_law =>
      refine' Ev.DF.mk (fun _ _ _ _ _ _ us hl => match us, hl with | [_], _ => rfl) ?a_law ?l_law ?c_law ?k_law
      (case a_law => k_is); (case l_law => k_is); (case c_law => k_is); (case k_law => k_is)
    (case n_bool => k_is)
    (case n_int => k_is)
    (case n_isinstance => k_is)
    (case n_len => k_is)
    (case n_str => k_is)
    (case n_tuple => k_is)
    (case n_list => k_is)
    (case n_range => k_is)
    (case n_sorted => k_is)
    (case n_zip => k_is)
    (case n_dict => k_is)
    (case n_ValueError => k_is)
    (case n_max => k_is)
    (case n_min => k_is)
    (case n_LETTERS => k_is)
    (case n_LONGEST_TAG => k_is)
    (case n_MOST_HANDS => k_is)
    case hA =>
      refine' Ev.cf_of ?q0 ?q1 ?q2 ?q3 ?q4 ?q5 ?s0_0 ?s0_1 ?s0_2 ?s0_3 ?s0_4 ?s0_5 ?s1_0 ?s1_1 ?s1_2 ?s1_3 ?s1_4 ?s1_5 ?s2_0 ?s2_1 ?s2_2 ?s2_3 ?s2_4 ?s2_5 ?s3_0 ?s3_1 ?s3_2 ?s3_3 ?s3_4 ?s3_5 ?s4_0 ?s4_1 ?s4_2 ?s4_3 ?s4_4 ?s4_5 ?s5_0 ?s5_1 ?s5_2 ?s5_3 ?s5_4 ?s5_5 ?z0 ?z1 ?z2 ?z3 ?z4 ?z5
      case q0 =>
        refine' ⟨?ns0, ?x0, ?k0, ?b0, ?t0, ?v0, ⟨?e01, ?e02, ?e03, ?e04, ?e05, ?e06, ?e07, ?e08⟩⟩
        (case ns0 => k_is); (case x0 => k_exc); (case k0 => k_is); (case b0 => k_is); (case t0 => k_is); (case v0 => k_is)
        all_goals k_is
      case q1 =>
        refine' ⟨?ns1, ?x1, ?k1, ?b1, ?t1, ?v1, ⟨?e11, ?e12, ?e13, ?e14, ?e15, ?e16, ?e17, ?e18⟩⟩
        (case ns1 => k_is); (case x1 => k_exc); (case k1 => k_is); (case b1 => k_is); (case t1 => k_is); (case v1 => k_is)
        all_goals k_is
      case q2 =>
        refine' ⟨?ns2, ?x2, ?k2, ?b2, ?t2, ?v2, ⟨?e21, ?e22, ?e23, ?e24, ?e25, ?e26, ?e27, ?e28⟩⟩
        (case ns2 => k_is); (case x2 => k_exc); (case k2 => k_is); (case b2 => k_is); (case t2 => k_is); (case v2 => k_is)
        all_goals k_is
      case q3 =>
        refine' ⟨?ns3, ?x3, ?k3, ?b3, ?t3, ?v3, ⟨?e31, ?e32, ?e33, ?e34, ?e35, ?e36, ?e37, ?e38⟩⟩
        (case ns3 => k_is); (case x3 => k_exc); (case k3 => k_is); (case b3 => k_is); (case t3 => k_is); (case v3 => k_is)
        all_goals k_is
      case q4 =>
        refine' ⟨?ns4, ?x4, ?k4, ?b4, ?t4, ?v4, ⟨?e41, ?e42, ?e43, ?e44, ?e45, ?e46, ?e47, ?e48⟩⟩
        (case ns4 => k_is); (case x4 => k_exc); (case k4 => k_is); (case b4 => k_is); (case t4 => k_is); (case v4 => k_is)
        all_goals k_is
      case q5 =>
        refine' ⟨?ns5, ?x5, ?k5, ?b5, ?t5, ?v5, ⟨?e51, ?e52, ?e53, ?e54, ?e55, ?e56, ?e57, ?e58⟩⟩
        (case ns5 => k_is); (case x5 => k_exc); (case k5 => k_is); (case b5 => k_is); (case t5 => k_is); (case v5 => k_is)
        all_goals k_is
      all_goals first | rfl | k_is

