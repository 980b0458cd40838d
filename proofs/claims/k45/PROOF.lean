import PyProof.Rows.All
import Wide.All
import OpenK.AllK
import Wide.FinOn
import HandS.ForMost
import HandS.Exc
import HandS.TryOnly
import HandS.ExcOwn
import HandS.CallSlots
import HandS.Wide
import HandS.IsInst
import HandS.ExcValue
import HandS.ExcIs
import HandS.WordsExc
import HandS.Strs
import HandS.Deep
import KE.SortData
import KE.DataEq
import HandS.TupLe
import HandS.Style
import HandS.SortInts
import HandS.More
import HandS.EndBits
import HandS.SetFor
import HandS.Zip
import KE.DataCmp
import KE.GoesMore
import KE.GoesEnum
import HandS.Conv
import HandS.StrSplit
import KE.IntTextLaws
import HandS.DictTup
import KE.GoesZip
import KE.GoesRaise
import HandS.ReplaceLit
import PySem.Challenge.RW_evenlots_k45_texts_of_no_rows
set_option Elab.async false
set_option linter.all false
set_option maxRecDepth 100000
set_option maxHeartbeats 4000000
namespace Ev
open PySem PySem.Spec PyProof.Rows L2

inductive DKs where
  | k (l : List Key) | t (l : List (List Key))

inductive W where
  | dead | non
  | bl (b : Bool) | int (i : Int) | str (s : Str)
  | tup (ws : List W)
  | lst (m : Bool) (ws : List W)
  | scr (ws : List W)
  | nst (ws : List W)
  | ntp (ws : List W)
  | dct (m : Bool) (ks : DKs) (ws : List W)
  | ndc (ks : DKs) (ws : List W)
  | obj (c : Nat) (fs : List Str) (ws : List W)
  | exc (c : Nat)
  | edc

structure Dn where
  K : PySem.W.Frag
  CA : Nat → Addr

def ExC (C a : Addr) : HO := .ext fun h => ∃ (oe : Obj) (vs : Array Value), h.get? a = some oe ∧ Zc (.ref C) none oe ∧ oe.data = .fields vs
def DR (H : Hp) (a : Addr) : DKs → List V → Prop
  | .k l, vs => l.length = vs.length ∧ H a = some (.dK (l.zip vs))
  | .t l, vs => l.length = vs.length ∧ H a = some (.dT (l.zip vs))
/-- a table that is locked -/
def LkR (G : Hp) (a : Addr) : DKs → List V → Prop
  | .k l, vs => l.length = vs.length ∧ ∃ o, G a = some (.frz o (.dK (l.zip vs)))
  | .t l, vs => l.length = vs.length ∧ ∃ o, G a = some (.frz o (.dT (l.zip vs)))
theorem LkR.mono {G G' : Hp} {a : Addr} (e : ∀ a o, G a = some o → G' a = some o) : ∀ {ks : DKs} {vs : List V}, LkR G a ks vs → LkR G' a ks vs
  | .k _, _, h => ⟨h.1, h.2.elim fun o q => ⟨o, e _ _ q⟩⟩
  | .t _, _, h => ⟨h.1, h.2.elim fun o q => ⟨o, e _ _ q⟩⟩
/-- no tuple of its own -/
def NT (o : HO) : Prop := ∀ vs, o ≠ .tup vs
/-- what a table's place holds -/
inductive IsDct : HO → Prop where
  | dk (t : List (Key × V)) : IsDct (.dK t)
  | dt (t : List (List Key × V)) : IsDct (.dT t)
theorem IsDct.nt {o : HO} (i : IsDct o) : NT o := fun _ z => by subst z; cases i
theorem DR.is {H : Hp} {a : Addr} : ∀ {ks : DKs} {vs : List V}, DR H a ks vs → ∃ o, H a = some o ∧ IsDct o
  | .k _, _, h => ⟨_, h.2, .dk _⟩
  | .t _, _, h => ⟨_, h.2, .dt _⟩

mutual
def RF (D : Dn) (G : Hp) : W → V → Prop
  | .non, v => v = .non
  | .bl b, v => v = .bl b
  | .int i, v => v = .int i
  | .str s, v => v = .str s
  | .tup ws, v => ∃ a vs, v = .ref a ∧ SqT D.K G a vs ∧ RFs D G ws vs
  | .lst false ws, v => ∃ a vs, v = .ref a ∧ G a = some (.lst vs) ∧ RFs D G ws vs
  | .scr ws, v => ∃ a vs, v = .ref a ∧ SqL D.K G a vs ∧ RFs D G ws vs
  | _, _ => False
def RFs (D : Dn) (G : Hp) : List W → List V → Prop
  | [], vs => vs = []
  | w :: ws, vs => ∃ v r, vs = v :: r ∧ RF D G w v ∧ RFs D G ws r
end
mutual
def RO (D : Dn) (G H : Hp) : W → V → List Addr → Prop
  | .dead, _, O => O = []
  | .lst true ws, v, O => ∃ a vs, v = .ref a ∧ O = [a] ∧ H a = some (.lst vs) ∧ RFs D G ws vs
  | .nst ws, v, O => ∃ a vs O', v = .ref a ∧ O = a :: O' ∧ H a = some (.lst vs) ∧ ROs D G H ws vs O'
  | .ntp ws, v, O => ∃ a vs, v = .ref a ∧ SqT D.K G a vs ∧ ROs D G H ws vs O
  | .dct true ks ws, v, O => ∃ a vs, v = .ref a ∧ O = [a] ∧ DR H a ks vs ∧ RFs D G ws vs
  | .dct false ks ws, v, O => O = [] ∧ ∃ a vs, v = .ref a ∧ LkR G a ks vs ∧ RFs D G ws vs
  | .ndc ks ws, v, O => ∃ a vs O', v = .ref a ∧ O = a :: O' ∧ DR H a ks vs ∧ ROs D G H ws vs O'
  | .obj c fs ws, v, O => ∃ a dx vs O', v = .ref a ∧ O = a :: O' ∧ fs.length = vs.length ∧ H a = some (.ins (D.CA c) dx (fs.zip vs)) ∧ ROs D G H ws vs O'
  | .exc c, v, O => O = [] ∧ ∃ a, v = .ref a ∧ G a = some (ExC (D.CA c) a)
  | .edc, v, O => O = [] ∧ ∃ a, v = .ref a ∧ G a = some (.dK [])
  | w, v, O => O = [] ∧ RF D G w v
def ROs (D : Dn) (G H : Hp) : List W → List V → List Addr → Prop
  | [], vs, O => vs = [] ∧ O = []
  | w :: ws, vs, O => ∃ v r O1 O2, vs = v :: r ∧ O = O1 ++ O2 ∧ RO D G H w v O1 ∧ ROs D G H ws r O2
end
def W.frz : W → Bool
  | .dead => false
  | .lst m _ => !m
  | .nst _ => false
  | .ntp _ => false
  | .dct _ _ _ => false
  | .ndc _ _ => false
  | .obj _ _ _ => false
  | .exc _ => false
  | .edc => false
  | _ => true

/-- what was stands -/
def Sub (G G' : Hp) : Prop := ∀ a o, G a = some o → G' a = some o
theorem Sub.refl (G : Hp) : Sub G G := fun _ _ h => h
theorem Sub.trans {A B C : Hp} (h : Sub A B) (k : Sub B C) : Sub A C := fun a o e => k a o (h a o e)
theorem Sub.sqL {K : PySem.W.Frag} {G G' : Hp} {a : Addr} {xs : List V} (e : Sub G G') (h : SqL K G a xs) : SqL K G' a xs := Same.seq e h
theorem Sub.sqT {K : PySem.W.Frag} {G G' : Hp} {a : Addr} {xs : List V} (e : Sub G G') (h : SqT K G a xs) : SqT K G' a xs := by
  rcases h with (h | ⟨o, h⟩) | h
  · exact .inl (.inl (e _ _ h))
  · exact .inl (.inr ⟨o, e _ _ h⟩)
  · exact .inr h

mutual
theorem RF.mono {D : Dn} {G G' : Hp} (e : Sub G G') : ∀ (w : W) (v : V), RF D G w v → RF D G' w v
  | .non, _, h => h
  | .bl _, _, h => h
  | .int _, _, h => h
  | .str _, _, h => h
  | .tup ws, v, h => by
    obtain ⟨a, vs, rfl, h1, h2⟩ := h
    exact ⟨a, vs, rfl, e.sqT h1, RFs.mono e ws vs h2⟩
  | .lst false ws, v, h => by
    obtain ⟨a, vs, rfl, h1, h2⟩ := h
    exact ⟨a, vs, rfl, e _ _ h1, RFs.mono e ws vs h2⟩
  | .scr ws, v, h => by
    obtain ⟨a, vs, rfl, h1, h2⟩ := h
    exact ⟨a, vs, rfl, e.sqL h1, RFs.mono e ws vs h2⟩
  | .exc _, _, h => h
  | .edc, _, h => h
  | .dead, _, h => h
  | .lst true _, _, h => h
  | .nst _, _, h => h
  | .ntp _, _, h => h
  | .dct _ _ _, _, h => h
  | .ndc _ _, _, h => h
  | .obj _ _ _, _, h => h
theorem RFs.mono {D : Dn} {G G' : Hp} (e : Sub G G') : ∀ (ws : List W) (vs : List V), RFs D G ws vs → RFs D G' ws vs
  | [], _, h => h
  | w :: ws, _, h => by
    obtain ⟨v, r, rfl, h1, h2⟩ := h
    exact ⟨v, r, rfl, RF.mono e w v h1, RFs.mono e ws r h2⟩
end
theorem DR.keep {H H' : Hp} {a : Addr} (k : ∀ o, H a = some o → H' a = some o) : ∀ {ks : DKs} {vs : List V}, DR H a ks vs → DR H' a ks vs
  | .k _, _, h => ⟨h.1, k _ h.2⟩
  | .t _, _, h => ⟨h.1, k _ h.2⟩
mutual
theorem RO.mono {D : Dn} {G G' H H' : Hp} (e : Sub G G') : ∀ (w : W) (v : V) (O : List Addr), (∀ a ∈ O, ∀ o, H a = some o → H' a = some o) → RO D G H w v O → RO D G' H' w v O
  | .dead, _, _, _, h => h
  | .lst true ws, v, O, k, h => by
    obtain ⟨a, vs, rfl, rfl, h1, h2⟩ := h
    exact ⟨a, vs, rfl, rfl, k a List.mem_cons_self _ h1, RFs.mono e ws vs h2⟩
  | .nst ws, v, O, k, h => by
    obtain ⟨a, vs, O', rfl, rfl, h1, h2⟩ := h
    exact ⟨a, vs, O', rfl, rfl, k a List.mem_cons_self _ h1, ROs.mono e ws vs O' (fun b hb => k b (List.mem_cons_of_mem _ hb)) h2⟩
  | .ntp ws, v, O, k, h => by
    obtain ⟨a, vs, rfl, h1, h2⟩ := h
    exact ⟨a, vs, rfl, e.sqT h1, ROs.mono e ws vs O k h2⟩
  | .dct true ks ws, v, O, k, h => by
    obtain ⟨a, vs, rfl, rfl, h1, h2⟩ := h
    exact ⟨a, vs, rfl, rfl, h1.keep (k a List.mem_cons_self), RFs.mono e ws vs h2⟩
  | .ndc ks ws, v, O, k, h => by
    obtain ⟨a, vs, O', rfl, rfl, h1, h2⟩ := h
    exact ⟨a, vs, O', rfl, rfl, h1.keep (k a List.mem_cons_self), ROs.mono e ws vs O' (fun b hb => k b (List.mem_cons_of_mem _ hb)) h2⟩
  | .obj c fs ws, v, O, k, h => by
    obtain ⟨a, dx, vs, O', rfl, rfl, hl, h1, h2⟩ := h
    exact ⟨a, dx, vs, O', rfl, rfl, hl, k a List.mem_cons_self _ h1, ROs.mono e ws vs O' (fun b hb => k b (List.mem_cons_of_mem _ hb)) h2⟩
  | .non, _, _, _, h => ⟨h.1, RF.mono e _ _ h.2⟩
  | .bl _, _, _, _, h => ⟨h.1, RF.mono e _ _ h.2⟩
  | .int _, _, _, _, h => ⟨h.1, RF.mono e _ _ h.2⟩
  | .str _, _, _, _, h => ⟨h.1, RF.mono e _ _ h.2⟩
  | .tup _, _, _, _, h => ⟨h.1, RF.mono e _ _ h.2⟩
  | .lst false _, _, _, _, h => ⟨h.1, RF.mono e _ _ h.2⟩
  | .scr _, _, _, _, h => ⟨h.1, RF.mono e _ _ h.2⟩
  | .dct false ks ws, _, _, _, h => by
    obtain ⟨h0, a, vs, rfl, h1, h2⟩ := h
    exact ⟨h0, a, vs, rfl, h1.mono e, RFs.mono e ws vs h2⟩
  | .exc _, _, _, _, h => by
    obtain ⟨h0, a, rfl, h1⟩ := h
    exact ⟨h0, a, rfl, e _ _ h1⟩
  | .edc, _, _, _, h => by
    obtain ⟨h0, a, rfl, h1⟩ := h
    exact ⟨h0, a, rfl, e _ _ h1⟩
theorem ROs.mono {D : Dn} {G G' H H' : Hp} (e : Sub G G') : ∀ (ws : List W) (vs : List V) (O : List Addr), (∀ a ∈ O, ∀ o, H a = some o → H' a = some o) → ROs D G H ws vs O → ROs D G' H' ws vs O
  | [], _, _, _, h => h
  | w :: ws, _, _, k, h => by
    obtain ⟨v, r, O1, O2, rfl, rfl, h1, h2⟩ := h
    exact ⟨v, r, O1, O2, rfl, rfl, RO.mono e w v O1 (fun b hb => k b (List.mem_append_left _ hb)) h1, ROs.mono e ws r O2 (fun b hb => k b (List.mem_append_right _ hb)) h2⟩
end
theorem RF.frz {D : Dn} {G : Hp} : ∀ {w : W} {v : V}, RF D G w v → w.frz = true
  | .non, _, _ => rfl
  | .bl _, _, _ => rfl
  | .int _, _, _ => rfl
  | .str _, _, _ => rfl
  | .tup _, _, _ => rfl
  | .lst false _, _, _ => rfl
  | .scr _, _, _ => rfl
theorem RO.ofF {D : Dn} {G H : Hp} : ∀ {w : W} {v : V}, RF D G w v → RO D G H w v []
  | .non, _, h => ⟨rfl, h⟩
  | .bl _, _, h => ⟨rfl, h⟩
  | .int _, _, h => ⟨rfl, h⟩
  | .str _, _, h => ⟨rfl, h⟩
  | .tup _, _, h => ⟨rfl, h⟩
  | .lst false _, _, h => ⟨rfl, h⟩
  | .scr _, _, h => ⟨rfl, h⟩
theorem RO.toF {D : Dn} {G H : Hp} : ∀ {w : W} {v : V} {O : List Addr}, RO D G H w v O → w.frz = true → O = [] ∧ RF D G w v
  | .non, _, _, h, _ => h
  | .bl _, _, _, h, _ => h
  | .int _, _, _, h, _ => h
  | .str _, _, _, h, _ => h
  | .tup _, _, _, h, _ => h
  | .lst false _, _, _, h, _ => h
  | .lst true _, _, _, _, e => nomatch e
  | .dct false _ _, _, _, _, e => nomatch e
  | .dct true _ _, _, _, _, e => nomatch e
  | .scr _, _, _, h, _ => h
  | .dead, _, _, _, e => nomatch e
  | .nst _, _, _, _, e => nomatch e
  | .ntp _, _, _, _, e => nomatch e
  | .ndc _ _, _, _, _, e => nomatch e
  | .obj _ _ _, _, _, _, e => nomatch e
  | .exc _, _, _, _, e => nomatch e
  | .edc, _, _, _, e => nomatch e
mutual
/-- what is owned stands, and is no tuple -/
theorem RO.thn {D : Dn} {G H : Hp} : ∀ (w : W) (v : V) (O : List Addr), RO D G H w v O → ∀ a ∈ O, ∃ o, H a = some o ∧ NT o
  | .dead, _, _, h, _, ha => by subst h; cases ha
  | .lst true ws, v, O, h, b, hb => by
    obtain ⟨a, vs, rfl, rfl, h1, h2⟩ := h
    rw [List.mem_singleton.mp hb]; exact ⟨_, h1, fun _ z => nomatch z⟩
  | .nst ws, v, O, h, b, hb => by
    obtain ⟨a, vs, O', rfl, rfl, h1, h2⟩ := h
    rcases List.mem_cons.mp hb with e | hb
    · rw [e]; exact ⟨_, h1, fun _ z => nomatch z⟩
    · exact ROs.thn ws vs O' h2 b hb
  | .ntp ws, v, O, h, b, hb => by
    obtain ⟨a, vs, rfl, h1, h2⟩ := h
    exact ROs.thn ws vs O h2 b hb
  | .dct true ks ws, v, O, h, b, hb => by
    obtain ⟨a, vs, rfl, rfl, h1, h2⟩ := h
    obtain ⟨o, e, i⟩ := h1.is
    rw [List.mem_singleton.mp hb]; exact ⟨o, e, i.nt⟩
  | .ndc ks ws, v, O, h, b, hb => by
    obtain ⟨a, vs, O', rfl, rfl, h1, h2⟩ := h
    rcases List.mem_cons.mp hb with e | hb
    · obtain ⟨o, e', i⟩ := h1.is
      rw [e]; exact ⟨o, e', i.nt⟩
    · exact ROs.thn ws vs O' h2 b hb
  | .obj c fs ws, v, O, h, b, hb => by
    obtain ⟨a, dx, vs, O', rfl, rfl, hl, h1, h2⟩ := h
    rcases List.mem_cons.mp hb with e | hb
    · rw [e]; exact ⟨_, h1, fun _ z => nomatch z⟩
    · exact ROs.thn ws vs O' h2 b hb
  | .non, _, _, h, _, ha => by rw [h.1] at ha; cases ha
  | .bl _, _, _, h, _, ha => by rw [h.1] at ha; cases ha
  | .int _, _, _, h, _, ha => by rw [h.1] at ha; cases ha
  | .str _, _, _, h, _, ha => by rw [h.1] at ha; cases ha
  | .tup _, _, _, h, _, ha => by rw [h.1] at ha; cases ha
  | .lst false _, _, _, h, _, ha => by rw [h.1] at ha; cases ha
  | .scr _, _, _, h, _, ha => by rw [h.1] at ha; cases ha
  | .dct false _ _, _, _, h, _, ha => by rw [h.1] at ha; cases ha
  | .exc _, _, _, h, _, ha => by rw [h.1] at ha; cases ha
  | .edc, _, _, h, _, ha => by rw [h.1] at ha; cases ha
theorem ROs.thn {D : Dn} {G H : Hp} : ∀ (ws : List W) (vs : List V) (O : List Addr), ROs D G H ws vs O → ∀ a ∈ O, ∃ o, H a = some o ∧ NT o
  | [], _, _, h, _, ha => by rw [h.2] at ha; cases ha
  | w :: ws, _, _, h, b, hb => by
    obtain ⟨v, r, O1, O2, rfl, rfl, h1, h2⟩ := h
    rcases List.mem_append.mp hb with hb | hb
    · exact RO.thn w v O1 h1 b hb
    · exact ROs.thn ws r O2 h2 b hb
end
theorem RO.there {D : Dn} {G H : Hp} (w : W) (v : V) (O : List Addr) (h : RO D G H w v O) : ∀ a ∈ O, H a ≠ none := fun a ha => by
  obtain ⟨o, e, _⟩ := RO.thn w v O h a ha
  rw [e]; exact fun z => nomatch z
theorem ROs.there {D : Dn} {G H : Hp} (ws : List W) (vs : List V) (O : List Addr) (h : ROs D G H ws vs O) : ∀ a ∈ O, H a ≠ none := fun a ha => by
  obtain ⟨o, e, _⟩ := ROs.thn ws vs O h a ha
  rw [e]; exact fun z => nomatch z
end Ev

namespace Ev
open PySem PySem.Spec L2

/-! ### outcomes -/
inductive Out (α : Type) where
  | ok (a : α) (env : List W)
  | ex (c : Nat) (env : List W)
  | bad
abbrev Sm (α : Type) := List W → Out α
def Sm.bind {α β : Type} (m : Sm α) (f : α → Sm β) : Sm β := fun e => match m e with
  | .ok a e' => f a e'
  | .ex c e' => .ex c e'
  | .bad => .bad
def Sm.ret {α : Type} (a : α) : Sm α := fun e => .ok a e
def lft {α : Type} (o : Option α) : Sm α := fun e => match o with
  | some a => .ok a e
  | none => .bad

/-! ### the state -/
structure Zt where
  X : Cx
  CA : Nat → Addr
  W : WX
  io : Nat → Bool
abbrev Zt.D (Z : Zt) : Dn := ⟨Z.X.K, Z.CA⟩

structure Step (G H : Hp) (O : List Addr) (G' H' : Hp) (O' : List Addr) : Prop where
  mono : Sub G G'
  keep : ∀ a o, H a = some o → a ∉ O → H' a = some o
  gnew : ∀ a o, H a = some o → a ∉ O → NT o → G a = none → G' a = none
  new : ∀ a ∈ O', a ∈ O ∨ H a = none
theorem Step.refl (G H : Hp) (O : List Addr) : Step G H O G H O := ⟨Sub.refl _, fun _ _ h _ => h, fun _ _ _ _ _ h => h, fun _ h => .inl h⟩
theorem Step.trans {G H G1 H1 G2 H2 : Hp} {O O1 O2 : List Addr} (a : Step G H O G1 H1 O1) (b : Step G1 H1 O1 G2 H2 O2) : Step G H O G2 H2 O2 := by
  have no : ∀ c o, H c = some o → c ∉ O → c ∉ O1 := fun c o h n z => (a.new c z).elim n fun e => by rw [h] at e; cases e
  refine ⟨a.mono.trans b.mono, fun c o h n => b.keep c o (a.keep c o h n) (no c o h n), fun c o h n nt g => b.gnew c o (a.keep c o h n) (no c o h n) nt (a.gnew c o h n nt g), fun c hc => ?_⟩
  rcases b.new c hc with z | z
  · exact a.new c z
  · by_cases hO : c ∈ O
    · exact .inl hO
    · refine .inr ?_
      cases q : H c with
      | none => rfl
      | some o => rw [a.keep c o q hO] at z; cases z
theorem Step.less {G H G' H' : Hp} {O O' O2 : List Addr} (a : Step G H O G' H' O') (h : ∀ x ∈ O2, x ∈ O') : Step G H O G' H' O2 := ⟨a.mono, a.keep, a.gnew, fun x hx => a.new x (h x hx)⟩
/-- more may be changed -/
theorem Step.more {G H G' H' : Hp} {O O' P : List Addr} (a : Step G H O G' H' O') : Step G H (P ++ O) G' H' (P ++ O') :=
  ⟨a.mono, fun c o h n => a.keep c o h fun z => n (List.mem_append_right _ z), fun c o h n => a.gnew c o h fun z => n (List.mem_append_right _ z), fun c hc => by
    rcases List.mem_append.mp hc with z | z
    · exact .inl (List.mem_append_left _ z)
    · exact (a.new c z).imp (List.mem_append_right _) id⟩
theorem Step.pure0 {G H G' H' : Hp} {O O' : List Addr} (a : Step G H [] G' H' O') : Step G H O G' H' (O ++ O') := by
  have h := a.more (P := O)
  rwa [List.append_nil] at h
def SR (D : Dn) (G H : Hp) (w : W) (s : Option V) (O : List Addr) : Prop := (∃ v, s = some v ∧ RO D G H w v O) ∨ (w = .dead ∧ O = [])
def Sl (D : Dn) (G H : Hp) : List W → St → List (List Addr) → Prop
  | [], σ, Os => σ = [] ∧ Os = []
  | w :: env, σ, Os => ∃ s σ' O Os', σ = s :: σ' ∧ Os = O :: Os' ∧ SR D G H w s O ∧ Sl D G H env σ' Os'
theorem SR.mono {D : Dn} {G H G' H' : Hp} {w : W} {s : Option V} {O : List Addr} (e : Sub G G') (k : ∀ a ∈ O, ∀ o, H a = some o → H' a = some o) (h : SR D G H w s O) : SR D G' H' w s O := by
  rcases h with ⟨v, e1, h⟩ | h
  · exact .inl ⟨v, e1, RO.mono e w v O k h⟩
  · exact .inr h
theorem SR.there {D : Dn} {G H : Hp} {w : W} {s : Option V} {O : List Addr} (h : SR D G H w s O) : ∀ a ∈ O, H a ≠ none := by
  rcases h with ⟨v, e1, h⟩ | ⟨_, h⟩
  · exact RO.there w v O h
  · intro a ha; rw [h] at ha; cases ha
theorem Sl.mono {D : Dn} {G H G' H' : Hp} (e : Sub G G') : ∀ {env : List W} {σ : St} {Os : List (List Addr)}, (∀ a ∈ Os.flatten, ∀ o, H a = some o → H' a = some o) → Sl D G H env σ Os → Sl D G' H' env σ Os
  | [], _, _, _, h => h
  | w :: env, _, _, k, h => by
    obtain ⟨s, σ', O, Os', rfl, rfl, h1, h2⟩ := h
    exact ⟨s, σ', O, Os', rfl, rfl, h1.mono e fun a ha => k a (by rw [List.flatten_cons]; exact List.mem_append_left _ ha), Sl.mono e (fun a ha => k a (by rw [List.flatten_cons]; exact List.mem_append_right _ ha)) h2⟩
theorem Sl.there {D : Dn} {G H : Hp} : ∀ {env : List W} {σ : St} {Os : List (List Addr)}, Sl D G H env σ Os → ∀ a ∈ Os.flatten, H a ≠ none
  | [], _, _, h, a, ha => by rw [h.2] at ha; cases ha
  | w :: env, _, _, h, a, ha => by
    obtain ⟨s, σ', O, Os', rfl, rfl, h1, h2⟩ := h
    rw [List.flatten_cons] at ha
    rcases List.mem_append.mp ha with ha | ha
    · exact h1.there a ha
    · exact Sl.there h2 a ha
theorem Sl.len {D : Dn} {G H : Hp} : ∀ {env : List W} {σ : St} {Os : List (List Addr)}, Sl D G H env σ Os → env.length = σ.length ∧ Os.length = σ.length
  | [], _, _, h => by rw [h.1, h.2]; exact ⟨rfl, rfl⟩
  | w :: env, _, _, h => by
    obtain ⟨s, σ', O, Os', rfl, rfl, h1, h2⟩ := h
    obtain ⟨e1, e2⟩ := Sl.len h2
    simp [e1, e2]
theorem Sl.at {D : Dn} {G H : Hp} : ∀ {env : List W} {σ : St} {Os : List (List Addr)} {i : Nat} {w : W}, Sl D G H env σ Os → env[i]? = some w → ∃ s O, σ[i]? = some s ∧ Os[i]? = some O ∧ SR D G H w s O
  | [], _, _, _, _, _, e => by simp at e
  | w :: env, _, _, 0, _, h, e => by
    obtain ⟨s, σ', O, Os', rfl, rfl, h1, h2⟩ := h
    have := Option.some.inj e
    subst this
    exact ⟨s, O, rfl, rfl, h1⟩
  | w :: env, _, _, i + 1, _, h, e => by
    obtain ⟨s, σ', O, Os', rfl, rfl, h1, h2⟩ := h
    exact Sl.at (i := i) h2 e
theorem Sl.set {D : Dn} {G H : Hp} {w : W} {s : Option V} {O : List Addr} (r : SR D G H w s O) : ∀ {env : List W} {σ : St} {Os : List (List Addr)} (i : Nat), Sl D G H env σ Os → Sl D G H (env.set i w) (σ.set i s) (Os.set i O)
  | [], _, _, _, h => by rw [h.1, h.2]; exact ⟨rfl, rfl⟩
  | _ :: env, _, _, 0, h => by
    obtain ⟨s', σ', O', Os', rfl, rfl, h1, h2⟩ := h
    exact ⟨s, σ', O, Os', rfl, rfl, r, h2⟩
  | _ :: env, _, _, i + 1, h => by
    obtain ⟨s', σ', O', Os', rfl, rfl, h1, h2⟩ := h
    exact ⟨s', _, O', _, rfl, rfl, h1, Sl.set r i h2⟩

structure StOk (D : Dn) (G H : Hp) (env : List W) (σ : St) (Os : List (List Addr)) : Prop where
  sl : Sl D G H env σ Os
  sub : Sub G H
  gn : ∀ a ∈ Os.flatten, G a = none
  nd : Os.flatten.Nodup
theorem StOk.there {D : Dn} {G H : Hp} {env : List W} {σ : St} {Os : List (List Addr)} (s : StOk D G H env σ Os) : ∀ a ∈ Os.flatten, ∃ o, H a = some o := fun a ha => by
  cases q : H a with
  | none => exact absurd q (s.sl.there a ha)
  | some o => exact ⟨o, rfl⟩
theorem SR.thn {D : Dn} {G H : Hp} {w : W} {s : Option V} {O : List Addr} (h : SR D G H w s O) : ∀ a ∈ O, ∃ o, H a = some o ∧ NT o := by
  rcases h with ⟨v, e1, h⟩ | ⟨_, h⟩
  · exact RO.thn w v O h
  · intro a ha; rw [h] at ha; cases ha
theorem Sl.thn {D : Dn} {G H : Hp} : ∀ {env : List W} {σ : St} {Os : List (List Addr)}, Sl D G H env σ Os → ∀ a ∈ Os.flatten, ∃ o, H a = some o ∧ NT o
  | [], _, _, h, a, ha => by rw [h.2] at ha; cases ha
  | w :: env, _, _, h, a, ha => by
    obtain ⟨s, σ', O, Os', rfl, rfl, h1, h2⟩ := h
    rw [List.flatten_cons] at ha
    rcases List.mem_append.mp ha with ha | ha
    · exact h1.thn a ha
    · exact Sl.thn h2 a ha
theorem StOk.thn {D : Dn} {G H : Hp} {env : List W} {σ : St} {Os : List (List Addr)} (s : StOk D G H env σ Os) : ∀ a ∈ Os.flatten, ∃ o, H a = some o ∧ NT o := s.sl.thn
theorem StOk.step {D : Dn} {G H G' H' : Hp} {env : List W} {σ : St} {Os : List (List Addr)} {O' : List Addr} (s : StOk D G H env σ Os) (t : Step G H [] G' H' O') (sub : Sub G' H') : StOk D G' H' env σ Os :=
  ⟨s.sl.mono t.mono fun a _ o h => t.keep a o h (fun z => nomatch z), sub, fun a ha => by
    obtain ⟨o, ho, nt⟩ := s.thn a ha
    exact t.gnew a o ho (fun z => nomatch z) nt (s.gn a ha), s.nd⟩
theorem StOk.apart {D : Dn} {G H G' H' : Hp} {env : List W} {σ : St} {Os : List (List Addr)} {O' : List Addr} (s : StOk D G H env σ Os) (t : Step G H [] G' H' O') (n : O'.Nodup) : (Os.flatten ++ O').Nodup :=
  List.nodup_append.mpr ⟨s.nd, n, fun a ha b hb e => by
    subst e
    obtain ⟨o, ho⟩ := s.there a ha
    rcases t.new a hb with z | z
    · cases z
    · rw [ho] at z; cases z⟩

/-- what an expression did: p: it changed nothing; else what the frame owns may be changed -/
def Stp (p : Bool) (env : List W) (G H : Hp) (Os : List (List Addr)) (env' : List W) (G' H' : Hp) (Os' : List (List Addr)) (Ow : List Addr) : Prop := match p with
  | true => env' = env ∧ Os' = Os ∧ Step G H [] G' H' Ow
  | false => Step G H Os.flatten G' H' (Os'.flatten ++ Ow)
theorem Stp.gen {p : Bool} {env env' : List W} {G H G' H' : Hp} {Os Os' : List (List Addr)} {Ow : List Addr} (h : Stp p env G H Os env' G' H' Os' Ow) : Step G H Os.flatten G' H' (Os'.flatten ++ Ow) := by
  cases p with
  | true => obtain ⟨rfl, rfl, h⟩ := h; exact h.pure0
  | false => exact h
theorem Stp.less {p : Bool} {env env' : List W} {G H G' H' : Hp} {Os Os' : List (List Addr)} {Ow O2 : List Addr} (h : Stp p env G H Os env' G' H' Os' Ow) (k : ∀ x ∈ O2, x ∈ Ow) : Stp p env G H Os env' G' H' Os' O2 := by
  cases p with
  | true => obtain ⟨e1, e2, h⟩ := h; exact ⟨e1, e2, h.less k⟩
  | false => exact Step.less h fun x hx => (List.mem_append.mp hx).elim (List.mem_append_left _) fun z => List.mem_append_right _ (k x z)
theorem Step.dropMid {G H G1 H1 G2 H2 : Hp} {O1 O2 : List Addr} (a : Step G H [] G1 H1 O1) (b : Step G1 H1 [] G2 H2 O2) : Step G H [] G2 H2 O2 := by
  have z := a.less (O2 := []) (fun x hx => nomatch hx)
  exact z.trans b
theorem Stp.trans {p q : Bool} {env env1 env2 : List W} {G H G1 H1 G2 H2 : Hp} {Os Os1 Os2 : List (List Addr)} {O1 O2 : List Addr} (a : Stp p env G H Os env1 G1 H1 Os1 O1) (b : Stp q env1 G1 H1 Os1 env2 G2 H2 Os2 O2) : Stp (p && q) env G H Os env2 G2 H2 Os2 O2 := by
  cases p with
  | true =>
    cases q with
    | true =>
      obtain ⟨rfl, rfl, a⟩ := a
      obtain ⟨rfl, rfl, b⟩ := b
      exact ⟨rfl, rfl, a.dropMid b⟩
    | false =>
      have a' := a.gen
      exact (a'.less (O2 := Os1.flatten) fun x hx => List.mem_append_left _ hx).trans b
  | false =>
    have a' : Step G H Os.flatten G1 H1 (Os1.flatten ++ O1) := a
    exact (a'.less (O2 := Os1.flatten) fun x hx => List.mem_append_left _ hx).trans b.gen
theorem Stp.and {p : Bool} (q : Bool) {env env' : List W} {G H G' H' : Hp} {Os Os' : List (List Addr)} {Ow : List Addr} (h : Stp p env G H Os env' G' H' Os' Ow) : Stp (p && q) env G H Os env' G' H' Os' Ow := by
  cases p with
  | true => cases q with
    | true => exact h
    | false => exact h.gen
  | false => exact h
theorem Stp.id (p : Bool) {env : List W} {G H : Hp} {Os : List (List Addr)} : Stp p env G H Os env G H Os [] := by
  cases p with
  | true => exact ⟨rfl, rfl, Step.refl _ _ _⟩
  | false => show Step G H Os.flatten G H (Os.flatten ++ []); rw [List.append_nil]; exact Step.refl _ _ _
theorem Stp.grow (p : Bool) {env : List W} {G H G' H' : Hp} {Os : List (List Addr)} {Ow : List Addr} (t : Step G H [] G' H' Ow) : Stp p env G H Os env G' H' Os Ow := by
  cases p with
  | true => exact ⟨rfl, rfl, t⟩
  | false => exact t.pure0

/-- whose the answer is: new and its holder's, or seen at its place -/
def OwnK (k : Bool) (Os : List (List Addr)) (Ow : List Addr) (G : Hp) : Prop := match k with
  | true => (Os.flatten ++ Ow).Nodup ∧ ∀ a ∈ Ow, G a = none
  | false => ∀ a ∈ Ow, a ∈ Os.flatten
theorem OwnK.nil {k : Bool} {D : Dn} {G H : Hp} {env : List W} {σ : St} {Os : List (List Addr)} (s : StOk D G H env σ Os) : OwnK k Os [] G := by
  cases k with
  | true => exact ⟨by rw [List.append_nil]; exact s.nd, fun _ z => nomatch z⟩
  | false => exact fun _ z => nomatch z
def kO (k : Bool) (O : List Addr) : List Addr := match k with
  | true => O
  | false => []

def TX (D : Dn) (Wx : WX) (p k : Bool) (m : Sm W) : TE := fun σ H Q => ∃ (env : List W) (G : Hp) (Os : List (List Addr)), StOk D G H env σ Os ∧ match m env with
  | .ok w env' => ∀ v G' H' Os' Ow, StOk D G' H' env' σ Os' → RO D G' H' w v Ow → OwnK k Os' Ow G' → Stp p env G H Os env' G' H' Os' (kO k Ow) → Q v H'
  | .ex c env' => ∀ G' H' Os', StOk D G' H' env' σ Os' → Stp p env G H Os env' G' H' Os' [] → Wx (.ref (D.CA c)) none σ H'
  | .bad => False
abbrev ME (Z : Zt) (e : Expr) (m : Sm W) (p k : Bool) : Prop := PE Z.X e (TX Z.D Z.W p k m)
theorem pe_imp {X : Cx} {e : Expr} {t t' : TE} (h : PE X e t) (i : ∀ σ H Q, t' σ H Q → t σ H Q) : PE X e t' := ⟨fun pins s σ H Q I w => h.run pins s σ H Q I (i σ H Q w)⟩

/-- what was told ahead stands behind the next expression -/
theorem stay {D : Dn} {k p : Bool} {w : W} {v : V} {env env' : List W} {σ : St} {G H G' H' : Hp} {Os Os' : List (List Addr)} {Ow O2 : List Addr} (s : StOk D G H env σ Os) (r : RO D G H w v Ow) (o : OwnK k Os Ow G) (t : Stp p env G H Os env' G' H' Os' O2)
    (g : (k || p || w.frz) = true) : RO D G' H' w v Ow := by
  by_cases hf : w.frz = true
  · obtain ⟨rfl, f⟩ := r.toF hf
    exact RO.ofF (RF.mono t.gen.mono _ _ f)
  · refine RO.mono t.gen.mono w v Ow (fun a ha x hx => ?_) r
    cases p with
    | true => exact t.2.2.keep a x hx (fun z => nomatch z)
    | false =>
      cases k with
      | false =>
        rw [Bool.or_self, Bool.false_or] at g
        exact absurd g hf
      | true =>
        refine t.gen.keep a x hx fun z => ?_
        exact (List.nodup_append.mp o.1).2.2 a z a ha rfl

/-! ### operators by values -/
def mBin (f : W → W → Option W) (g : Bool) (m1 m2 : Sm W) : Sm W := Sm.bind m1 fun w1 => Sm.bind m2 fun w2 => if (g || w1.frz) = true then lft (f w1 w2) else fun _ => .bad
/-- the answer of a rule by values -/
def Ans (D : Dn) (G H : Hp) (w : W) (Q : VK) : Prop := ∀ v G' H' Ow, Sub G' H' → RO D G' H' w v Ow → Ow.Nodup → (∀ a ∈ Ow, G' a = none) → Step G H [] G' H' Ow → Q v H'
/-- a rule by values does what f says -/
def RelS (D : Dn) (r : R2) (f : W → W → Option W) : Prop := ∀ (G H : Hp) (w1 w2 : W) (v1 v2 : V) (O1 O2 : List Addr) (w : W) (Q : VK), Sub G H → RO D G H w1 v1 O1 → RO D G H w2 v2 O2 → f w1 w2 = some w → Ans D G H w Q → r v1 v2 H Q
def rAny (X : Cx) (h : Value → Value → PySem.Sem Value) : R2 := fun x y H Q => ∃ r : R2, OpR X h r ∧ r x y H Q
theorem op_any {X : Cx} {h : Value → Value → PySem.Sem Value} : OpR X h (rAny X h) := fun pins s σ H x y v u Q I rx ry ⟨r, ho, q⟩ => ho pins s σ H x y v u Q I rx ry q
abbrev OpS (Z : Zt) (h : Value → Value → PySem.Sem Value) (f : W → W → Option W) : Prop := RelS Z.D (rAny Z.X h) f

/-- from a rule's answer to the expression's -/
theorem Ans.of {D : Dn} {p : Bool} {env env2 : List W} {σ : St} {G H G2 H2 : Hp} {Os Os2 : List (List Addr)} {O2 : List Addr} {w : W} {Q : VK} (s2 : StOk D G2 H2 env2 σ Os2) (t : Stp p env G H Os env2 G2 H2 Os2 O2)
    (h : ∀ v G' H' Os' Ow, StOk D G' H' env2 σ Os' → RO D G' H' w v Ow → OwnK true Os' Ow G' → Stp p env G H Os env2 G' H' Os' Ow → Q v H') : Ans D G2 H2 w Q := fun v G' H' Ow sub r nd gn st => by
  refine h v G' H' Os2 Ow (s2.step st sub) r ⟨s2.apart st nd, gn⟩ ?_
  have z := t.trans (Stp.grow true (env := env2) (Os := Os2) st)
  rwa [Bool.and_true] at z
theorem Ans.int {D : Dn} {G H : Hp} {i : Int} {Q : VK} (s : Sub G H) (h : Ans D G H (.int i) Q) : Q (.int i) H := h _ G H [] s ⟨rfl, rfl⟩ List.nodup_nil (fun _ z => nomatch z) (Step.refl _ _ _)
theorem Ans.bl {D : Dn} {G H : Hp} {i : Bool} {Q : VK} (s : Sub G H) (h : Ans D G H (.bl i) Q) : Q (.bl i) H := h _ G H [] s ⟨rfl, rfl⟩ List.nodup_nil (fun _ z => nomatch z) (Step.refl _ _ _)
theorem Ans.str {D : Dn} {G H : Hp} {i : Str} {Q : VK} (s : Sub G H) (h : Ans D G H (.str i) Q) : Q (.str i) H := h _ G H [] s ⟨rfl, rfl⟩ List.nodup_nil (fun _ z => nomatch z) (Step.refl _ _ _)
theorem Ans.non {D : Dn} {G H : Hp} {Q : VK} (s : Sub G H) (h : Ans D G H .non Q) : Q .non H := h _ G H [] s ⟨rfl, rfl⟩ List.nodup_nil (fun _ z => nomatch z) (Step.refl _ _ _)
/-- a frozen thing as it stands -/
theorem Ans.fro {D : Dn} {G H : Hp} {w : W} {v : V} {Q : VK} (s : Sub G H) (r : RF D G w v) (h : Ans D G H w Q) : Q v H := h _ G H [] s (RO.ofF r) List.nodup_nil (fun _ z => nomatch z) (Step.refl _ _ _)

theorem tx_bin {D : Dn} {Wx : WX} {r : R2} {f : W → W → Option W} {m1 m2 : Sm W} {p1 p2 k1 k2 : Bool} (o : RelS D r f) {σ : St} {H : Hp} {Q : VK} (hq : TX D Wx (p1 && p2) true (mBin f (k1 || p2) m1 m2) σ H Q) :
    tOp r (TX D Wx p1 k1 m1) (TX D Wx p2 k2 m2) σ H Q := by
  obtain ⟨env, G, Os, s, hq⟩ := hq
  refine ⟨env, G, Os, s, ?_⟩
  unfold mBin Sm.bind at hq
  cases e1 : m1 env with
  | bad => rw [e1] at hq; exact hq
  | ex c env1 =>
    rw [e1] at hq
    intro G' H' Os' s' t
    exact hq G' H' Os' s' (t.and p2)
  | ok w1 env1 =>
    rw [e1] at hq
    intro v1 G1 H1 Os1 O1 s1 r1 o1 t1
    refine ⟨env1, G1, Os1, s1, ?_⟩
    cases e2 : m2 env1 with
    | bad => simp only [e2] at hq
    | ex c env2 =>
      simp only [e2] at hq
      intro G' H' Os' s' t
      exact hq G' H' Os' s' (t1.trans t)
    | ok w2 env2 =>
      simp only [e2] at hq
      intro v2 G2 H2 Os2 O2 s2 r2 o2 t2
      by_cases hg : (k1 || p2 || w1.frz) = true
      · rw [if_pos hg] at hq
        unfold lft at hq
        cases ef : f w1 w2 with
        | none => rw [ef] at hq; exact hq.elim
        | some w =>
          rw [ef] at hq
          have r1' := stay s1 r1 o1 t2 hg
          exact o G2 H2 w1 w2 v1 v2 O1 O2 w Q s2.sub r1' r2 ef (Ans.of (p := p1 && p2) s2 (t1.trans t2) hq)
      · rw [if_neg hg] at hq
        exact hq.elim
theorem me_op {Z : Zt} {op : Operator} {f : W → W → Option W} {a b : Expr} {m1 m2 : Sm W} {p1 p2 k1 k2 : Bool} {pos : Pos} (o : OpS Z (binaryOp op) f) (ha : ME Z a m1 p1 k1) (hb : ME Z b m2 p2 k2) : ME Z (.BinOp a op b pos) (mBin f (k1 || p2) m1 m2) (p1 && p2) true :=
  pe_imp (pe_op op_any ha hb) fun _ _ _ h => tx_bin o h
theorem me_cmp {Z : Zt} {op : CmpOp} {f : W → W → Option W} {a b : Expr} {m1 m2 : Sm W} {p1 p2 k1 k2 : Bool} {pos : Pos} (o : OpS Z (compareOp op) f) (ha : ME Z a m1 p1 k1) (hb : ME Z b m2 p2 k2) (hm : behindInMarks op b = false := by first | exact nomark _ | rfl) :
    ME Z (.Compare a [op] [b] pos) (mBin f (k1 || p2) m1 m2) (p1 && p2) true :=
  pe_imp (pe_cmpR op_any ha hb hm) fun _ _ _ h => tx_bin o h
end Ev

namespace Ev
open PySem PySem.Spec L2

/-! ### names, constants -/
def mC (w : W) : Sm W := Sm.ret w
def mVar (i : Nat) : Sm W := fun env => match env[i]? with
  | some .dead => .bad
  | some w => .ok w env
  | none => .bad
def mMove (i : Nat) : Sm W := fun env => match env[i]? with
  | some .dead => .bad
  | some w => .ok w (env.set i .dead)
  | none => .bad
section
variable {Z : Zt} {pos : Pos}
theorem me_c {e : Expr} {v : V} {w : W} (h : PE Z.X e (tC v)) (r : ∀ G : Hp, RF Z.D G w v) : ME Z e (mC w) true true := pe_imp h fun σ H Q q => by
  obtain ⟨env, G, Os, s, q⟩ := q
  exact q v G H Os [] s (RO.ofF (r G)) (OwnK.nil s) (Stp.id true)
theorem me_int {i : Int} {j : Nat} : ME Z (.Constant (.int i) j pos) (mC (.int i)) true true := me_c pe_int fun _ => rfl
theorem me_bl {b : Bool} {j : Nat} : ME Z (.Constant (.bool b) j pos) (mC (.bl b)) true true := me_c pe_bl fun _ => rfl
theorem me_non {j : Nat} : ME Z (.Constant .none j pos) (mC .non) true true := me_c pe_non fun _ => rfl
theorem me_str {x : Str} {j : Nat} : ME Z (.Constant (.str x) j pos) (mC (.str x)) true true := me_c pe_str fun _ => rfl
theorem me_globS {x y : Str} {t : Tok} (hg : Gl Z.X x) (hm : Z.X.mg x = some (.str y t)) (hd : (x == ("__debug__" : Str)) = false := by decide) : ME Z (.Name x pos) (mC (.str y)) true true := me_c (v := .str y) (pe_glob hg hm ⟨t, rfl⟩ hd) fun _ => rfl
theorem me_globI {x : Str} {y : Int} {t : Tok} (hg : Gl Z.X x) (hm : Z.X.mg x = some (.int y t)) (hd : (x == ("__debug__" : Str)) = false := by decide) : ME Z (.Name x pos) (mC (.int y)) true true := me_c (v := .int y) (pe_glob hg hm ⟨t, rfl⟩ hd) fun _ => rfl
theorem me_var {e : Expr} (i : Nat) (h : PE Z.X e (tVar i)) : ME Z e (mVar i) true false := pe_imp h fun σ H Q q => by
  obtain ⟨env, G, Os, s, q⟩ := q
  unfold mVar at q
  cases e : env[i]? with
  | none => rw [e] at q; exact q.elim
  | some w =>
    obtain ⟨sv, O, h1, h2, h3⟩ := s.sl.at e
    rcases h3 with ⟨v, rfl, r⟩ | ⟨rfl, _⟩
    · refine ⟨v, h1, ?_⟩
      have hw : ∀ (w' : W), w' = w → match w' with | .dead => True | _ => Q v H := fun w' e' => by
        subst e'
        cases w' <;> first
          | trivial
          | (rw [e] at q; exact q v G H Os O s r (fun a ha => List.mem_flatten.mpr ⟨O, List.mem_of_getElem? h2, ha⟩) ⟨rfl, rfl, Step.refl _ _ _⟩)
      cases w <;> first
        | (rw [e] at q; exact q.elim)
        | exact hw _ rfl
    · rw [e] at q; exact q.elim
theorem flat_set : ∀ {Os : List (List Addr)} {i : Nat} {O O' : List Addr}, Os[i]? = some O → ((Os.set i O').flatten ++ O).Perm (Os.flatten ++ O')
  | [], _, _, _, h => by simp at h
  | P :: Os, 0, O, O', h => by
    have e : P = O := Option.some.inj h
    subst e
    show (O' ++ Os.flatten ++ P).Perm (P ++ Os.flatten ++ O')
    have h1 : (O' ++ Os.flatten ++ P).Perm (P ++ (O' ++ Os.flatten)) := List.perm_append_comm
    have h2 : (P ++ (O' ++ Os.flatten)).Perm (P ++ (Os.flatten ++ O')) := List.Perm.append_left _ List.perm_append_comm
    rw [List.append_assoc P]
    exact h1.trans h2
  | P :: Os, i + 1, O, O', h => by
    have ih := flat_set (Os := Os) (i := i) (O' := O') h
    show (P ++ (Os.set i O').flatten ++ O).Perm (P ++ Os.flatten ++ O')
    rw [List.append_assoc, List.append_assoc]
    exact List.Perm.append_left _ ih
theorem set_self {α : Type} : ∀ {l : List α} {i : Nat} {x : α}, l[i]? = some x → l.set i x = l
  | [], _, _, _ => rfl
  | _ :: _, 0, _, h => by rw [List.set_cons_zero]; rw [Option.some.inj h]
  | _ :: r, i + 1, _, h => by rw [List.set_cons_succ, set_self (l := r) h]
theorem me_move {e : Expr} (i : Nat) (h : PE Z.X e (tVar i)) (hio : Z.io i = false) : ME Z e (mMove i) false true := pe_imp h fun σ H Q q => by
  obtain ⟨env, G, Os, s, q⟩ := q
  unfold mMove at q
  cases e : env[i]? with
  | none => rw [e] at q; exact q.elim
  | some w =>
    obtain ⟨sv, O, h1, h2, h3⟩ := s.sl.at e
    rcases h3 with ⟨v, rfl, r⟩ | ⟨rfl, _⟩
    · refine ⟨v, h1, ?_⟩
      have pm := flat_set (O' := []) h2
      rw [List.append_nil] at pm
      have nd : ((Os.set i []).flatten ++ O).Nodup := pm.nodup_iff.mpr s.nd
      have s' : StOk Z.D G H (env.set i .dead) σ (Os.set i []) := by
        have z := Sl.set (D := Z.D) (G := G) (H := H) (w := .dead) (s := some v) (O := []) (.inr ⟨rfl, rfl⟩) i s.sl
        rw [set_self h1] at z
        exact ⟨z, s.sub, fun a ha => s.gn a (pm.mem_iff.mp (List.mem_append_left _ ha)), (List.nodup_append.mp nd).1⟩
      have fin : (∀ v G' H' Os' Ow, StOk Z.D G' H' (env.set i .dead) σ Os' → RO Z.D G' H' w v Ow → OwnK true Os' Ow G' → Stp false env G H Os (env.set i .dead) G' H' Os' Ow → Q v H') → Q v H := fun f =>
        f v G H (Os.set i []) O s' r ⟨nd, fun a ha => s.gn a (pm.mem_iff.mp (List.mem_append_right _ ha))⟩ ⟨Sub.refl _, fun _ _ h _ => h, fun _ _ _ _ _ h => h, fun a ha => .inl (pm.mem_iff.mp ha)⟩
      cases w <;> (rw [e] at q; first | exact q.elim | exact fin q)
    · rw [e] at q; exact q.elim
end

/-! ### one operand -/
def mUn (f : W → Option W) (m : Sm W) : Sm W := Sm.bind m fun w => lft (f w)
def RelU (D : Dn) (r : V → Hp → VK → Prop) (f : W → Option W) : Prop := ∀ (G H : Hp) (w1 : W) (v1 : V) (O1 : List Addr) (w : W) (Q : VK), Sub G H → RO D G H w1 v1 O1 → f w1 = some w → Ans D G H w Q → r v1 H Q
theorem tx_un {D : Dn} {Wx : WX} {r : V → Hp → VK → Prop} {f : W → Option W} {m : Sm W} {p k : Bool} (o : RelU D r f) {σ : St} {H : Hp} {Q : VK} (hq : TX D Wx p true (mUn f m) σ H Q) :
    TX D Wx p k m σ H fun x H1 => r x H1 Q := by
  obtain ⟨env, G, Os, s, hq⟩ := hq
  refine ⟨env, G, Os, s, ?_⟩
  unfold mUn Sm.bind at hq
  cases e1 : m env with
  | bad => rw [e1] at hq; exact hq
  | ex c env1 =>
    rw [e1] at hq
    exact hq
  | ok w1 env1 =>
    rw [e1] at hq
    intro v1 G1 H1 Os1 O1 s1 r1 o1 t1
    unfold lft at hq
    cases ef : f w1 with
    | none => simp only [ef] at hq
    | some w =>
      simp only [ef] at hq
      refine o G1 H1 w1 v1 O1 w Q s1.sub r1 ef fun v G' H' Ow sub r nd gn st => ?_
      refine hq v G' H' Os1 Ow (s1.step st sub) r ⟨s1.apart st nd, gn⟩ ?_
      have z := t1.trans (Stp.grow true (env := env1) (Os := Os1) st)
      rwa [Bool.and_true] at z
def negW : W → Option W
  | .int i => some (.int (-i))
  | _ => none
/-! ### tests -/
def TT' (D : Dn) (Wx : WX) (p : Bool) (m : Sm Bool) : TT := fun σ H Q => ∃ (env : List W) (G : Hp) (Os : List (List Addr)), StOk D G H env σ Os ∧ match m env with
  | .ok b env' => ∀ G' H' Os', StOk D G' H' env' σ Os' → Stp p env G H Os env' G' H' Os' [] → Q b H'
  | .ex c env' => ∀ G' H' Os', StOk D G' H' env' σ Os' → Stp p env G H Os env' G' H' Os' [] → Wx (.ref (D.CA c)) none σ H'
  | .bad => False
abbrev MT (Z : Zt) (e : Expr) (m : Sm Bool) (p : Bool) : Prop := PT Z.X e (TT' Z.D Z.W p m)
abbrev MW (Z : Zt) (e : Expr) (m : Sm Bool) (p : Bool) : Prop := PW Z.X e (TT' Z.D Z.W p m)
theorem pt_imp {X : Cx} {e : Expr} {t t' : TT} (h : PT X e t) (i : ∀ σ H Q, t' σ H Q → t σ H Q) : PT X e t' := ⟨fun pins s σ H Q I w => h.run pins s σ H Q I (i σ H Q w)⟩
theorem pw_imp {X : Cx} {e : Expr} {t t' : TT} (h : PW X e t) (i : ∀ σ H Q, t' σ H Q → t σ H Q) : PW X e t' := ⟨fun wh pins s σ H Q I w => h.run wh pins s σ H Q I (i σ H Q w)⟩
def blW : W → Option Bool
  | .bl b => some b
  | _ => none
def toB (m : Sm W) : Sm Bool := Sm.bind m fun w => lft (blW w)
def ofB (m : Sm Bool) : Sm W := Sm.bind m fun b => Sm.ret (.bl b)
def mAnd (m1 m2 : Sm Bool) : Sm Bool := Sm.bind m1 fun b => if b = true then m2 else Sm.ret false
def mOr (m1 m2 : Sm Bool) : Sm Bool := Sm.bind m1 fun b => if b = true then Sm.ret true else m2
def mNot (m : Sm Bool) : Sm Bool := Sm.bind m fun b => Sm.ret (!b)
theorem tt_val {D : Dn} {Wx : WX} {p k : Bool} {m : Sm W} {σ : St} {H : Hp} {Q : Bool → Hp → Prop} (h : TT' D Wx p (toB m) σ H Q) : TX D Wx p k m σ H fun x H1 => ∃ c, x = .bl c ∧ Q c H1 := by
  obtain ⟨env, G, Os, s, q⟩ := h
  refine ⟨env, G, Os, s, ?_⟩
  unfold toB Sm.bind lft at q
  cases e1 : m env with
  | bad => rw [e1] at q; exact q
  | ex c env1 => rw [e1] at q; exact q
  | ok w env1 =>
    rw [e1] at q
    intro v G' H' Os' Ow s' r o t
    cases w with
    | bl b =>
      obtain ⟨rfl, rfl⟩ := r
      refine ⟨b, rfl, q G' H' Os' s' ?_⟩
      cases k <;> exact t
    | _ => exact q.elim
theorem mt_val {Z : Zt} {e : Expr} {m : Sm W} {p k : Bool} (h : ME Z e m p k) (he : ∀ whole, isTrue e Z.X.env whole = (do let v ← whole; standAt e.pos; holding [v] (truthy v)) := by intro _; rfl) : MT Z e (toB m) p :=
  pt_imp (pt_val h he) fun _ _ _ q => tt_val q
theorem tt_and {D : Dn} {Wx : WX} {p1 p2 : Bool} {m1 m2 : Sm Bool} {σ : St} {H : Hp} {Q : Bool → Hp → Prop} (h : TT' D Wx (p1 && p2) (mAnd m1 m2) σ H Q) : tAnd (TT' D Wx p1 m1) (TT' D Wx p2 m2) σ H Q := by
  obtain ⟨env, G, Os, s, q⟩ := h
  refine ⟨env, G, Os, s, ?_⟩
  unfold mAnd Sm.bind at q
  cases e1 : m1 env with
  | bad => rw [e1] at q; exact q
  | ex c env1 =>
    rw [e1] at q
    exact fun G' H' Os' s' t => q G' H' Os' s' (t.and p2)
  | ok b env1 =>
    rw [e1] at q
    intro G1 H1 Os1 s1 t1
    cases b with
    | false => exact (if_neg Bool.false_ne_true).mpr (q G1 H1 Os1 s1 (t1.and p2))
    | true =>
      rw [if_pos rfl]
      refine ⟨env1, G1, Os1, s1, ?_⟩
      simp only [if_true] at q
      cases e2 : m2 env1 with
      | bad => simp only [e2] at q
      | ex c env2 =>
        simp only [e2] at q
        exact fun G' H' Os' s' t => q G' H' Os' s' (t1.trans t)
      | ok b2 env2 =>
        simp only [e2] at q
        exact fun G' H' Os' s' t => q G' H' Os' s' (t1.trans t)
theorem tt_or {D : Dn} {Wx : WX} {p1 p2 : Bool} {m1 m2 : Sm Bool} {σ : St} {H : Hp} {Q : Bool → Hp → Prop} (h : TT' D Wx (p1 && p2) (mOr m1 m2) σ H Q) : tOr (TT' D Wx p1 m1) (TT' D Wx p2 m2) σ H Q := by
  obtain ⟨env, G, Os, s, q⟩ := h
  refine ⟨env, G, Os, s, ?_⟩
  unfold mOr Sm.bind at q
  cases e1 : m1 env with
  | bad => rw [e1] at q; exact q
  | ex c env1 =>
    rw [e1] at q
    exact fun G' H' Os' s' t => q G' H' Os' s' (t.and p2)
  | ok b env1 =>
    rw [e1] at q
    intro G1 H1 Os1 s1 t1
    cases b with
    | true => exact (if_pos rfl).mpr (q G1 H1 Os1 s1 (t1.and p2))
    | false =>
      rw [if_neg Bool.false_ne_true]
      refine ⟨env1, G1, Os1, s1, ?_⟩
      simp only [Bool.false_eq_true, if_false] at q
      cases e2 : m2 env1 with
      | bad => simp only [e2] at q
      | ex c env2 =>
        simp only [e2] at q
        exact fun G' H' Os' s' t => q G' H' Os' s' (t1.trans t)
      | ok b2 env2 =>
        simp only [e2] at q
        exact fun G' H' Os' s' t => q G' H' Os' s' (t1.trans t)
theorem tt_not {D : Dn} {Wx : WX} {p : Bool} {m : Sm Bool} {σ : St} {H : Hp} {Q : Bool → Hp → Prop} (h : TT' D Wx p (mNot m) σ H Q) : tNot (TT' D Wx p m) σ H Q := by
  obtain ⟨env, G, Os, s, q⟩ := h
  refine ⟨env, G, Os, s, ?_⟩
  unfold mNot Sm.bind at q
  cases e1 : m env with
  | bad => rw [e1] at q; exact q
  | ex c env1 => rw [e1] at q; exact q
  | ok b env1 => rw [e1] at q; exact q
section
variable {Z : Zt} {a b : Expr} {rest : List Expr} {m m1 m2 : Sm Bool} {p p1 p2 : Bool} {pos : Pos}
theorem mw_and1 (h : MT Z a m p) : MW Z (.BoolOp .And [a] pos) m p := pw_and1 h
theorem mw_or1 (h : MT Z a m p) : MW Z (.BoolOp .Or [a] pos) m p := pw_or1 h
theorem mw_and (h1 : MT Z a m1 p1) (h2 : MW Z (.BoolOp .And (b :: rest) pos) m2 p2) : MW Z (.BoolOp .And (a :: b :: rest) pos) (mAnd m1 m2) (p1 && p2) := pw_imp (pw_and h1 h2) fun _ _ _ q => tt_and q
theorem mw_or (h1 : MT Z a m1 p1) (h2 : MW Z (.BoolOp .Or (b :: rest) pos) m2 p2) : MW Z (.BoolOp .Or (a :: b :: rest) pos) (mOr m1 m2) (p1 && p2) := pw_imp (pw_or h1 h2) fun _ _ _ q => tt_or q
theorem mt_w (h : MW Z a m p) : MT Z a m p := h.pt
theorem mt_not (h : MT Z a m p) : MT Z (.UnaryOp .Not a pos) (mNot m) p := pt_imp (pt_not h) fun _ _ _ q => tt_not q
end
/-- a truth by its expression -/
theorem tx_ofB {D : Dn} {Wx : WX} {p : Bool} {m : Sm Bool} {σ : St} {H : Hp} {Q : VK} (h : TX D Wx p true (ofB m) σ H Q) : TT' D Wx p m σ H fun b H1 => Q (.bl b) H1 := by
  obtain ⟨env, G, Os, s, q⟩ := h
  refine ⟨env, G, Os, s, ?_⟩
  unfold ofB Sm.bind at q
  cases e1 : m env with
  | bad => rw [e1] at q; exact q
  | ex c env1 => rw [e1] at q; exact q
  | ok b env1 =>
    rw [e1] at q
    exact fun G' H' Os' s' t => q (.bl b) G' H' Os' [] s' ⟨rfl, rfl⟩ (OwnK.nil s') t
section
variable {Z : Zt} {a b : Expr} {rest : List Expr} {m m1 m2 : Sm W} {p p1 p2 k k1 k2 : Bool} {pos : Pos} {op : BoolOp}
def mAndV (m1 m2 : Sm W) : Sm W := ofB (mAnd (toB m1) (toB m2))
def mOrV (m1 m2 : Sm W) : Sm W := ofB (mOr (toB m1) (toB m2))
def mNotV (m : Sm W) : Sm W := ofB (mNot (toB m))
theorem me_one (h : ME Z a m p k) : ME Z (.BoolOp op [a] pos) m p k := pe_one h
theorem me_and (h1 : ME Z a m1 p1 k1) (h2 : ME Z (.BoolOp .And (b :: rest) pos) m2 p2 k2) : ME Z (.BoolOp .And (a :: b :: rest) pos) (mAndV m1 m2) (p1 && p2) true := pe_imp (pe_and h1 h2) fun σ H Q q => by
  have z := tt_and (tx_ofB q)
  refine tt_val (m := m1) (k := k1) ?_
  obtain ⟨env, G, Os, s, z⟩ := z
  refine ⟨env, G, Os, s, ?_⟩
  revert z
  cases toB m1 env with
  | bad => exact id
  | ex c env1 => exact id
  | ok c env1 =>
    intro z G1 H1 Os1 s1 t1
    have z1 := z G1 H1 Os1 s1 t1
    cases c with
    | false => exact z1
    | true =>
      show TX _ _ _ _ _ _ _ _
      have z2 := tt_val (k := k2) z1
      obtain ⟨env2, G2, Os2, s2, y⟩ := z2
      refine ⟨env2, G2, Os2, s2, ?_⟩
      revert y
      cases m2 env2 with
      | bad => exact id
      | ex c env1 => exact id
      | ok c env1 =>
        intro y v G' H' Os' Ow s' r o t
        obtain ⟨c, rfl, y⟩ := y v G' H' Os' Ow s' r o t
        exact y
theorem me_not (h : ME Z a m p k) : ME Z (.UnaryOp .Not a pos) (mNotV m) p true := pe_imp (pe_not h) fun σ H Q q => tt_val (tt_not (tx_ofB q))
end

/-! ### arguments -/
def TA' (D : Dn) (Wx : WX) (p : Bool) (m : Sm (List W)) : TA := fun σ H Q => ∃ (env : List W) (G : Hp) (Os : List (List Addr)), StOk D G H env σ Os ∧ match m env with
  | .ok ws env' => ∀ vs G' H' Os', StOk D G' H' env' σ Os' → RFs D G' ws vs → Stp p env G H Os env' G' H' Os' [] → Q vs H'
  | .ex c env' => ∀ G' H' Os', StOk D G' H' env' σ Os' → Stp p env G H Os env' G' H' Os' [] → Wx (.ref (D.CA c)) none σ H'
  | .bad => False
abbrev MA (Z : Zt) (es : List Expr) (m : Sm (List W)) (p : Bool) : Prop := PA Z.X es (TA' Z.D Z.W p m)
theorem pa_imp {X : Cx} {e : List Expr} {t t' : TA} (h : PA X e t) (i : ∀ σ H Q, t' σ H Q → t σ H Q) : PA X e t' := ⟨fun pos pins s σ H Q I w => h.run pos pins s σ H Q I (i σ H Q w)⟩
def mNil : Sm (List W) := Sm.ret []
def mCons (m : Sm W) (ms : Sm (List W)) : Sm (List W) := Sm.bind m fun w => if w.frz = true then Sm.bind ms fun ws => Sm.ret (w :: ws) else fun _ => .bad
theorem ma_nil {Z : Zt} : MA Z [] mNil true := pa_imp pa_nil fun σ H Q q => by
  obtain ⟨env, G, Os, s, q⟩ := q
  exact q [] G H Os s rfl (Stp.id true)
theorem kO_less {k : Bool} {O : List Addr} : ∀ x ∈ ([] : List Addr), x ∈ kO k O := fun _ z => nomatch z
theorem tx_cons {D : Dn} {Wx : WX} {p1 p2 k : Bool} {m : Sm W} {ms : Sm (List W)} {σ : St} {H : Hp} {Q : List V → Hp → Prop} (q : TA' D Wx (p1 && p2) (mCons m ms) σ H Q) :
    TX D Wx p1 k m σ H fun x H1 => TA' D Wx p2 ms σ H1 fun xs H2 => Q (x :: xs) H2 := by
  obtain ⟨env, G, Os, s, q⟩ := q
  refine ⟨env, G, Os, s, ?_⟩
  unfold mCons Sm.bind at q
  cases e1 : m env with
  | bad => rw [e1] at q; exact q
  | ex c env1 =>
    rw [e1] at q
    exact fun G' H' Os' s' t => q G' H' Os' s' (t.and p2)
  | ok w env1 =>
    rw [e1] at q
    intro v1 G1 H1 Os1 O1 s1 r1 o1 t1
    by_cases hf : w.frz = true
    · simp only [if_pos hf] at q
      obtain ⟨rfl, f⟩ := r1.toF hf
      have t1' : Stp p1 env G H Os env1 G1 H1 Os1 [] := t1.less kO_less
      refine ⟨env1, G1, Os1, s1, ?_⟩
      cases e2 : ms env1 with
      | bad => simp only [e2] at q
      | ex c env2 =>
        simp only [e2] at q
        exact fun G' H' Os' s' t => q G' H' Os' s' (t1'.trans t)
      | ok ws env2 =>
        simp only [e2] at q
        exact fun vs G' H' Os' s' r t => q (v1 :: vs) G' H' Os' s' ⟨v1, vs, rfl, RF.mono t.gen.mono _ _ f, r⟩ (t1'.trans t)
    · simp only [if_neg hf] at q
theorem ma_cons {Z : Zt} {e : Expr} {es : List Expr} {m : Sm W} {ms : Sm (List W)} {p1 p2 k : Bool} (h : ME Z e m p1 k) (hr : MA Z es ms p2) (hs : starEach (e :: es) Z.X.env = (false, eval e Z.X.env) :: starEach es Z.X.env := by rfl) : MA Z (e :: es) (mCons m ms) (p1 && p2) :=
  pa_imp (pa_cons h hr hs) fun _ _ _ q => tx_cons q

/-- a rule over arguments does what f says -/
def RelA (D : Dn) (r : List V → Hp → VK → Prop) (f : List W → Option W) : Prop := ∀ (G H : Hp) (ws : List W) (vs : List V) (w : W) (Q : VK), Sub G H → RFs D G ws vs → f ws = some w → Ans D G H w Q → r vs H Q
def mArgs (f : List W → Option W) (m : Sm (List W)) : Sm W := Sm.bind m fun ws => lft (f ws)
theorem ta_args {D : Dn} {Wx : WX} {r : List V → Hp → VK → Prop} {f : List W → Option W} {m : Sm (List W)} {p : Bool} (o : RelA D r f) {σ : St} {H : Hp} {Q : VK} (hq : TX D Wx p true (mArgs f m) σ H Q) :
    TA' D Wx p m σ H fun vs H1 => r vs H1 Q := by
  obtain ⟨env, G, Os, s, hq⟩ := hq
  refine ⟨env, G, Os, s, ?_⟩
  unfold mArgs Sm.bind at hq
  cases e1 : m env with
  | bad => rw [e1] at hq; exact hq
  | ex c env1 => rw [e1] at hq; exact hq
  | ok ws env1 =>
    rw [e1] at hq
    intro vs G1 H1 Os1 s1 r1 t1
    unfold lft at hq
    cases ef : f ws with
    | none => simp only [ef] at hq
    | some w =>
      simp only [ef] at hq
      refine o G1 H1 ws vs w Q s1.sub r1 ef fun v G' H' Ow sub r nd gn st => ?_
      refine hq v G' H' Os1 Ow (s1.step st sub) r ⟨s1.apart st nd, gn⟩ ?_
      have z := t1.trans (Stp.grow true (env := env1) (Os := Os1) st)
      rwa [Bool.and_true] at z
/-! ### displays -/
theorem RFs.len {D : Dn} {G : Hp} : ∀ {ws : List W} {vs : List V}, RFs D G ws vs → ws.length = vs.length
  | [], _, h => by rw [show _ = [] from h]; rfl
  | w :: ws, _, h => by
    obtain ⟨v, r, rfl, _, h2⟩ := h
    simp [RFs.len h2]
theorem sub_upd {G H : Hp} {p : Addr} {o : HO} (s : Sub G H) (n : H p = none) : Sub G (upd H p o) := fun a x h => by
  rw [upd_ne (ne_of_none (s a x h) n)]; exact s a x h
theorem sub_upd2 {G H : Hp} {p : Addr} {o : HO} (s : Sub G H) : Sub (upd G p o) (upd H p o) := fun a x h => by
  by_cases e : a = p
  · subst e; rw [upd_same] at h; rw [upd_same]; exact h
  · rw [upd_ne e] at h; rw [upd_ne e]; exact s a x h
theorem sub_new {H : Hp} {p : Addr} {o : HO} (n : H p = none) : Sub H (upd H p o) := sub_upd (Sub.refl H) n
theorem sub_none {G H : Hp} {p : Addr} (s : Sub G H) (n : H p = none) : G p = none := by
  cases e : G p with
  | none => rfl
  | some o => rw [s p o e] at n; cases n
/-- a new object that is told as frozen -/
theorem step_frz {G H : Hp} {p : Addr} {o : HO} (s : Sub G H) (n : H p = none) : Step G H [] (upd G p o) (upd H p o) [] :=
  ⟨sub_new (sub_none s n), fun a x h _ => sub_new n a x h, fun a x h _ _ g => by rw [upd_ne (ne_of_none h n)]; exact g, fun _ z => nomatch z⟩
/-- a new object that is owned -/
theorem step_own {G H : Hp} {p : Addr} {o : HO} (n : H p = none) : Step G H [] G (upd H p o) [p] :=
  ⟨Sub.refl _, fun a x h _ => sub_new n a x h, fun _ _ _ _ _ g => g, fun a ha => .inr (by rw [List.mem_singleton.mp ha]; exact n)⟩
/-- a new list -/
theorem Ans.lst {D : Dn} {G H : Hp} {b : Bool} {ws : List W} {vs : List V} {p : Addr} {Q : VK} (s : Sub G H) (r : RFs D G ws vs) (n : H p = none) (h : Ans D G H (.lst b ws) Q) : Q (.ref p) (upd H p (.lst vs)) := by
  cases b with
  | false =>
    have t := step_frz (o := .lst vs) s n
    exact h _ (upd G p (.lst vs)) _ [] (sub_upd2 s) ⟨rfl, p, vs, rfl, upd_same, RFs.mono t.mono _ _ r⟩ List.nodup_nil (fun _ z => nomatch z) t
  | true =>
    exact h _ G _ [p] (sub_upd s n) ⟨p, vs, rfl, rfl, upd_same, r⟩ (by simp) (fun a ha => by rw [List.mem_singleton.mp ha]; exact sub_none s n) (step_own n)
theorem Ans.tup {D : Dn} {G H : Hp} {ws : List W} {vs : List V} {p : Addr} {Q : VK} (s : Sub G H) (r : RFs D G ws vs) (n : H p = none) (h : Ans D G H (.tup ws) Q) : Q (.ref p) (upd H p (.tup vs)) := by
  have t := step_frz (o := .tup vs) s n
  exact h _ (upd G p (.tup vs)) _ [] (sub_upd2 s) ⟨rfl, p, vs, rfl, SqT.of upd_same, RFs.mono t.mono _ _ r⟩ List.nodup_nil (fun _ z => nomatch z) t
def lstW (b : Bool) (ws : List W) : Option W := if ws.length ≤ sizeLine then some (.lst b ws) else none
def tupW (ws : List W) : Option W := if ws.length ≤ sizeLine then some (.tup ws) else none
section
variable {Z : Zt} {es : List Expr} {m : Sm (List W)} {p : Bool} {pos : Pos}
theorem me_lst (b : Bool) (h : MA Z es m p) : ME Z (.List es pos) (mArgs (lstW b) m) p true := pe_imp (pe_lst h) fun σ H Q q => ta_args (r := fun xs H1 Q => xs.length ≤ sizeLine ∧ ∀ p, H1 p = none → Q (.ref p) (upd H1 p (.lst xs))) (fun G H ws vs w Q s r e q => by
  unfold lstW at e
  by_cases hl : ws.length ≤ sizeLine
  · rw [if_pos hl] at e
    cases e
    exact ⟨by rw [← r.len]; exact hl, fun p n => q.lst s r n⟩
  · rw [if_neg hl] at e; cases e) q
theorem me_tup {k : Nat} (h : MA Z es m p) : ME Z (.Tuple es k pos) (mArgs tupW m) p true := pe_imp (pe_tup h) fun σ H Q q => ta_args (r := fun xs H1 Q => xs.length ≤ sizeLine ∧ ∀ p, H1 p = none → Q (.ref p) (upd H1 p (.tup xs))) (fun G H ws vs w Q s r e q => by
  unfold tupW at e
  by_cases hl : ws.length ≤ sizeLine
  · rw [if_pos hl] at e
    cases e
    exact ⟨by rw [← r.len]; exact hl, fun p n => q.tup s r n⟩
  · rw [if_neg hl] at e; cases e) q
end
end Ev

namespace Ev
open PySem PySem.Spec L2

/-! ### values as data -/
mutual
def W.dat : W → PyData
  | .non => .none
  | .bl b => .bool b
  | .int i => .int i
  | .str s => .str s
  | .tup ws => .tuple (datL ws)
  | .lst _ ws => .list (datL ws)
  | .scr ws => .list (datL ws)
  | .nst ws => .list (datL ws)
  | .ntp ws => .tuple (datL ws)
  | _ => .none
def datL : List W → List PyData
  | [] => []
  | w :: ws => w.dat :: datL ws
end
theorem datL_map : ∀ ws : List W, datL ws = ws.map W.dat
  | [] => rfl
  | w :: ws => by rw [datL, List.map_cons, datL_map ws]
mutual
theorem W.plain : ∀ w : W, w.dat.plain = true
  | .non => rfl
  | .bl _ => rfl
  | .int _ => rfl
  | .str _ => rfl
  | .tup ws => by rw [W.dat, PyData.plain]; exact datL_plain ws
  | .lst _ ws => by rw [W.dat, PyData.plain]; exact datL_plain ws
  | .scr ws => by rw [W.dat, PyData.plain]; exact datL_plain ws
  | .nst ws => by rw [W.dat, PyData.plain]; exact datL_plain ws
  | .ntp ws => by rw [W.dat, PyData.plain]; exact datL_plain ws
  | .dead => rfl
  | .dct _ _ _ => rfl
  | .ndc _ _ => rfl
  | .obj _ _ _ => rfl
  | .exc _ => rfl
  | .edc => rfl
theorem datL_plain : ∀ ws : List W, PyData.plainAll (datL ws) = true
  | [] => rfl
  | w :: ws => by rw [datL, PyData.plainAll, W.plain w, datL_plain ws]; rfl
end
mutual
theorem RF.dp {D : Dn} {H : Hp} : ∀ (w : W) (v : V), RF D H w v → Dp D.K H v w.dat
  | .non, _, h => by cases h; exact .non
  | .bl _, _, h => by cases h; exact .bl _
  | .int _, _, h => by cases h; exact .int _
  | .str _, _, h => by cases h; exact .str _
  | .tup ws, _, h => by
    obtain ⟨a, vs, rfl, h1, h2⟩ := h
    exact .tup h1 (RFs.dp ws vs h2)
  | .lst false ws, _, h => by
    obtain ⟨a, vs, rfl, h1, h2⟩ := h
    exact .lst (SqL.of h1) (RFs.dp ws vs h2)
  | .scr ws, _, h => by
    obtain ⟨a, vs, rfl, h1, h2⟩ := h
    exact .lst h1 (RFs.dp ws vs h2)
  | .dead, _, h => h.elim
  | .lst true _, _, h => h.elim
  | .nst _, _, h => h.elim
  | .ntp _, _, h => h.elim
  | .dct _ _ _, _, h => h.elim
  | .ndc _ _, _, h => h.elim
  | .obj _ _ _, _, h => h.elim
  | .exc _, _, h => h.elim
  | .edc, _, h => h.elim
theorem RFs.dp {D : Dn} {H : Hp} : ∀ (ws : List W) (vs : List V), RFs D H ws vs → DpAll D.K H vs (datL ws)
  | [], _, h => by rw [show _ = [] from h]; exact .nil
  | w :: ws, _, h => by
    obtain ⟨v, r, rfl, h1, h2⟩ := h
    exact .cons (RF.dp w v h1) (RFs.dp ws r h2)
end
mutual
/-- plain data, frozen or owned lists of such -/
def W.fd : W → Bool
  | .lst _ _ => true
  | .nst ws => fds ws
  | .ntp ws => fds ws
  | w => w.frz
def fds : List W → Bool
  | [] => true
  | w :: ws => w.fd && fds ws
end
theorem RO.lstAt {D : Dn} {G H : Hp} {b : Bool} {ws : List W} {v : V} {O : List Addr} (s : Sub G H) (r : RO D G H (.lst b ws) v O) : ∃ a vs, v = .ref a ∧ H a = some (.lst vs) ∧ RFs D G ws vs := by
  cases b with
  | true =>
    obtain ⟨a, vs, rfl, rfl, h1, h2⟩ := r
    exact ⟨a, vs, rfl, h1, h2⟩
  | false =>
    obtain ⟨rfl, a, vs, rfl, h1, h2⟩ := r
    exact ⟨a, vs, rfl, s _ _ h1, h2⟩
mutual
theorem RO.dpW {D : Dn} {G H : Hp} (s : Sub G H) : ∀ (w : W) (v : V) (O : List Addr), RO D G H w v O → w.fd = true → Dp D.K H v w.dat
  | .lst b ws, v, O, r, _ => by
    obtain ⟨a, vs, rfl, h1, h2⟩ := r.lstAt s
    exact .lst (SqL.of h1) (RFs.dp ws vs (RFs.mono s ws vs h2))
  | .nst ws, v, O, r, f => by
    obtain ⟨a, vs, O', rfl, rfl, h1, h2⟩ := r
    exact .lst (SqL.of h1) (ROs.dpW s ws vs O' h2 f)
  | .ntp ws, v, O, r, f => by
    obtain ⟨a, vs, rfl, h1, h2⟩ := r
    exact .tup (s.sqT h1) (ROs.dpW s ws vs O h2 f)
  | .non, v, O, r, _ => RF.dp _ v (RF.mono s _ v r.2)
  | .bl _, v, O, r, _ => RF.dp _ v (RF.mono s _ v r.2)
  | .int _, v, O, r, _ => RF.dp _ v (RF.mono s _ v r.2)
  | .str _, v, O, r, _ => RF.dp _ v (RF.mono s _ v r.2)
  | .tup _, v, O, r, _ => RF.dp _ v (RF.mono s _ v r.2)
  | .scr _, v, O, r, _ => RF.dp _ v (RF.mono s _ v r.2)
  | .dct false _ _, v, O, _, f => nomatch f
  | .dead, _, _, _, f => nomatch f
  | .dct true _ _, _, _, _, f => nomatch f
  | .ndc _ _, _, _, _, f => nomatch f
  | .obj _ _ _, _, _, _, f => nomatch f
  | .exc _, _, _, _, f => nomatch f
  | .edc, _, _, _, f => nomatch f
theorem ROs.dpW {D : Dn} {G H : Hp} (s : Sub G H) : ∀ (ws : List W) (vs : List V) (O : List Addr), ROs D G H ws vs O → fds ws = true → DpAll D.K H vs (datL ws)
  | [], _, _, r, _ => by rw [r.1]; exact .nil
  | w :: ws, _, _, r, f => by
    obtain ⟨v, u, O1, O2, rfl, rfl, h1, h2⟩ := r
    have f' : w.fd = true ∧ fds ws = true := Bool.and_eq_true_iff.mp f
    exact .cons (RO.dpW s w v O1 h1 f'.1) (ROs.dpW s ws u O2 h2 f'.2)
end
theorem RO.dp {D : Dn} {G H : Hp} {w : W} {v : V} {O : List Addr} (s : Sub G H) (r : RO D G H w v O) (h : w.fd = true) : Dp D.K H v w.dat := RO.dpW s w v O r h

/-! ### equality -/
def smallD (a b : W) : Prop := a.dat.depth ≤ 60 ∨ b.dat.depth ≤ 60
instance {a b : W} : Decidable (smallD a b) := inferInstanceAs (Decidable (_ ∨ _))
def eqW (a b : W) : Option W := if (a.fd && b.fd) = true ∧ smallD a b then some (.bl (PyData.eqv a.dat b.dat)) else none
def neW (a b : W) : Option W := if (a.fd && b.fd) = true ∧ smallD a b then some (.bl (!PyData.eqv a.dat b.dat)) else none
theorem smallD.min {a b : W} (h : smallD a b) : min a.dat.depth b.dat.depth ≤ 60 := by
  rcases h with h | h
  · exact Nat.le_trans (Nat.min_le_left _ _) h
  · exact Nat.le_trans (Nat.min_le_right _ _) h
section
variable {Z : Zt} {k : Nat}
theorem op_eqW (hr : Room k Z.X.A) : OpS Z (compareOp .Eq) eqW := fun G H w1 w2 v1 v2 O1 O2 w Q s r1 r2 e q => by
  unfold eqW at e
  by_cases hc : (w1.fd && w2.fd) = true ∧ smallD w1 w2
  · rw [if_pos hc] at e
    cases e
    obtain ⟨h12, hs⟩ := hc
    rw [Bool.and_eq_true] at h12
    have d1 := r1.dp s h12.1
    have d2 := r2.dp s h12.2
    refine ⟨fun x y H' Q' => x = v1 ∧ y = v2 ∧ H' = H ∧ Q' (.bl (PyData.eqv w1.dat w2.dat)) H, fun pins st σ H' x y v u Q' I rx ry hh => ?_, rfl, rfl, rfl, q.bl s⟩
    obtain ⟨rfl, rfl, rfl, hq⟩ := hh
    obtain ⟨as, x1⟩ := Dp.reads I _ _ v d1 rx
    obtain ⟨bs, x2⟩ := Dp.reads I _ _ u d2 ry
    have := hs.min
    have := hr.units
    exact SeqAt.eq_plain x1 x2 (W.plain _) (W.plain _) (by omega) ⟨.bl _, _, I, rfl, hq⟩
  · rw [if_neg hc] at e; cases e
theorem op_neW (hr : Room k Z.X.A) : OpS Z (compareOp .NotEq) neW := fun G H w1 w2 v1 v2 O1 O2 w Q s r1 r2 e q => by
  unfold neW at e
  by_cases hc : (w1.fd && w2.fd) = true ∧ smallD w1 w2
  · rw [if_pos hc] at e
    cases e
    obtain ⟨h12, hs⟩ := hc
    rw [Bool.and_eq_true] at h12
    have d1 := r1.dp s h12.1
    have d2 := r2.dp s h12.2
    refine ⟨fun x y H' Q' => x = v1 ∧ y = v2 ∧ H' = H ∧ Q' (.bl (!PyData.eqv w1.dat w2.dat)) H, fun pins st σ H' x y v u Q' I rx ry hh => ?_, rfl, rfl, rfl, q.bl s⟩
    obtain ⟨rfl, rfl, rfl, hq⟩ := hh
    obtain ⟨as, x1⟩ := Dp.reads I _ _ v d1 rx
    obtain ⟨bs, x2⟩ := Dp.reads I _ _ u d2 ry
    have := hs.min
    have := hr.units
    exact SeqAt.ne_plain x1 x2 (W.plain _) (W.plain _) (by omega) ⟨.bl _, _, I, rfl, hq⟩
  · rw [if_neg hc] at e; cases e
/-- x in c -/
def seqD : W → Option (List PyData)
  | .lst _ ws => some (datL ws)
  | .tup ws => some (datL ws)
  | .scr ws => some (datL ws)
  | _ => none
def inD (x : W) (ds : List PyData) : Bool := ds.any fun y => PyData.eqv y x.dat
def inW (neg : Bool) (x c : W) : Option W := match c with
  | .str z => match x with
    | .str y => some (.bl (if neg then !(!(Builtin.Str.occurrences z y 0 z.length 1).isEmpty) else !(Builtin.Str.occurrences z y 0 z.length 1).isEmpty))
    | _ => none
  | c => if x.fd = true ∧ x.dat.depth ≤ 60 then (seqD c).map fun ds => .bl (if neg then !inD x ds else inD x ds) else none
theorem op_inW (hr : Room k Z.X.A) : OpS Z (compareOp .In) (inW false) := fun G H w1 w2 v1 v2 O1 O2 w Q s r1 r2 e q => by
  by_cases hz : ∃ z, w2 = .str z
  · obtain ⟨z, rfl⟩ := hz
    cases w1 with
    | str y =>
      cases e
      obtain ⟨_, rfl⟩ := r1
      obtain ⟨_, rfl⟩ := r2
      exact ⟨_, op_in_str, y, z, rfl, rfl, q.bl s⟩
    | _ => cases e
  · have e' : (if w1.fd = true ∧ w1.dat.depth ≤ 60 then (seqD w2).map fun ds => W.bl (inD w1 ds) else none) = some w := by
      cases w2 <;> first
        | exact absurd ⟨_, rfl⟩ hz
        | exact e
    by_cases hc : w1.fd = true ∧ w1.dat.depth ≤ 60
    · rw [if_pos hc] at e'
      have d1 := r1.dp s hc.1
      have hfd : w2.fd = true := by
        cases w2 <;> first
          | rfl
          | (exfalso; exact nomatch e')
      have d2 := r2.dp s hfd
      obtain ⟨ds, hd, hw⟩ : ∃ ds, seqD w2 = some ds ∧ .bl (inD w1 ds) = w := by
        cases h : seqD w2 with
        | none => rw [h] at e'; cases e'
        | some ds => rw [h] at e'; exact ⟨ds, rfl, Option.some.inj e'⟩
      subst hw
      refine ⟨fun x y H' Q' => x = v1 ∧ y = v2 ∧ H' = H ∧ Q' (.bl (inD w1 ds)) H, fun pins st σ H' x y v u Q' I rx ry hh => ?_, rfl, rfl, rfl, q.bl s⟩
      obtain ⟨rfl, rfl, rfl, hq⟩ := hh
      obtain ⟨as, x1⟩ := Dp.reads I _ _ v d1 rx
      obtain ⟨bs, x2⟩ := Dp.reads I _ _ u d2 ry
      have := hr.units
      have hm : min (PyData.depthAll ds) w1.dat.depth ≤ 60 := Nat.le_trans (Nat.min_le_right _ _) hc.2
      have fin : EP Z.X pins σ Q' (.bool (ds.any fun y => PyData.eqv y w1.dat)) st := ⟨.bl _, _, I, rfl, hq⟩
      cases w2 with
      | lst b ws => cases hd; exact SeqAt.in_list_data x2 x1 (datL_plain ws) (W.plain _) (by omega) fin
      | scr ws => cases hd; exact SeqAt.in_list_data x2 x1 (datL_plain ws) (W.plain _) (by omega) fin
      | tup ws => cases hd; exact SeqAt.in_tuple_data x2 x1 (datL_plain ws) (W.plain _) (by omega) fin
      | _ => cases hd
    · rw [if_neg hc] at e'; cases e'
theorem op_notInW (hr : Room k Z.X.A) : OpS Z (compareOp .NotIn) (inW true) := fun G H w1 w2 v1 v2 O1 O2 w Q s r1 r2 e q => by
  by_cases hz : ∃ z, w2 = .str z
  · obtain ⟨z, rfl⟩ := hz
    cases w1 with
    | str y =>
      cases e
      obtain ⟨_, rfl⟩ := r1
      obtain ⟨_, rfl⟩ := r2
      exact ⟨_, L2.op_notIn_str, y, z, rfl, rfl, q.bl s⟩
    | _ => cases e
  · have e' : (if w1.fd = true ∧ w1.dat.depth ≤ 60 then (seqD w2).map fun ds => W.bl (!inD w1 ds) else none) = some w := by
      cases w2 <;> first
        | exact absurd ⟨_, rfl⟩ hz
        | exact e
    by_cases hc : w1.fd = true ∧ w1.dat.depth ≤ 60
    · rw [if_pos hc] at e'
      have d1 := r1.dp s hc.1
      have hfd : w2.fd = true := by
        cases w2 <;> first
          | rfl
          | (exfalso; exact nomatch e')
      have d2 := r2.dp s hfd
      obtain ⟨ds, hd, hw⟩ : ∃ ds, seqD w2 = some ds ∧ .bl (!inD w1 ds) = w := by
        cases h : seqD w2 with
        | none => rw [h] at e'; cases e'
        | some ds => rw [h] at e'; exact ⟨ds, rfl, Option.some.inj e'⟩
      subst hw
      refine ⟨fun x y H' Q' => x = v1 ∧ y = v2 ∧ H' = H ∧ Q' (.bl (!inD w1 ds)) H, fun pins st σ H' x y v u Q' I rx ry hh => ?_, rfl, rfl, rfl, q.bl s⟩
      obtain ⟨rfl, rfl, rfl, hq⟩ := hh
      obtain ⟨as, x1⟩ := Dp.reads I _ _ v d1 rx
      obtain ⟨bs, x2⟩ := Dp.reads I _ _ u d2 ry
      have := hr.units
      have hm : min (PyData.depthAll ds) w1.dat.depth ≤ 60 := Nat.le_trans (Nat.min_le_right _ _) hc.2
      have fin : EP Z.X pins σ Q' (.bool (!ds.any fun y => PyData.eqv y w1.dat)) st := ⟨.bl _, _, I, rfl, hq⟩
      cases w2 with
      | lst b ws => cases hd; exact SeqAt.notIn_list_data x2 x1 (datL_plain ws) (W.plain _) (by omega) fin
      | scr ws => cases hd; exact SeqAt.notIn_list_data x2 x1 (datL_plain ws) (W.plain _) (by omega) fin
      | tup ws => cases hd; exact SeqAt.notIn_tuple_data x2 x1 (datL_plain ws) (W.plain _) (by omega) fin
      | _ => cases hd
    · rw [if_neg hc] at e'; cases e'
end

/-! ### order -/
def ltD (a b : W) : Option W := if (a.fd && b.fd) = true ∧ smallD a b ∧ PySem.W.alike a.dat b.dat = true ∧ (match a with | .tup _ => true | _ => false) = true then some (.bl (PySem.W.dataLt a.dat b.dat)) else none
def ltW : W → W → Option W
  | .int i, .int j => some (.bl (decide (i < j)))
  | .str x, .str y => some (.bl (decide (x.cps.toList < y.cps.toList)))
  | .tup xs, .tup ys => ltD (.tup xs) (.tup ys)
  | _, _ => none
def leW : W → W → Option W
  | .int i, .int j => some (.bl (decide (i ≤ j)))
  | _, _ => none
def geW : W → W → Option W
  | .int i, .int j => some (.bl (decide (j ≤ i)))
  | _, _ => none
def intsW : List W → Option (List Int)
  | [] => some []
  | .int i :: ws => (intsW ws).map (i :: ·)
  | _ :: _ => none
theorem intsW_map : ∀ ns : List Int, intsW (ns.map W.int) = some ns
  | [] => rfl
  | n :: ns => by rw [List.map_cons, intsW, intsW_map ns]; rfl
theorem intsW_eq : ∀ {ws : List W} {ns : List Int}, intsW ws = some ns → ws = ns.map W.int
  | [], ns, h => by cases h; rfl
  | .int i :: ws, ns, h => by
    rw [intsW] at h
    cases e : intsW ws with
    | none => rw [e] at h; cases h
    | some ms =>
      rw [e] at h
      have h' : i :: ms = ns := Option.some.inj h
      rw [← h', List.map_cons, intsW_eq e]
theorem RFs.ints {D : Dn} {G : Hp} : ∀ {ns : List Int} {vs : List V}, RFs D G (ns.map W.int) vs → vs = ns.map V.int
  | [], _, h => h
  | n :: ns, _, h => by
    obtain ⟨v, r, rfl, h1, h2⟩ := h
    rw [List.map_cons, RFs.ints h2, show v = .int n from h1]
/-- b > a of tuples of ints -/
def gtW : W → W → Option W
  | .int i, .int j => some (.bl (decide (j < i)))
  | .tup xs, .tup ys => (intsW xs).bind fun ns => (intsW ys).map fun ms => .bl (Ob.lexAt (fun j => decide (ns.getD j 0 = ms.getD j 0)) (fun j => decide (ms.getD j 0 < ns.getD j 0)) (decide (ms.length < ns.length)) 0 (min ns.length ms.length))
  | _, _ => none
section
variable {Z : Zt} {k : Nat}
theorem op_ltW (hr : Room k Z.X.A) : OpS Z (compareOp .Lt) ltW := fun G H w1 w2 v1 v2 O1 O2 w Q s r1 r2 e q => by
  cases w1 with
  | int i =>
    cases w2 with
    | int j =>
      cases e
      obtain ⟨_, rfl⟩ := r1
      obtain ⟨_, rfl⟩ := r2
      exact ⟨_, op_lt, i, j, rfl, rfl, q.bl s⟩
    | _ => cases e
  | str i =>
    cases w2 with
    | str j =>
      cases e
      obtain ⟨_, rfl⟩ := r1
      obtain ⟨_, rfl⟩ := r2
      exact ⟨_, op_lt_str, i, j, rfl, rfl, q.bl s⟩
    | _ => cases e
  | tup xs =>
    cases w2 with
    | tup ys =>
      have e' : ltD (.tup xs) (.tup ys) = some w := e
      unfold ltD at e'
      by_cases hc : ((W.tup xs).fd && (W.tup ys).fd) = true ∧ smallD (.tup xs) (.tup ys) ∧ PySem.W.alike (W.tup xs).dat (W.tup ys).dat = true ∧ true = true
      · rw [if_pos hc] at e'
        cases e'
        obtain ⟨_, hs, ha, _⟩ := hc
        have d1 := r1.dp s rfl
        have d2 := r2.dp s rfl
        refine ⟨fun x y H' Q' => x = v1 ∧ y = v2 ∧ H' = H ∧ Q' (.bl (PySem.W.dataLt (W.tup xs).dat (W.tup ys).dat)) H, fun pins st σ H' x y v u Q' I rx ry hh => ?_, rfl, rfl, rfl, q.bl s⟩
        obtain ⟨rfl, rfl, rfl, hq⟩ := hh
        obtain ⟨as, x1⟩ := Dp.reads I _ _ v d1 rx
        obtain ⟨bs, x2⟩ := Dp.reads I _ _ u d2 ry
        have := hs.min
        have := hr.units
        exact PySem.W.rcLt_alike _ _ Z.X.A st v u as bs x1 x2 ha (fun z => nomatch z) (by omega) _ _ _ _ ⟨.bl _, _, I, rfl, hq⟩
      · rw [if_neg hc] at e'; cases e'
    | _ => cases e
  | _ => cases e
theorem op_gtT {X : Cx} (hu : X.A.units < cLine) : OpR X (compareOp .Gt) (fun x y H Q => ∃ (a b : Addr) (ns ms : List Int), x = .ref a ∧ y = .ref b ∧ SqT X.K H a (ns.map V.int) ∧ SqT X.K H b (ms.map V.int) ∧
    Q (.bl (Ob.lexAt (fun j => decide (ns.getD j 0 = ms.getD j 0)) (fun j => decide (ms.getD j 0 < ns.getD j 0)) (decide (ms.length < ns.length)) 0 (min ns.length ms.length))) H) := by
  intro pins s σ H x y v u Q I rx ry h
  obtain ⟨a, b, ns, ms, rfl, rfl, ha, hb, q⟩ := h
  cases rx
  cases ry
  obtain ⟨its, v1, t1, _⟩ := I.tuple ha
  obtain ⟨its2, v2, t2, _⟩ := I.tuple hb
  have i1 := intsAre_of v1
  have i2 := intsAre_of v2
  have n1 : its.toArray.size = ns.length := by rw [List.size_toArray]; exact i1.length
  have n2 : its2.toArray.size = ms.length := by rw [List.size_toArray]; exact i2.length
  have p1 : ∀ j (h1 : j < its.toArray.size), ∃ t, its.toArray[j] = .int (ns.getD j 0) t := fun j h1 => PyProof.Rows.IntsAre.int_at i1 _ _ (by simp at h1; simp [h1])
  have p2 : ∀ j (h1 : j < its2.toArray.size), ∃ t, its2.toArray[j] = .int (ms.getD j 0) t := fun j h1 => PyProof.Rows.IntsAre.int_at i2 _ _ (by simp at h1; simp [h1])
  have z := Ob.RcOp.tuples_gt (A := X.A) (s := s) (e := fun j => decide (ns.getD j 0 = ms.getD j 0)) (r := fun j => decide (ms.getD j 0 < ns.getD j 0)) t1 t2 hu (fun j h1 h2 => by
    obtain ⟨t, et⟩ := p1 j h1
    obtain ⟨t', et'⟩ := p2 j h2
    rw [et, et']
    have y : (ns.getD j 0 == ms.getD j 0) = decide (ns.getD j 0 = ms.getD j 0) := by rw [Bool.eq_iff_iff]; simp
    show SeqAt.EqAt _ _ _ _ (decide (ns.getD j 0 = ms.getD j 0))
    rw [← y]
    exact SeqAt.EqAt.int_int _ _ _ _) (fun j h1 h2 _ => by
    obtain ⟨t, et⟩ := p1 j h1
    obtain ⟨t', et'⟩ := p2 j h2
    rw [et, et']
    exact Ob.RcOp.gt_int _ _ _ _)
  rw [n1, n2] at z
  exact z X.prog X.w X.xe _ ⟨.bl _, H, I, rfl, q⟩
theorem op_gtW (hr : Room k Z.X.A) : OpS Z (compareOp .Gt) gtW := fun G H w1 w2 v1 v2 O1 O2 w Q s r1 r2 e q => by
  cases w1 with
  | int i =>
    cases w2 with
    | int j =>
      cases e
      obtain ⟨_, rfl⟩ := r1
      obtain ⟨_, rfl⟩ := r2
      exact ⟨_, op_gt, i, j, rfl, rfl, q.bl s⟩
    | _ => cases e
  | tup xs =>
    cases w2 with
    | tup ys =>
      have e' : (intsW xs).bind (fun ns => (intsW ys).map fun ms => W.bl (Ob.lexAt (fun j => decide (ns.getD j 0 = ms.getD j 0)) (fun j => decide (ms.getD j 0 < ns.getD j 0)) (decide (ms.length < ns.length)) 0 (min ns.length ms.length))) = some w := e
      cases h1 : intsW xs with
      | none => rw [h1] at e'; cases e'
      | some ns =>
        cases h2 : intsW ys with
        | none => rw [h1, h2] at e'; cases e'
        | some ms =>
          rw [h1, h2] at e'
          cases e'
          obtain ⟨_, a, vs, rfl, t1, f1⟩ := r1
          obtain ⟨_, b, us, rfl, t2, f2⟩ := r2
          rw [intsW_eq h1] at f1
          rw [intsW_eq h2] at f2
          rw [RFs.ints f1] at t1
          rw [RFs.ints f2] at t2
          exact ⟨_, op_gtT hr.units0, a, b, ns, ms, rfl, rfl, s.sqT t1, s.sqT t2, q.bl s⟩
    | _ => cases e
  | _ => cases e
end
end Ev

namespace Ev
open PySem PySem.Spec L2

/-! ### arithmetic -/
def mulOk (i j : Int) : Prop := (-(2 ^ 64) < i ∧ i < 2 ^ 64) ∨ (-(2 ^ 64) < j ∧ j < 2 ^ 64)
noncomputable instance {i j : Int} : Decidable (mulOk i j) := Classical.propDecidable _
def divOk (j : Int) : Prop := 0 < j ∧ j.natAbs.log2 < 9000
noncomputable instance {j : Int} : Decidable (divOk j) := Classical.propDecidable _
def powOk (i j : Int) : Prop := 0 ≤ j ∧ j ≤ 1000000 ∧ i.natAbs < 2 ^ 64
noncomputable instance {i j : Int} : Decidable (powOk i j) := Classical.propDecidable _
def repOk (n : Nat) (k : Int) : Prop := -(2 ^ 63) ≤ k ∧ k < 2 ^ 63 ∧ n * k.toNat ≤ sizeLine
noncomputable instance {n : Nat} {k : Int} : Decidable (repOk n k) := Classical.propDecidable _
def addW (b : Bool) : W → W → Option W
  | .int i, .int j => some (.int (i + j))
  | .int i, .bl c => some (.int (i + PyProof.Rows.b2i c))
  | .str x, .str y => if x.length + y.length ≤ sizeLine then some (.str (x ++ y)) else none
  | .lst _ xs, .lst _ ys => if xs.length + ys.length ≤ sizeLine then some (.lst b (xs ++ ys)) else none
  | .tup xs, .tup ys => if xs ≠ [] ∧ xs.length + ys.length ≤ sizeLine then some (.tup (xs ++ ys)) else none
  | _, _ => none
def subW : W → W → Option W
  | .int i, .int j => some (.int (i - j))
  | _, _ => none
noncomputable def mulW (b : Bool) : W → W → Option W
  | .int i, .int j => if mulOk i j then some (.int (i * j)) else none
  | .lst _ xs, .int k => if repOk xs.length k then some (.lst b (List.replicate k.toNat xs).flatten) else none
  | _, _ => none
noncomputable def fdivW : W → W → Option W
  | .int i, .int j => if divOk j then some (.int (i / j)) else none
  | _, _ => none
def modW : W → W → Option W
  | .int i, .int j => if 0 < j then some (.int (i % j)) else none
  | _, _ => none
noncomputable def powW : W → W → Option W
  | .int i, .int j => if powOk i j then some (.int (i ^ j.toNat)) else none
  | _, _ => none
theorem RFs.append {D : Dn} {G : Hp} : ∀ {xs ys : List W} {vs us : List V}, RFs D G xs vs → RFs D G ys us → RFs D G (xs ++ ys) (vs ++ us)
  | [], _, _, _, h, k => by rw [show _ = [] from h]; exact k
  | x :: xs, _, _, _, h, k => by
    obtain ⟨v, r, rfl, h1, h2⟩ := h
    exact ⟨v, _, rfl, h1, RFs.append h2 k⟩
theorem RFs.reps {D : Dn} {G : Hp} {xs : List W} {vs : List V} (h : RFs D G xs vs) : ∀ k : Nat, RFs D G (List.replicate k xs).flatten (List.replicate k vs).flatten
  | 0 => rfl
  | k + 1 => by
    rw [List.replicate_succ, List.replicate_succ, List.flatten_cons, List.flatten_cons]
    exact h.append (RFs.reps h k)
section
variable {Z : Zt} {k : Nat}
theorem op_addW {b : Bool} : OpS Z (binaryOp .Add) (addW b) := fun G H w1 w2 v1 v2 O1 O2 w Q s r1 r2 e q => by
  cases w1 with
  | int i =>
    cases w2 with
    | int j =>
      cases e
      obtain ⟨_, rfl⟩ := r1
      obtain ⟨_, rfl⟩ := r2
      exact ⟨_, op_add, i, j, rfl, rfl, q.int s⟩
    | bl c =>
      cases e
      obtain ⟨_, rfl⟩ := r1
      obtain ⟨_, rfl⟩ := r2
      exact ⟨_, op_add_ib, i, c, rfl, rfl, q.int s⟩
    | _ => cases e
  | str x =>
    cases w2 with
    | str y =>
      have e' : (if x.length + y.length ≤ sizeLine then some (W.str (x ++ y)) else none) = some w := e
      by_cases hl : x.length + y.length ≤ sizeLine
      · rw [if_pos hl] at e'
        cases e'
        obtain ⟨_, rfl⟩ := r1
        obtain ⟨_, rfl⟩ := r2
        exact ⟨_, op_add_str, x, y, rfl, rfl, hl, q.str s⟩
      · rw [if_neg hl] at e'; cases e'
    | _ => cases e
  | lst b1 xs =>
    cases w2 with
    | lst b2 ys =>
      have e' : (if xs.length + ys.length ≤ sizeLine then some (W.lst b (xs ++ ys)) else none) = some w := e
      by_cases hl : xs.length + ys.length ≤ sizeLine
      · rw [if_pos hl] at e'
        cases e'
        obtain ⟨a1, vs, rfl, h1, f1⟩ := r1.lstAt s
        obtain ⟨a2, us, rfl, h2, f2⟩ := r2.lstAt s
        exact ⟨_, op_cat, a1, a2, vs, us, rfl, rfl, h1, h2, by rw [← f1.len, ← f2.len]; exact hl, fun p n => q.lst s (f1.append f2) n⟩
      · rw [if_neg hl] at e'; cases e'
    | _ => cases e
  | tup xs =>
    cases w2 with
    | tup ys =>
      have e' : (if xs ≠ [] ∧ xs.length + ys.length ≤ sizeLine then some (W.tup (xs ++ ys)) else none) = some w := e
      by_cases hl : xs ≠ [] ∧ xs.length + ys.length ≤ sizeLine
      · rw [if_pos hl] at e'
        cases e'
        obtain ⟨_, a1, vs, rfl, h1, f1⟩ := r1
        obtain ⟨_, a2, us, rfl, h2, f2⟩ := r2
        refine ⟨_, op_catT, a1, a2, vs, us, rfl, rfl, s.sqT h1, s.sqT h2, ?_, by rw [← f1.len, ← f2.len]; exact hl.2, fun e0 => ?_, fun _ p n => q.tup s (f1.append f2) n⟩
        · intro z
          have := f1.len
          rw [z] at this
          exact hl.1 (List.eq_nil_of_length_eq_zero this)
        · have h0 : ys = [] := List.eq_nil_of_length_eq_zero (by rw [f2.len, e0]; rfl)
          subst h0
          rw [List.append_nil] at q
          exact q.fro s (show RF Z.D G (.tup xs) (.ref a1) from ⟨a1, vs, rfl, h1, f1⟩)
      · rw [if_neg hl] at e'; cases e'
    | _ => cases e
  | _ => cases e
theorem op_subW : OpS Z (binaryOp .Sub) subW := fun G H w1 w2 v1 v2 O1 O2 w Q s r1 r2 e q => by
  cases w1 with
  | int i =>
    cases w2 with
    | int j =>
      cases e
      obtain ⟨_, rfl⟩ := r1
      obtain ⟨_, rfl⟩ := r2
      exact ⟨_, op_sub, i, j, rfl, rfl, q.int s⟩
    | _ => cases e
  | _ => cases e
theorem op_mulW {b : Bool} : OpS Z (binaryOp .Mult) (mulW b) := fun G H w1 w2 v1 v2 O1 O2 w Q s r1 r2 e q => by
  cases w1 with
  | int i =>
    cases w2 with
    | int j =>
      have e' : (if mulOk i j then some (W.int (i * j)) else none) = some w := e
      by_cases hl : mulOk i j
      · rw [if_pos hl] at e'
        cases e'
        obtain ⟨_, rfl⟩ := r1
        obtain ⟨_, rfl⟩ := r2
        exact ⟨_, op_mul, i, j, rfl, rfl, hl, q.int s⟩
      · rw [if_neg hl] at e'; cases e'
    | _ => cases e
  | lst b1 xs =>
    cases w2 with
    | int j =>
      have e' : (if repOk xs.length j then some (W.lst b (List.replicate j.toNat xs).flatten) else none) = some w := e
      by_cases hl : repOk xs.length j
      · rw [if_pos hl] at e'
        cases e'
        obtain ⟨a1, vs, rfl, h1, f1⟩ := r1.lstAt s
        obtain ⟨_, rfl⟩ := r2
        obtain ⟨l1, l2, l3⟩ := hl
        exact ⟨_, op_rep, a1, j, vs, rfl, rfl, h1, l1, l2, by rw [← f1.len]; exact l3, fun p n => q.lst s (f1.reps _) n⟩
      · rw [if_neg hl] at e'; cases e'
    | _ => cases e
  | _ => cases e
theorem op_fdivW' : OpS Z (binaryOp .FloorDiv) fdivW := fun G H w1 w2 v1 v2 O1 O2 w Q s r1 r2 e q => by
  cases w1 with
  | int i =>
    cases w2 with
    | int j =>
      have e' : (if divOk j then some (W.int (i / j)) else none) = some w := e
      by_cases hl : divOk j
      · rw [if_pos hl] at e'
        cases e'
        obtain ⟨_, rfl⟩ := r1
        obtain ⟨_, rfl⟩ := r2
        exact ⟨_, op_fdivW, i, j, rfl, rfl, hl, q.int s⟩
      · rw [if_neg hl] at e'; cases e'
    | _ => cases e
  | _ => cases e
theorem op_modW : OpS Z (binaryOp .Mod) modW := fun G H w1 w2 v1 v2 O1 O2 w Q s r1 r2 e q => by
  cases w1 with
  | int i =>
    cases w2 with
    | int j =>
      have e' : (if 0 < j then some (W.int (i % j)) else none) = some w := e
      by_cases hl : 0 < j
      · rw [if_pos hl] at e'
        cases e'
        obtain ⟨_, rfl⟩ := r1
        obtain ⟨_, rfl⟩ := r2
        exact ⟨_, op_mod, i, j, rfl, rfl, hl, q.int s⟩
      · rw [if_neg hl] at e'; cases e'
    | _ => cases e
  | _ => cases e
theorem op_powW : OpS Z (binaryOp .Pow) powW := fun G H w1 w2 v1 v2 O1 O2 w Q s r1 r2 e q => by
  cases w1 with
  | int i =>
    cases w2 with
    | int j =>
      have e' : (if powOk i j then some (W.int (i ^ j.toNat)) else none) = some w := e
      by_cases hl : powOk i j
      · rw [if_pos hl] at e'
        cases e'
        obtain ⟨_, rfl⟩ := r1
        obtain ⟨_, rfl⟩ := r2
        exact ⟨_, op_pow, i, j, rfl, rfl, hl, q.int s⟩
      · rw [if_neg hl] at e'; cases e'
    | _ => cases e
  | _ => cases e

/-! ### items, parts -/
def ixW : W → W → Option W
  | .lst _ xs, .int i => atI xs i
  | .scr xs, .int i => atI xs i
  | .tup xs, .int i => atI xs i
  | .str z, .int i => if z.length ≤ sizeLine then (atI z.cps.toList i).map fun c => .str ⟨#[c]⟩ else none
  | _, _ => none
def ixAny (X : Cx) : R2 := fun x y H Q => ∃ r : R2, IxR X r ∧ r x y H Q
theorem ix_any {X : Cx} : IxR X (ixAny X) := fun value slice pins s σ H x y v u Q I rx ry ⟨r, ho, q⟩ => ho value slice pins s σ H x y v u Q I rx ry q
theorem RFs.get {D : Dn} {G : Hp} : ∀ {ws : List W} {vs : List V} {i : Nat} {w : W}, RFs D G ws vs → ws[i]? = some w → ∃ v, vs[i]? = some v ∧ RF D G w v
  | [], _, _, _, _, e => by simp at e
  | _ :: _, _, 0, _, h, e => by
    obtain ⟨v, r, rfl, h1, h2⟩ := h
    rw [← Option.some.inj e]
    exact ⟨v, rfl, h1⟩
  | _ :: ws, _, i + 1, _, h, e => by
    obtain ⟨v, r, rfl, h1, h2⟩ := h
    exact RFs.get (i := i) h2 e
theorem RFs.atI {D : Dn} {G : Hp} {ws : List W} {vs : List V} {i : Int} {w : W} (h : RFs D G ws vs) (e : L2.atI ws i = some w) : ∃ v, L2.atI vs i = some v ∧ RF D G w v := by
  unfold L2.atI at e ⊢
  rw [h.len] at e
  cases hn : ixN vs.length i with
  | none => rw [hn] at e; cases e
  | some j =>
    rw [hn] at e
    exact h.get e
theorem rel_ixW : RelS Z.D (ixAny Z.X) ixW := fun G H w1 w2 v1 v2 O1 O2 w Q s r1 r2 e q => by
  cases w1 with
  | lst b xs =>
    cases w2 with
    | int i =>
      obtain ⟨a1, vs, rfl, h1, f1⟩ := r1.lstAt s
      obtain ⟨_, rfl⟩ := r2
      obtain ⟨v, h2, r⟩ := f1.atI e
      exact ⟨_, ix_list, a1, vs, i, v, rfl, rfl, SqL.of h1, h2, q.fro s r⟩
    | _ => cases e
  | scr xs =>
    cases w2 with
    | int i =>
      obtain ⟨_, a1, vs, rfl, h1, f1⟩ := r1
      obtain ⟨_, rfl⟩ := r2
      obtain ⟨v, h2, r⟩ := f1.atI e
      exact ⟨_, ix_list, a1, vs, i, v, rfl, rfl, s.sqL h1, h2, q.fro s r⟩
    | _ => cases e
  | tup xs =>
    cases w2 with
    | int i =>
      obtain ⟨_, a1, vs, rfl, h1, f1⟩ := r1
      obtain ⟨_, rfl⟩ := r2
      obtain ⟨v, h2, r⟩ := f1.atI e
      exact ⟨_, ix_tup, a1, vs, i, v, rfl, rfl, s.sqT h1, h2, q.fro s r⟩
    | _ => cases e
  | str z =>
    cases w2 with
    | int i =>
      have e' : (if z.length ≤ sizeLine then (L2.atI z.cps.toList i).map fun c => W.str ⟨#[c]⟩ else none) = some w := e
      by_cases hl : z.length ≤ sizeLine
      · rw [if_pos hl] at e'
        cases hc : L2.atI z.cps.toList i with
        | none => rw [hc] at e'; cases e'
        | some c =>
          rw [hc] at e'
          cases e'
          obtain ⟨_, rfl⟩ := r1
          obtain ⟨_, rfl⟩ := r2
          exact ⟨_, ix_str, z, i, c, rfl, rfl, hl, hc, q.str s⟩
      · rw [if_neg hl] at e'; cases e'
    | _ => cases e
  | _ => cases e
theorem me_ix {a b : Expr} {m1 m2 : Sm W} {p1 p2 k1 k2 : Bool} {pos : Pos} (ha : ME Z a m1 p1 k1) (hb : ME Z b m2 p2 k2) (hs : PlainIx b := by exact fun _ _ => rfl) : ME Z (.Subscript a b pos) (mBin ixW (k1 || p2) m1 m2) (p1 && p2) true :=
  pe_imp (pe_ix ix_any ha hb hs) fun _ _ _ h => tx_bin rel_ixW h

/-- a part: lo, hi as numbers or left out; f by the two -/
def TOo (D : Dn) (Wx : WX) (p : Bool) (m : Sm (Option Int)) : TO := fun σ H Q => ∃ (env : List W) (G : Hp) (Os : List (List Addr)), StOk D G H env σ Os ∧ match m env with
  | .ok o env' => ∀ G' H' Os', StOk D G' H' env' σ Os' → Stp p env G H Os env' G' H' Os' [] → Q o H'
  | .ex c env' => ∀ G' H' Os', StOk D G' H' env' σ Os' → Stp p env G H Os env' G' H' Os' [] → Wx (.ref (D.CA c)) none σ H'
  | .bad => False
abbrev MO (Z : Zt) (e : Option Expr) (m : Sm (Option Int)) (p : Bool) : Prop := PO Z.X e (TOo Z.D Z.W p m)
theorem po_imp {X : Cx} {e : Option Expr} {t t' : TO} (h : PO X e t) (i : ∀ σ H Q, t' σ H Q → t σ H Q) : PO X e t' := ⟨fun pins s σ H Q I w => h.run pins s σ H Q I (i σ H Q w)⟩
def mNo : Sm (Option Int) := Sm.ret none
def intW : W → Option Int
  | .int i => some i
  | _ => none
def mPart (m : Sm W) : Sm (Option Int) := Sm.bind m fun w => lft ((intW w).map some)
theorem mo_no : MO Z none mNo true := po_imp po_none fun σ H Q q => by
  obtain ⟨env, G, Os, s, q⟩ := q
  exact q G H Os s (Stp.id true)
theorem mo_some {e : Expr} {m : Sm W} {p k : Bool} (h : ME Z e m p k) : MO Z (some e) (mPart m) p := po_imp (po_some h) fun σ H Q q => by
  obtain ⟨env, G, Os, s, q⟩ := q
  refine ⟨env, G, Os, s, ?_⟩
  unfold mPart Sm.bind lft at q
  cases e1 : m env with
  | bad => rw [e1] at q; exact q
  | ex c env1 => rw [e1] at q; exact q
  | ok w env1 =>
    rw [e1] at q
    intro v G' H' Os' Ow s' r o t
    cases w with
    | int i =>
      obtain ⟨_, rfl⟩ := r
      exact ⟨i, rfl, q G' H' Os' s' (t.less kO_less)⟩
    | _ => exact q.elim
def cutL {α : Type} (xs : List α) (lo hi : Option Int) : List α := (xs.drop (HT.sIx xs.length 0 lo)).take (HT.sIx xs.length xs.length hi - HT.sIx xs.length 0 lo)
def cutW (b : Bool) : W → Option Int → Option Int → Option W
  | .lst _ xs, lo, hi => some (.lst b (cutL xs lo hi))
  | .scr xs, lo, hi => some (.lst b (cutL xs lo hi))
  | .str z, lo, hi => if z.length ≤ sizeLine then some (.str (cutS z lo hi)) else none
  | _, _, _ => none
theorem RFs.drop {D : Dn} {G : Hp} : ∀ {ws : List W} {vs : List V} (n : Nat), RFs D G ws vs → RFs D G (ws.drop n) (vs.drop n)
  | _, _, 0, h => h
  | [], _, n + 1, h => by rw [show _ = [] from h]; rfl
  | _ :: ws, _, n + 1, h => by
    obtain ⟨v, r, rfl, h1, h2⟩ := h
    exact RFs.drop n h2
theorem RFs.take {D : Dn} {G : Hp} : ∀ {ws : List W} {vs : List V} (n : Nat), RFs D G ws vs → RFs D G (ws.take n) (vs.take n)
  | _, _, 0, h => rfl
  | [], _, n + 1, h => by rw [show _ = [] from h]; rfl
  | _ :: ws, _, n + 1, h => by
    obtain ⟨v, r, rfl, h1, h2⟩ := h
    exact ⟨v, _, rfl, h1, RFs.take n h2⟩
theorem RFs.cut {D : Dn} {G : Hp} {ws : List W} {vs : List V} (lo hi : Option Int) (h : RFs D G ws vs) : RFs D G (cutL ws lo hi) (cutV vs lo hi) := by
  unfold cutL cutV
  rw [h.len]
  exact (h.drop _).take _
def slAny (X : Cx) : V → Option Int → Option Int → Hp → VK → Prop := fun x lo hi H Q => ∃ r, SlR X r ∧ r x lo hi H Q
theorem sl_any {X : Cx} : SlR X (slAny X) := fun pins s σ H x v vl vu lo hi sl Q I rx h1 h2 h3 ⟨r, ho, q⟩ => ho pins s σ H x v vl vu lo hi sl Q I rx h1 h2 h3 q
def mSlice (b g : Bool) (m : Sm W) (ml mh : Sm (Option Int)) : Sm W := Sm.bind m fun w => Sm.bind ml fun lo => Sm.bind mh fun hi => if (g || w.frz) = true then lft (cutW b w lo hi) else fun _ => .bad
theorem rel_cutW {b : Bool} {G H : Hp} {w1 : W} {v1 : V} {O1 : List Addr} {w : W} {lo hi : Option Int} {Q : VK} (s : Sub G H) (r1 : RO Z.D G H w1 v1 O1) (e : cutW b w1 lo hi = some w) (q : Ans Z.D G H w Q) : slAny Z.X v1 lo hi H Q := by
  cases w1 with
  | lst b1 xs =>
    cases e
    obtain ⟨a1, vs, rfl, h1, f1⟩ := r1.lstAt s
    exact ⟨_, sl_list, a1, vs, rfl, SqL.of h1, fun p n => q.lst s (f1.cut lo hi) n⟩
  | scr xs =>
    cases e
    obtain ⟨_, a1, vs, rfl, h1, f1⟩ := r1
    exact ⟨_, sl_list, a1, vs, rfl, s.sqL h1, fun p n => q.lst s (f1.cut lo hi) n⟩
  | str z =>
    have e' : (if z.length ≤ sizeLine then some (W.str (cutS z lo hi)) else none) = some w := e
    by_cases hl : z.length ≤ sizeLine
    · rw [if_pos hl] at e'
      cases e'
      obtain ⟨_, rfl⟩ := r1
      exact ⟨_, sl_str, z, rfl, hl, q.str s⟩
    · rw [if_neg hl] at e'; cases e'
  | _ => cases e
theorem me_slice (b : Bool) {e : Expr} {lo hi : Option Expr} {m : Sm W} {ml mh : Sm (Option Int)} {p p1 p2 k1 : Bool} {q1 q2 : Pos} (he : ME Z e m p k1) (hl : MO Z lo ml p1) (hh : MO Z hi mh p2) :
    ME Z (.Subscript e (.Slice lo hi none q1) q2) (mSlice b (k1 || (p1 && p2)) m ml mh) (p && (p1 && p2)) true := pe_imp (pe_slice sl_any he hl hh) fun σ H Q hq => by
  obtain ⟨env, G, Os, s, hq⟩ := hq
  refine ⟨env, G, Os, s, ?_⟩
  unfold mSlice Sm.bind at hq
  cases e1 : m env with
  | bad => rw [e1] at hq; exact hq
  | ex c env1 =>
    rw [e1] at hq
    intro G' H' Os' s' t
    exact hq G' H' Os' s' (t.and _)
  | ok w1 env1 =>
    rw [e1] at hq
    intro v1 G1 H1 Os1 O1 s1 r1 o1 t1
    refine ⟨env1, G1, Os1, s1, ?_⟩
    cases e2 : ml env1 with
    | bad => simp only [e2] at hq
    | ex c env2 =>
      simp only [e2] at hq
      intro G' H' Os' s' t
      refine hq G' H' Os' s' ?_
      rw [← Bool.and_assoc]
      exact (t1.trans t).and _
    | ok lo env2 =>
      simp only [e2] at hq
      intro G2 H2 Os2 s2 t2
      refine ⟨env2, G2, Os2, s2, ?_⟩
      cases e3 : mh env2 with
      | bad => simp only [e3] at hq
      | ex c env3 =>
        simp only [e3] at hq
        intro G' H' Os' s' t
        exact hq G' H' Os' s' (t1.trans (t2.trans t))
      | ok hi env3 =>
        simp only [e3] at hq
        intro G3 H3 Os3 s3 t3
        by_cases hg : (k1 || (p1 && p2) || w1.frz) = true
        · rw [if_pos hg] at hq
          unfold lft at hq
          cases ef : cutW b w1 lo hi with
          | none => rw [ef] at hq; exact hq.elim
          | some w =>
            rw [ef] at hq
            have r1' := stay s1 r1 o1 (t2.trans t3) hg
            exact rel_cutW s3.sub r1' ef (Ans.of (p := p && (p1 && p2)) s3 (t1.trans (t2.trans t3)) hq)
        · rw [if_neg hg] at hq
          exact hq.elim
/-- xs[::-1] -/
def revW (b : Bool) : W → Option W
  | .lst _ xs => some (.lst b xs.reverse)
  | _ => none
theorem RFs.rev {D : Dn} {G : Hp} : ∀ {ws : List W} {vs : List V}, RFs D G ws vs → RFs D G ws.reverse vs.reverse
  | [], _, h => by rw [show _ = [] from h]; rfl
  | w :: ws, _, h => by
    obtain ⟨v, r, rfl, h1, h2⟩ := h
    rw [List.reverse_cons, List.reverse_cons]
    exact (RFs.rev h2).append ⟨v, [], rfl, h1, rfl⟩
theorem me_rev (b : Bool) {e : Expr} {m : Sm W} {p k1 : Bool} {j : Nat} {q1 q2 q3 q4 : Pos} (he : ME Z e m p k1) : ME Z (.Subscript e (.Slice none none (some (.UnaryOp .USub (.Constant (.int 1) j q1) q2)) q3) q4) (mUn (revW b) m) p true :=
  pe_imp (pe_revL he) fun σ H Q hq => tx_un (r := fun x H1 Q => ∃ a xs, x = .ref a ∧ SqL Z.X.K H1 a xs ∧ ∀ p, H1 p = none → Q (.ref p) (upd H1 p (.lst xs.reverse))) (fun G H w1 v1 O1 w Q s r1 e q => by
    cases w1 with
    | lst b1 xs =>
      cases e
      obtain ⟨a1, vs, rfl, h1, f1⟩ := r1.lstAt s
      exact ⟨a1, vs, rfl, SqL.of h1, fun p n => q.lst s f1.rev n⟩
    | _ => cases e) hq
end
end Ev

namespace Ev
open PySem PySem.Spec L2

/-! ### built-in functions of one argument -/
def clAny (X : Cx) (f : Value) : List V → Hp → VK → Prop := fun xs H Q => ∃ r, CallR X f r ∧ r xs H Q
theorem cl_any {X : Cx} {f : Value} : CallR X f (clAny X f) := fun pins s σ H xs us Q I rx ⟨r, ho, q⟩ => ho pins s σ H xs us Q I rx q
section
variable {Z : Zt} {k : Nat} {e : Expr} {m : Sm W} {p k1 : Bool} {p1 p2 : Pos}
theorem me_b1 {x : Str} {id : String} {f : W → Option W} (o : RelU Z.D (fun v => clAny Z.X (.builtin id) [v]) f) (hg : Gl Z.X x) (hm : Z.X.mg x = none) (hv : bootBuiltins x = some (.builtin id)) (ha : ME Z e m p k1) (hn : x ≠ "__name__" := by decide) (hdb : (x == ("__debug__" : Str)) = false := by decide)
    (hs : starEach [e] Z.X.env = (false, eval e Z.X.env) :: starEach [] Z.X.env := by rfl) : ME Z (.Call (.Name x p1) [e] [] p2) (mUn f m) p true :=
  pe_imp (pe_callB cl_any hg hm hv (pa_cons ha pa_nil hs) hn hdb hs rfl) fun _ _ _ q => tx_un o q
theorem me_t1 {x : Str} {id : String} {f : W → Option W} (o : RelU Z.D (fun v => clAny Z.X (.type id) [v]) f) (hg : Gl Z.X x) (hm : Z.X.mg x = none) (hv : bootBuiltins x = some (.type id)) (ha : ME Z e m p k1) (hn : x ≠ "__name__" := by decide) (hdb : (x == ("__debug__" : Str)) = false := by decide)
    (hs : starEach [e] Z.X.env = (false, eval e Z.X.env) :: starEach [] Z.X.env := by rfl) : ME Z (.Call (.Name x p1) [e] [] p2) (mUn f m) p true :=
  pe_imp (pe_callTy cl_any hg hm hv (pa_cons ha pa_nil hs) hn hdb hs rfl) fun _ _ _ q => tx_un o q
/-- the items of a thing that is a list or a tuple -/
def seqW : W → Option (List W)
  | .lst _ ws => some ws
  | .scr ws => some ws
  | .tup ws => some ws
  | _ => none
theorem seqW_at {D : Dn} {G H : Hp} {w : W} {v : V} {O : List Addr} {ws : List W} (s : Sub G H) (r : RO D G H w v O) (e : seqW w = some ws) : ∃ a vs, v = .ref a ∧ (SqL D.K H a vs ∨ SqT D.K H a vs) ∧ RFs D G ws vs := by
  cases w with
  | lst b xs =>
    cases e
    obtain ⟨a, vs, rfl, h1, h2⟩ := r.lstAt s
    exact ⟨a, vs, rfl, .inl (SqL.of h1), h2⟩
  | scr xs =>
    cases e
    obtain ⟨_, a, vs, rfl, h1, h2⟩ := r
    exact ⟨a, vs, rfl, .inl (s.sqL h1), h2⟩
  | tup xs =>
    cases e
    obtain ⟨_, a, vs, rfl, h1, h2⟩ := r
    exact ⟨a, vs, rfl, .inr (s.sqT h1), h2⟩
  | _ => cases e
def lisW : W → Option (List W)
  | .lst _ ws => some ws
  | .scr ws => some ws
  | _ => none
theorem lisW_at {D : Dn} {G H : Hp} {w : W} {v : V} {O : List Addr} {ws : List W} (s : Sub G H) (r : RO D G H w v O) (e : lisW w = some ws) : ∃ a vs, v = .ref a ∧ SqL D.K H a vs ∧ RFs D G ws vs := by
  cases w with
  | lst b xs =>
    cases e
    obtain ⟨a, vs, rfl, h1, h2⟩ := r.lstAt s
    exact ⟨a, vs, rfl, SqL.of h1, h2⟩
  | scr xs =>
    cases e
    obtain ⟨_, a, vs, rfl, h1, h2⟩ := r
    exact ⟨a, vs, rfl, s.sqL h1, h2⟩
  | _ => cases e
/-- the list at an owned list of any kind: how long -/
theorem ROs.len {D : Dn} {G H : Hp} : ∀ {ws : List W} {vs : List V} {O : List Addr}, ROs D G H ws vs O → ws.length = vs.length
  | [], _, _, h => by rw [h.1]; rfl
  | w :: ws, _, _, h => by
    obtain ⟨v, r, O1, O2, rfl, rfl, h1, h2⟩ := h
    simp [ROs.len h2]
def lenW : W → Option W
  | .str z => if z.length ≤ sizeLine then some (.int z.length) else none
  | .nst ws => some (.int ws.length)
  | w => (seqW w).map fun ws => .int ws.length
theorem me_len (hm : Z.X.mg "len" = none) (ha : ME Z e m p k1) (hg : Gl Z.X "len" := by rfl) (hs : starEach [e] Z.X.env = (false, eval e Z.X.env) :: starEach [] Z.X.env := by rfl) : ME Z (.Call (.Name "len" p1) [e] [] p2) (mUn lenW m) p true :=
  me_b1 (fun G H w1 v1 O1 w Q s r e q => by
    by_cases hz : ∃ z, w1 = .str z
    · obtain ⟨z, rfl⟩ := hz
      have e' : (if z.length ≤ sizeLine then some (W.int z.length) else none) = some w := e
      by_cases hl : z.length ≤ sizeLine
      · rw [if_pos hl] at e'
        cases e'
        obtain ⟨_, rfl⟩ := r
        exact ⟨_, call_len_str, z, rfl, hl, q.int s⟩
      · rw [if_neg hl] at e'; cases e'
    · by_cases hn : ∃ ws, w1 = .nst ws
      · obtain ⟨ws, rfl⟩ := hn
        cases e
        obtain ⟨a, vs, O', rfl, rfl, h1, h2⟩ := r
        refine ⟨_, call_len_seq, a, vs, rfl, .inl (SqL.of h1), ?_⟩
        rw [← h2.len]
        exact q.int s
      · have e' : (seqW w1).map (fun ws => W.int ws.length) = some w := by
          cases w1 <;> first
            | exact absurd ⟨_, rfl⟩ hz
            | exact absurd ⟨_, rfl⟩ hn
            | exact e
        cases h : seqW w1 with
        | none => rw [h] at e'; cases e'
        | some ws =>
          rw [h] at e'
          cases e'
          obtain ⟨a, vs, rfl, h1, h2⟩ := seqW_at s r h
          refine ⟨_, call_len_seq, a, vs, rfl, h1, ?_⟩
          rw [← h2.len]
          exact q.int s) hg hm PySem.boot_len ha (by decide) (by decide) hs
/-- sum, max, min of a list of ints -/
def sumW (w : W) : Option W := (lisW w).bind fun ws => (intsW ws).map fun ns => .int ns.sum
def absW : W → Option W
  | .int i => some (.int (if i < 0 then -i else i))
  | _ => none
def toIntW : W → Option W
  | .int i => some (.int i)
  | .bl b => some (.int (if b = true then 1 else 0))
  | .str z => if z.length ≤ 640 then (intText? z).map .int else none
  | _ => none
theorem me_intOf (hc : Z.X.calm = true) (hm : Z.X.mg "int" = none) (ha : ME Z e m p k1) (hg : Gl Z.X "int" := by rfl) (hs : starEach [e] Z.X.env = (false, eval e Z.X.env) :: starEach [] Z.X.env := by rfl) : ME Z (.Call (.Name "int" p1) [e] [] p2) (mUn toIntW m) p true :=
  me_t1 (fun G H w1 v1 O1 w Q s r e q => by
    cases w1 with
    | int i =>
      cases e
      obtain ⟨_, rfl⟩ := r
      exact ⟨_, call_int1, .inl ⟨i, rfl, q.int s⟩⟩
    | bl b =>
      cases e
      obtain ⟨_, rfl⟩ := r
      exact ⟨_, call_int1, .inr ⟨b, rfl, q.int s⟩⟩
    | str z =>
      have e' : (if z.length ≤ 640 then (intText? z).map W.int else none) = some w := e
      by_cases hl : z.length ≤ 640
      · rw [if_pos hl] at e'
        cases h : intText? z with
        | none => rw [h] at e'; cases e'
        | some n =>
          rw [h] at e'
          cases e'
          obtain ⟨_, rfl⟩ := r
          exact ⟨_, call_int_str, z, n, rfl, h, hl, q.int s⟩
      · rw [if_neg hl] at e'; cases e'
    | _ => cases e) hg hm PyProof.Rows.boot_int ha (by decide) (by decide) hs
def strOfW : W → Option W
  | .int i => if i.natAbs.log2 < 1920 then some (.str (toString i)) else none
  | _ => none
theorem me_strOf (hm : Z.X.mg "str" = none) (ha : ME Z e m p k1) (hg : Gl Z.X "str" := by rfl) (hs : starEach [e] Z.X.env = (false, eval e Z.X.env) :: starEach [] Z.X.env := by rfl) : ME Z (.Call (.Name "str" p1) [e] [] p2) (mUn strOfW m) p true :=
  me_t1 (fun G H w1 v1 O1 w Q s r e q => by
    cases w1 with
    | int i =>
      have e' : (if i.natAbs.log2 < 1920 then some (W.str (toString i)) else none) = some w := e
      by_cases hl : i.natAbs.log2 < 1920
      · rw [if_pos hl] at e'
        cases e'
        obtain ⟨_, rfl⟩ := r
        exact ⟨_, call_str_int, i, rfl, hl, q.str s⟩
      · rw [if_neg hl] at e'; cases e'
    | _ => cases e) hg hm PyProof.Rows.boot_str ha (by decide) (by decide) hs
/-- list(x), tuple(x) -/
def listOfW (b : Bool) (w : W) : Option W := (seqW w).map (.lst b ·)
def tupOfW : W → Option W
  | .tup ws => some (.tup ws)
  | w => (lisW w).map .tup
/-! ### sorted -/
def leD (a b : W) : Bool := PySem.W.dataLe false W.dat a b
def SortOk (ws : List W) : Prop := PySem.W.AllAlike (ws.map W.dat) ∧ PySem.W.Sortable (ws.map W.dat) ∧ ws.length ≤ sizeLine ∧ ∀ w ∈ ws, w.dat.depth ≤ 60
open Classical in
noncomputable def sortedW (b : Bool) (w : W) : Option W := (lisW w).bind fun ws => if SortOk ws then some (.lst b (ws.mergeSort leD)) else none
theorem RFs.pairs {D : Dn} {G : Hp} : ∀ {ws : List W} {vs : List V}, RFs D G ws vs → ∃ ps : List (V × W), ps.map Prod.fst = vs ∧ ps.map Prod.snd = ws ∧ ∀ q ∈ ps, RF D G q.2 q.1
  | [], _, h => ⟨[], by rw [show _ = [] from h]; rfl, rfl, fun _ z => nomatch z⟩
  | w :: ws, _, h => by
    obtain ⟨v, r, rfl, h1, h2⟩ := h
    obtain ⟨ps, e1, e2, h3⟩ := RFs.pairs h2
    refine ⟨(v, w) :: ps, by rw [List.map_cons, e1], by rw [List.map_cons, e2], fun q hq => ?_⟩
    rcases List.mem_cons.mp hq with rfl | hq
    · exact h1
    · exact h3 q hq
theorem RFs.ofPairs {D : Dn} {G : Hp} : ∀ {ps : List (V × W)}, (∀ q ∈ ps, RF D G q.2 q.1) → RFs D G (ps.map Prod.snd) (ps.map Prod.fst)
  | [], _ => rfl
  | q :: ps, h => ⟨q.1, _, rfl, h q List.mem_cons_self, RFs.ofPairs fun r hr => h r (List.mem_cons_of_mem _ hr)⟩
theorem each_vals : ∀ {ps : List (V × W)} {us : List Value}, Vals (ps.map Prod.fst) us → PySem.W.EachIs (fun u (q : V × W) => RelV q.1 u) us ps
  | [], _, .nil => .nil
  | _ :: ps, _, .cons r t => .cons r (each_vals t)
theorem vals_each : ∀ {ps : List (V × W)} {us : List Value}, PySem.W.EachIs (fun u (q : V × W) => RelV q.1 u) us ps → Vals (ps.map Prod.fst) us
  | _, _, .nil => .nil
  | _, _, .cons r t => .cons r (vals_each t)
theorem each_reads {X : Cx} {pins : List (Addr × Obj)} {σ : St} {H : Hp} {s : Shared} (I : Inv X pins σ H s) : ∀ {ps : List (V × W)} {us : List Value}, (∀ q ∈ ps, Dp X.K H q.1 q.2.dat) → PySem.W.EachIs (fun u (q : V × W) => RelV q.1 u) us ps →
    PySem.W.EachIs (fun u (q : V × W) => ∃ as, PySem.Reads s.heap u q.2.dat as) us ps
  | _, _, _, .nil => .nil
  | q :: ps, _, h, .cons r t => .cons (Dp.reads I _ _ _ (h q List.mem_cons_self) r) (each_reads I (fun q' hq => h q' (List.mem_cons_of_mem _ hq)) t)
theorem sort_snd (ps : List (V × W)) : (ps.mergeSort (PySem.W.dataLe false fun q => q.2.dat)).map Prod.snd = (ps.map Prod.snd).mergeSort leD :=
  PySem.W.sort_maps Prod.snd fun _ _ _ _ => rfl
theorem cr_sortedD {X : Cx} {k : Nat} (hr : Room k X.A) : CallR X (.builtin "sorted") (fun vs H Q => ∃ (a : Addr) (ps : List (V × W)), vs = [.ref a] ∧ SqL X.K H a (ps.map Prod.fst) ∧ (∀ q ∈ ps, Dp X.K H q.1 q.2.dat) ∧ SortOk (ps.map Prod.snd) ∧
    ∀ p, H p = none → Q (.ref p) (upd H p (.lst ((ps.mergeSort (PySem.W.dataLe false fun q => q.2.dat)).map Prod.fst)))) := by
  intro pins s σ H vs us Q I r h
  obtain ⟨a, ps, rfl, hs, hd, ⟨o1, o2, o3, o4⟩, q⟩ := h
  obtain ⟨its, rv, hl, hz⟩ := I.list hs
  rw [Vals.ref1 r]
  have e1 := each_vals rv
  have mm : ps.map (fun q => q.2.dat) = (ps.map Prod.snd).map W.dat := by rw [List.map_map]; rfl
  refine PySem.W.sorted_data (enc := fun q : V × W => q.2.dat) hl.isList e1 (each_reads I hd e1) (by rw [mm]; exact o1) (by rw [mm]; exact o2) (by rw [List.length_map] at o3; exact o3) (fun b hb => ?_) fun out hlen eo => ?_
  · have h60 := o4 b.2 (List.mem_map.mpr ⟨b, hb, rfl⟩)
    have hu := hr.un
    show X.A.units + 2 + b.2.dat.depth < cLine
    omega
  · obtain ⟨ep, he'⟩ := PyProof.Rows.sortedAll_at s.heap its (List.toArray out)
    have hv := vals_each eo
    refine ⟨.ref _, upd H (s.heap.objs.size + 1) (.lst ((ps.mergeSort (PySem.W.dataLe false fun q => q.2.dat)).map Prod.fst)), I.laid (t' := s.toks) (fun _ _ => PyProof.Rows.sortedAll_old) (Nat.le_succ _) ⟨?_, out, ep, hv, he'⟩, rfl, q _ (I.hok.fresh (Nat.le_succ _))⟩
    rw [List.length_map, List.length_mergeSort]
    rw [List.length_map] at o3
    exact o3
theorem me_sorted (b : Bool) (hr : Room k Z.X.A) (hm : Z.X.mg "sorted" = none) (ha : ME Z e m p k1) (hg : Gl Z.X "sorted" := by rfl) (hs : starEach [e] Z.X.env = (false, eval e Z.X.env) :: starEach [] Z.X.env := by rfl) : ME Z (.Call (.Name "sorted" p1) [e] [] p2) (mUn (sortedW b) m) p true :=
  me_b1 (fun G H w1 v1 O1 w Q s r e q => by
    unfold sortedW at e
    cases h : lisW w1 with
    | none => rw [h] at e; cases e
    | some ws =>
      rw [h, Option.bind_some] at e
      by_cases ho : SortOk ws
      · rw [if_pos ho] at e
        cases e
        obtain ⟨a, vs, rfl, h3, h4⟩ := lisW_at s r h
        obtain ⟨ps, rfl, rfl, h5⟩ := h4.pairs
        refine ⟨_, cr_sortedD hr, a, ps, rfl, h3, fun q hq => RF.dp _ _ (RF.mono s _ _ (h5 q hq)), ho, fun l n => ?_⟩
        rw [← sort_snd] at q
        exact q.lst s (RFs.ofPairs fun x hx => h5 x ((List.mergeSort_perm ps _).mem_iff.mp hx)) n
      · rw [if_neg ho] at e; cases e) hg hm PyProof.Rows.boot_sorted ha (by decide) (by decide) hs

/-! ### of two arguments -/
theorem me_b {x : Str} {id : String} {f : List W → Option W} {es : List Expr} {ms : Sm (List W)} (o : RelA Z.D (clAny Z.X (.builtin id)) f) (hg : Gl Z.X x) (hm : Z.X.mg x = none) (hv : bootBuiltins x = some (.builtin id)) (ha : MA Z (e :: es) ms p) (hn : x ≠ "__name__" := by decide) (hdb : (x == ("__debug__" : Str)) = false := by decide)
    (hs : starEach (e :: es) Z.X.env = (false, eval e Z.X.env) :: starEach es Z.X.env := by rfl) (hpl : (backTo p2 (starEach es Z.X.env)).any (·.1) = false := by rfl) : ME Z (.Call (.Name x p1) (e :: es) [] p2) (mArgs f ms) p true :=
  pe_imp (pe_callB cl_any hg hm hv ha hn hdb hs hpl) fun _ _ _ q => ta_args o q
def max2W : List W → Option W
  | [.int i, .int j] => some (.int (if j > i then j else i))
  | _ => none
def min2W : List W → Option W
  | [.int i, .int j] => some (.int (if j < i then j else i))
  | _ => none
theorem RFs.two {D : Dn} {G : Hp} {i j : Int} {vs : List V} (h : RFs D G [.int i, .int j] vs) : vs = [.int i, .int j] := RFs.ints (ns := [i, j]) h
theorem me_max2 {es : List Expr} {ms : Sm (List W)} (hc : Z.X.calm = true) (hm : Z.X.mg "max" = none) (ha : MA Z (e :: es) ms p) (hg : Gl Z.X "max" := by rfl) (hs : starEach (e :: es) Z.X.env = (false, eval e Z.X.env) :: starEach es Z.X.env := by rfl) (hpl : (backTo p2 (starEach es Z.X.env)).any (·.1) = false := by rfl) :
    ME Z (.Call (.Name "max" p1) (e :: es) [] p2) (mArgs max2W ms) p true := me_b (fun G H ws vs w Q s r e q => by
  unfold max2W at e
  split at e
  · cases e
    rw [RFs.two r]
    exact ⟨_, call_max2 hc, _, _, rfl, q.int s⟩
  · cases e) hg hm PyProof.Rows.boot_max ha (by decide) (by decide) hs hpl
theorem me_min2 {es : List Expr} {ms : Sm (List W)} (hc : Z.X.calm = true) (hm : Z.X.mg "min" = none) (ha : MA Z (e :: es) ms p) (hg : Gl Z.X "min" := by rfl) (hs : starEach (e :: es) Z.X.env = (false, eval e Z.X.env) :: starEach es Z.X.env := by rfl) (hpl : (backTo p2 (starEach es Z.X.env)).any (·.1) = false := by rfl) :
    ME Z (.Call (.Name "min" p1) (e :: es) [] p2) (mArgs min2W ms) p true := me_b (fun G H ws vs w Q s r e q => by
  unfold min2W at e
  split at e
  · cases e
    rw [RFs.two r]
    exact ⟨_, call_min2 hc, _, _, rfl, q.int s⟩
  · cases e) hg hm PyProof.Rows.boot_min ha (by decide) (by decide) hs hpl
end
end Ev

namespace Ev
open PySem PySem.Spec L2

/-! ### what a def does, as a function -/
abbrev Fn := List W → Out W
def spOf (D : Dn) (n : Nat) (g : Fn) : Sp := fun vs H Q E => vs.length = n ∧ ∃ (ws : List W) (G : Hp) (O : List Addr), Sub G H ∧ ROs D G H ws vs O ∧ O.Nodup ∧ (∀ a ∈ O, G a = none) ∧ match g ws with
  | .ok w ws' => ∀ v G' H' O' Ow, Sub G' H' → ROs D G' H' ws' vs O' → RO D G' H' w v Ow → (O' ++ Ow).Nodup → (∀ a ∈ O' ++ Ow, G' a = none) → Step G H O G' H' (O' ++ Ow) → Q v H'
  | .ex c ws' => ∀ G' H' O', Sub G' H' → ROs D G' H' ws' vs O' → O'.Nodup → (∀ a ∈ O', G' a = none) → Step G H O G' H' O' → E (.ref (D.CA c)) none H'
  | .bad => False
/-- a def of the module: its name, level, parameters, function -/
def FnT (P : Program) (w : World) (K : PySem.W.Frag) (mg : Str → Option Value) (base : Heap) (CA : Nat → Addr) (x : Str) (n k : Nat) (g : Fn) : Prop :=
  ∃ (f : Addr) (fd : FuncData) (ps : List Str), FnOk P w K mg base (L2.CX P w) k f fd ps (spOf ⟨K, CA⟩ n g) ∧ mg x = some (.ref f) ∧ PySem.W.keepIn K (.ref f) = true ∧ Binds K fd ps []
abbrev FnZ (Z : Zt) (x : Str) (n k : Nat) (g : Fn) : Prop := FnT Z.X.prog Z.X.w Z.X.K Z.X.mg Z.X.base Z.CA x n k g

/-! ### a call, all by value -/
def mCallP (g : Fn) (m : Sm (List W)) : Sm W := Sm.bind m fun ws env => match g ws with
  | .ok w _ => .ok w env
  | .ex c _ => .ex c env
  | .bad => .bad
theorem RFs.toO {D : Dn} {G H : Hp} : ∀ {ws : List W} {vs : List V}, RFs D G ws vs → ROs D G H ws vs []
  | [], _, h => ⟨h, rfl⟩
  | w :: ws, _, h => by
    obtain ⟨v, r, rfl, h1, h2⟩ := h
    exact ⟨v, r, [], [], rfl, rfl, RO.ofF h1, RFs.toO h2⟩
theorem Stp.ofP {p : Bool} {env env1 : List W} {σ : St} {G H G1 H1 G2 H2 : Hp} {Os Os1 : List (List Addr)} {Ow : List Addr} (a : Stp p env G H Os env1 G1 H1 Os1 []) (t : Step G1 H1 [] G2 H2 Ow) : Stp p env G H Os env1 G2 H2 Os1 Ow := by
  have z := a.trans (Stp.grow true (env := env1) (Os := Os1) t)
  rwa [Bool.and_true] at z
section
variable {Z : Zt} {x : Str} {n k : Nat} {g : Fn} {e : Expr} {es : List Expr} {p : Bool} {p1 p2 : Pos}
theorem me_callP {m : Sm (List W)} (F : FnZ Z x n k g) (hr : Room k Z.X.A) (tk : Takes Z.X Z.W) (ha : MA Z (e :: es) m p) (hg : Gl Z.X x) (hdb : (x == ("__debug__" : Str)) = false := by decide)
    (he : starEach (e :: es) Z.X.env = (false, eval e Z.X.env) :: starEach es Z.X.env := by rfl) (hpl : (backTo p2 (starEach es Z.X.env)).any (·.1) = false := by rfl) (hn : (e :: es).length = n := by rfl)
    : ME Z (.Call (.Name x p1) (e :: es) [] p2) (mCallP g (Sm.bind m fun ws => if ws.length = n then Sm.ret ws else fun _ => .bad)) p true := by
  obtain ⟨f, fd, ps, F, hm, hk, hb⟩ := F
  refine pe_imp (pe_callS F hr hg hm hk hb (fun σ => passAt tk σ) ha hdb he hpl) fun σ H Q q => ?_
  obtain ⟨env, G, Os, s, q⟩ := q
  refine ⟨env, G, Os, s, ?_⟩
  unfold mCallP Sm.bind at q
  cases e1 : m env with
  | bad => rw [e1] at q; exact q
  | ex c env1 => rw [e1] at q; exact q
  | ok ws env1 =>
    rw [e1] at q
    intro vs G1 H1 Os1 s1 r1 t1
    by_cases hl : ws.length = n
    · simp only [if_pos hl, Sm.ret] at q
      refine ⟨by rw [← r1.len]; exact hl, ws, G1, [], s1.sub, r1.toO, List.nodup_nil, fun _ z => (nomatch z), ?_⟩
      cases e2 : g ws with
      | bad => simp only [e2] at q
      | ex c ws' =>
        simp only [e2] at q
        intro G' H' O' sub _ _ _ st
        have st' := st.less (O2 := []) fun _ z => nomatch z
        exact q G' H' Os1 (s1.step st' sub) (t1.ofP (σ := σ) st')
      | ok w ws' =>
        simp only [e2] at q
        intro v G' H' O' Ow sub _ r nd gn st
        have st' := st.less (O2 := Ow) fun a ha => List.mem_append_right _ ha
        have nd' : Ow.Nodup := (List.nodup_append.mp nd).2.1
        refine q v G' H' Os1 Ow (s1.step st' sub) r ⟨s1.apart st' nd', fun a ha => gn a (List.mem_append_right _ ha)⟩ (t1.ofP (σ := σ) st')
    · simp only [if_neg hl] at q
end

/-! ### a call with things of the caller's own -/
inductive AV where
  | v (w : W)
  | io (i : Nat)
/-- what may be handed on: what is frozen, and the empty table that is nobody's -/
def RP (D : Dn) (G : Hp) (w : W) (v : V) : Prop := RF D G w v ∨ (w = .edc ∧ ∃ a, v = .ref a ∧ G a = some (.dK []))
theorem RP.mono {D : Dn} {G G' : Hp} (e : Sub G G') {w : W} {v : V} (h : RP D G w v) : RP D G' w v := h.imp (RF.mono e _ _) fun ⟨h1, a, h2, h3⟩ => ⟨h1, a, h2, e _ _ h3⟩
theorem RP.toO {D : Dn} {G H : Hp} {w : W} {v : V} (h : RP D G w v) : RO D G H w v [] := by
  rcases h with h | ⟨rfl, a, rfl, h3⟩
  · exact RO.ofF h
  · exact ⟨rfl, a, rfl, h3⟩
def AVs (D : Dn) (G : Hp) (σ : St) : List AV → List V → Prop
  | [], vs => vs = []
  | .v w :: as, vs => ∃ x r, vs = x :: r ∧ RP D G w x ∧ AVs D G σ as r
  | .io i :: as, vs => ∃ x r, vs = x :: r ∧ σ[i]? = some (some x) ∧ AVs D G σ as r
theorem AVs.mono {D : Dn} {G G' : Hp} {σ : St} (e : Sub G G') : ∀ {as : List AV} {vs : List V}, AVs D G σ as vs → AVs D G' σ as vs
  | [], _, h => h
  | .v w :: as, _, h => by
    obtain ⟨x, r, rfl, h1, h2⟩ := h
    exact ⟨x, r, rfl, h1.mono e, h2.mono e⟩
  | .io i :: as, _, h => by
    obtain ⟨x, r, rfl, h1, h2⟩ := h
    exact ⟨x, r, rfl, h1, h2.mono e⟩
theorem AVs.len {D : Dn} {G : Hp} {σ : St} : ∀ {as : List AV} {vs : List V}, AVs D G σ as vs → as.length = vs.length
  | [], _, h => by rw [show _ = [] from h]; rfl
  | .v w :: as, _, h => by
    obtain ⟨x, r, rfl, h1, h2⟩ := h
    simp [AVs.len h2]
  | .io i :: as, _, h => by
    obtain ⟨x, r, rfl, h1, h2⟩ := h
    simp [AVs.len h2]
def TAr (D : Dn) (Wx : WX) (p : Bool) (m : Sm (List AV)) : TA := fun σ H Q => ∃ (env : List W) (G : Hp) (Os : List (List Addr)), StOk D G H env σ Os ∧ match m env with
  | .ok as env' => ∀ vs G' H' Os', StOk D G' H' env' σ Os' → AVs D G' σ as vs → Stp p env G H Os env' G' H' Os' [] → Q vs H'
  | .ex c env' => ∀ G' H' Os', StOk D G' H' env' σ Os' → Stp p env G H Os env' G' H' Os' [] → Wx (.ref (D.CA c)) none σ H'
  | .bad => False
abbrev MAr (Z : Zt) (es : List Expr) (m : Sm (List AV)) (p : Bool) : Prop := PA Z.X es (TAr Z.D Z.W p m)
def rNil : Sm (List AV) := Sm.ret []
def rVal (m : Sm W) (ms : Sm (List AV)) : Sm (List AV) := Sm.bind m fun w => if w.frz = true then Sm.bind ms fun as => Sm.ret (.v w :: as) else fun _ => .bad
def W.pas : W → Bool
  | .edc => true
  | w => w.frz
theorem RO.toP {D : Dn} {G H : Hp} {w : W} {v : V} {O : List Addr} (r : RO D G H w v O) (h : w.pas = true) : O = [] ∧ RP D G w v := by
  by_cases e : w = .edc
  · subst e
    obtain ⟨h0, a, h1, h2⟩ := r
    exact ⟨h0, .inr ⟨rfl, a, h1, h2⟩⟩
  · have f : w.frz = true := by cases w <;> first | exact h | exact absurd rfl e
    obtain ⟨h0, k⟩ := r.toF f
    exact ⟨h0, .inl k⟩
def rValX (m : Sm W) (ms : Sm (List AV)) : Sm (List AV) := Sm.bind m fun w => if w.pas = true then Sm.bind ms fun as => Sm.ret (.v w :: as) else fun _ => .bad
def rIo (i : Nat) (ms : Sm (List AV)) : Sm (List AV) := Sm.bind ms fun as => Sm.ret (.io i :: as)
section
variable {Z : Zt} {e : Expr} {es : List Expr} {ms : Sm (List AV)} {p1 p2 k : Bool}
theorem mr_nil : MAr Z [] rNil true := pa_imp pa_nil fun σ H Q q => by
  obtain ⟨env, G, Os, s, q⟩ := q
  exact q [] G H Os s rfl (Stp.id true)
theorem mr_val {m : Sm W} (h : ME Z e m p1 k) (hr : MAr Z es ms p2) (hs : starEach (e :: es) Z.X.env = (false, eval e Z.X.env) :: starEach es Z.X.env := by rfl) : MAr Z (e :: es) (rVal m ms) (p1 && p2) :=
  pa_imp (pa_cons h hr hs) fun σ H Q q => by
    obtain ⟨env, G, Os, s, q⟩ := q
    refine ⟨env, G, Os, s, ?_⟩
    unfold rVal Sm.bind at q
    cases e1 : m env with
    | bad => rw [e1] at q; exact q
    | ex c env1 =>
      rw [e1] at q
      exact fun G' H' Os' s' t => q G' H' Os' s' (t.and p2)
    | ok w env1 =>
      rw [e1] at q
      intro v1 G1 H1 Os1 O1 s1 r1 o1 t1
      by_cases hf : w.frz = true
      · simp only [if_pos hf] at q
        obtain ⟨rfl, f⟩ := r1.toF hf
        have t1' : Stp p1 env G H Os env1 G1 H1 Os1 [] := t1.less kO_less
        refine ⟨env1, G1, Os1, s1, ?_⟩
        cases e2 : ms env1 with
        | bad => simp only [e2] at q
        | ex c env2 =>
          simp only [e2] at q
          exact fun G' H' Os' s' t => q G' H' Os' s' (t1'.trans t)
        | ok ws env2 =>
          simp only [e2] at q
          exact fun vs G' H' Os' s' r t => q (v1 :: vs) G' H' Os' s' ⟨v1, vs, rfl, RP.mono t.gen.mono (.inl f), r⟩ (t1'.trans t)
      · simp only [if_neg hf] at q
theorem mr_valX {m : Sm W} (h : ME Z e m p1 k) (hr : MAr Z es ms p2) (hs : starEach (e :: es) Z.X.env = (false, eval e Z.X.env) :: starEach es Z.X.env := by rfl) : MAr Z (e :: es) (rValX m ms) (p1 && p2) :=
  pa_imp (pa_cons h hr hs) fun σ H Q q => by
    obtain ⟨env, G, Os, s, q⟩ := q
    refine ⟨env, G, Os, s, ?_⟩
    unfold rValX Sm.bind at q
    cases e1 : m env with
    | bad => rw [e1] at q; exact q
    | ex c env1 =>
      rw [e1] at q
      exact fun G' H' Os' s' t => q G' H' Os' s' (t.and p2)
    | ok w env1 =>
      rw [e1] at q
      intro v1 G1 H1 Os1 O1 s1 r1 o1 t1
      by_cases hf : w.pas = true
      · simp only [if_pos hf] at q
        obtain ⟨rfl, f⟩ := r1.toP hf
        have t1' : Stp p1 env G H Os env1 G1 H1 Os1 [] := t1.less kO_less
        refine ⟨env1, G1, Os1, s1, ?_⟩
        cases e2 : ms env1 with
        | bad => simp only [e2] at q
        | ex c env2 =>
          simp only [e2] at q
          exact fun G' H' Os' s' t => q G' H' Os' s' (t1'.trans t)
        | ok ws env2 =>
          simp only [e2] at q
          exact fun vs G' H' Os' s' r t => q (v1 :: vs) G' H' Os' s' ⟨v1, vs, rfl, RP.mono t.gen.mono f, r⟩ (t1'.trans t)
      · simp only [if_neg hf] at q
theorem mr_io (i : Nat) (h : PE Z.X e (tVar i)) (hr : MAr Z es ms p2) (hs : starEach (e :: es) Z.X.env = (false, eval e Z.X.env) :: starEach es Z.X.env := by rfl) : MAr Z (e :: es) (Sm.bind (mVar i) fun _ => rIo i ms) p2 :=
  pa_imp (pa_cons h hr hs) fun σ H Q q => by
    obtain ⟨env, G, Os, s, q⟩ := q
    unfold Sm.bind mVar at q
    cases e1 : env[i]? with
    | none => rw [e1] at q; exact q.elim
    | some w =>
      obtain ⟨sv, O, h1, h2, h3⟩ := s.sl.at e1
      rcases h3 with ⟨v, rfl, r⟩ | ⟨rfl, _⟩
      · refine ⟨v, h1, env, G, Os, s, ?_⟩
        have go : (match rIo i ms env with
          | .ok as env' => ∀ vs G' H' Os', StOk Z.D G' H' env' σ Os' → AVs Z.D G' σ as vs → Stp p2 env G H Os env' G' H' Os' [] → Q vs H'
          | .ex c env' => ∀ G' H' Os', StOk Z.D G' H' env' σ Os' → Stp p2 env G H Os env' G' H' Os' [] → Z.W (.ref (Z.D.CA c)) none σ H'
          | .bad => False) := by
          rw [e1] at q
          cases w <;> first
            | exact q.elim
            | exact q
        unfold rIo Sm.bind at go
        cases e2 : ms env with
        | bad => rw [e2] at go; exact go
        | ex c env2 => rw [e2] at go; exact go
        | ok as env2 =>
          rw [e2] at go
          exact fun vs G' H' Os' s' r t => go (v :: vs) G' H' Os' s' ⟨v, vs, rfl, h1, r⟩ t
      · rw [e1] at q; exact q.elim
end
def takeA : List W → List AV → Option (List W × List W)
  | env, [] => some ([], env)
  | env, .v w :: as => (takeA env as).map fun r => (w :: r.1, r.2)
  | env, .io i :: as => match env[i]? with
    | some .dead => none
    | some w => (takeA (env.set i .dead) as).map fun r => (w :: r.1, r.2)
    | none => none
def putA : List W → List AV → List W → List W
  | env, .io i :: as, w :: ws => putA (env.set i w) as ws
  | env, .v _ :: as, _ :: ws => putA env as ws
  | env, _, _ => env
theorem takeA_ok {D : Dn} {G H : Hp} {σ : St} : ∀ {as : List AV} {vs : List V} {env env0 : List W} {ws : List W} {Os : List (List Addr)}, Sl D G H env σ Os → AVs D G σ as vs → takeA env as = some (ws, env0) →
    ∃ Os0 O, Sl D G H env0 σ Os0 ∧ ROs D G H ws vs O ∧ (Os0.flatten ++ O).Perm Os.flatten
  | [], vs, env, env0, ws, Os, s, h, e => by
    cases e
    rw [show vs = [] from h]
    exact ⟨Os, [], s, ⟨rfl, rfl⟩, by rw [List.append_nil]⟩
  | .v w :: as, vs, env, env0, ws, Os, s, h, e => by
    obtain ⟨x, r, rfl, h1, h2⟩ := h
    have e' : (takeA env as).map (fun r => (w :: r.1, r.2)) = some (ws, env0) := e
    cases e2 : takeA env as with
    | none => rw [e2] at e'; cases e'
    | some q =>
      rw [e2] at e'
      cases e'
      obtain ⟨Os0, O, a1, a2, a3⟩ := takeA_ok s h2 e2
      exact ⟨Os0, O, a1, ⟨x, r, [], O, rfl, rfl, h1.toO, a2⟩, a3⟩
  | .io i :: as, vs, env, env0, ws, Os, s, h, e => by
    obtain ⟨x, r, rfl, h1, h2⟩ := h
    cases e1 : env[i]? with
    | none => simp only [takeA, e1] at e; cases e
    | some w =>
      obtain ⟨sv, Oi, g1, g2, g3⟩ := s.at e1
      rcases g3 with ⟨v, rfl, ro⟩ | ⟨rfl, _⟩
      · rw [h1] at g1
        cases g1
        have e' : (takeA (env.set i .dead) as).map (fun r => (w :: r.1, r.2)) = some (ws, env0) := by
          simp only [takeA, e1] at e
          cases w <;> first
            | exact e
            | (cases e)
        cases e2 : takeA (env.set i .dead) as with
        | none => rw [e2] at e'; cases e'
        | some q =>
          rw [e2] at e'
          cases e'
          have s' : Sl D G H (env.set i .dead) σ (Os.set i []) := by
            have z := Sl.set (D := D) (G := G) (H := H) (w := .dead) (s := some x) (O := []) (.inr ⟨rfl, rfl⟩) i s
            rwa [set_self h1] at z
          obtain ⟨Os0, O, a1, a2, a3⟩ := takeA_ok s' h2 e2
          refine ⟨Os0, Oi ++ O, a1, ⟨x, r, Oi, O, rfl, rfl, ro, a2⟩, ?_⟩
          have pm := flat_set (O' := []) g2
          rw [List.append_nil] at pm
          have h3 : (Os0.flatten ++ (Oi ++ O)).Perm ((Os0.flatten ++ O) ++ Oi) := by
            rw [List.append_assoc]
            exact List.Perm.append_left _ List.perm_append_comm
          exact h3.trans ((a3.append_right _).trans pm)
      · simp only [takeA, e1] at e; cases e
theorem putA_ok {D : Dn} {G H : Hp} {σ : St} {T : List Addr} : ∀ {as : List AV} {vs : List V} {env : List W} {ws : List W} {Os : List (List Addr)} {O : List Addr}, Sl D G H env σ Os → AVs D G σ as vs → ROs D G H ws vs O → (Os.flatten ++ (O ++ T)).Nodup →
    ∃ Os2, Sl D G H (putA env as ws) σ Os2 ∧ (Os2.flatten ++ T).Nodup ∧ ∀ a ∈ Os2.flatten, a ∈ Os.flatten ∨ a ∈ O
  | [], vs, env, ws, Os, O, s, h, r, nd => by
    have e : vs = [] := h
    subst e
    have e2 : ws = [] := List.eq_nil_of_length_eq_zero r.len
    subst e2
    obtain ⟨_, rfl⟩ := r
    exact ⟨Os, s, nd, fun a ha => .inl ha⟩
  | .v w :: as, vs, env, ws, Os, O, s, h, r, nd => by
    obtain ⟨x, r', rfl, h1, h2⟩ := h
    cases ws with
    | nil => exact nomatch r.1
    | cons w2 ws =>
      obtain ⟨v, r2, O1, O2, ev, rfl, h3, h4⟩ := r
      cases ev
      have nd' : (Os.flatten ++ (O2 ++ T)).Nodup := nd.sublist (List.Sublist.append (List.Sublist.refl _) (by rw [List.append_assoc]; exact List.sublist_append_right _ _))
      obtain ⟨Os2, a1, a2, a3⟩ := putA_ok s h2 h4 nd'
      exact ⟨Os2, a1, a2, fun a ha => (a3 a ha).imp id (List.mem_append_right _)⟩
  | .io i :: as, vs, env, ws, Os, O, s, h, r, nd => by
    obtain ⟨x, r', rfl, h1, h2⟩ := h
    cases ws with
    | nil => exact nomatch r.1
    | cons w2 ws =>
      obtain ⟨v, r2, O1, O2, ev, rfl, h3, h4⟩ := r
      cases ev
      have s' : Sl D G H (env.set i w2) σ (Os.set i O1) := by
        have z := Sl.set (D := D) (G := G) (H := H) (w := w2) (s := some x) (O := O1) (.inl ⟨x, rfl, h3⟩) i s
        rwa [set_self h1] at z
      have hi : i < Os.length := by
        rw [s.len.2]
        exact (List.getElem?_eq_some_iff.mp h1).1
      have g2 : Os[i]? = some Os[i] := List.getElem?_eq_getElem hi
      have pm := flat_set (O' := O1) g2
      have nd' : ((Os.set i O1).flatten ++ (O2 ++ T)).Nodup := by
        have q : ((Os.set i O1).flatten ++ Os[i] ++ (O2 ++ T)).Perm (Os.flatten ++ (O1 ++ O2 ++ T)) := by
          rw [List.append_assoc O1, ← List.append_assoc Os.flatten]
          exact pm.append_right _
        have q2 := q.nodup_iff.mpr nd
        rw [List.append_assoc] at q2
        exact q2.sublist (List.Sublist.append (List.Sublist.refl _) (List.sublist_append_right _ _))
      obtain ⟨Os2, a1, a2, a3⟩ := putA_ok s' h2 h4 nd'
      refine ⟨Os2, a1, a2, fun a ha => ?_⟩
      rcases a3 a ha with z | z
      · rcases List.mem_append.mp (pm.mem_iff.mp (List.mem_append_left _ z)) with y | y
        · exact .inl y
        · exact .inr (List.mem_append_left _ y)
      · exact .inr (List.mem_append_right _ z)
def mCall (g : Fn) (n : Nat) (m : Sm (List AV)) : Sm W := Sm.bind m fun as env => if as.length = n then match takeA env as with
  | none => .bad
  | some (ws, env0) => match g ws with
    | .ok w ws' => .ok w (putA env0 as ws')
    | .ex c ws' => .ex c (putA env0 as ws')
    | .bad => .bad
  else .bad
section
variable {Z : Zt} {x : Str} {n k : Nat} {g : Fn} {e : Expr} {es : List Expr} {p : Bool} {p1 p2 : Pos}
theorem me_call {m : Sm (List AV)} (F : FnZ Z x n k g) (hr : Room k Z.X.A) (tk : Takes Z.X Z.W) (ha : MAr Z (e :: es) m p) (hg : Gl Z.X x) (hdb : (x == ("__debug__" : Str)) = false := by decide)
    (he : starEach (e :: es) Z.X.env = (false, eval e Z.X.env) :: starEach es Z.X.env := by rfl) (hpl : (backTo p2 (starEach es Z.X.env)).any (·.1) = false := by rfl)
    : ME Z (.Call (.Name x p1) (e :: es) [] p2) (mCall g n m) false true := by
  obtain ⟨f, fd, ps, F, hm, hk, hb⟩ := F
  refine pe_imp (pe_callS F hr hg hm hk hb (fun σ => passAt tk σ) ha hdb he hpl) fun σ H Q q => ?_
  obtain ⟨env, G, Os, s, q⟩ := q
  refine ⟨env, G, Os, s, ?_⟩
  unfold mCall Sm.bind at q
  cases e1 : m env with
  | bad => rw [e1] at q; exact q
  | ex c env1 =>
    rw [e1] at q
    exact fun G' H' Os' s' t => q G' H' Os' s' t.gen
  | ok as env1 =>
    rw [e1] at q
    intro vs G1 H1 Os1 s1 r1 t1
    by_cases hl : as.length = n
    · simp only [if_pos hl] at q
      cases e2 : takeA env1 as with
      | none => simp only [e2] at q
      | some qq =>
        obtain ⟨ws, env0⟩ := qq
        simp only [e2] at q
        obtain ⟨Os0, O, a1, a2, a3⟩ := takeA_ok s1.sl r1 e2
        have ndO : (Os0.flatten ++ O).Nodup := a3.nodup_iff.mpr s1.nd
        have inO : ∀ a ∈ O, a ∈ Os1.flatten := fun a ha => a3.mem_iff.mp (List.mem_append_right _ ha)
        have in0 : ∀ a ∈ Os0.flatten, a ∈ Os1.flatten := fun a ha => a3.mem_iff.mp (List.mem_append_left _ ha)
        have no0 : ∀ a ∈ Os0.flatten, a ∉ O := fun a ha hb => (List.nodup_append.mp ndO).2.2 a ha a hb rfl
        refine ⟨by rw [← r1.len]; exact hl, ws, G1, O, s1.sub, a2, (List.nodup_append.mp ndO).2.1, fun a ha => s1.gn a (inO a ha), ?_⟩
        -- the state behind the call
        have after : ∀ {ws' : List W} {G' H' : Hp} {O' Ow : List Addr}, Sub G' H' → ROs Z.D G' H' ws' vs O' → (O' ++ Ow).Nodup → (∀ a ∈ O' ++ Ow, G' a = none) → Step G1 H1 O G' H' (O' ++ Ow) →
            ∃ Os', StOk Z.D G' H' (putA env0 as ws') σ Os' ∧ (Os'.flatten ++ Ow).Nodup ∧ Step G1 H1 Os1.flatten G' H' (Os'.flatten ++ Ow) := by
          intro ws' G' H' O' Ow sub ro nd gn st
          have s0 : Sl Z.D G' H' env0 σ Os0 := a1.mono st.mono fun a ha o ho => st.keep a o ho (no0 a ha)
          have nd0 : (Os0.flatten ++ (O' ++ Ow)).Nodup := by
            refine List.nodup_append.mpr ⟨(List.nodup_append.mp ndO).1, nd, fun a ha b hb eab => ?_⟩
            subst eab
            rcases st.new a hb with z | z
            · exact no0 a ha z
            · obtain ⟨o, ho⟩ := s1.there a (in0 a ha)
              rw [ho] at z; cases z
          obtain ⟨Os', b1, b2, b3⟩ := putA_ok s0 (r1.mono st.mono) ro nd0
          have gn0 : ∀ a ∈ Os0.flatten, G' a = none := fun a ha => by
            obtain ⟨o, ho, nt⟩ := s1.thn a (in0 a ha)
            exact st.gnew a o ho (no0 a ha) nt (s1.gn a (in0 a ha))
          refine ⟨Os', ⟨b1, sub, fun a ha => ?_, (List.nodup_append.mp b2).1⟩, b2, ⟨st.mono, fun a o h1 h2 => st.keep a o h1 fun z => h2 (inO a z), fun a o h1 h2 nt => st.gnew a o h1 (fun z => h2 (inO a z)) nt, fun a ha => ?_⟩⟩
          · rcases b3 a ha with z | z
            · exact gn0 a z
            · exact gn a (List.mem_append_left _ z)
          · rcases List.mem_append.mp ha with z | z
            · rcases b3 a z with y | y
              · exact .inl (in0 a y)
              · exact (st.new a (List.mem_append_left _ y)).imp (inO a) id
            · exact (st.new a (List.mem_append_right _ z)).imp (inO a) id
        have t1' : Step G H Os.flatten G1 H1 Os1.flatten := t1.gen.less fun a ha => List.mem_append_left _ ha
        cases e3 : g ws with
        | bad => simp only [e3] at q
        | ex c ws' =>
          simp only [e3] at q
          intro G' H' O' sub ro nd gn st
          obtain ⟨Os', c1, c2, c3⟩ := after (Ow := []) sub ro (by rw [List.append_nil]; exact nd) (by rw [List.append_nil]; exact gn) (by rw [List.append_nil]; exact st)
          exact q G' H' Os' c1 (t1'.trans c3)
        | ok w ws' =>
          simp only [e3] at q
          intro v G' H' O' Ow sub ro r nd gn st
          obtain ⟨Os', c1, c2, c3⟩ := after sub ro nd gn st
          exact q v G' H' Os' Ow c1 r ⟨c2, fun a ha => gn a (List.mem_append_right _ ha)⟩ (t1'.trans c3)
    · simp only [if_neg hl] at q
end

/-! ### frozen -/
/-- what is new and owned is told as frozen -/
def W.fz : W → W
  | .lst _ ws => .lst false ws
  | w => w
def mFz (m : Sm W) : Sm W := Sm.bind m fun w => match w.fz.frz with
  | true => Sm.ret w.fz
  | false => fun _ => .bad
theorem tx_fz {D : Dn} {Wx : WX} {m : Sm W} {p : Bool} {σ : St} {H : Hp} {Q : VK} (q : TX D Wx p true (mFz m) σ H Q) : TX D Wx p true m σ H Q := by
  obtain ⟨env, G, Os, s, q⟩ := q
  refine ⟨env, G, Os, s, ?_⟩
  unfold mFz Sm.bind at q
  cases e1 : m env with
  | bad => rw [e1] at q; exact q
  | ex c env1 => rw [e1] at q; exact q
  | ok w env1 =>
    rw [e1] at q
    intro v G' H' Os' Ow s' r o t
    by_cases hf : w.frz = true
    · have e2 : w.fz = w := by
        cases w <;> first
          | rfl
          | (rename_i b _; cases b <;> first | rfl | exact nomatch hf)
      simp only [e2, hf] at q
      exact q v G' H' Os' Ow s' r o t
    · have key : ∃ ws, w = .lst true ws ∨ w.fz.frz = false := by
        cases w <;> first
          | exact ⟨[], .inr rfl⟩
          | exact absurd rfl hf
          | (rename_i b ws; cases b <;> first | exact ⟨ws, .inl rfl⟩ | exact ⟨[], .inr rfl⟩ | exact absurd rfl hf)
          | (rename_i b ks ws; cases b <;> first | exact ⟨[], .inr rfl⟩ | exact absurd rfl hf)
      obtain ⟨ws, rfl | hff⟩ := key
      · obtain ⟨a, vs, rfl, rfl, h1, h2⟩ := r
        have ha : G' a = none := o.2 a List.mem_cons_self
        have na : ∀ b ∈ Os'.flatten, b ≠ a := fun b hb eab => (List.nodup_append.mp o.1).2.2 b hb a List.mem_cons_self eab
        have mono : Sub G' (upd G' a (.lst vs)) := sub_new ha
        have sub : Sub (upd G' a (.lst vs)) H' := fun b x hb => by
          by_cases e : b = a
          · subst e; rw [upd_same] at hb; cases hb; exact h1
          · rw [upd_ne e] at hb; exact s'.sub b x hb
        have s2 : StOk D (upd G' a (.lst vs)) H' env1 σ Os' := ⟨s'.sl.mono mono fun _ _ _ h => h, sub, fun b hb => by rw [upd_ne (na b hb)]; exact s'.gn b hb, s'.nd⟩
        refine q (.ref a) (upd G' a (.lst vs)) H' Os' [] s2 ⟨rfl, a, vs, rfl, upd_same, RFs.mono mono _ _ h2⟩ (OwnK.nil s2) ?_
        have st : ∀ {O O' : List Addr}, a ∈ O' → Step G H O G' H' O' → (∀ b ∈ O', b ∈ O ∨ H b = none) → (∀ b, H b = none → b = a → True) → True := fun _ _ _ _ => trivial
        cases p with
        | true =>
          obtain ⟨e1, e2, t⟩ := t
          refine ⟨e1, e2, t.mono.trans mono, t.keep, fun b x hb hn nt hg => ?_, fun _ z => nomatch z⟩
          have z := t.gnew b x hb hn nt hg
          have nb : b ≠ a := fun e => by
            subst e
            rcases t.new b List.mem_cons_self with y | y
            · cases y
            · rw [hb] at y; cases y
          rw [upd_ne nb]; exact z
        | false =>
          have t' : Step G H Os.flatten G' H' (Os'.flatten ++ [a]) := t
          show Step G H Os.flatten _ H' (Os'.flatten ++ [])
          refine ⟨t'.mono.trans mono, t'.keep, fun b x hb hn nt hg => ?_, fun b hb => t'.new b (by rw [List.append_nil] at hb; exact List.mem_append_left _ hb)⟩
          have z := t'.gnew b x hb hn nt hg
          have nb : b ≠ a := fun e => by
            subst e
            rcases t'.new b (List.mem_append_right _ List.mem_cons_self) with y | y
            · exact hn y
            · rw [hb] at y; cases y
          rw [upd_ne nb]; exact z
      · simp only [hff] at q
theorem me_fz {Z : Zt} {e : Expr} {m : Sm W} {p : Bool} (h : ME Z e m p true) : ME Z e (mFz m) p true := pe_imp h fun _ _ _ q => tx_fz q
end Ev

namespace Ev
open PySem PySem.Spec L2

/-! ### statements -/
inductive Fl where
  | nx | bk | ct
  | rt (w : W)
def IoS (io : Nat → Bool) (σ σ' : St) : Prop := ∀ i, io i = true → σ'[i]? = σ[i]?
theorem IoS.refl {io : Nat → Bool} (σ : St) : IoS io σ σ := fun _ _ => rfl
theorem IoS.trans {io : Nat → Bool} {σ σ1 σ2 : St} (a : IoS io σ σ1) (b : IoS io σ1 σ2) : IoS io σ σ2 := fun i h => (b i h).trans (a i h)
theorem IoS.set {io : Nat → Bool} {σ : St} {i : Nat} {v : Option V} (h : io i = false) : IoS io σ (σ.set i v) := fun j hj => by
  have : i ≠ j := fun e => by subst e; rw [h] at hj; cases hj
  rw [List.getElem?_set_ne this]
def PostS (D : Dn) (Wx : WX) (io : Nat → Bool) (E : Ends) (σ : St) (G H : Hp) (Os : List (List Addr)) : Out Fl → Prop
  | .ok .nx env' => ∀ σ' G' H' Os', StOk D G' H' env' σ' Os' → Step G H Os.flatten G' H' Os'.flatten → IoS io σ σ' → E.nx σ' H'
  | .ok .bk env' => ∀ σ' G' H' Os', StOk D G' H' env' σ' Os' → Step G H Os.flatten G' H' Os'.flatten → IoS io σ σ' → E.bk σ' H'
  | .ok .ct env' => ∀ σ' G' H' Os', StOk D G' H' env' σ' Os' → Step G H Os.flatten G' H' Os'.flatten → IoS io σ σ' → E.ct σ' H'
  | .ok (.rt w) env' => ∀ v σ' G' H' Os' Ow, StOk D G' H' env' σ' Os' → RO D G' H' w v Ow → OwnK true Os' Ow G' → Step G H Os.flatten G' H' (Os'.flatten ++ Ow) → IoS io σ σ' → E.rt v H'
  | .ex c env' => ∀ σ' G' H' Os', StOk D G' H' env' σ' Os' → Step G H Os.flatten G' H' Os'.flatten → IoS io σ σ' → Wx (.ref (D.CA c)) none σ' H'
  | .bad => False
def TSx (D : Dn) (Wx : WX) (io : Nat → Bool) (m : Sm Fl) : TS := fun E σ H => ∃ (env : List W) (G : Hp) (Os : List (List Addr)), StOk D G H env σ Os ∧ PostS D Wx io E σ G H Os (m env)
abbrev MS (Z : Zt) (st : Stmt) (m : Sm Fl) : Prop := PS Z.X st (TSx Z.D Z.W Z.io m)
abbrev MSs (Z : Zt) (st : List Stmt) (m : Sm Fl) : Prop := PSs Z.X st (TSx Z.D Z.W Z.io m)
theorem ps_imp {X : Cx} {e : Stmt} {t t' : TS} (h : PS X e t) (i : ∀ D σ H, t' D σ H → t D σ H) : PS X e t' := ⟨fun pins s σ H D I w => h.run pins s σ H D I (i D σ H w)⟩
theorem pss_imp {X : Cx} {e : List Stmt} {t t' : TS} (h : PSs X e t) (i : ∀ D σ H, t' D σ H → t D σ H) : PSs X e t' := ⟨fun pins s σ H D I w => h.run pins s σ H D I (i D σ H w)⟩
theorem Stp.st {p : Bool} {env env' : List W} {G H G' H' : Hp} {Os Os' : List (List Addr)} {Ow : List Addr} (h : Stp p env G H Os env' G' H' Os' Ow) : Step G H Os.flatten G' H' Os'.flatten := h.gen.less fun a ha => List.mem_append_left _ ha

/-- the state goes on: from a place reached to the end -/
theorem PostS.on {D : Dn} {Wx : WX} {io : Nat → Bool} {E : Ends} {σ σ1 : St} {G H G1 H1 : Hp} {Os Os1 : List (List Addr)} (t1 : Step G H Os.flatten G1 H1 Os1.flatten) (i1 : IoS io σ σ1) : ∀ {o : Out Fl}, PostS D Wx io E σ G H Os o → PostS D Wx io E σ1 G1 H1 Os1 o
  | .bad, h => h
  | .ex _ _, h => fun σ' G' H' Os' s t i => h σ' G' H' Os' s (t1.trans t) (i1.trans i)
  | .ok .nx _, h => fun σ' G' H' Os' s t i => h σ' G' H' Os' s (t1.trans t) (i1.trans i)
  | .ok .bk _, h => fun σ' G' H' Os' s t i => h σ' G' H' Os' s (t1.trans t) (i1.trans i)
  | .ok .ct _, h => fun σ' G' H' Os' s t i => h σ' G' H' Os' s (t1.trans t) (i1.trans i)
  | .ok (.rt w) _, h => fun v σ' G' H' Os' Ow s r o t i => h v σ' G' H' Os' Ow s r o (t1.trans t) (i1.trans i)
theorem TSx.on {D : Dn} {Wx : WX} {io : Nat → Bool} {m : Sm Fl} {E : Ends} {σ σ1 : St} {env1 : List W} {G H G1 H1 : Hp} {Os Os1 : List (List Addr)} (s1 : StOk D G1 H1 env1 σ1 Os1) (t1 : Step G H Os.flatten G1 H1 Os1.flatten) (i1 : IoS io σ σ1)
    (h : PostS D Wx io E σ G H Os (m env1)) : TSx D Wx io m E σ1 H1 := ⟨env1, G1, Os1, s1, h.on t1 i1⟩

def sNil : Sm Fl := Sm.ret .nx
def sSeq (m1 m2 : Sm Fl) : Sm Fl := Sm.bind m1 fun fl => match fl with
  | .nx => m2
  | fl => Sm.ret fl
section
variable {Z : Zt} {st : Stmt} {rest : List Stmt} {m m1 m2 : Sm Fl} {pos : Pos}
theorem mss_nil : MSs Z [] sNil := pss_imp pss_nil fun E σ H q => by
  obtain ⟨env, G, Os, s, q⟩ := q
  exact q σ G H Os s (Step.refl _ _ _) (IoS.refl _)
theorem mss_one (h : MS Z st m) : MSs Z [st] m := pss_one h
theorem mss_cons (h1 : MS Z st m1) (h2 : MSs Z rest m2) : MSs Z (st :: rest) (sSeq m1 m2) := pss_imp (pss_cons h1 h2) fun E σ H q => by
  obtain ⟨env, G, Os, s, q⟩ := q
  refine ⟨env, G, Os, s, ?_⟩
  unfold sSeq Sm.bind at q
  cases e : m1 env with
  | bad => rw [e] at q; exact q
  | ex c env1 => rw [e] at q; exact q
  | ok fl env1 =>
    rw [e] at q
    cases fl with
    | nx => exact fun σ1 G1 H1 Os1 s1 t1 i1 => TSx.on s1 t1 i1 q
    | bk => exact q
    | ct => exact q
    | rt w => exact q
def sIf (c : Sm Bool) (a b : Sm Fl) : Sm Fl := Sm.bind c fun t => if t = true then a else b
theorem ms_if {c : Expr} {a b : List Stmt} {mc : Sm Bool} {p : Bool} (hc : MT Z c mc p) (ha : MSs Z a m1) (hb : MSs Z b m2) : MS Z (.If c a b pos) (sIf mc m1 m2) := ps_imp (ps_if hc ha hb) fun E σ H q => by
  obtain ⟨env, G, Os, s, q⟩ := q
  refine ⟨env, G, Os, s, ?_⟩
  unfold sIf Sm.bind at q
  cases e : mc env with
  | bad => rw [e] at q; exact q
  | ex c env1 =>
    rw [e] at q
    exact fun G' H' Os' s' t => q σ G' H' Os' s' t.st (IoS.refl _)
  | ok b env1 =>
    rw [e] at q
    intro G1 H1 Os1 s1 t1
    cases b with
    | true =>
      rw [if_pos rfl]
      exact TSx.on s1 t1.st (IoS.refl _) q
    | false =>
      rw [if_neg Bool.false_ne_true]
      exact TSx.on s1 t1.st (IoS.refl _) q
def sDrop (m : Sm W) : Sm Fl := Sm.bind m fun _ => Sm.ret .nx
def sRet (k : Bool) (m : Sm W) : Sm Fl := Sm.bind m fun w => if (k || w.frz) = true then Sm.ret (.rt w) else fun _ => .bad
theorem frz_own {D : Dn} {k : Bool} {w : W} {v : V} {env : List W} {σ : St} {G H : Hp} {Os : List (List Addr)} {Ow : List Addr} (s : StOk D G H env σ Os) (r : RO D G H w v Ow) (o : OwnK k Os Ow G) (h : (k || w.frz) = true) : OwnK true Os Ow G := by
  cases k with
  | true => exact o
  | false =>
    rw [Bool.false_or] at h
    obtain ⟨rfl, _⟩ := r.toF h
    exact OwnK.nil s
theorem kO_of {D : Dn} {G H : Hp} {k : Bool} {w : W} {v : V} {Ow : List Addr} (r : RO D G H w v Ow) (h : (k || w.frz) = true) : ∀ a ∈ Ow, a ∈ kO k Ow := by
  cases k with
  | true => exact fun a ha => ha
  | false =>
    rw [Bool.false_or] at h
    obtain ⟨rfl, _⟩ := r.toF h
    exact fun a ha => ha
variable {e : Expr} {me : Sm W} {p k : Bool}
theorem ms_expr (he : ME Z e me p k) (hs : swapsWith e none pos.line Z.X.env = pure false := by rfl) : MS Z (.Expr e pos) (sDrop me) := ps_imp (ps_expr he hs) fun E σ H q => by
  obtain ⟨env, G, Os, s, q⟩ := q
  refine ⟨env, G, Os, s, ?_⟩
  unfold sDrop Sm.bind at q
  cases e : me env with
  | bad => rw [e] at q; exact q
  | ex c env1 =>
    rw [e] at q
    exact fun G' H' Os' s' t => q σ G' H' Os' s' t.st (IoS.refl _)
  | ok w env1 =>
    rw [e] at q
    exact fun v G' H' Os' Ow s' r o t => q σ G' H' Os' s' t.st (IoS.refl _)
theorem ms_ret (he : ME Z e me p k) : MS Z (.Return (some e) pos) (sRet k me) := ps_imp (ps_ret he) fun E σ H q => by
  obtain ⟨env, G, Os, s, q⟩ := q
  refine ⟨env, G, Os, s, ?_⟩
  unfold sRet Sm.bind at q
  cases e : me env with
  | bad => rw [e] at q; exact q
  | ex c env1 =>
    rw [e] at q
    exact fun G' H' Os' s' t => q σ G' H' Os' s' t.st (IoS.refl _)
  | ok w env1 =>
    rw [e] at q
    intro v G' H' Os' Ow s' r o t
    by_cases hf : (k || w.frz) = true
    · simp only [if_pos hf] at q
      refine q v σ G' H' Os' Ow s' r (frz_own s' r o hf) (t.gen.less fun a ha => ?_) (IoS.refl _)
      exact (List.mem_append.mp ha).elim (List.mem_append_left _) fun z => List.mem_append_right _ (kO_of r hf a z)
    · simp only [if_neg hf] at q
      exact q.elim
/-! ### stores to names -/
def sSet (i : Nat) (k : Bool) (m : Sm W) : Sm Fl := Sm.bind m fun w env => if (k || w.frz) = true then .ok .nx (env.set i w) else .bad
theorem flat_upd {Os : List (List Addr)} {i : Nat} {O : List Addr} (hi : i < Os.length) : ((Os.set i O).flatten ++ Os[i]).Perm (Os.flatten ++ O) := flat_set (List.getElem?_eq_getElem hi)
/-- a name's slot is given what is new -/
theorem StOk.put {D : Dn} {G H : Hp} {env : List W} {σ : St} {Os : List (List Addr)} {w : W} {v : V} {Ow : List Addr} (i : Nat) (hi : i < σ.length) (s : StOk D G H env σ Os) (r : RO D G H w v Ow) (o : OwnK true Os Ow G) :
    StOk D G H (env.set i w) (σ.set i (some v)) (Os.set i Ow) ∧ ∀ a ∈ (Os.set i Ow).flatten, a ∈ Os.flatten ++ Ow := by
  have pm := flat_upd (O := Ow) (by rw [s.sl.len.2]; exact hi : i < Os.length)
  have inn : ∀ a ∈ (Os.set i Ow).flatten, a ∈ Os.flatten ++ Ow := fun a ha => pm.mem_iff.mp (List.mem_append_left _ ha)
  refine ⟨⟨Sl.set (.inl ⟨v, rfl, r⟩) i s.sl, s.sub, fun a ha => ?_, (List.nodup_append.mp (pm.nodup_iff.mpr o.1)).1⟩, inn⟩
  rcases List.mem_append.mp (inn a ha) with z | z
  · exact s.gn a z
  · exact o.2 a z
theorem ms_set {i : Nat} {x : Str} {p2 : Pos} (hN : Z.X.N.Nodup) (he : ME Z e me p k) (hi : Z.X.N[i]? = some x := by rfl) (hx : Loc Z.X.env.scope x := by first | exact Or.inl rfl | exact Or.inr rfl) (hio : Z.io i = false := by rfl) (hs : swapsWith e (some (.Name x p2)) pos.line Z.X.env = pure false := by rfl)
    (hf : Z.X.fn x = true ∨ Z.X.env.scope.names.lookup x = some .local := by first | exact .inl rfl | exact .inr rfl | assumption) : MS Z (.Assign [.Name x p2] e pos) (sSet i k me) := by
  have core := ps_set (X := Z.X) (i := i) (pos' := p2) (pos := pos) hN hi hx he hs hf
  refine ⟨fun pins sh σ H D I q => ?_⟩
  have hlen := I.len
  refine core.run pins sh σ H D I ?_
  obtain ⟨env, G, Os, s, q⟩ := q
  refine ⟨env, G, Os, s, ?_⟩
  unfold sSet Sm.bind at q
  cases e : me env with
  | bad => rw [e] at q; exact q
  | ex c env1 =>
    rw [e] at q
    exact fun G' H' Os' s' t => q σ G' H' Os' s' t.st (IoS.refl _)
  | ok w env1 =>
    rw [e] at q
    intro v G' H' Os' Ow s' r o t
    by_cases hf : (k || w.frz) = true
    · simp only [if_pos hf] at q
      obtain ⟨s2, inn⟩ := s'.put i (by rw [hlen]; exact (List.getElem?_eq_some_iff.mp hi).1) r (frz_own s' r o hf)
      refine q (σ.set i (some v)) G' H' (Os'.set i Ow) s2 (t.gen.less fun a ha => ?_) (IoS.set hio)
      exact (List.mem_append.mp (inn a ha)).elim (List.mem_append_left _) fun z => List.mem_append_right _ (kO_of r hf a z)
    · simp only [if_neg hf] at q
      exact q.elim

end

/-! ### targets: a name; names in a tuple -/
/-- store frozen things by a target -/
abbrev Tg := W → List W → Option (List W)
def TGx (D : Dn) (io : Nat → Bool) (f : Tg) : TG := fun v σ H Q => ∃ (env : List W) (G : Hp) (Os : List (List Addr)) (w : W) (env' : List W), StOk D G H env σ Os ∧ RF D G w v ∧ f w env = some env' ∧ ∀ σ' Os', StOk D G H env' σ' Os' → (∀ a ∈ Os'.flatten, a ∈ Os.flatten) → IoS io σ σ' → σ'.length = σ.length → Q σ' H
abbrev MG (Z : Zt) (t : Expr) (f : Tg) : Prop := PG Z.X t (TGx Z.D Z.io f)
theorem pg_imp {X : Cx} {e : Expr} {t t' : TG} (h : PG X e t) (i : ∀ v σ H Q, t' v σ H Q → t v σ H Q) : PG X e t' := ⟨fun pins s σ H v u Q I r w => h.run pins s σ H v u Q I r (i v σ H Q w)⟩
theorem flat_sub : ∀ {Os : List (List Addr)} {i : Nat}, ∀ a ∈ (Os.set i []).flatten, a ∈ Os.flatten
  | [], _, _, h => h
  | P :: Os, 0, a, h => by
    rw [List.set_cons_zero, List.flatten_cons, List.nil_append] at h
    rw [List.flatten_cons]; exact List.mem_append_right _ h
  | P :: Os, i + 1, a, h => by
    rw [List.set_cons_succ, List.flatten_cons] at h
    rw [List.flatten_cons]
    exact (List.mem_append.mp h).elim (List.mem_append_left _) fun z => List.mem_append_right _ (flat_sub a z)
theorem flat_nd : ∀ {Os : List (List Addr)} {i : Nat}, Os.flatten.Nodup → (Os.set i []).flatten.Nodup
  | [], _, h => h
  | P :: Os, 0, h => by
    rw [List.set_cons_zero, List.flatten_cons, List.nil_append]
    rw [List.flatten_cons] at h
    exact (List.nodup_append.mp h).2.1
  | P :: Os, i + 1, h => by
    rw [List.set_cons_succ, List.flatten_cons]
    rw [List.flatten_cons] at h
    obtain ⟨h1, h2, h3⟩ := List.nodup_append.mp h
    exact List.nodup_append.mpr ⟨h1, flat_nd h2, fun a ha b hb => h3 a ha b (flat_sub b hb)⟩
theorem StOk.putF {D : Dn} {G H : Hp} {env : List W} {σ : St} {Os : List (List Addr)} {w : W} {v : V} (i : Nat) (s : StOk D G H env σ Os) (r : RF D G w v) : StOk D G H (env.set i w) (σ.set i (some v)) (Os.set i []) :=
  ⟨Sl.set (.inl ⟨v, rfl, RO.ofF r⟩) i s.sl, s.sub, fun a ha => s.gn a (flat_sub a ha), flat_nd s.nd⟩
def tgN (i : Nat) : Tg := fun w env => some (env.set i w)
def tgL : List Nat → List W → List W → Option (List W)
  | [], [], env => some env
  | i :: is, w :: ws, env => tgL is ws (env.set i w)
  | _, _, _ => none
def tgT (is : List Nat) : Tg := fun w env => match w with
  | .tup ws => tgL is ws env
  | _ => none
theorem mg_name {Z : Zt} {i : Nat} {x : Str} {pos : Pos} (hN : Z.X.N.Nodup) (hi : Z.X.N[i]? = some x := by rfl) (hx : Loc Z.X.env.scope x := by first | exact Or.inl rfl | exact Or.inr rfl) (hio : Z.io i = false := by rfl)
    (hf : Z.X.fn x = true ∨ Z.X.env.scope.names.lookup x = some .local := by first | exact .inl rfl | exact .inr rfl | assumption) : MG Z (.Name x pos) (tgN i) := pg_imp (pg_name hN hi hx hf) fun v σ H Q q => by
  obtain ⟨env, G, Os, w, env', s, r, e, q⟩ := q
  cases e
  exact q _ _ (s.putF i r) (fun a ha => flat_sub a ha) (IoS.set hio) (List.length_set)
def MGs (Z : Zt) (ts : List Expr) (is : List Nat) : Prop := PGs Z.X ts (fun vs σ H Q => ∃ (env : List W) (G : Hp) (Os : List (List Addr)) (ws : List W) (env' : List W), StOk Z.D G H env σ Os ∧ RFs Z.D G ws vs ∧ tgL is ws env = some env' ∧ ∀ σ' Os', StOk Z.D G H env' σ' Os' → (∀ a ∈ Os'.flatten, a ∈ Os.flatten) → IoS Z.io σ σ' → σ'.length = σ.length → Q σ' H)
theorem pgs_imp {X : Cx} {e : List Expr} {t t' : TGs} (h : PGs X e t) (i : ∀ v σ H Q, t' v σ H Q → t v σ H Q) : PGs X e t' := ⟨fun pins s σ H v u Q I r w => h.run pins s σ H v u Q I r (i v σ H Q w)⟩
theorem mgs_nil {Z : Zt} : MGs Z [] [] := pgs_imp pgs_nil fun vs σ H Q q => by
  obtain ⟨env, G, Os, ws, env', s, r, e, q⟩ := q
  cases ws with
  | nil =>
    cases e
    exact ⟨r, q σ Os s (fun _ h => h) (IoS.refl _) rfl⟩
  | cons _ _ => cases e
theorem mgs_cons {Z : Zt} {i : Nat} {is : List Nat} {x : Str} {pos : Pos} {ts : List Expr} (hN : Z.X.N.Nodup) (ht : MGs Z ts is) (hi : Z.X.N[i]? = some x := by rfl) (hx : Loc Z.X.env.scope x := by first | exact Or.inl rfl | exact Or.inr rfl) (hio : Z.io i = false := by rfl)
    (hf : Z.X.fn x = true ∨ Z.X.env.scope.names.lookup x = some .local := by first | exact .inl rfl | exact .inr rfl | assumption) (hs : (assignEach (.Name x pos :: ts) Z.X.env).map (·.2) = assign (.Name x pos) Z.X.env :: (assignEach ts Z.X.env).map (·.2) := by rfl) :
    MGs Z (.Name x pos :: ts) (i :: is) := pgs_imp (pgs_cons (pg_name hN hi hx hf) ht hs) fun vs σ H Q q => by
  obtain ⟨env, G, Os, ws, env', s, r, e, q⟩ := q
  cases ws with
  | nil => cases e
  | cons w ws =>
    obtain ⟨v, us, rfl, h1, h2⟩ := r
    refine ⟨v, us, rfl, ?_⟩
    exact ⟨env.set i w, G, Os.set i [], ws, env', s.putF i h1, h2, e, fun σ' Os' s' hsub io' hl => q σ' Os' s' (fun a ha => flat_sub a (hsub a ha)) ((IoS.set hio).trans io') (hl.trans List.length_set)⟩
theorem mg_tup {Z : Zt} {es : List Expr} {is : List Nat} {k : Nat} {pos : Pos} (hc : Z.X.calm = true) (h : MGs Z es is) (hn : (assignEach es Z.X.env).length = is.length := by rfl) (hst : (assignEach es Z.X.env).findIdx? (·.1) = none := by rfl) : MG Z (.Tuple es k pos) (tgT is) :=
  pg_imp (pg_tup hc h hn hst) fun v σ H Q q => by
    obtain ⟨env, G, Os, w, env', s, r, e, q⟩ := q
    cases w with
    | tup ws =>
      obtain ⟨a, vs, rfl, h1, h2⟩ := r
      refine ⟨a, vs, rfl, s.sub.sqT h1, ?_, env, G, Os, ws, env', s, h2, e, q⟩
      rw [← h2.len]
      have key : ∀ (is : List Nat) (ws env env' : List W), tgL is ws env = some env' → ws.length = is.length := by
        intro is
        induction is with
        | nil =>
          intro ws env env' h
          cases ws with
          | nil => rfl
          | cons _ _ => cases h
        | cons i is ih =>
          intro ws env env' h
          cases ws with
          | nil => cases h
          | cons w ws => simp [ih ws _ _ h]
      exact key is ws env env' e
    | _ => cases e
/-- target = e -/
def sAsg (f : Tg) (m : Sm W) : Sm Fl := Sm.bind m fun w env => if w.frz = true then match f w env with
  | some env' => .ok .nx env'
  | none => .bad
  else .bad
theorem ms_asg {Z : Zt} {tg e : Expr} {f : Tg} {me : Sm W} {p k : Bool} {pos : Pos} (he : ME Z e me p k) (hg : MG Z tg f) (hs : swapsWithSole [tg] e pos.line Z.X.env = pure false := by rfl) (hw : swappedStores [tg] e Z.X.env = pure none := by rfl)
    (h1 : (assignEach [tg] Z.X.env).map (·.2) = [assign tg Z.X.env] := by rfl) : MS Z (.Assign [tg] e pos) (sAsg f me) := ps_imp (ps_asg he hg hs hw h1) fun E σ H q => by
  obtain ⟨env, G, Os, s, q⟩ := q
  refine ⟨env, G, Os, s, ?_⟩
  unfold sAsg Sm.bind at q
  cases e : me env with
  | bad => rw [e] at q; exact q
  | ex c env1 =>
    rw [e] at q
    exact fun G' H' Os' s' t => q σ G' H' Os' s' t.st (IoS.refl _)
  | ok w env1 =>
    rw [e] at q
    intro v G' H' Os' Ow s' r o t
    by_cases hf : w.frz = true
    · simp only [if_pos hf] at q
      obtain ⟨rfl, rf⟩ := r.toF hf
      cases e2 : f w env1 with
      | none => simp only [e2] at q; exact q.elim
      | some env' =>
        simp only [e2] at q
        exact ⟨env1, G', Os', w, env', s', rf, e2, fun σ' Os2 s2 hsub io' _ => q σ' G' H' Os2 s2 (t.st.less hsub) io'⟩
    · simp only [if_neg hf] at q
      exact q.elim
/-- x += e of ints -/
def sAug (i : Nat) (f : Int → Int → Int) (m : Sm W) : Sm Fl := fun env => match env[i]? with
  | some (.int a) => match m env with
    | .ok (.int b) env' => .ok .nx (env'.set i (.int (f a b)))
    | .ok _ _ => .bad
    | .ex c env' => .ex c env'
    | .bad => .bad
  | _ => .bad
/-! ### what is walked -/
def Walks (D : Dn) (J : It) (ws : List W) (G0 : Hp) : Prop := ∀ (i : Nat) (G H : Hp), Sub G0 G → Sub G H →
  (∀ x, ws[i]? = some x → J.go i H ∧ ∀ v H', J.yld i H v H' → ∃ G', Step G H [] G' H' [] ∧ Sub G' H' ∧ RF D G' x v) ∧ (ws.length ≤ i → J.stop i H)
def TIx (D : Dn) (Wx : WX) (p : Bool) (m : Sm (List W)) : TI := fun σ H R => ∃ (env : List W) (G : Hp) (Os : List (List Addr)), StOk D G H env σ Os ∧ match m env with
  | .ok ws env' => ∀ J G' H' Os', StOk D G' H' env' σ Os' → Stp p env G H Os env' G' H' Os' [] → Walks D J ws G' → R J H'
  | .ex c env' => ∀ G' H' Os', StOk D G' H' env' σ Os' → Stp p env G H Os env' G' H' Os' [] → Wx (.ref (D.CA c)) none σ H'
  | .bad => False
abbrev MI (Z : Zt) (tg it : Expr) (m : Sm (List W)) (p : Bool) : Prop := PI Z.X tg it (TIx Z.D Z.W p m)
theorem pi_imp {X : Cx} {tg e : Expr} {t t' : TI} (h : PI X tg e t) (i : ∀ σ H R, t' σ H R → t σ H R) : PI X tg e t' := ⟨fun pins s σ H R I w => h.run pins s σ H R I (i σ H R w)⟩
/-- the items of a frozen list -/
def frzL : W → Option (List W)
  | .lst false ws => some ws
  | .scr ws => some ws
  | _ => none
theorem walks_list {D : Dn} {G0 : Hp} {a : Addr} {ws : List W} {vs : List V} (h : SqL D.K G0 a vs) (r : RFs D G0 ws vs) : Walks D (Itl D.K a) ws G0 := fun i G H s0 s => by
  have hs : SqL D.K H a vs := s.sqL (s0.sqL h)
  refine ⟨fun x e => ?_, fun hl => ⟨vs, hs, by rw [← r.len]; exact hl⟩⟩
  obtain ⟨v, h1, h2⟩ := r.get e
  refine ⟨⟨vs, v, hs, h1⟩, fun v' H' y => ?_⟩
  obtain ⟨rfl, y⟩ := y
  have e2 : v' = v := Option.some.inj ((y vs hs).symm.trans h1)
  subst e2
  exact ⟨G, Step.refl _ _ _, s, RF.mono s0 _ _ h2⟩
def iLst (m : Sm W) : Sm (List W) := Sm.bind m fun w => lft (frzL w)
theorem mi_list {Z : Zt} {tg e : Expr} {m : Sm W} {p k : Bool} (h : ME Z e m p k) : MI Z tg e (iLst m) p := pi_imp (pi_list h) fun σ H R q => by
  obtain ⟨env, G, Os, s, q⟩ := q
  refine ⟨env, G, Os, s, ?_⟩
  unfold iLst Sm.bind lft at q
  cases e : m env with
  | bad => rw [e] at q; exact q
  | ex c env1 => rw [e] at q; exact q
  | ok w env1 =>
    rw [e] at q
    intro v G' H' Os' Ow s' r o t
    have t' := t.less (O2 := []) kO_less
    cases w with
    | lst b ws =>
      cases b with
      | true => exact q.elim
      | false =>
        obtain ⟨rfl, a, vs, rfl, h1, h2⟩ := r
        exact ⟨a, rfl, ⟨vs, SqL.of (s'.sub _ _ h1)⟩, q _ G' H' Os' s' t' (walks_list (SqL.of h1) h2)⟩
    | scr ws =>
      obtain ⟨rfl, a, vs, rfl, h1, h2⟩ := r
      exact ⟨a, rfl, ⟨vs, s'.sub.sqL h1⟩, q _ G' H' Os' s' t' (walks_list h1 h2)⟩
    | _ => exact q.elim
/-- ranges -/
def rngL (lo : Int) (n : Nat) : List W := (List.range n).map fun i => .int (lo + (i : Nat))
theorem walks_rng {D : Dn} {G0 : Hp} {lo : Int} {n : Nat} : Walks D (Itr lo n) (rngL lo n) G0 := fun i G H s0 s => by
  have hlen : (rngL lo n).length = n := by unfold rngL; rw [List.length_map, List.length_range]
  refine ⟨fun x e => ?_, fun hl => by rw [hlen] at hl; exact hl⟩
  have hi : i < n := by rw [← hlen]; exact (List.getElem?_eq_some_iff.mp e).1
  refine ⟨hi, fun v H' y => ?_⟩
  obtain ⟨rfl, rfl⟩ := y
  refine ⟨G, Step.refl _ _ _, s, ?_⟩
  unfold rngL at e
  rw [List.getElem?_map, List.getElem?_range hi] at e
  cases e
  rfl
def rngOk (i : Int) : Prop := -(2 ^ 62) ≤ i ∧ i < 2 ^ 62
noncomputable instance {i : Int} : Decidable (rngOk i) := Classical.propDecidable _
noncomputable def rng1 : List W → Option (List W)
  | [.int j] => if rngOk j then some (rngL 0 j.toNat) else none
  | _ => none
noncomputable def rng2 : List W → Option (List W)
  | [.int i, .int j] => if rngOk i ∧ rngOk j then some (rngL i (j - i).toNat) else none
  | _ => none
def iArgs (f : List W → Option (List W)) (m : Sm (List W)) : Sm (List W) := Sm.bind m fun ws => lft (f ws)
theorem ta_iter {D : Dn} {Wx : WX} {f : List W → Option (List W)} {m : Sm (List W)} {p : Bool} {σ : St} {H : Hp} {R : It → Hp → Prop} {r : List V → Hp → (It → Hp → Prop) → Prop}
    (o : ∀ (G H : Hp) (ws xs : List W) (vs : List V) (R : It → Hp → Prop), Sub G H → RFs D G ws vs → f ws = some xs → (∀ J, Walks D J xs G → R J H) → r vs H R) (q : TIx D Wx p (iArgs f m) σ H R) : TA' D Wx p m σ H fun vs H1 => r vs H1 R := by
  obtain ⟨env, G, Os, s, q⟩ := q
  refine ⟨env, G, Os, s, ?_⟩
  unfold iArgs Sm.bind lft at q
  cases e : m env with
  | bad => rw [e] at q; exact q
  | ex c env1 => rw [e] at q; exact q
  | ok ws env1 =>
    rw [e] at q
    intro vs G' H' Os' s' rr t
    cases e2 : f ws with
    | none => simp only [e2] at q
    | some xs =>
      simp only [e2] at q
      exact o G' H' ws xs vs R s'.sub rr e2 fun J w => q J G' H' Os' s' t w
section
variable {Z : Zt} {tg a b c : Expr} {m : Sm (List W)} {p : Bool} {p1 p2 : Pos}
theorem RFs.int1 {D : Dn} {G : Hp} {i : Int} {vs : List V} (h : RFs D G [.int i] vs) : vs = [.int i] := RFs.ints (ns := [i]) h
theorem mi_range1 (hm : Z.X.mg "range" = none) (ha : MA Z [a] m p) (hg : Gl Z.X "range" := by rfl) (hs : starEach [a] Z.X.env = [(false, eval a Z.X.env)] := by rfl) : MI Z tg (.Call (.Name "range" p1) [a] [] p2) (iArgs rng1 m) p :=
  pi_imp (pi_range1 hg hm ha hs) fun σ H R q => ta_iter (r := fun vs H1 R => ∃ j : Int, vs = [.int j] ∧ -(2 ^ 62) ≤ j ∧ j < 2 ^ 62 ∧ R (Itr 0 j.toNat) H1) (fun G H ws xs vs R s r e q => by
    unfold rng1 at e
    split at e
    · rename_i j
      by_cases h : rngOk j
      · rw [if_pos h] at e
        cases e
        exact ⟨j, r.int1, h.1, h.2, q _ walks_rng⟩
      · rw [if_neg h] at e; cases e
    · cases e) q
def enumL : List W → Option (List W)
  | [w] => (frzL w).map fun ws => ws.zipIdx.map fun q => .tup [.int (q.2 : Nat), q.1]
  | _ => none
def zipL : List W → Option (List W)
  | [w, x] => (frzL w).bind fun ws => (frzL x).map fun xs => (ws.zip xs).map fun q => .tup [q.1, q.2]
  | _ => none
end
end Ev

namespace Ev
open PySem PySem.Spec L2

/-! ### slots forgotten -/
def killE : List Nat → List W → List W
  | [], env => env
  | i :: is, env => killE is (env.set i .dead)
def killO : List Nat → List (List Addr) → List (List Addr)
  | [], Os => Os
  | i :: is, Os => killO is (Os.set i [])
theorem Sl.kill1 {D : Dn} {G H : Hp} : ∀ {env : List W} {σ : St} {Os : List (List Addr)} (i : Nat), Sl D G H env σ Os → Sl D G H (env.set i .dead) σ (Os.set i [])
  | [], _, _, _, h => by rw [h.1, h.2]; exact ⟨rfl, rfl⟩
  | _ :: env, _, _, 0, h => by
    obtain ⟨s', σ', O', Os', rfl, rfl, h1, h2⟩ := h
    exact ⟨s', σ', [], Os', rfl, rfl, .inr ⟨rfl, rfl⟩, h2⟩
  | _ :: env, _, _, i + 1, h => by
    obtain ⟨s', σ', O', Os', rfl, rfl, h1, h2⟩ := h
    exact ⟨s', σ', O', _, rfl, rfl, h1, Sl.kill1 i h2⟩
theorem killO_sub : ∀ {is : List Nat} {Os : List (List Addr)}, ∀ a ∈ (killO is Os).flatten, a ∈ Os.flatten
  | [], _, _, h => h
  | i :: is, Os, a, h => flat_sub a (killO_sub a h)
theorem killO_nd : ∀ {is : List Nat} {Os : List (List Addr)}, Os.flatten.Nodup → (killO is Os).flatten.Nodup
  | [], _, h => h
  | i :: is, Os, h => killO_nd (is := is) (Os := Os.set i []) (flat_nd h)
theorem Sl.kill {D : Dn} {G H : Hp} : ∀ (is : List Nat) {env : List W} {σ : St} {Os : List (List Addr)}, Sl D G H env σ Os → Sl D G H (killE is env) σ (killO is Os)
  | [], _, _, _, h => h
  | i :: is, _, _, _, h => Sl.kill is (h.kill1 i)
theorem StOk.kill {D : Dn} {G H : Hp} {env : List W} {σ : St} {Os : List (List Addr)} (is : List Nat) (s : StOk D G H env σ Os) : StOk D G H (killE is env) σ (killO is Os) :=
  ⟨s.sl.kill is, s.sub, fun a ha => s.gn a (killO_sub a ha), killO_nd s.nd⟩

/-! ### for -/
def mFor (f : Tg) (body : Sm Fl) (kill : List Nat) : List W → Sm Fl
  | [], env => .ok .nx env
  | x :: xs, env => match f x env with
    | none => .bad
    | some env1 => match body env1 with
      | .ok .nx env2 => mFor f body kill xs (killE kill env2)
      | .ok .ct env2 => mFor f body kill xs (killE kill env2)
      | .ok .bk env2 => .ok .nx env2
      | .ok (.rt w) env2 => .ok (.rt w) env2
      | .ex c env2 => .ex c env2
      | .bad => .bad
def sFor (f : Tg) (body : Sm Fl) (kill : List Nat) (mi : Sm (List W)) : Sm Fl := Sm.bind mi fun ws => mFor f body kill ws
theorem ms_for {Z : Zt} {tg it : Expr} {body : List Stmt} {f : Tg} {mb : Sm Fl} {mi : Sm (List W)} {p : Bool} {pos : Pos} (kill : List Nat) (hp : PassesOwn (model Z.X.prog Z.X.w) Z.X.A Z.X.env Z.X.xe) (hc : Z.X.calm = true) (hi : MI Z tg it mi p) (hg : MG Z tg f) (hb : MSs Z body mb)
    (hs : ∀ x, foldedSetIterable it Z.X.env x = pure x := by intro _; rfl) : MS Z (.For tg it body [] pos) (sFor f mb kill mi) := ps_imp (ps_for hp hc hi hg hb hs) fun E σ H q => by
  obtain ⟨env, G, Os, s, q⟩ := q
  refine ⟨env, G, Os, s, ?_⟩
  unfold sFor Sm.bind at q
  cases e : mi env with
  | bad => rw [e] at q; exact q
  | ex c env1 =>
    rw [e] at q
    exact fun G' H' Os' s' t => q σ G' H' Os' s' t.st (IoS.refl _)
  | ok ws env1 =>
    rw [e] at q
    intro J G1 H1 Os1 s1 t1 wk
    have q1 : PostS Z.D Z.W Z.io E σ G1 H1 Os1 (mFor f mb kill ws env1) := PostS.on t1.st (IoS.refl _) q
    refine ⟨fun i m σ' H' => m = ws.length - i ∧ i ≤ ws.length ∧ ∃ env' G' Os', StOk Z.D G' H' env' σ' Os' ∧ Sub G1 G' ∧ PostS Z.D Z.W Z.io E σ' G' H' Os' (mFor f mb kill (ws.drop i) env'),
      ⟨ws.length, rfl, Nat.zero_le _, env1, G1, Os1, s1, Sub.refl _, q1⟩, ?_⟩
    rintro i m σ2 H2 ⟨rfl, hi, env2, G2, Os2, s2, sub, q2⟩
    obtain ⟨w1, w2⟩ := wk i G2 H2 sub s2.sub
    by_cases hl : i < ws.length
    · have ei : ws[i]? = some ws[i] := List.getElem?_eq_getElem hl
      obtain ⟨go, yl⟩ := w1 _ ei
      rw [List.drop_eq_getElem_cons hl] at q2
      refine .inr ⟨go, fun σ3 H3 => ∃ env3 G3 Os3, StOk Z.D G3 H3 env3 σ3 Os3 ∧ Sub G1 G3 ∧ PostS Z.D Z.W Z.io E σ3 G3 H3 Os3 (mFor f mb kill (ws.drop (i + 1)) env3), fun σ3 H3 ⟨env3, G3, Os3, s3, sub3, q3⟩ => ⟨ws.length - (i + 1), by omega, rfl, hl, env3, G3, Os3, s3, sub3, q3⟩, fun v H3 y => ?_⟩
      obtain ⟨G3, t3, sub3, r3⟩ := yl v H3 y
      have s3 := s2.step t3 sub3
      unfold mFor at q2
      cases ef : f ws[i] env2 with
      | none => simp only [ef] at q2; exact q2.elim
      | some env3 =>
        simp only [ef] at q2
        have t3' : Step G2 H2 Os2.flatten G3 H3 Os2.flatten := by
          have z := t3.pure0 (O := Os2.flatten)
          rwa [List.append_nil] at z
        refine ⟨env2, G3, Os2, ws[i], env3, s3, r3, ef, fun σ4 Os4 s4 hsub io4 _ => ⟨env3, G3, Os4, s4, ?_⟩⟩
        have t4 : Step G2 H2 Os2.flatten G3 H3 Os4.flatten := t3'.less hsub
        have again : ∀ {env5 : List W}, PostS Z.D Z.W Z.io E σ2 G2 H2 Os2 (mFor f mb kill (ws.drop (i + 1)) (killE kill env5)) → ∀ σ' G' H' Os', StOk Z.D G' H' env5 σ' Os' → Step G3 H3 Os4.flatten G' H' Os'.flatten → IoS Z.io σ4 σ' →
            ∃ env3 G3 Os3, StOk Z.D G3 H' env3 σ' Os3 ∧ Sub G1 G3 ∧ PostS Z.D Z.W Z.io E σ' G3 H' Os3 (mFor f mb kill (ws.drop (i + 1)) env3) := fun {env5} q5 σ' G' H' Os' s' t' io' => by
          refine ⟨killE kill env5, G', killO kill Os', s'.kill kill, (sub.trans t3.mono).trans t'.mono, ?_⟩
          exact PostS.on ((t4.trans t').less fun a ha => killO_sub a ha) (io4.trans io') q5
        cases eb : mb env3 with
        | bad => simp only [eb] at q2; exact q2
        | ex c env5 =>
          simp only [eb] at q2
          exact fun σ' G' H' Os' s' t' io' => q2 σ' G' H' Os' s' (t4.trans t') (io4.trans io')
        | ok fl env5 =>
          cases fl with
          | nx => simp only [eb] at q2; exact again q2
          | ct => simp only [eb] at q2; exact again q2
          | bk =>
            simp only [eb] at q2
            exact fun σ' G' H' Os' s' t' io' => q2 σ' G' H' Os' s' (t4.trans t') (io4.trans io')
          | rt w =>
            simp only [eb] at q2
            exact fun v σ' G' H' Os' Ow s' r o t' io' => q2 v σ' G' H' Os' Ow s' r o (t4.trans t') (io4.trans io')
    · have e2 : i = ws.length := by omega
      subst e2
      rw [List.drop_length] at q2
      exact .inl ⟨w2 (Nat.le_refl _), q2 σ2 G2 H2 Os2 s2 (Step.refl _ _ _) (IoS.refl _)⟩

/-! ### comprehensions -/
theorem Sl.ofAt {D : Dn} {G H : Hp} : ∀ {env : List W} {σ : St} {Os : List (List Addr)}, env.length = σ.length → Os.length = σ.length → (∀ (i : Nat) (w : W) (s : Option V) (O : List Addr), env[i]? = some w → σ[i]? = some s → Os[i]? = some O → SR D G H w s O) → Sl D G H env σ Os
  | [], σ, Os, h1, h2, _ => by
    have e1 : σ = [] := List.eq_nil_of_length_eq_zero h1.symm
    subst e1
    exact ⟨rfl, List.eq_nil_of_length_eq_zero h2⟩
  | w :: env, [], _, h1, _, _ => nomatch h1
  | w :: env, s :: σ, [], _, h2, _ => nomatch h2
  | w :: env, s :: σ, O :: Os, h1, h2, h => ⟨s, σ, O, Os, rfl, rfl, h 0 w s O rfl rfl rfl, Sl.ofAt (Nat.succ.inj h1) (Nat.succ.inj h2) fun i w' s' O' a b c => h (i + 1) w' s' O' a b c⟩
theorem killE_at : ∀ {is : List Nat} {env : List W} {i : Nat}, i ∉ is → (killE is env)[i]? = env[i]?
  | [], _, _, _ => rfl
  | j :: is, env, i, h => by
    rw [killE, killE_at (List.not_mem_of_not_mem_cons h), List.getElem?_set_ne (fun e => h (by rw [e]; exact List.mem_cons_self))]
theorem killO_at : ∀ {is : List Nat} {Os : List (List Addr)} {i : Nat}, i ∉ is → (killO is Os)[i]? = Os[i]?
  | [], _, _, _ => rfl
  | j :: is, env, i, h => by
    rw [killO, killO_at (List.not_mem_of_not_mem_cons h), List.getElem?_set_ne (fun e => h (by rw [e]; exact List.mem_cons_self))]
theorem killE_len : ∀ {is : List Nat} {env : List W}, (killE is env).length = env.length
  | [], _ => rfl
  | j :: is, env => by rw [killE, killE_len, List.length_set]
theorem killO_len : ∀ {is : List Nat} {env : List (List Addr)}, (killO is env).length = env.length
  | [], _ => rfl
  | j :: is, env => by rw [killO, killO_len, List.length_set]
theorem killE_in : ∀ {is : List Nat} {env : List W} {i : Nat} {w : W}, i ∈ is → (killE is env)[i]? = some w → w = .dead
  | j :: is, env, i, w, h, e => by
    by_cases hi : i ∈ is
    · exact killE_in (env := env.set j .dead) hi e
    · rw [killE, killE_at hi] at e
      have ej : i = j := (List.mem_cons.mp h).resolve_right hi
      subst ej
      by_cases hl : i < env.length
      · rw [List.getElem?_set_self hl] at e; exact (Option.some.inj e).symm
      · rw [List.getElem?_eq_none (by rw [List.length_set]; omega)] at e; cases e
theorem killO_in : ∀ {is : List Nat} {env : List (List Addr)} {i : Nat} {w : List Addr}, i ∈ is → (killO is env)[i]? = some w → w = []
  | j :: is, env, i, w, h, e => by
    by_cases hi : i ∈ is
    · exact killO_in (env := env.set j []) hi e
    · rw [killO, killO_at hi] at e
      have ej : i = j := (List.mem_cons.mp h).resolve_right hi
      subst ej
      by_cases hl : i < env.length
      · rw [List.getElem?_set_self hl] at e; exact (Option.some.inj e).symm
      · rw [List.getElem?_eq_none (by rw [List.length_set]; omega)] at e; cases e
/-- the killed slots may hold what they will -/
theorem Sl.re {D : Dn} {G H : Hp} {env : List W} {σ σ' : St} {Os : List (List Addr)} {vs : List Nat} (s : Sl D G H env σ Os) (hl : σ'.length = σ.length) (h : ∀ i, i ∉ vs → σ'[i]? = σ[i]?) : Sl D G H (killE vs env) σ' (killO vs Os) := by
  obtain ⟨l1, l2⟩ := s.len
  refine Sl.ofAt (by rw [killE_len, hl]; exact l1) (by rw [killO_len, hl]; exact l2) fun i w x O e1 e2 e3 => ?_
  by_cases hi : i ∈ vs
  · exact .inr ⟨killE_in hi e1, killO_in hi e3⟩
  · rw [killE_at hi] at e1
    rw [killO_at hi] at e3
    rw [h i hi] at e2
    obtain ⟨x', O', g1, g2, g3⟩ := s.at e1
    rw [e2] at g1
    rw [e3] at g2
    cases g1
    cases g2
    exact g3
theorem StOk.re {D : Dn} {G H : Hp} {env : List W} {σ σ' : St} {Os : List (List Addr)} {vs : List Nat} (s : StOk D G H env σ Os) (hl : σ'.length = σ.length) (h : ∀ i, i ∉ vs → σ'[i]? = σ[i]?) : StOk D G H (killE vs env) σ' (killO vs Os) :=
  ⟨s.sl.re hl h, s.sub, fun a ha => s.gn a (killO_sub a ha), killO_nd s.nd⟩
theorem wipe_at {σ : St} : ∀ {vs : List Nat} {i : Nat}, i ∉ vs → (wipe σ vs)[i]? = σ[i]?
  | [], _, _ => rfl
  | j :: vs, i, h => by
    show ((wipe σ vs).set j none)[i]? = _
    rw [List.getElem?_set_ne (fun e => h (by rw [e]; exact List.mem_cons_self)), wipe_at (List.not_mem_of_not_mem_cons h)]
theorem wipe_in {σ : St} : ∀ {vs : List Nat} {i : Nat}, i ∈ vs → i < σ.length → (wipe σ vs)[i]? = some none
  | j :: vs, i, h, hl => by
    show ((wipe σ vs).set j none)[i]? = _
    by_cases e : j = i
    · subst e
      rw [List.getElem?_set_self (by rw [wipe_length]; exact hl)]
    · rw [List.getElem?_set_ne e]
      exact wipe_in ((List.mem_cons.mp h).resolve_left (fun z => e z.symm)) hl
theorem wipe_eq {σ σ' : St} {vs : List Nat} (hl : σ'.length = σ.length) (h : ∀ i, i ∉ vs → σ'[i]? = σ[i]?) : wipe σ' vs = wipe σ vs := by
  refine List.ext_getElem? fun i => ?_
  by_cases hi : i ∈ vs
  · by_cases hb : i < σ.length
    · rw [wipe_in hi hb, wipe_in hi (by rw [hl]; exact hb)]
    · rw [List.getElem?_eq_none (by rw [wipe_length]; omega), List.getElem?_eq_none (by rw [wipe_length]; omega)]
  · rw [wipe_at hi, wipe_at hi, h i hi]

def mLc (f : Tg) (tt : Sm Bool) (te : Sm W) (vs : List Nat) : List W → List W → Sm (List W)
  | [], acc, env => .ok acc (killE vs env)
  | x :: xs, acc, env => match f x (killE vs env) with
    | none => .bad
    | some env1 => match tt env1 with
      | .ok false env2 => mLc f tt te vs xs acc env2
      | .ok true env2 => match te env2 with
        | .ok y env3 => if y.frz = true ∧ acc.length < sizeLine then mLc f tt te vs xs (acc ++ [y]) env3 else .bad
        | _ => .bad
      | _ => .bad
def mComp (p : Bool) (f : Tg) (tt : Sm Bool) (te : Sm W) (vs : List Nat) (mi : Sm (List W)) : Sm W := Sm.bind mi fun ws env => match mLc f tt te vs ws [] env with
  | .ok ys env' => .ok (.lst true ys) (cond p env env')
  | _ => .bad
abbrev W0 : WX := fun _ _ _ _ => False
abbrev ioB (vs : List Nat) : Nat → Bool := fun i => !vs.contains i
theorem step_updNew {G H G' H' : Hp} {O O' : List Addr} {d : Addr} {o : HO} (t : Step G H O G' H' O') (n : H d = none) : Step G H O G' (upd H' d o) O' :=
  ⟨t.mono, fun a x h hn => by rw [upd_ne (ne_of_none h n)]; exact t.keep a x h hn, t.gnew, t.new⟩
theorem StOk.updD {D : Dn} {G H : Hp} {env : List W} {σ : St} {Os : List (List Addr)} {d : Addr} {o : HO} (s : StOk D G H env σ Os) (g : G d = none) (n : d ∉ Os.flatten) : StOk D G (upd H d o) env σ Os :=
  ⟨s.sl.mono (Sub.refl _) fun a ha x h => by rw [upd_ne (fun e => n (by rw [← e]; exact ha))]; exact h, fun a x h => by rw [upd_ne (ne_of_none h g)]; exact s.sub a x h, s.gn, s.nd⟩
/-- what the walk of a comprehension keeps -/
structure LcI (D : Dn) (p : Bool) (vs : List Nat) (G1 H1 : Hp) (Os1 : List (List Addr)) (d : Addr) (σ : St) (acc : List W) (env : List W) (H : Hp) (G : Hp) (Os : List (List Addr)) (σ2 : St) : Prop where
  st : StOk D G H env σ2 Os
  len : σ2.length = σ.length
  out : ∀ i, i ∉ vs → σ2[i]? = σ[i]?
  dg : G d = none
  dn : d ∉ Os.flatten
  dl : ∃ va, H d = some (.lst va) ∧ RFs D G acc va
  step : Step G1 H1 (cond p [] Os1.flatten) G H (cond p [] Os.flatten)
theorem LcI.next {D : Dn} {p q : Bool} {vs : List Nat} {G1 H1 : Hp} {Os1 : List (List Addr)} {d : Addr} {σ : St} {acc env : List W} {H G : Hp} {Os : List (List Addr)} {σ2 : St} {env' : List W} {G' H' : Hp} {Os' : List (List Addr)}
    (I : LcI D p vs G1 H1 Os1 d σ acc env H G Os σ2) (hpq : p = true → q = true) (s : StOk D G' H' env' σ2 Os') (t : Stp q env G H Os env' G' H' Os' []) : LcI D p vs G1 H1 Os1 d σ acc env' H' G' Os' σ2 := by
  obtain ⟨va, hd, ra⟩ := I.dl
  have tg := t.st
  refine ⟨s, I.len, I.out, tg.gnew d _ hd I.dn (fun _ z => nomatch z) I.dg, fun z => ?_, ⟨va, tg.keep d _ hd I.dn, RFs.mono tg.mono _ _ ra⟩, ?_⟩
  · rcases tg.new d z with y | y
    · exact I.dn y
    · rw [hd] at y; cases y
  · cases p with
    | true =>
      have hq := hpq rfl
      subst hq
      exact I.step.trans t.2.2
    | false => exact I.step.trans tg
theorem tx_lc {D : Dn} {Wx : WX} {f : Tg} {tt : Sm Bool} {te : Sm W} {mi : Sm (List W)} {vs : List Nat} {p pt pe kk : Bool} {σ : St} {H : Hp} {Q : VK}
    (q : TX D Wx (p && (pt && pe)) true (mComp (pt && pe) f tt te vs mi) σ H Q) : tLc (TIx D Wx p mi) (TGx D (ioB vs) f) (TT' D W0 pt tt) (TX D W0 pe kk te) vs σ H Q := by
  obtain ⟨env, G, Os, s, q⟩ := q
  refine ⟨env, G, Os, s, ?_⟩
  unfold mComp Sm.bind at q
  cases e : mi env with
  | bad => rw [e] at q; exact q
  | ex c env1 =>
    rw [e] at q
    exact fun G' H' Os' s' t => q G' H' Os' s' (t.and _)
  | ok ws env1 =>
    rw [e] at q
    intro J G1 H1 Os1 s1 t1 wk d hd
    generalize hp' : (pt && pe) = pb at q
    have gd1 : G1 d = none := sub_none s1.sub hd
    have dn1 : d ∉ Os1.flatten := fun z => s1.sl.there d z hd
    -- what is to be reached
    let Fin : List W → Out (List W) → Prop := fun _ o => ∃ ys env', o = .ok ys env'
    obtain ⟨ys, envF, eF⟩ : ∃ ys env', mLc f tt te vs ws [] env1 = .ok ys env' := by
      cases eo : mLc f tt te vs ws [] env1 with
      | ok ys env' => exact ⟨ys, env', rfl⟩
      | ex c env' => simp only [eo] at q
      | bad => simp only [eo] at q
    simp only [eF] at q
    refine ⟨fun i m H' => m = ws.length - i ∧ i ≤ ws.length ∧ ∃ env' G' Os' σ' acc, LcI D pb vs G1 H1 Os1 d σ acc env' H' G' Os' σ' ∧ Sub G1 G' ∧ mLc f tt te vs (ws.drop i) acc env' = .ok ys envF, ⟨ws.length, rfl, Nat.zero_le _, env1, G1, Os1, σ, [], ?_, Sub.refl _, eF⟩, ?_⟩
    · refine ⟨s1.updD gd1 dn1, rfl, fun _ _ => rfl, gd1, dn1, ⟨[], upd_same, rfl⟩, step_updNew (Step.less (Step.refl _ _ _) ?_) hd⟩
      cases pb <;> exact fun x hx => hx
    rintro i m H2 ⟨rfl, hi, env2, G2, Os2, σ2, acc, I, sub2, e2⟩
    obtain ⟨w1, w2⟩ := wk i G2 H2 sub2 I.st.sub
    by_cases hl : i < ws.length
    · have ei : ws[i]? = some ws[i] := List.getElem?_eq_getElem hl
      obtain ⟨go, yl⟩ := w1 _ ei
      rw [List.drop_eq_getElem_cons hl] at e2
      refine .inr ⟨go, fun H' => ∃ env' G' Os' σ' acc, LcI D pb vs G1 H1 Os1 d σ acc env' H' G' Os' σ' ∧ Sub G1 G' ∧ mLc f tt te vs (ws.drop (i + 1)) acc env' = .ok ys envF, fun H' h => ⟨ws.length - (i + 1), by omega, rfl, hl, h⟩, fun v H3 y => ?_⟩
      obtain ⟨G3, t3, sub3, r3⟩ := yl v H3 y
      unfold mLc at e2
      cases ef : f ws[i] (killE vs env2) with
      | none => simp only [ef] at e2; cases e2
      | some env3 =>
        simp only [ef] at e2
        -- the item comes
        have I3 : LcI D pb vs G1 H1 Os1 d σ acc env2 H3 G3 Os2 σ2 := I.next (q := true) (fun _ => rfl) (I.st.step t3 sub3) ⟨rfl, rfl, t3⟩
        have s3 : StOk D G3 H3 (killE vs env2) (wipe σ vs) (killO vs Os2) := I3.st.re (by rw [wipe_length]; exact I.len.symm) fun j hj => by rw [wipe_at hj, I.out j hj]
        refine ⟨killE vs env2, G3, killO vs Os2, ws[i], env3, s3, r3, ef, fun σ4 Os4 s4 hsub io4 len4 => ?_⟩
        rw [wipe_length] at len4
        have out4 : ∀ j, j ∉ vs → σ4[j]? = σ[j]? := fun j hj => by
          have hio : ioB vs j = true := by
            show (!vs.contains j) = true
            rw [Bool.not_eq_true', List.contains_eq_mem, decide_eq_false_iff_not]
            exact hj
          rw [io4 j hio, wipe_at hj]
        have hsub2 : ∀ a ∈ Os4.flatten, a ∈ Os2.flatten := fun a ha => killO_sub a (hsub a ha)
        obtain ⟨va, hda, rva⟩ := I3.dl
        have I4 : LcI D pb vs G1 H1 Os1 d σ acc env3 H3 G3 Os4 σ4 := ⟨s4, len4, out4, I3.dg, fun z => I3.dn (hsub2 d z), ⟨va, hda, rva⟩, I3.step.less (by cases pb <;> first | exact hsub2 | exact fun x hx => hx)⟩
        refine ⟨wipe_eq len4 out4, env3, G3, Os4, s4, ?_⟩
        have hpt : pb = true → pt = true := fun z => by rw [← hp'] at z; exact (Bool.and_eq_true_iff.mp z).1
        have hpe : pb = true → pe = true := fun z => by rw [← hp'] at z; exact (Bool.and_eq_true_iff.mp z).2
        cases et : tt env3 with
        | bad => simp only [et] at e2; cases e2
        | ex c env4 => simp only [et] at e2; cases e2
        | ok b env4 =>
          intro G5 H5 Os5 s5 t5
          have I5 := I4.next hpt s5 t5
          have sub5 : Sub G1 G5 := (sub2.trans t3.mono).trans t5.gen.mono
          cases b with
          | false =>
            rw [if_neg Bool.false_ne_true]
            simp only [et] at e2
            exact ⟨env4, G5, Os5, σ4, acc, I5, sub5, e2⟩
          | true =>
            rw [if_pos rfl]
            simp only [et] at e2
            refine ⟨env4, G5, Os5, s5, ?_⟩
            cases ee : te env4 with
            | bad => simp only [ee] at e2; cases e2
            | ex c env6 => simp only [ee] at e2; cases e2
            | ok y env6 =>
              simp only [ee] at e2
              intro v6 G6 H6 Os6 Ow s6 r6 o6 t6
              by_cases hy : y.frz = true ∧ acc.length < sizeLine
              · rw [if_pos hy] at e2
                obtain ⟨rfl, rf⟩ := r6.toF hy.1
                have t6' : Stp pe env4 G5 H5 Os5 env6 G6 H6 Os6 [] := t6.less kO_less
                have I6 := I5.next hpe s6 t6'
                obtain ⟨va6, hd6, rva6⟩ := I6.dl
                refine ⟨va6, hd6, by rw [← rva6.len]; exact hy.2, env6, G6, Os6, σ4, acc ++ [y], ?_, sub5.trans t6'.gen.mono, e2⟩
                refine ⟨s6.updD I6.dg I6.dn, len4, out4, I6.dg, I6.dn, ⟨va6 ++ [v6], upd_same, rva6.append ⟨v6, [], rfl, rf, rfl⟩⟩, step_updNew I6.step hd⟩
              · rw [if_neg hy] at e2; cases e2
    · have e3 : i = ws.length := by omega
      subst e3
      rw [List.drop_length] at e2
      refine .inl ⟨w2 (Nat.le_refl _), ?_⟩
      cases e2
      obtain ⟨va, hda, rva⟩ := I.dl
      have sK : StOk D G2 H2 (killE vs env2) σ (killO vs Os2) := I.st.re I.len.symm fun j hj => (I.out j hj).symm
      cases pb with
      | true =>
        have st : Step G1 H1 [] G2 H2 [d] := ⟨I.step.mono, I.step.keep, I.step.gnew, fun a ha => .inr (by rw [List.mem_singleton.mp ha]; exact hd)⟩
        have sF : StOk D G2 H2 env1 σ Os1 := s1.step st I.st.sub
        refine q (.ref d) G2 H2 Os1 [d] sF ⟨d, va, rfl, rfl, hda, rva⟩ ⟨s1.apart st (by simp), fun a ha => by rw [List.mem_singleton.mp ha]; exact I.dg⟩ ?_
        rw [Bool.and_true]
        exact t1.ofP (σ := σ) st
      | false =>
        have dk : d ∉ (killO vs Os2).flatten := fun z => I.dn (killO_sub d z)
        refine q (.ref d) G2 H2 (killO vs Os2) [d] sK ⟨d, va, rfl, rfl, hda, rva⟩ ⟨List.nodup_append.mpr ⟨sK.nd, by simp, fun a ha b hb e => by rw [List.mem_singleton.mp hb] at e; subst e; exact dk ha⟩, fun a ha => by rw [List.mem_singleton.mp ha]; exact I.dg⟩ ?_
        rw [Bool.and_false]
        have st : Step G1 H1 Os1.flatten G2 H2 ((killO vs Os2).flatten ++ [d]) := ⟨I.step.mono, I.step.keep, I.step.gnew, fun a ha => by
          rcases List.mem_append.mp ha with z | z
          · exact I.step.new a (killO_sub a z)
          · exact .inr (by rw [List.mem_singleton.mp z]; exact hd)⟩
        exact t1.st.trans st
end Ev

namespace Ev
open PySem PySem.Spec L2

/-! ### comprehensions as expressions, as values of a name -/
abbrev Zt.blk (Z : Zt) (s : Shared) (H : Hp) (scope : Scope) (C : Addr) (cl : List (Str × Addr)) (fp : List Addr) (vs : List Nat) : Zt := ⟨Z.X.blk s H scope (compEnvC scope cl C Z.X.env) fp, Z.CA, W0, ioB vs⟩
abbrev MTs (Z : Zt) (ifs : List Expr) (m : Sm Bool) (p : Bool) : Prop := PTs Z.X ifs (TT' Z.D Z.W p m)
theorem mts_nil {Z : Zt} : MTs Z [] (Sm.ret true) true := ⟨fun pins s σ H Q I q => by
  obtain ⟨env, G, Os, st, q⟩ := q
  exact pts_nil.run pins s σ H Q I (q G H Os st (Stp.id true))⟩
theorem mts_one {Z : Zt} {c : Expr} {m : Sm Bool} {p : Bool} (h : MT Z c m p) : MTs Z [c] m p := pts_one h
theorem me_lc {Z : Zt} {elt tg iter : Expr} {ifs : List Expr} {scope : Scope} {own : List (Str × Nat)} {pos : Pos} {f : Tg} {mt : Sm Bool} {me : Sm W} {mi : Sm (List W)} {p pt pe k : Bool} (hc : Z.X.calm = true) (hN : Z.X.N.Nodup) (hi : MI Z tg iter mi p) (ok : BlkOk Z.X.N Z.X.env.scope scope own)
    (hg : ∀ (s : Shared) (H : Hp) (C : Addr) (cl : List (Str × Addr)) (fp : List Addr), MG (Z.blk s H scope C cl fp (own.map (·.2))) tg f) (ht : ∀ (s : Shared) (H : Hp) (C : Addr) (cl : List (Str × Addr)) (fp : List Addr), MTs (Z.blk s H scope C cl fp (own.map (·.2))) ifs mt pt)
    (he : ∀ (s : Shared) (H : Hp) (C : Addr) (cl : List (Str × Addr)) (fp : List Addr), ME (Z.blk s H scope C cl fp (own.map (·.2))) elt me pe k) (hs : ∀ x, foldedSetIterable iter Z.X.env x = pure x := by intro _; rfl) :
    ME Z (.ListComp elt [⟨tg, iter, ifs, 0⟩] scope pos) (mComp (pt && pe) f mt me (own.map (·.2)) mi) (p && (pt && pe)) true := pe_imp (pe_lc hc hN hi ok hg ht he hs) fun σ H Q q => tx_lc q
theorem ms_setLc {Z : Zt} {i : Nat} {y : Str} {py : Pos} {elt tg iter : Expr} {ifs : List Expr} {scope : Scope} {own : List (Str × Nat)} {pos spos : Pos} {f : Tg} {mt : Sm Bool} {me : Sm W} {mi : Sm (List W)} {p pt pe k : Bool} (b : Bool) (hc : Z.X.calm = true) (hN : Z.X.N.Nodup) (hi : MI Z tg iter mi p) (ok : BlkOk Z.X.N Z.X.env.scope scope own)
    (hg : ∀ (s : Shared) (H : Hp) (C : Addr) (cl : List (Str × Addr)) (fp : List Addr), MG (Z.blk s H scope C cl fp (own.map (·.2))) tg f) (ht : ∀ (s : Shared) (H : Hp) (C : Addr) (cl : List (Str × Addr)) (fp : List Addr), MTs (Z.blk s H scope C cl fp (own.map (·.2))) ifs mt pt)
    (he : ∀ (s : Shared) (H : Hp) (C : Addr) (cl : List (Str × Addr)) (fp : List Addr), ME (Z.blk s H scope C cl fp (own.map (·.2))) elt me pe k)
    (hy : Z.X.N[i]? = some y := by rfl) (hyl : Z.X.env.scope.names.lookup y = some .local := by rfl) (hio : Z.io i = false := by rfl)
    (hsw : swapsWith (.ListComp elt [⟨tg, iter, ifs, 0⟩] scope pos) (some (.Name y py)) spos.line Z.X.env = pure true := by exact sw_true rfl rfl rfl (by decide +kernel)) (hs : ∀ x, foldedSetIterable iter Z.X.env x = pure x := by intro _; rfl) :
    MS Z (.Assign [.Name y py] (.ListComp elt [⟨tg, iter, ifs, 0⟩] scope pos) spos) (sSet i true (cond b (mComp (pt && pe) f mt me (own.map (·.2)) mi) (mFz (mComp (pt && pe) f mt me (own.map (·.2)) mi)))) := by
  have core := ps_setLc (X := Z.X) (i := i) (py := py) (spos := spos) (pos := pos) (g := TGx Z.D (ioB (own.map (·.2))) f) (tt := TT' Z.D W0 pt mt) (te := TX Z.D W0 pe k me) hc hN hy hyl hsw hi ok hg ht he hs
  refine ⟨fun pins sh σ H D I q => ?_⟩
  have hlen := I.len
  refine core.run pins sh σ H D I ?_
  have fin : ∀ {m : Sm W} {p : Bool}, TSx Z.D Z.W Z.io (sSet i true m) D σ H → TX Z.D Z.W p true m σ H fun v H' => D.nx (σ.set i (some v)) H' := by
    intro m p q
    obtain ⟨env, G, Os, s, q⟩ := q
    refine ⟨env, G, Os, s, ?_⟩
    unfold sSet Sm.bind at q
    cases e : m env with
    | bad => rw [e] at q; exact q
    | ex c env1 =>
      rw [e] at q
      exact fun G' H' Os' s' t => q σ G' H' Os' s' t.st (IoS.refl _)
    | ok w env1 =>
      rw [e] at q
      intro v G' H' Os' Ow s' r o t
      simp only [Bool.true_or, if_true] at q
      obtain ⟨s2, inn⟩ := s'.put i (by rw [hlen]; exact (List.getElem?_eq_some_iff.mp hy).1) r o
      exact q (σ.set i (some v)) G' H' (Os'.set i Ow) s2 (t.gen.less inn) (IoS.set hio)
  cases b with
  | true => exact tx_lc (Q := fun v H' => D.nx (σ.set i (some v)) H') (fin (p := p && (pt && pe)) q)
  | false =>
    have z := fin (p := p && (pt && pe)) q
    -- frozen: by me_fz's reading
    refine tx_lc (Q := fun v H' => D.nx (σ.set i (some v)) H') ?_
    exact tx_fz z
end Ev

namespace Ev
open PySem PySem.Spec L2

/-! ### an owned list at a slot, changed -/
theorem Sl.atOwn {D : Dn} {G H : Hp} {env : List W} {σ : St} {Os : List (List Addr)} {i : Nat} {xs : List W} (s : Sl D G H env σ Os) (e : env[i]? = some (.lst true xs)) : ∃ a vs, σ[i]? = some (some (.ref a)) ∧ Os[i]? = some [a] ∧ H a = some (.lst vs) ∧ RFs D G xs vs := by
  obtain ⟨sv, O, h1, h2, h3⟩ := s.at e
  rcases h3 with ⟨v, rfl, a, vs, rfl, rfl, h4, h5⟩ | ⟨z, _⟩
  · exact ⟨a, vs, h1, h2, h4, h5⟩
  · cases z
theorem once {i : Nat} {a : Addr} : ∀ {Os : List (List Addr)}, Os.flatten.Nodup → Os[i]? = some [a] → a ∉ (Os.set i []).flatten := fun {Os} nd e z => by
  have pm := flat_set (O' := []) e
  rw [List.append_nil] at pm
  exact (List.nodup_append.mp (pm.nodup_iff.mpr nd)).2.2 a z a List.mem_cons_self rfl
theorem StOk.mut {D : Dn} {G H : Hp} {env : List W} {σ : St} {Os : List (List Addr)} {i : Nat} {a : Addr} {vs vs' : List V} {xs' : List W} (s : StOk D G H env σ Os) (h1 : σ[i]? = some (some (.ref a))) (h2 : Os[i]? = some [a]) (h3 : H a = some (.lst vs)) (r : RFs D G xs' vs') :
    StOk D G (upd H a (.lst vs')) (env.set i (.lst true xs')) σ Os ∧ Step G H Os.flatten G (upd H a (.lst vs')) Os.flatten := by
  have ha : a ∈ Os.flatten := List.mem_flatten.mpr ⟨_, List.mem_of_getElem? h2, List.mem_cons_self⟩
  have ga : G a = none := s.gn a ha
  have no := once s.nd h2
  constructor
  · refine ⟨?_, fun b x hb => ?_, s.gn, s.nd⟩
    · have s0 : Sl D G (upd H a (.lst vs')) (env.set i .dead) σ (Os.set i []) := (s.sl.kill1 i).mono (Sub.refl _) fun b hb x hx => by
        rw [upd_ne (fun e => no (by rw [← e]; exact hb))]; exact hx
      have s1 := Sl.set (D := D) (G := G) (H := upd H a (.lst vs')) (w := .lst true xs') (s := some (.ref a)) (O := [a]) (.inl ⟨.ref a, rfl, a, vs', rfl, rfl, upd_same, r⟩) i s0
      rw [set_self h1] at s1
      rw [List.set_set, List.set_set, set_self h2] at s1
      exact s1
    · rw [upd_ne (ne_of_none hb ga)]; exact s.sub b x hb
  · exact ⟨Sub.refl _, fun b x hb hn => by rw [upd_ne (fun e => hn (by rw [e]; exact ha))]; exact hb, fun _ _ _ _ _ h => h, fun _ h => .inl h⟩
/-- a method that changes a list's items: its answer, the items behind it -/
abbrev MutF := List W → List W → Option (W × List W)
def MutS (Z : Zt) (id : String) (F : MutF) : Prop := ∃ r, MtR Z.X id r ∧ ∀ (G H : Hp) (a : Addr) (xs ws : List W) (vs us : List V) (w : W) (xs' : List W) (Q : VK), Sub G H → H a = some (.lst vs) → RFs Z.D G xs vs → RFs Z.D G ws us → F xs ws = some (w, xs') →
  (∀ v vs', RF Z.D G w v → RFs Z.D G xs' vs' → Q v (upd H a (.lst vs'))) → r (.ref a) us H Q
def mMut (i : Nat) (F : MutF) (m : Sm (List W)) : Sm W := fun env => match env[i]? with
  | some (.lst true _) => match m env with
    | .ok ws env1 => match env1[i]? with
      | some (.lst true xs) => match F xs ws with
        | some (w, xs') => .ok w (env1.set i (.lst true xs'))
        | none => .bad
      | _ => .bad
    | .ex c env1 => .ex c env1
    | .bad => .bad
  | _ => .bad
theorem tx_mut {Z : Zt} {id : String} {i : Nat} {F : MutF} {m : Sm (List W)} {p : Bool} {σ : St} {H : Hp} {Q : VK} {r : V → List V → Hp → VK → Prop}
    (hr : ∀ (G H : Hp) (a : Addr) (xs ws : List W) (vs us : List V) (w : W) (xs' : List W) (Q : VK), Sub G H → H a = some (.lst vs) → RFs Z.D G xs vs → RFs Z.D G ws us → F xs ws = some (w, xs') → (∀ v vs', RF Z.D G w v → RFs Z.D G xs' vs' → Q v (upd H a (.lst vs'))) → r (.ref a) us H Q)
    (q : TX Z.D Z.W false true (mMut i F m) σ H Q) : tVar i σ H fun x H1 => tyV Z.X.K "list" x H1 ∧ TA' Z.D Z.W p m σ H1 fun us H2 => r x us H2 Q := by
  obtain ⟨env, G, Os, s, q⟩ := q
  unfold mMut at q
  cases e : env[i]? with
  | none => rw [e] at q; exact q.elim
  | some w0 =>
    have key : ∃ xs0, w0 = .lst true xs0 := by
      rw [e] at q
      cases w0 <;> first
        | exact q.elim
        | (rename_i b _; cases b <;> first | exact q.elim | exact ⟨_, rfl⟩)
    obtain ⟨xs0, rfl⟩ := key
    rw [e] at q
    obtain ⟨a, vs0, h1, h2, h3, h4⟩ := s.sl.atOwn e
    refine ⟨.ref a, h1, .inl ⟨rfl, _, SqL.of h3⟩, env, G, Os, s, ?_⟩
    cases em : m env with
    | bad => simp only [em] at q
    | ex c env1 =>
      simp only [em] at q
      exact fun G' H' Os' s' t => q G' H' Os' s' t.gen
    | ok ws env1 =>
      simp only [em] at q
      intro us G1 H1 Os1 s1 r1 t1
      cases e1 : env1[i]? with
      | none => simp only [e1] at q
      | some w1 =>
        have key1 : ∃ xs1, w1 = .lst true xs1 := by
          cases w1 <;> first
            | (exfalso; simp only [e1] at q; done)
            | (rename_i b _; cases b <;> first | (exfalso; simp only [e1] at q; done) | exact ⟨_, rfl⟩)
        obtain ⟨xs1, rfl⟩ := key1
        simp only [e1] at q
        obtain ⟨a', vs1, g1, g2, g3, g4⟩ := s1.sl.atOwn e1
        rw [h1] at g1
        cases g1
        cases eF : F xs1 ws with
        | none => simp only [eF] at q
        | some ww =>
          obtain ⟨w, xs'⟩ := ww
          simp only [eF] at q
          refine hr G1 H1 a xs1 ws vs1 us w xs' Q s1.sub g3 g4 r1 eF fun v vs' rv rvs => ?_
          obtain ⟨s2, t2⟩ := s1.mut h1 g2 g3 rvs
          refine q v G1 _ Os1 [] s2 (RO.ofF rv) (OwnK.nil s2) ?_
          show Step G H Os.flatten G1 _ (Os1.flatten ++ [])
          rw [List.append_nil]
          exact t1.st.trans t2
section
variable {Z : Zt} {o e : Expr} {es : List Expr} {i : Nat} {F : MutF} {m : Sm (List W)} {p : Bool} {name : Str} {id : String} {apos cpos : Pos}
theorem me_mut (slot : Slot "list" name id) (hty : typeOf (.builtin id) = pure (.type "method_descriptor")) (hm : MutS Z id F) (ho : PE Z.X o (tVar i)) (ha : MA Z (e :: es) m p)
    (hbase : attributeBase o name Z.X.env (eval o Z.X.env) = eval o Z.X.env := by rfl)
    (hfew : ((backTo cpos (starEach (e :: es) Z.X.env)).all (fun x => !x.1) && (backToKw cpos (keywordEach [] Z.X.env)).all (fun x => x.1.isSome)
      && decide ((e :: es).length + ([] : List Keyword).length + (if ([] : List Keyword).isEmpty then 0 else 1) < 30)) = true := by rfl)
    (hline : (apos.endLine == cpos.line) = true := by rfl) (hs : starEach (e :: es) Z.X.env = (false, eval e Z.X.env) :: starEach es Z.X.env := by rfl) (hplain : (backTo cpos (starEach es Z.X.env)).any (·.1) = false := by rfl) :
    ME Z (.Call (.Attribute o name apos) (e :: es) [] cpos) (mMut i F m) false true := by
  obtain ⟨r, h1, h2⟩ := hm
  exact pe_imp (pe_bm PySem.F.plainAttrs_list slot hty h1 ho ha hbase hfew hline hs hplain) fun σ H Q q => tx_mut (id := id) h2 q
theorem me_mut0 (slot : Slot "list" name id) (hty : typeOf (.builtin id) = pure (.type "method_descriptor")) (hm : MutS Z id F) (ho : PE Z.X o (tVar i))
    (hbase : attributeBase o name Z.X.env (eval o Z.X.env) = eval o Z.X.env := by rfl) (hline : (apos.endLine == cpos.line) = true := by rfl) :
    ME Z (.Call (.Attribute o name apos) [] [] cpos) (mMut i F mNil) false true := by
  obtain ⟨r, h1, h2⟩ := hm
  refine pe_imp (pe_bm0 PySem.F.plainAttrs_list slot hty h1 ho hbase hline) fun σ H Q q => ?_
  obtain ⟨v, hv, hty', z⟩ := tx_mut (id := id) (p := true) h2 q
  obtain ⟨env, G, Os, s, z⟩ := z
  exact ⟨v, hv, hty', z [] G H Os s rfl (Stp.id true)⟩
def fAppend : MutF := fun xs ws => match ws with
  | [w] => if xs.length < sizeLine then some (.non, xs ++ [w]) else none
  | _ => none
def fExtend : MutF := fun xs ws => match ws with
  | [.lst false ys] => if xs.length + ys.length ≤ sizeLine then some (.non, xs ++ ys) else none
  | _ => none
def fPop : MutF := fun xs ws => match ws with
  | [] => (xs[xs.length - 1]?).map fun w => (w, xs.dropLast)
  | _ => none
theorem RFs.dropLast {D : Dn} {G : Hp} {ws : List W} {vs : List V} (h : RFs D G ws vs) : RFs D G ws.dropLast vs.dropLast := by
  rw [List.dropLast_eq_take, List.dropLast_eq_take, h.len]
  exact h.take _
theorem mut_append : MutS Z "list.append" fAppend := ⟨_, mt_append, fun G H a xs ws vs us w xs' Q s h r1 r2 e q => by
  unfold fAppend at e
  split at e
  · rename_i y
    by_cases hl : xs.length < sizeLine
    · rw [if_pos hl] at e
      cases e
      obtain ⟨u, _, rfl, h1, h2⟩ := r2
      cases h2
      exact ⟨a, vs, u, rfl, rfl, h, by rw [← r1.len]; exact hl, q _ _ rfl (r1.append ⟨u, [], rfl, h1, rfl⟩)⟩
    · rw [if_neg hl] at e; cases e
  · cases e⟩
theorem mut_pop : MutS Z "list.pop" fPop := ⟨_, mt_pop, fun G H a xs ws vs us w xs' Q s h r1 r2 e q => by
  unfold fPop at e
  split at e
  · cases e1 : xs[xs.length - 1]? with
    | none => rw [e1] at e; cases e
    | some y =>
      rw [e1] at e
      cases e
      cases r2
      obtain ⟨v, h1, h2⟩ := r1.get e1
      rw [r1.len] at h1
      exact ⟨a, vs, v, rfl, rfl, h, h1, q _ _ h2 r1.dropLast⟩
  · cases e⟩
theorem me_append (ho : PE Z.X o (tVar i)) (ha : MA Z [e] m p) (hbase : attributeBase o "append" Z.X.env (eval o Z.X.env) = eval o Z.X.env := by rfl)
    (hfew : ((backTo cpos (starEach [e] Z.X.env)).all (fun x => !x.1) && (backToKw cpos (keywordEach [] Z.X.env)).all (fun x => x.1.isSome)
      && decide ([e].length + ([] : List Keyword).length + (if ([] : List Keyword).isEmpty then 0 else 1) < 30)) = true := by rfl)
    (hline : (apos.endLine == cpos.line) = true := by rfl) (hs : starEach [e] Z.X.env = (false, eval e Z.X.env) :: starEach [] Z.X.env := by rfl) :
    ME Z (.Call (.Attribute o "append" apos) [e] [] cpos) (mMut i fAppend m) false true := me_mut PySem.F.slot_list_append PySem.F.type_list_append mut_append ho ha hbase hfew hline hs rfl
theorem me_pop (ho : PE Z.X o (tVar i)) (hbase : attributeBase o "pop" Z.X.env (eval o Z.X.env) = eval o Z.X.env := by rfl) (hline : (apos.endLine == cpos.line) = true := by rfl) :
    ME Z (.Call (.Attribute o "pop" apos) [] [] cpos) (mMut i fPop mNil) false true := me_mut0 PySem.F.slot_list_pop PySem.F.type_list_pop mut_pop ho hbase hline
end

/-! ### x[e1] = e2, x an owned list of the frame -/
def stoAt (i : Nat) (w j : W) (env : List W) : Out Fl := match env[i]? with
  | some (.lst true xs) => match j with
    | .int n => match ixN xs.length n with
      | some k => .ok .nx (env.set i (.lst true (xs.set k w)))
      | none => .bad
    | _ => .bad
  | _ => .bad
def sSto (i : Nat) (mi me : Sm W) : Sm Fl := Sm.bind me fun w env => if w.frz = true then match env[i]? with
  | some (.lst true _) => Sm.bind mi (fun j => stoAt i w j) env
  | _ => .bad
  else .bad
theorem RFs.set {D : Dn} {G : Hp} {w : W} {v : V} (r : RF D G w v) : ∀ {ws : List W} {vs : List V} (k : Nat), RFs D G ws vs → RFs D G (ws.set k w) (vs.set k v)
  | [], _, k, h => by rw [show _ = [] from h]; exact rfl
  | _ :: _, _, 0, h => by
    obtain ⟨u, us, rfl, h1, h2⟩ := h
    exact ⟨v, us, rfl, r, h2⟩
  | _ :: _, _, k + 1, h => by
    obtain ⟨u, us, rfl, h1, h2⟩ := h
    exact ⟨u, _, rfl, h1, RFs.set r k h2⟩
theorem ms_sto {Z : Zt} {o ix e : Expr} {i : Nat} {mi me : Sm W} {p1 p2 k1 k2 : Bool} {pos spos : Pos} (he : ME Z e me p2 k2) (ho : PE Z.X o (tVar i)) (hi : ME Z ix mi p1 k1)
    (ha : ∀ v, assign (.Subscript o ix spos) Z.X.env v = (do
      let ov ← holding [v] (eval o Z.X.env)
      let iv ← holding [v, ov] (eval ix Z.X.env)
      standAt spos
      holding [v, ov, iv] (setItem ov iv v)
      release [v, ov, iv] []) := by intro _; rfl)
    (hs : swapsWithSole [.Subscript o ix spos] e pos.line Z.X.env = pure false := by rfl) (hw : swappedStores [.Subscript o ix spos] e Z.X.env = pure none := by rfl)
    (h1 : (assignEach [.Subscript o ix spos] Z.X.env).map (·.2) = [assign (.Subscript o ix spos) Z.X.env] := by rfl) : MS Z (.Assign [.Subscript o ix spos] e pos) (sSto i mi me) :=
  ps_imp (ps_asg he (pg_sub ho hi set_list ha) hs hw h1) fun E σ H q => by
    obtain ⟨env, G, Os, s, q⟩ := q
    refine ⟨env, G, Os, s, ?_⟩
    unfold sSto Sm.bind at q
    cases e : me env with
    | bad => rw [e] at q; exact q
    | ex c env1 =>
      rw [e] at q
      exact fun G' H' Os' s' t => q σ G' H' Os' s' t.st (IoS.refl _)
    | ok w env1 =>
      rw [e] at q
      intro v G1 H1 Os1 Ow s1 r o t
      by_cases hf : w.frz = true
      · simp only [if_pos hf] at q
        obtain ⟨rfl, rf⟩ := r.toF hf
        cases e0 : env1[i]? with
        | none => simp only [e0] at q; exact q.elim
        | some w0 =>
          have key : ∃ xs0, w0 = .lst true xs0 := by
            cases w0 <;> first
              | (simp only [e0] at q; exact q.elim)
              | (rename_i b _; cases b <;> first | (simp only [e0] at q; exact q.elim) | exact ⟨_, rfl⟩)
          obtain ⟨xs0, rfl⟩ := key
          obtain ⟨a, vs0, h1, h2, h3, h4⟩ := s1.sl.atOwn e0
          simp only [e0] at q
          refine ⟨.ref a, h1, env1, G1, Os1, s1, ?_⟩
          cases e2 : mi env1 with
          | bad => simp only [e2] at q; exact q.elim
          | ex c env2 =>
            simp only [e2] at q
            exact fun G' H' Os' s' t' => q σ G' H' Os' s' (t.st.trans t'.st) (IoS.refl _)
          | ok j env2 =>
            simp only [e2] at q
            intro jv G2 H2 Os2 Oj s2 rj oj t2
            unfold stoAt at q
            cases e3 : env2[i]? with
            | none => simp only [e3] at q; exact q.elim
            | some w1 =>
              have key1 : ∃ xs1, w1 = .lst true xs1 := by
                cases w1 <;> first
                  | (simp only [e3] at q; exact q.elim)
                  | (rename_i b _; cases b <;> first | (simp only [e3] at q; exact q.elim) | exact ⟨_, rfl⟩)
              obtain ⟨xs1, rfl⟩ := key1
              simp only [e3] at q
              obtain ⟨a', vs1, g1, g2, g3, g4⟩ := s2.sl.atOwn e3
              rw [h1] at g1
              cases g1
              cases j with
              | int n =>
                cases e4 : ixN xs1.length n with
                | none => simp only [e4] at q; exact q.elim
                | some k =>
                  simp only [e4] at q
                  obtain ⟨_, rfl⟩ := rj
                  obtain ⟨s3, t3⟩ := s2.mut h1 g2 g3 (g4.set (RF.mono t2.gen.mono _ _ rf) k)
                  exact ⟨a, vs1, n, k, rfl, rfl, g3, by rw [← g4.len]; exact e4, q σ G2 _ Os2 s3 ((t.st.trans t2.st).trans t3) (IoS.refl _)⟩
              | _ => simp only at q; exact q.elim
      · simp only [if_neg hf] at q
        exact q.elim
end Ev

namespace Ev
open PySem PySem.Spec L2

/-! ### a slot seen as frozen from here on -/
def gFz (i : Nat) : Sm Unit := fun env => match env[i]? with
  | some (.lst true xs) => .ok () (env.set i (.lst false xs))
  | _ => .bad
def sGo (g : Sm Unit) (m : Sm Fl) : Sm Fl := Sm.bind g fun _ => m
theorem StOk.fz {D : Dn} {G H : Hp} {env : List W} {σ : St} {Os : List (List Addr)} {i : Nat} {xs : List W} (s : StOk D G H env σ Os) (e : env[i]? = some (.lst true xs)) :
    ∃ G', StOk D G' H (env.set i (.lst false xs)) σ (Os.set i []) ∧ Step G H Os.flatten G' H (Os.set i []).flatten := by
  obtain ⟨a, vs, h1, h2, h3, h4⟩ := s.sl.atOwn e
  have ha : a ∈ Os.flatten := List.mem_flatten.mpr ⟨_, List.mem_of_getElem? h2, List.mem_cons_self⟩
  have ga := s.gn a ha
  have mono : Sub G (upd G a (.lst vs)) := sub_new ga
  have no := once s.nd h2
  refine ⟨upd G a (.lst vs), ⟨?_, fun b x hb => ?_, fun b hb => ?_, flat_nd s.nd⟩, mono, fun b x hb _ => hb, fun b x hb hn _ g => ?_, fun b hb => .inl (flat_sub b hb)⟩
  · have s0 : Sl D (upd G a (.lst vs)) H env σ Os := s.sl.mono mono fun _ _ _ h => h
    have z := Sl.set (D := D) (G := upd G a (.lst vs)) (H := H) (w := .lst false xs) (s := some (.ref a)) (O := []) (.inl ⟨.ref a, rfl, rfl, a, vs, rfl, upd_same, RFs.mono mono _ _ h4⟩) i s0
    rwa [set_self h1] at z
  · by_cases eb : b = a
    · subst eb
      rw [upd_same] at hb
      cases hb
      exact h3
    · rw [upd_ne eb] at hb; exact s.sub b x hb
  · have nb : b ≠ a := fun e => no (by rw [← e]; exact hb)
    rw [upd_ne nb]; exact s.gn b (flat_sub b hb)
  · have nb : b ≠ a := fun e => hn (by rw [e]; exact ha)
    rw [upd_ne nb]; exact g
theorem mss_fz {Z : Zt} {st : List Stmt} {m : Sm Fl} (i : Nat) (h : MSs Z st m) : MSs Z st (sGo (gFz i) m) := pss_imp h fun E σ H q => by
  obtain ⟨env, G, Os, s, q⟩ := q
  unfold sGo gFz Sm.bind at q
  cases e : env[i]? with
  | none => simp only [e] at q; exact q.elim
  | some w =>
    have key : ∃ xs, w = .lst true xs := by
      cases w <;> first
        | (exfalso; simp only [e] at q; exact q.elim)
        | (rename_i b _; cases b <;> first | (exfalso; simp only [e] at q; exact q.elim) | exact ⟨_, rfl⟩)
    obtain ⟨xs, rfl⟩ := key
    simp only [e] at q
    obtain ⟨G', s', t⟩ := s.fz e
    exact TSx.on s' t (IoS.refl _) q

/-! ### raise -/
structure ClsT (K : PySem.W.Frag) (mg : Str → Option Value) (CA : Nat → Addr) (x : Str) (c : Nat) : Prop where
  g : mg x = some (.ref (CA c))
  x : PySem.W.excIn K (CA c) [.type "ValueError", .type "Exception", .type "BaseException", .type "object"] "ValueError.__new__" = true
  k : PySem.W.keepIn K (.ref (CA c)) = true
  b : PySem.W.subIn K (.ref (CA c)) (.type "BaseException") = some true
  t : PySem.W.typeIn K (.ref (CA c)) = some (.type "type")
def sRaise (c : Nat) : Sm Fl := fun env => .ex c env
theorem ms_raise {Z : Zt} {x msg : Str} {c j : Nat} {p p2 pos pos2 : Pos} (C : ClsT Z.X.K Z.X.mg Z.CA x c) (hc : Z.X.calm = true) (tk : Takes Z.X Z.W) (hg : Gl Z.X x) (hdb : (x == ("__debug__" : Str)) = false := by decide) : MS Z (.Raise (some (.Call (.Name x p) [.Constant (.str msg) j p2] [] pos2)) none pos) (sRaise c) :=
  ps_imp (ps_raise hc tk (pmk_own PySem.F.excBase_ValueError C.x C.g C.k (raises_own C.b C.t) hg hdb)) fun E σ H q => by
    obtain ⟨env, G, Os, s, q⟩ := q
    exact q σ G H Os s (Step.refl _ _ _) (IoS.refl _)

/-! ### a def by its body -/
def maskL : List Bool → List W → List W
  | [], _ => []
  | b :: bs, [] => .dead :: maskL bs []
  | b :: bs, w :: env => cond b w .dead :: maskL bs env
def fnSem (N : Nat) (io : List Bool) (body : Sm Fl) : Fn := fun ws => match body (ws ++ List.replicate (N - ws.length) .dead) with
  | .ok (.rt w) env => .ok w (maskL io env)
  | .ok .nx env => .ok .non (maskL io env)
  | .ok _ _ => .bad
  | .ex c env => .ex c (maskL io env)
  | .bad => .bad
def ioF (io : List Bool) : Nat → Bool := fun i => io.getD i false
theorem ROs.slots {D : Dn} {G H : Hp} : ∀ {ws : List W} {vs : List V} {O : List Addr}, ROs D G H ws vs O → ∃ Os, Os.flatten = O ∧ Sl D G H ws (vs.map some) Os
  | [], _, _, h => ⟨[], by rw [h.2]; rfl, by rw [h.1]; exact ⟨rfl, rfl⟩⟩
  | w :: ws, _, _, h => by
    obtain ⟨v, r, O1, O2, rfl, rfl, h1, h2⟩ := h
    obtain ⟨Os, e, s⟩ := ROs.slots h2
    exact ⟨O1 :: Os, by rw [List.flatten_cons, e], some v, _, O1, Os, rfl, rfl, .inl ⟨v, rfl, h1⟩, s⟩
theorem Sl.app {D : Dn} {G H : Hp} : ∀ {env env' : List W} {σ σ' : St} {Os Os' : List (List Addr)}, Sl D G H env σ Os → Sl D G H env' σ' Os' → Sl D G H (env ++ env') (σ ++ σ') (Os ++ Os')
  | [], _, _, _, _, _, h, k => by rw [h.1, h.2]; exact k
  | w :: env, _, _, _, _, _, h, k => by
    obtain ⟨s, σ', O, Os', rfl, rfl, h1, h2⟩ := h
    exact ⟨s, _, O, _, rfl, rfl, h1, Sl.app h2 k⟩
theorem Sl.deads {D : Dn} {G H : Hp} : ∀ n : Nat, Sl D G H (List.replicate n .dead) (List.replicate n none) (List.replicate n [])
  | 0 => ⟨rfl, rfl⟩
  | n + 1 => ⟨none, _, [], _, rfl, rfl, .inr ⟨rfl, rfl⟩, Sl.deads n⟩
theorem flat_reps : ∀ n : Nat, (List.replicate n ([] : List Addr)).flatten = []
  | 0 => rfl
  | n + 1 => by rw [List.replicate_succ, List.flatten_cons, flat_reps n]; rfl
/-- at the end: what the parameters' things hold -/
theorem Sl.mask {D : Dn} {G H : Hp} : ∀ {io : List Bool} {env : List W} {σ' : St} {Os : List (List Addr)} {vs : List V}, Sl D G H env σ' Os → vs.length = io.length → (∀ i, io.getD i false = true → σ'[i]? = some vs[i]?) →
    ∃ O, ROs D G H (maskL io env) vs O ∧ List.Sublist O Os.flatten
  | [], env, σ', Os, vs, s, hl, h => by
    have e : vs = [] := List.eq_nil_of_length_eq_zero hl
    subst e
    exact ⟨[], ⟨rfl, rfl⟩, List.nil_sublist _⟩
  | b :: io, [], σ', Os, v :: vs, s, hl, h => by
    obtain ⟨rfl, rfl⟩ := s
    obtain ⟨O, r, sub⟩ := Sl.mask (io := io) (env := []) (σ' := []) (Os := []) (vs := vs) ⟨rfl, rfl⟩ (Nat.succ.inj hl) fun i hi => by
      have z := h (i + 1) hi
      simp at z
    exact ⟨O, ⟨v, vs, [], O, rfl, rfl, rfl, r⟩, sub⟩
  | b :: io, w :: env, σ', Os, v :: vs, s, hl, h => by
    obtain ⟨sv, σ2, O1, Os2, rfl, rfl, h1, h2⟩ := s
    obtain ⟨O, r, sub⟩ := Sl.mask (io := io) h2 (Nat.succ.inj hl) fun i hi => by
      have z := h (i + 1) hi
      simpa using z
    cases b with
    | false => exact ⟨O, ⟨v, vs, [], O, rfl, rfl, rfl, r⟩, by rw [List.flatten_cons]; exact sub.trans (List.sublist_append_right _ _)⟩
    | true =>
      have z := h 0 rfl
      simp at z
      rcases h1 with ⟨v', e1, h1⟩ | ⟨e1, e2⟩
      · rw [z] at e1
        cases e1
        exact ⟨O1 ++ O, ⟨v, vs, O1, O, rfl, rfl, h1, r⟩, by rw [List.flatten_cons]; exact sub.append_left _⟩
      · subst e1 e2
        exact ⟨O, ⟨v, vs, [], O, rfl, rfl, rfl, r⟩, by rw [List.flatten_cons]; exact sub⟩
  | b :: io, env, σ', Os, [], s, hl, h => nomatch hl
/-- the configuration of a def's body -/
abbrev Zf (P : Program) (w : World) (K : PySem.W.Frag) (mg : Str → Option Value) (base : Heap) (CA : Nat → Addr) (N : List Str) (qual : Str) (scope : Scope) (f : Addr) (cd : Value) (A : Around) (outer : List Env) (s : Shared) (H : Hp) (E : XK) (io : List Bool) : Zt :=
  ⟨cxOf (L2.CX P w) P w K mg base N qual scope f cd A outer s H E, CA, fun cls d _ H' => E cls d H', ioF io⟩
theorem fn_body {P : Program} {w : World} {K : PySem.W.Frag} {mg : Str → Option Value} {base : Heap} {CA : Nat → Addr} {x qual : Str} {st : Stmt} {f : Addr} {fd : FuncData} {N ps : List Str} {k : Nat} {io : List Bool} {body : Sm Fl} {nN : Nat} (F : Fun K x qual st f fd) (S : FnScope N ps (defScope st)) (hn : N.length = nN)
    (hio : io.length = ps.length) (hbody : ∀ (cdv : Value) (A : Around) (outer : List Env) (s : Shared) (H : Hp) (E : XK), Room k (A.deeper (PyProof.Rows.envOfC qual (defScope st) s.heap.objs.size f cdv)) →
      MSs (Zf P w K mg base CA N qual (defScope st) f cdv A outer s H E io) (defBody st) body) : FnOk P w K mg base (L2.CX P w) (k + 1) f fd ps (spOf ⟨K, CA⟩ ps.length (fnSem nN io body)) := by
  refine F.okX S (fun vs H Q E h => h.1) fun cdv A outer s H vs Q E hr hsp => ⟨_, hbody cdv A outer s H E hr, ?_⟩
  obtain ⟨hl, ws, G, O, sub, ro, nd, gn, q⟩ := hsp
  obtain ⟨Os, e, sl⟩ := ro.slots
  have lw : ws.length = vs.length := ro.len
  have hlN : ps.length ≤ N.length := by have := congrArg List.length S.pre; rw [List.length_take] at this; omega
  refine ⟨ws ++ List.replicate (nN - ws.length) .dead, G, Os ++ List.replicate (nN - ws.length) [], ⟨?_, sub, ?_, ?_⟩, ?_⟩
  · have z := sl.app (Sl.deads (D := ⟨K, CA⟩) (G := G) (H := H) (nN - ws.length))
    unfold L2.start
    rw [hn, ← lw]
    exact z
  · rw [List.flatten_append, flat_reps, List.append_nil, e]; exact gn
  · rw [List.flatten_append, flat_reps, List.append_nil, e]; exact nd
  have fO : (Os ++ List.replicate (nN - ws.length) ([] : List Addr)).flatten = O := by rw [List.flatten_append, flat_reps, List.append_nil, e]
  have slot : ∀ {σ' : St}, IoS (ioF io) (start N vs) σ' → ∀ i, io.getD i false = true → σ'[i]? = some vs[i]? := fun {σ'} h i hi => by
    rw [h i hi]
    have hi' : i < io.length := by
      rcases Nat.lt_or_ge i io.length with z | z
      · exact z
      · rw [List.getD_eq_getElem?_getD, List.getElem?_eq_none z] at hi; cases hi
    have hv : i < vs.length := by rw [hl, ← hio]; exact hi'
    unfold L2.start
    rw [List.getElem?_append_left (by rw [List.length_map]; exact hv), List.getElem?_map, List.getElem?_eq_getElem hv]
    rfl
  have fin : ∀ {env' : List W} {σ' : St} {G' H' : Hp} {Os' : List (List Addr)} {Ow : List Addr}, StOk ⟨K, CA⟩ G' H' env' σ' Os' → (Os'.flatten ++ Ow).Nodup → (∀ a ∈ Ow, G' a = none) → Step G H O G' H' (Os'.flatten ++ Ow) → IoS (ioF io) (start N vs) σ' →
      ∃ O', ROs ⟨K, CA⟩ G' H' (maskL io env') vs O' ∧ (O' ++ Ow).Nodup ∧ (∀ a ∈ O' ++ Ow, G' a = none) ∧ Step G H O G' H' (O' ++ Ow) := fun {env' σ' G' H' Os' Ow} s nd gn st io' => by
    obtain ⟨O', r, sl⟩ := s.sl.mask (by rw [hl, hio]) (slot io')
    have s2 : List.Sublist (O' ++ Ow) (Os'.flatten ++ Ow) := List.Sublist.append sl (List.Sublist.refl _)
    refine ⟨O', r, nd.sublist s2, fun a ha => ?_, st.less fun a ha => s2.subset ha⟩
    rcases List.mem_append.mp ha with z | z
    · exact s.gn a (sl.subset z)
    · exact gn a z
  unfold fnSem at q
  cases eb : body (ws ++ List.replicate (nN - ws.length) .dead) with
  | bad => simp only [eb] at q
  | ex c env' =>
    simp only [eb] at q
    intro σ' G' H' Os' s' t io'
    rw [fO] at t
    obtain ⟨O', a1, a2, a3, a4⟩ := fin (Ow := []) s' (by rw [List.append_nil]; exact s'.nd) (fun _ z => nomatch z) (by rw [List.append_nil]; exact t) io'
    rw [List.append_nil] at a2 a3 a4
    exact q G' H' O' s'.sub a1 a2 a3 a4
  | ok fl env' =>
    cases fl with
    | nx =>
      simp only [eb] at q
      intro σ' G' H' Os' s' t io'
      rw [fO] at t
      obtain ⟨O', a1, a2, a3, a4⟩ := fin (Ow := []) s' (by rw [List.append_nil]; exact s'.nd) (fun _ z => nomatch z) (by rw [List.append_nil]; exact t) io'
      exact q .non G' H' O' [] s'.sub a1 ⟨rfl, rfl⟩ a2 a3 a4
    | bk => simp only [eb] at q
    | ct => simp only [eb] at q
    | rt w =>
      simp only [eb] at q
      intro v σ' G' H' Os' Ow s' r o t io'
      rw [fO] at t
      obtain ⟨O', a1, a2, a3, a4⟩ := fin s' o.1 o.2 t io'
      exact q v G' H' O' Ow s'.sub a1 r a2 a3 a4
/-- a def of the module, by its body -/
theorem fnt_body {P : Program} {w : World} {K : PySem.W.Frag} {mg : Str → Option Value} {base : Heap} {CA : Nat → Addr} {x qual : Str} {st : Stmt} {f : Addr} {fd : FuncData} {N ps : List Str} {k n : Nat} {io : List Bool} {body : Sm Fl} {nN : Nat} (F : Fun K x qual st f fd) (g : mg x = some (.ref f)) (hb : Binds K fd ps []) (S : FnScope N ps (defScope st)) (hn : N.length = nN)
    (hio : io.length = ps.length) (hps : ps.length = n) (hbody : ∀ (cdv : Value) (A : Around) (outer : List Env) (s : Shared) (H : Hp) (E : XK), Room k (A.deeper (PyProof.Rows.envOfC qual (defScope st) s.heap.objs.size f cdv)) →
      MSs (Zf P w K mg base CA N qual (defScope st) f cdv A outer s H E io) (defBody st) body) : FnT P w K mg base CA x n (k + 1) (fnSem nN io body) := by
  subst hps
  exact ⟨f, fd, ps, fn_body F S hn hio hbody, g, F.kp, hb⟩
/-- what a body may use -/
theorem zf_takes {P : Program} {w : World} {K : PySem.W.Frag} {mg : Str → Option Value} {base : Heap} {CA : Nat → Addr} {N : List Str} {qual : Str} {scope : Scope} {f : Addr} {cd : Value} {A : Around} {outer : List Env} {s : Shared} {H : Hp} {E : XK} {io : List Bool} :
    Takes (Zf P w K mg base CA N qual scope f cd A outer s H E io).X (Zf P w K mg base CA N qual scope f cd A outer s H E io).W := takes_of rfl rfl rfl rfl
theorem zf_pass {P : Program} {w : World} {K : PySem.W.Frag} {mg : Str → Option Value} {base : Heap} {CA : Nat → Addr} {N : List Str} {qual : Str} {scope : Scope} {f : Addr} {cd : Value} {A : Around} {outer : List Env} {s : Shared} {H : Hp} {E : XK} {io : List Bool} :
    PassesOwn (model (Zf P w K mg base CA N qual scope f cd A outer s H E io).X.prog (Zf P w K mg base CA N qual scope f cd A outer s H E io).X.w) (Zf P w K mg base CA N qual scope f cd A outer s H E io).X.A (Zf P w K mg base CA N qual scope f cd A outer s H E io).X.env (Zf P w K mg base CA N qual scope f cd A outer s H E io).X.xe := passes_of rfl
theorem blk_takes {Z : Zt} {s : Shared} {H : Hp} {scope : Scope} {C : Addr} {cl : List (Str × Addr)} {fp : List Addr} {vs : List Nat} : Takes (Z.blk s H scope C cl fp vs).X (Z.blk s H scope C cl fp vs).W := takes0
end Ev

namespace Ev
open PySem PySem.Spec L2

/-! ### try: .. / except C as n: y = n, the error kept -/
theorem keepExc {X : Cx} {pins : List (Addr × Obj)} {σ : L2.St} {H : Hp} {s sI : Shared} {σI : L2.St} {HI : Hp} {a C : Addr} {oe : Obj} {flds : Array Value} (hex : X.ex = []) (I : L2.Inv X pins σ H s) (I0 : L2.Inv X pins σI HI sI) (new : sI.heap.get? a = none)
    (here : s.heap.get? a = some oe) (z : Zc (.ref C) none oe) (dat : oe.data = .fields flds) (na : H a = none) (nL : a ≠ X.env.locals) : L2.Inv X pins σ (upd H a (ExC C a)) s := by
  have nex : ∀ b : Addr, b ∉ X.ex := fun b h => by rw [hex] at h; cases h
  have gone0 : X.s_0.heap.get? a = none := by
    cases q : X.s_0.heap.get? a with
    | none => rfl
    | some o =>
      obtain ⟨o', e⟩ := I0.base.there a o q (nex a)
      rw [new] at e; cases e
  have other : ∀ {b : Addr} {o : HO}, H b = some o → upd H a (ExC C a) b = some o := fun {b o} h => by rw [upd_ne (ne_of_none h na)]; exact h
  refine ⟨I.ok, I.os, I.bare, ⟨I.base.keep, I.base.slot, fun b o e n hx => ?_, I.base.there, fun b xs e => other (I.base.tups b xs e), fun b o u e => other (I.base.frzs b o u e), fun b ps e => ?_⟩, I.loc, I.cell, ?_, fun x c e => ?_, fun p hp => ?_, fun b u e => ?_, I.len⟩
  · have nb : b ≠ a := fun h => by rw [h, gone0] at e; cases e
    rw [upd_ne nb]; exact I.base.free b o e n hx
  · obtain ⟨more, h⟩ := I.base.tbls b ps e
    exact ⟨more, other h⟩
  · rw [upd_ne (Ne.symm nL)]; exact I.free
  · have nc : c ≠ a := fun h => by
      obtain ⟨v, o, ho, hd⟩ := I.cell x c e
      rw [h, here] at ho
      cases ho
      rw [dat] at hd; cases hd
    rw [upd_ne nc]; exact I.freeC x c e
  · obtain ⟨e, n, ne, nf, d⟩ := I.pin p hp
    have np : p.1 ≠ a := fun h => by
      have e0 := (I0.pin p hp).1
      rw [h, new] at e0; cases e0
    exact ⟨e, by rw [upd_ne np]; exact n, ne, nf, d⟩
  · by_cases hb : b = a
    · subst hb
      rw [upd_same] at e
      cases e
      exact ⟨⟨oe, flds, here, z, dat⟩, ⟨oe, here⟩, fun _ _ ⟨o, f, q, r⟩ k => ⟨o, f, k o q, r⟩⟩
    · rw [upd_ne hb] at e
      exact (I.hok b u e).stay (fun _ _ _ q => q) (fun c q => other q) fun c xs q => other q
def wKeep (K : PySem.W.Frag) (c : Value) (i j : Nat) (Wout : WX) (D : Ends) : WX := fun cls d σ H => ∃ b, PySem.W.exmOne K cls c = some b ∧ (b = true → d = none ∧ ∃ C, cls = .ref C ∧ ∀ a, H a = none → D.nx (((σ.set i (some (.ref a))).set j (some (.ref a))).set i none) (upd H a (ExC C a))) ∧ (b = false → Wout cls d σ H)
theorem ps_try_keep {X : Cx} {x n y : Str} {c : Value} {i j : Nat} {body : List Stmt} {np pos pos' q1 q2 q3 : Pos} {tb : WX → TS} {Wout : WX} (stk : X.stack = X.env :: X.outer) (frm : X.env.frame = some X.env.locals) (hex : X.ex = []) (ndN : X.N.Nodup) (ixn : X.N[i]? = some n) (ln : X.env.kindOf n = some .local) (ixy : X.N[j]? = some y) (ly : X.env.scope.names.lookup y = some .local) (cn : Names X x c) (tk : Takes X Wout)
    (hb : ∀ (W : WX) (pn : List (Addr × Obj)) (xe : Value → Shared → Prop), Takes (X.tr pn xe) W → PassesOwn (model X.prog X.w) X.A X.env xe → PSs (X.tr pn xe) body (tb W))
    (hdn : (n == ("__debug__" : Str)) = false := by decide) (hcn : (n == ("__classdict__" : Str)) = false := by decide)
    (hsw : ∀ a pn, swapsWith (.Name n q1) (some (.Name y q2)) q3.line (X.suite a pn).env = pure false := by intros; rfl) :
    PS X (.Try body [.ExceptHandler (some (.Name x np)) (some n) [.Assign [.Name y q2] (.Name n q1) q3] pos'] [] [] pos) (fun D σ H => tb (wKeep X.K c i j Wout D) D σ H) := by
  refine ⟨fun pins s σ H D I h => ?_⟩
  have okX := I.ok
  have frames : X.A.frames = some (X.env :: X.outer) := by rw [okX.frames, stk]
  refine wpAny_Try_except ?_
  have body1 := hb (wKeep X.K c i j Wout D) (X.pn ++ pins) (fun e s₁ => wpAny (model X.prog X.w) X.A (noteFrame e X.env)
    (fun _ s₂ => wpAny (model X.prog X.w) X.A (setFlight e none) (fun _ s₃ => wpAny (model X.prog X.w) X.A
      (handleBy e X.env [.ExceptHandler (some (.Name x np)) (some n) [.Assign [.Name y q2] (.Name n q1) q3] pos']) (SP X pins D) X.xe s₃) X.xe s₂) X.xe s₁)
  refine wpAny_mono ((body1 ?takes PassesOwn.looking).run [] s σ H D (I.toTry _) h) ?done (fun e s1 he => he)
  case takes =>
    intro u s' air
    obtain ⟨a, B, sI, pins0, σ', H', cls, d, rfl, J0, ground, up, sky, na, os, ag, b, hb1, hyes, hno⟩ := air
    have J : L2.Inv X pins σ' H' sI := J0.ofTry okX
    have skyX : Sky B (X.env :: X.outer) a (Zc cls d) X.env.locals s'.heap := by rw [← stk]; exact sky
    show wpAny (model X.prog X.w) X.A (noteFrame (.ref a) X.env) _ _ _
    refine Sky.land Zc.steady frames frm skyX fun h3 fly3 up3 => ?_
    have J3 : L2.Inv X pins σ' H' { s' with heap := h3 } := J.landed ground fly3.1 (up.trans up3) os ag
    obtain ⟨ob3, fs3, there3, is3, dat3⟩ := fly3.there
    have apart : a ∉ frs (X.env :: X.outer) := fun hm => by
      obtain ⟨_, o', e', hnf⟩ := fly3.2.2.1.mem hm
      rw [there3] at e'
      cases e'
      exact hnf _ dat3
    have aL : a ≠ X.env.locals := fun z => apart (List.mem_filterMap.mpr ⟨X.env, List.mem_cons_self, by rw [frm, z]⟩)
    have aF : a ∉ X.fs := fun hm => by
      obtain ⟨e, he, q⟩ := List.mem_filterMap.mp hm
      exact apart (List.mem_filterMap.mpr ⟨e, List.mem_cons_of_mem _ he, q⟩)
    have newI : sI.heap.get? a = none := by
      cases q : sI.heap.get? a with
      | none => rfl
      | some o =>
        have z := ground a o q (by rw [stk]; exact apart)
        rw [fly3.2.1] at z; cases z
    have S3 := J3.suite there3 dat3 na aL aF
    refine wpAny_handleBy_cons (codeAny_handlers_test ?_) (by intro q; cases q)
    have looks : PySem.W.Looks (model X.prog X.w) h3 (typeOf (.ref a)) cls := fun A Q E s k q => wpAny_typeOf_ref (k _ _ there3) (by rw [is3.1]; exact q)
    have match_ := PySem.W.exm_one (M := model X.prog X.w) (J3.kIn) looks hb1
    have named : ∀ {Q : Value → Shared → Prop} {E : Value → Shared → Prop}, Q c { s' with heap := h3 } →
        wpAny (model X.prog X.w) (X.A.mark (some (.ref a))) (eval (.Name x np) X.env) Q E { s' with heap := h3 } := fun {Q E} q => by
      rcases cn with ⟨g1, g2, g3 | ⟨g3, g4, g5⟩⟩
      · exact ld_glob (X := X.suite a ((a, ob3) :: (X.pn ++ pins))) S3 g1 g3 q g2
      · exact ld_blt (X := X.suite a ((a, ob3) :: (X.pn ++ pins))) S3 g1 g3 g4 q g5 g2
    refine named (match_.here ?_)
    cases b with
    | true =>
      obtain ⟨rfl, C, rfl, fin⟩ := hyes rfl
      refine codeAny_handlers_suite_as ?_
      refine HandSPX.lands_againZ fly3 fun h4 fly4 up4 => ?_
      have J4 : L2.Inv X pins σ' H' { s' with heap := h4 } := J.landed ground fly4.1 ((up.trans up3).trans up4) os ag
      obtain ⟨ob4, fs4, there4, is4, dat4⟩ := fly4.there
      have S4 := J4.suite there4 dat4 na aL aF
      refine store_ok (X := X.suite a ((a, ob4) :: (X.pn ++ pins))) (v := .ref a) S4 ndN ixn (.inl ln) rfl (fun s5 S5 => ?_) (.inr ln)
      have len5 : i < σ'.length := by rw [J.len]; exact (List.getElem?_eq_some_iff.mp ixn).1
      have one : PSs (X.suite a ((a, ob4) :: (X.pn ++ pins))) [.Assign [.Name y q2] (.Name n q1) q3] (tAsg (tVar i) (gName j)) :=
        pss_one (ps_set (X := X.suite a ((a, ob4) :: (X.pn ++ pins))) ndN ixy (.inl ly) (pe_var ixn (.inl ln) hdn hcn) (hsw _ _) (.inr ly))
      refine wpAny_mono (one.run [] s5 _ H' { nx := fun σ6 H6 => σ6 = (σ'.set i (some (.ref a))).set j (some (.ref a)) ∧ H6 = H', rt := fun _ _ => False } S5 ⟨.ref a, List.getElem?_set_self len5, rfl, rfl⟩) (fun f s6 hsp => ?_) (fun _ _ z => z.elim)
      cases f with
      | next =>
        obtain ⟨σ6, H6, S6, rfl, rfl⟩ := hsp
        refine gone_ok (X := X.suite a ((a, ob4) :: (X.pn ++ pins))) S6 ndN ixn ln fun s7 S7 => ?_
        have pin7 := S7.pin (a, ob4) (List.mem_append_left _ List.mem_cons_self)
        exact ⟨_, _, keepExc hex (S7.unsuite okX) J newI pin7.1 is4 dat4 na aL, fin a na⟩
      | brk => obtain ⟨_, _, _, z⟩ := hsp; exact z.elim
      | cont => obtain ⟨_, _, _, z⟩ := hsp; exact z.elim
      | ret u => obtain ⟨_, _, _, _, _, z⟩ := hsp; exact z.elim
    | false =>
      show wpAny _ X.A (handleBy (.ref a) X.env []) _ _ _
      refine wpAny_handleBy_nil ?_
      obtain ⟨_, _, _, ob, fs, T, oT, ts', hob, _, hfs, h1, _⟩ := id fly3
      unfold PySem.passOn
      refine wpAny_bind (wpAny_field hob hfs h1 ?_)
      rw [if_neg (show ¬ ((Value.ref T == Value.none) = true) by simp)]
      have away : wpAny (model X.prog X.w) X.A (setFlight (.ref a) X.env.frame)
          (fun _ s4 => wpAny (model X.prog X.w) X.A (throw (.ref a) : PySem.Sem Flow) (SP X pins D) X.xe s4) X.xe { s' with heap := h3 } := by
        rw [frm]
        refine HandSPX.setFlight_upZ fly3 fun h4 held4 up4 => wpAny_throw (tk _ _ ?_)
        exact ⟨a, B, sI, pins, σ', H', cls, d, rfl, J, ground, (up.trans up3).trans up4, .inr (.inr (by rw [stk]; exact held4)), na, os, ag, hno rfl⟩
      first
        | exact wpAny_bind (wpAny_pure (wpAny_bind away))
        | exact wpAny_bind away
  case done =>
    intro f s1 hsp
    cases f with
    | next =>
      obtain ⟨σ', H', J', q⟩ := hsp
      exact wpAny_execs_nil ⟨_, _, J'.ofTry okX, q⟩
    | brk =>
      obtain ⟨σ', H', J', q⟩ := hsp
      exact ⟨_, _, J'.ofTry okX, q⟩
    | cont =>
      obtain ⟨σ', H', J', q⟩ := hsp
      exact ⟨_, _, J'.ofTry okX, q⟩
    | ret u =>
      obtain ⟨v, σ', H', J', r, q⟩ := hsp
      exact ⟨_, _, _, J'.ofTry okX, r, q⟩
end Ev

namespace Ev
open PySem PySem.Spec L2

abbrev Zt.tr (Z : Zt) (pn : List (Addr × Obj)) (xe : Value → Shared → Prop) (W : WX) : Zt := ⟨Z.X.tr pn xe, Z.CA, W, Z.io⟩
def sTry (acc : Nat → Option Bool) (i j : Nat) (mb : Sm Fl) : Sm Fl := fun env => match mb env with
  | .ex x env1 => match acc x with
    | some true => .ok .nx ((env1.set j (.exc x)).set i .dead)
    | some false => .ex x env1
    | none => .bad
  | o => o
theorem ms_try {Z : Zt} {x n y : Str} {c : Value} {i j : Nat} {body : List Stmt} {np pos pos' q1 q2 q3 : Pos} {mb : Sm Fl} (acc : Nat → Option Bool) (hacc : ∀ k b, acc k = some b → PySem.W.exmOne Z.X.K (.ref (Z.CA k)) c = some b) (cn : Names Z.X x c) (tk : Takes Z.X Z.W)
    (hb : ∀ (W : WX) (pn : List (Addr × Obj)) (xe : Value → Shared → Prop), Takes (Z.X.tr pn xe) W → PassesOwn (model Z.X.prog Z.X.w) Z.X.A Z.X.env xe → MSs (Z.tr pn xe W) body mb)
    (ndN : Z.X.N.Nodup) (stk : Z.X.stack = Z.X.env :: Z.X.outer := by rfl) (frm : Z.X.env.frame = some Z.X.env.locals := by rfl) (hex : Z.X.ex = [] := by rfl) (ixn : Z.X.N[i]? = some n := by rfl) (ln : Z.X.env.kindOf n = some .local := by rfl) (ixy : Z.X.N[j]? = some y := by rfl) (ly : Z.X.env.scope.names.lookup y = some .local := by rfl)
    (hij : i ≠ j := by decide) (hioi : Z.io i = false := by rfl) (hioj : Z.io j = false := by rfl) (hdn : (n == ("__debug__" : Str)) = false := by decide) (hcn : (n == ("__classdict__" : Str)) = false := by decide)
    (hsw : ∀ a pn, swapsWith (.Name n q1) (some (.Name y q2)) q3.line (Z.X.suite a pn).env = pure false := by intros; rfl) :
    MS Z (.Try body [.ExceptHandler (some (.Name x np)) (some n) [.Assign [.Name y q2] (.Name n q1) q3] pos'] [] [] pos) (sTry acc i j mb) := by
  refine ps_imp (ps_try_keep (tb := fun W => TSx Z.D W Z.io mb) stk frm hex ndN ixn ln ixy ly cn tk (fun W pn xe t p => hb W pn xe t p) hdn hcn hsw) fun E σ H q => ?_
  obtain ⟨env, G, Os, s, q⟩ := q
  refine ⟨env, G, Os, s, ?_⟩
  unfold sTry at q
  cases e : mb env with
  | bad => rw [e] at q; exact q
  | ok fl env1 =>
    rw [e] at q
    cases fl <;> exact q
  | ex k env1 =>
    rw [e] at q
    intro σ' G' H' Os' s' t io'
    cases ea : acc k with
    | none => simp only [ea] at q; exact q.elim
    | some b =>
      refine ⟨b, hacc k b ea, fun hb => ?_, fun hb => ?_⟩
      · subst hb
        simp only [ea] at q
        refine ⟨rfl, _, rfl, fun a na => ?_⟩
        have ga : G' a = none := sub_none s'.sub na
        have mono : Sub G' (upd G' a (ExC (Z.CA k) a)) := sub_new ga
        have no : a ∉ Os'.flatten := fun z => s'.sl.there a z na
        have eσ : ((σ'.set i (some (.ref a))).set j (some (.ref a))).set i none = (σ'.set j (some (.ref a))).set i none := by
          rw [List.set_comm _ _ hij, List.set_set]
        rw [eσ]
        have s0 : Sl Z.D (upd G' a (ExC (Z.CA k) a)) (upd H' a (ExC (Z.CA k) a)) env1 σ' Os' := s'.sl.mono mono fun b hb x hx => by
          rw [upd_ne (fun e => no (by rw [← e]; exact hb))]; exact hx
        have s1 := Sl.set (D := Z.D) (w := .exc k) (s := some (.ref a)) (O := []) (.inl ⟨.ref a, rfl, rfl, a, rfl, upd_same⟩) j s0
        have s2 := Sl.set (D := Z.D) (w := .dead) (s := none) (O := []) (.inr ⟨rfl, rfl⟩) i s1
        have hsub : ∀ b ∈ ((Os'.set j []).set i []).flatten, b ∈ Os'.flatten := fun b hb => flat_sub b (flat_sub b hb)
        have s3 : StOk Z.D (upd G' a (ExC (Z.CA k) a)) (upd H' a (ExC (Z.CA k) a)) ((env1.set j (.exc k)).set i .dead) ((σ'.set j (some (.ref a))).set i none) ((Os'.set j []).set i []) :=
          ⟨s2, sub_upd2 s'.sub, fun b hb => by rw [upd_ne (fun e => no (by rw [← e]; exact hsub b hb))]; exact s'.gn b (hsub b hb), flat_nd (flat_nd s'.nd)⟩
        have st : Step G' H' Os'.flatten (upd G' a (ExC (Z.CA k) a)) (upd H' a (ExC (Z.CA k) a)) ((Os'.set j []).set i []).flatten :=
          ⟨mono, fun b x h _ => sub_new na b x h, fun b x h _ _ g => by rw [upd_ne (ne_of_none h na)]; exact g, fun b hb => .inl (hsub b hb)⟩
        exact q _ _ _ _ s3 (t.trans st) (io'.trans ((IoS.set hioj).trans (IoS.set hioi)))
      · subst hb
        simp only [ea] at q
        exact q σ' G' H' Os' s' t io'

/-! ### a call that looks at owned lists -/
mutual
def W.flat : W → Bool
  | .non => true
  | .bl _ => true
  | .int _ => true
  | .str _ => true
  | .tup ws => flats ws
  | _ => false
def flats : List W → Bool
  | [] => true
  | w :: ws => w.flat && flats ws
end
mutual
theorem RF.thin {D : Dn} {G G' : Hp} (h : ∀ a vs, SqT D.K G a vs → SqT D.K G' a vs) : ∀ (w : W) (v : V), w.flat = true → RF D G w v → RF D G' w v
  | .non, _, _, r => r
  | .bl _, _, _, r => r
  | .int _, _, _, r => r
  | .str _, _, _, r => r
  | .tup ws, _, f, r => by
    obtain ⟨a, vs, rfl, r1, r2⟩ := r
    exact ⟨a, vs, rfl, h a vs r1, RFs.thin h ws vs f r2⟩
  | .lst _ _, _, f, _ => nomatch f
  | .scr _, _, f, _ => nomatch f
  | .nst _, _, f, _ => nomatch f
  | .ntp _, _, f, _ => nomatch f
  | .dct _ _ _, _, f, _ => nomatch f
  | .ndc _ _, _, f, _ => nomatch f
  | .obj _ _ _, _, f, _ => nomatch f
  | .exc _, _, f, _ => nomatch f
  | .edc, _, f, _ => nomatch f
  | .dead, _, f, _ => nomatch f
theorem RFs.thin {D : Dn} {G G' : Hp} (h : ∀ a vs, SqT D.K G a vs → SqT D.K G' a vs) : ∀ (ws : List W) (vs : List V), flats ws = true → RFs D G ws vs → RFs D G' ws vs
  | [], _, _, r => r
  | w :: ws, _, f, r => by
    obtain ⟨v, us, rfl, r1, r2⟩ := r
    have f' : w.flat = true ∧ flats ws = true := Bool.and_eq_true_iff.mp f
    exact ⟨v, us, rfl, RF.thin h w v f'.1 r1, RFs.thin h ws us f'.2 r2⟩
end
theorem W.flat_frz : ∀ {w : W}, w.flat = true → w.frz = true
  | .non, _ => rfl
  | .bl _, _ => rfl
  | .int _, _ => rfl
  | .str _, _ => rfl
  | .tup _, _ => rfl
open Classical in
/-- what is frozen, and the owned lists as they stand -/
noncomputable def lentH (G H : Hp) (L : List Addr) : Hp := fun a => match G a with
  | some o => some o
  | none => if a ∈ L then H a else none
/-! ### frozen through and through -/
mutual
def W.fzD : W → W
  | .lst _ ws => .lst false ws
  | .nst ws => .lst false (fzDs ws)
  | .ntp ws => .tup (fzDs ws)
  | w => w
def fzDs : List W → List W
  | [] => []
  | w :: ws => w.fzD :: fzDs ws
end
mutual
def W.fzOk : W → Bool
  | .lst _ _ => true
  | .nst ws => fzOks ws
  | .ntp ws => fzOks ws
  | w => w.frz
def fzOks : List W → Bool
  | [] => true
  | w :: ws => w.fzOk && fzOks ws
end
theorem fzDs_map : ∀ ws : List W, fzDs ws = ws.map W.fzD
  | [] => rfl
  | w :: ws => by rw [fzDs, List.map_cons, fzDs_map ws]
theorem lent_mono {G H : Hp} {S : List Addr} : Sub G (lentH G H S) := fun a o h => by unfold lentH; rw [h]
theorem lent_own {G H : Hp} {S : List Addr} {a : Addr} (hs : a ∈ S) (g : G a = none) : lentH G H S a = H a := by
  unfold lentH
  rw [g]
  show (if a ∈ S then H a else none) = H a
  rw [if_pos hs]
mutual
theorem RO.deep {D : Dn} {G H : Hp} {S : List Addr} : ∀ (w : W) (v : V) (O : List Addr), w.fzOk = true → RO D G H w v O → (∀ a ∈ O, a ∈ S ∧ G a = none) → RF D (lentH G H S) w.fzD v
  | .lst true ws, v, O, _, h, k => by
    obtain ⟨a, vs, rfl, rfl, h1, h2⟩ := h
    obtain ⟨k1, k2⟩ := k a List.mem_cons_self
    exact ⟨a, vs, rfl, by rw [lent_own k1 k2]; exact h1, RFs.mono lent_mono _ _ h2⟩
  | .nst ws, v, O, f, h, k => by
    obtain ⟨a, vs, O', rfl, rfl, h1, h2⟩ := h
    obtain ⟨k1, k2⟩ := k a List.mem_cons_self
    exact ⟨a, vs, rfl, by rw [lent_own k1 k2]; exact h1, ROs.deep ws vs O' f h2 fun b hb => k b (List.mem_cons_of_mem _ hb)⟩
  | .ntp ws, v, O, f, h, k => by
    obtain ⟨a, vs, rfl, h1, h2⟩ := h
    exact ⟨a, vs, rfl, lent_mono.sqT h1, ROs.deep ws vs O f h2 k⟩
  | .lst false ws, v, O, _, h, k => RF.mono lent_mono (.lst false ws) v h.2
  | .non, v, O, _, h, k => RF.mono lent_mono .non v h.2
  | .bl b, v, O, _, h, k => RF.mono lent_mono (.bl b) v h.2
  | .int i, v, O, _, h, k => RF.mono lent_mono (.int i) v h.2
  | .str i, v, O, _, h, k => RF.mono lent_mono (.str i) v h.2
  | .tup ws, v, O, _, h, k => RF.mono lent_mono (.tup ws) v h.2
  | .scr ws, v, O, _, h, k => RF.mono lent_mono (.scr ws) v h.2
  | .dead, _, _, f, _, _ => nomatch f
  | .dct _ _ _, _, _, f, _, _ => nomatch f
  | .ndc _ _, _, _, f, _, _ => nomatch f
  | .obj _ _ _, _, _, f, _, _ => nomatch f
  | .exc _, _, _, f, _, _ => nomatch f
  | .edc, _, _, f, _, _ => nomatch f
theorem ROs.deep {D : Dn} {G H : Hp} {S : List Addr} : ∀ (ws : List W) (vs : List V) (O : List Addr), fzOks ws = true → ROs D G H ws vs O → (∀ a ∈ O, a ∈ S ∧ G a = none) → RFs D (lentH G H S) (fzDs ws) vs
  | [], _, _, _, h, _ => h.1
  | w :: ws, _, _, f, h, k => by
    obtain ⟨v, r, O1, O2, rfl, rfl, h1, h2⟩ := h
    have f' : w.fzOk = true ∧ fzOks ws = true := Bool.and_eq_true_iff.mp f
    exact ⟨v, r, rfl, RO.deep w v O1 f'.1 h1 fun a ha => k a (List.mem_append_left _ ha), ROs.deep ws r O2 f'.2 h2 fun a ha => k a (List.mem_append_right _ ha)⟩
end
/-- the arguments, owned lists (and errors) lent -/
def lendA : List W → List AV → Option (List W)
  | _, [] => some []
  | env, .v w :: as => (lendA env as).map (w :: ·)
  | env, .io i :: as => match env[i]? with
    | some (.lst _ xs) => (lendA env as).map (.lst false xs :: ·)
    | some (.exc c) => (lendA env as).map (.exc c :: ·)
    | some (.nst xs) => if fzOks xs = true then (lendA env as).map (.lst false (fzDs xs) :: ·) else none
    | some (.ntp xs) => if fzOks xs = true then (lendA env as).map (.tup (fzDs xs) :: ·) else none
    | some w => if w.frz = true then (lendA env as).map (w :: ·) else none
    | none => none
def mCallL (g : Fn) (n : Nat) (m : Sm (List AV)) : Sm W := Sm.bind m fun as env => if as.length = n then match lendA env as with
  | none => .bad
  | some ws => match g ws with
    | .ok w _ => if w.flat = true then .ok w env else .bad
    | .ex c _ => .ex c env
    | .bad => .bad
  else .bad
theorem sub_lent {G H : Hp} {L : List Addr} (s : Sub G H) : Sub (lentH G H L) H := fun a o h => by
  unfold lentH at h
  cases e : G a with
  | some x =>
    rw [e] at h
    cases h
    exact s a _ e
  | none =>
    rw [e] at h
    have h' : (if a ∈ L then H a else none) = some o := h
    by_cases hm : a ∈ L
    · rw [if_pos hm] at h'; exact h'
    · rw [if_neg hm] at h'; cases h'
mutual
theorem RO.noT {D : Dn} {G H : Hp} : ∀ (w : W) (v : V) (O : List Addr), RO D G H w v O → ∀ a ∈ O, ∀ vs, H a ≠ some (.tup vs) ∧ ∀ o, H a ≠ some (.frz o (.tup vs))
  | .dead, _, _, h, _, ha, _ => by subst h; cases ha
  | .lst true ws, v, O, h, b, hb, vs' => by
    obtain ⟨a, vs, rfl, rfl, h1, h2⟩ := h
    rw [List.mem_singleton.mp hb, h1]; exact ⟨fun z => (nomatch z), fun _ z => (nomatch z)⟩
  | .nst ws, v, O, h, b, hb, vs' => by
    obtain ⟨a, vs, O', rfl, rfl, h1, h2⟩ := h
    rcases List.mem_cons.mp hb with e | hb
    · rw [e, h1]; exact ⟨fun z => (nomatch z), fun _ z => (nomatch z)⟩
    · exact ROs.noT ws vs O' h2 b hb vs'
  | .ntp ws, v, O, h, b, hb, vs' => by
    obtain ⟨a, vs, rfl, h1, h2⟩ := h
    exact ROs.noT ws vs O h2 b hb vs'
  | .dct true ks ws, v, O, h, b, hb, vs' => by
    obtain ⟨a, vs, rfl, rfl, h1, h2⟩ := h
    obtain ⟨o, e, i⟩ := h1.is
    rw [List.mem_singleton.mp hb, e]; exact ⟨fun z => (by cases z; cases i), fun _ z => (by cases z; cases i)⟩
  | .ndc ks ws, v, O, h, b, hb, vs' => by
    obtain ⟨a, vs, O', rfl, rfl, h1, h2⟩ := h
    rcases List.mem_cons.mp hb with e | hb
    · obtain ⟨o, e', i⟩ := h1.is
      rw [e, e']; exact ⟨fun z => (by cases z; cases i), fun _ z => (by cases z; cases i)⟩
    · exact ROs.noT ws vs O' h2 b hb vs'
  | .obj c fs ws, v, O, h, b, hb, vs' => by
    obtain ⟨a, dx, vs, O', rfl, rfl, hl, h1, h2⟩ := h
    rcases List.mem_cons.mp hb with e | hb
    · rw [e, h1]; exact ⟨fun z => (nomatch z), fun _ z => (nomatch z)⟩
    · exact ROs.noT ws vs O' h2 b hb vs'
  | .non, _, _, h, _, ha, _ => by rw [h.1] at ha; cases ha
  | .bl _, _, _, h, _, ha, _ => by rw [h.1] at ha; cases ha
  | .int _, _, _, h, _, ha, _ => by rw [h.1] at ha; cases ha
  | .str _, _, _, h, _, ha, _ => by rw [h.1] at ha; cases ha
  | .tup _, _, _, h, _, ha, _ => by rw [h.1] at ha; cases ha
  | .lst false _, _, _, h, _, ha, _ => by rw [h.1] at ha; cases ha
  | .scr _, _, _, h, _, ha, _ => by rw [h.1] at ha; cases ha
  | .dct false _ _, _, _, h, _, ha, _ => by rw [h.1] at ha; cases ha
  | .exc _, _, _, h, _, ha, _ => by rw [h.1] at ha; cases ha
  | .edc, _, _, h, _, ha, _ => by rw [h.1] at ha; cases ha
theorem ROs.noT {D : Dn} {G H : Hp} : ∀ (ws : List W) (vs : List V) (O : List Addr), ROs D G H ws vs O → ∀ a ∈ O, ∀ vs, H a ≠ some (.tup vs) ∧ ∀ o, H a ≠ some (.frz o (.tup vs))
  | [], _, _, h, _, ha, _ => by rw [h.2] at ha; cases ha
  | w :: ws, _, _, h, b, hb, vs' => by
    obtain ⟨v, r, O1, O2, rfl, rfl, h1, h2⟩ := h
    rcases List.mem_append.mp hb with hb | hb
    · exact RO.noT w v O1 h1 b hb vs'
    · exact ROs.noT ws r O2 h2 b hb vs'
end
theorem Sl.noT {D : Dn} {G H : Hp} : ∀ {env : List W} {σ : L2.St} {Os : List (List Addr)}, Sl D G H env σ Os → ∀ a ∈ Os.flatten, ∀ vs, H a ≠ some (.tup vs) ∧ ∀ o, H a ≠ some (.frz o (.tup vs))
  | [], _, _, h, a, ha, _ => by rw [h.2] at ha; cases ha
  | w :: env, _, _, h, a, ha, vs => by
    obtain ⟨s, σ', O, Os', rfl, rfl, h1, h2⟩ := h
    rw [List.flatten_cons] at ha
    rcases List.mem_append.mp ha with ha | ha
    · rcases h1 with ⟨v, _, r⟩ | ⟨_, e⟩
      · exact RO.noT w v O r a ha vs
      · rw [e] at ha; cases ha
    · exact Sl.noT h2 a ha vs
section
variable {Z : Zt} {x : Str} {n k : Nat} {g : Fn} {e : Expr} {es : List Expr} {p : Bool} {p1 p2 : Pos}
end
end Ev

namespace Ev
open PySem PySem.Spec L2

/-! ### isinstance -/
/-- of what built-in kind a value is -/
def W.kind : W → Option String
  | .non => some "NoneType"
  | .bl _ => some "bool"
  | .int _ => some "int"
  | .str _ => some "str"
  | .tup _ => some "tuple"
  | .lst _ _ => some "list"
  | .scr _ => some "list"
  | .nst _ => some "list"
  | .ntp _ => some "tuple"
  | .edc => some "dict"
  | _ => none
/-- the second argument: some classes, by their values -/
structure ClsArg (X : Cx) (e : Expr) (cs : List V) (us : List Value) (one : Bool) : Prop where
  run : if one = true then ∃ c u, cs = [c] ∧ us = [u] ∧ ClsV c u ∧ PE X e (tC c) else ∃ t, PE X e t ∧ Paired ClsV cs us ∧ ∀ σ H Q, (∀ p, H p = none → Q (.ref p) (upd H p (.tup cs))) → t σ H Q
theorem ca_ty {X : Cx} {T : String} {x : Str} {pos : Pos} (hg : Gl X x) (hm : X.mg x = none) (hv : bootBuiltins x = some (.type T)) (hn : x ≠ "__name__" := by decide) (hd : (x == ("__debug__" : Str)) = false := by decide) : ClsArg X (.Name x pos) [.ty T] [.type T] true :=
  ⟨⟨_, _, rfl, rfl, .ty T, pe_bltn hg hm hv rfl hn hd⟩⟩
theorem ca_own {X : Cx} {C : Addr} {x : Str} {pos : Pos} (hg : Gl X x) (hm : X.mg x = some (.ref C)) (hd : (x == ("__debug__" : Str)) = false := by decide) : ClsArg X (.Name x pos) [.ref C] [.ref C] true :=
  ⟨⟨_, _, rfl, rfl, .own C, pe_glob hg hm rfl hd⟩⟩
/-- names of classes in a tuple -/
def ClsArgs (X : Cx) (es : List Expr) (cs : List V) (us : List Value) : Prop := ∃ t, PA X es t ∧ Paired ClsV cs us ∧ ∀ σ H (Q : List V → Hp → Prop), Q cs H → t σ H Q
theorem cas_nil {X : Cx} : ClsArgs X [] [] [] := ⟨_, pa_nil, .nil, fun _ _ _ q => q⟩
theorem cas_cons {X : Cx} {e : Expr} {es : List Expr} {c : V} {u : Value} {cs : List V} {us : List Value} (h : ClsArg X e [c] [u] true) (hr : ClsArgs X es cs us) (hs : starEach (e :: es) X.env = (false, eval e X.env) :: starEach es X.env := by rfl) : ClsArgs X (e :: es) (c :: cs) (u :: us) := by
  obtain ⟨c', u', e1, e2, k, pe⟩ := h.run
  cases e1
  cases e2
  obtain ⟨t, pa, ps, i⟩ := hr
  exact ⟨_, pa_cons pe pa hs, .cons k ps, fun σ H Q q => i σ H _ q⟩
theorem ca_tup {X : Cx} {es : List Expr} {cs : List V} {us : List Value} {k : Nat} {pos : Pos} (h : ClsArgs X es cs us) (hl : cs.length ≤ sizeLine := by decide) : ClsArg X (.Tuple es k pos) cs us false := by
  obtain ⟨t, pa, ps, i⟩ := h
  exact ⟨⟨_, pe_tup pa, ps, fun σ H Q q => i σ H _ ⟨hl, q⟩⟩⟩
def isAns (K : PySem.W.Frag) (t : Value) (us : List Value) (one : Bool) : Option Bool := match one, us with
  | true, [u] => PySem.W.kitOne K t u
  | false, us => PySem.W.kitAny K t us
  | _, _ => none
/-- built-in kinds against built-in types: by the names -/
def kitBs (a : String) : List String → Option Bool
  | [] => some false
  | b :: bs => match kitB a b with
    | some true => some true
    | some false => kitBs a bs
    | none => none
theorem kitBs_any {K : PySem.W.Frag} {a : String} : ∀ {bs : List String} {r : Bool}, kitBs a bs = some r → PySem.W.kitAny K (.type a) (bs.map Value.type) = some r
  | [], r, h => h
  | b :: bs, r, h => by
    unfold kitBs at h
    cases e : kitB a b with
    | none => rw [e] at h; cases h
    | some x =>
      rw [e] at h
      refine kitAny_cons (kit_ty e) (fun z => ?_) fun z => ?_
      · subst z; exact kitBs_any h
      · subst z; exact (Option.some.inj h).symm
def isiW (tys : List String) (w : W) : Option W := w.kind.bind fun k => (kitBs k tys).map .bl
theorem RO.tyx {D : Dn} {G H : Hp} {w : W} {v : V} {O : List Addr} {k : String} (s : Sub G H) (r : RO D G H w v O) (e : w.kind = some k) : TyX D.K H v (.type k) := by
  cases w with
  | non => cases e; obtain ⟨_, rfl⟩ := r; exact .base .non
  | bl b => cases e; obtain ⟨_, rfl⟩ := r; exact .base (.bl b)
  | int i => cases e; obtain ⟨_, rfl⟩ := r; exact .base (.int i)
  | str x => cases e; obtain ⟨_, rfl⟩ := r; exact .base (.str x)
  | tup ws =>
    cases e
    obtain ⟨_, a, vs, rfl, h1, _⟩ := r
    rcases s.sqT h1 with (h | ⟨o, h⟩) | ⟨o, its, n, h, hc, _⟩
    · exact .base (.tup h)
    · exact .fTuple h
    · exact .kTuple h hc
  | lst b ws =>
    cases e
    obtain ⟨a, vs, rfl, h1, _⟩ := r.lstAt s
    exact .base (.lst h1)
  | scr ws =>
    cases e
    obtain ⟨_, a, vs, rfl, h1, _⟩ := r
    rcases s.sqL h1 with (h | ⟨o, h⟩) | ⟨o, its, n, h, hc, _⟩
    · exact .base (.lst h)
    · exact .base (.frz h)
    · exact .kList h hc
  | nst ws =>
    cases e
    obtain ⟨a, vs, O', rfl, rfl, h1, _⟩ := r
    exact .base (.lst h1)
  | ntp ws =>
    cases e
    obtain ⟨a, vs, rfl, h1, _⟩ := r
    rcases s.sqT h1 with (h | ⟨o, h⟩) | ⟨o, its, n, h, hc, _⟩
    · exact .base (.tup h)
    · exact .fTuple h
    · exact .kTuple h hc
  | edc =>
    cases e
    obtain ⟨_, a, rfl, h1⟩ := r
    exact .base (.dK (s _ _ h1))
  | _ => cases e
theorem tyx_new {K : PySem.W.Frag} {H : Hp} {v : V} {t : Value} {p : Addr} {o : HO} (n : H p = none) (h : TyX K H v t) : TyX K (upd H p o) v t := by
  have k : ∀ {a : Addr} {x : HO}, H a = some x → upd H p o a = some x := fun {a x} e => sub_new n a x e
  cases h with
  | base h =>
    refine .base ?_
    cases h with
    | non => exact .non
    | bl b => exact .bl b
    | int i => exact .int i
    | str x => exact .str x
    | flt x => exact .flt x
    | lst e => exact .lst (k e)
    | frz e => exact .frz (k e)
    | tup e => exact .tup (k e)
    | dK e => exact .dK (k e)
    | dT e => exact .dT (k e)
    | ins e a b c d f => exact .ins (k e) a b c d f
  | byt b => exact .byt b
  | set e => exact .set (k e)
  | kList e c => exact .kList e c
  | kTuple e c => exact .kTuple e c
  | kDict e c => exact .kDict e c
  | fTuple e => exact .fTuple (k e)
  | fDict e => exact .fDict (k e)
/-- an error that is held -/
theorem call_isX {X : Cx} {D a : Addr} (C : ExcC X.K D) : CallR X (.builtin "isinstance") (fun xs H Q => ∃ (c : V) (cv : Value) (b : Bool), xs = [.ref a, c] ∧ H a = some (ExC D a) ∧ ClsV c cv ∧ PySem.W.kitOne X.K (.ref D) cv = some b ∧ Q (.bl b) H) := by
  intro pins s σ H xs us Q I r h
  obtain ⟨c, cv, b, rfl, ha, hc, e, q⟩ := h
  cases r with
  | cons rx rr =>
    cases rr with
    | cons rt rr =>
      cases rr
      cases rx
      have ec := hc.eq rt
      subst ec
      obtain ⟨⟨oe, flds, hget, hz, hd⟩, _⟩ := I.hok a _ ha
      have J : PySem.W.InstAt s.heap a oe D none := by
        obtain ⟨oc, od, oda, osl⟩ := oe
        obtain ⟨h1, h2⟩ := hz
        dsimp only at h1 h2 hd
        subst h1 h2 hd
        exact ⟨hget, rfl, rfl, trivial⟩
      exact PySem.W.kia_one (PySem.W.handS_kitx_exc C.hg C.hk C.hs C.hd C.ha C.hn C.ht C.hm) I.kIn J e (fun z => nomatch z) fun tk => ⟨.bl b, H, I.kept (t' := tk) fun _ _ z => z, rfl, q⟩
theorem call_isXT {X : Cx} {D a : Addr} (C : ExcC X.K D) : CallR X (.builtin "isinstance") (fun xs H Q => ∃ (tp : Addr) (cs : List V) (us : List Value) (b : Bool), xs = [.ref a, .ref tp] ∧ H a = some (ExC D a) ∧ H tp = some (.tup cs) ∧ Paired ClsV cs us ∧ PySem.W.kitAny X.K (.ref D) us = some b ∧ Q (.bl b) H) := by
  intro pins s σ H xs us Q I r h
  obtain ⟨tp, cs, ws, b, rfl, ha, ht, hc, e, q⟩ := h
  cases r with
  | cons rx rr =>
    cases rr with
    | cons rt rr =>
      cases rr
      cases rx
      cases rt
      obtain ⟨⟨oe, flds, hget, hz, hd⟩, _⟩ := I.hok a _ ha
      have J : PySem.W.InstAt s.heap a oe D none := by
        obtain ⟨oc, od, oda, osl⟩ := oe
        obtain ⟨h1, h2⟩ := hz
        dsimp only at h1 h2 hd
        subst h1 h2 hd
        exact ⟨hget, rfl, rfl, trivial⟩
      obtain ⟨_, its, rv, ot, hot, hcl, n, hdt⟩ := I.hok tp _ ht
      obtain ⟨oc, od, oda, osl⟩ := ot
      dsimp only at hcl hdt
      subst hcl hdt
      rw [ClsV.all hc rv] at *
      exact PySem.W.kia_tup (PySem.W.handS_kitx_exc C.hg C.hk C.hs C.hd C.ha C.hn C.ht C.hm) I.kIn J hot e (fun z => nomatch z) fun tk => ⟨.bl b, H, I.kept (t' := tk) fun _ _ z => z, rfl, q⟩
section
variable {Z : Zt} {e c : Expr} {m : Sm W} {p k1 : Bool} {p1 p2 : Pos}
theorem me_is {cs : List V} {us : List Value} {one : Bool} {f : W → Option W} (ca : ClsArg Z.X c cs us one) (hm : Z.X.mg "isinstance" = none) (ha : ME Z e m p k1)
    (hf : ∀ (G H : Hp) (w : W) (v : V) (O : List Addr) (r : W), Sub G H → RO Z.D G H w v O → f w = some r → ∃ b, r = .bl b ∧ ((∃ t, (∀ p o, H p = none → TyX Z.X.K (upd H p o) v t) ∧ TyX Z.X.K H v t ∧ isAns Z.X.K t us one = some b) ∨ ∃ D a, v = .ref a ∧ H a = some (ExC D a) ∧ ExcC Z.X.K D ∧ isAns Z.X.K (.ref D) us one = some b))
    (hg : Gl Z.X "isinstance" := by rfl) (hs : starEach [e, c] Z.X.env = (false, eval e Z.X.env) :: starEach [c] Z.X.env := by rfl) (hs2 : starEach [c] Z.X.env = (false, eval c Z.X.env) :: starEach [] Z.X.env := by rfl) (hpl : (backTo p2 (starEach [c] Z.X.env)).any (·.1) = false := by rfl) :
    ME Z (.Call (.Name "isinstance" p1) [e, c] [] p2) (mUn f m) p true := by
  have boot : bootBuiltins "isinstance" = some (.builtin "isinstance") := PyProof.Rows.boot_isinstance
  cases one with
  | true =>
    obtain ⟨cv, u, rfl, rfl, k, pe⟩ := ca.run
    refine pe_imp (pe_callB cl_any hg hm boot (pa_cons ha (pa_cons pe pa_nil hs2) hs) (by decide) (by decide) hs hpl) fun σ H Q q => tx_un (r := fun x H1 Q => clAny Z.X (.builtin "isinstance") [x, cv] H1 Q) (fun G H w1 v1 O1 w Q s r e q => ?_) q
    obtain ⟨b, rfl, ⟨t, _, h1, h2⟩ | ⟨D, a, rfl, h1, h2, h3⟩⟩ := hf G H w1 v1 O1 w s r e
    · exact ⟨_, call_isi, v1, cv, t, u, b, rfl, k, h1, h2, q.bl s⟩
    · exact ⟨_, call_isX h2, cv, u, b, rfl, h1, k, h3, q.bl s⟩
  | false =>
    obtain ⟨t, pe, pr, i⟩ := ca.run
    refine pe_imp (pe_callB cl_any hg hm boot (pa_cons ha (pa_cons pe pa_nil hs2) hs) (by decide) (by decide) hs hpl) fun σ H Q q => ?_
    have z := tx_un (k := k1) (r := fun x H1 Q => ∀ tp, H1 tp = none → clAny Z.X (.builtin "isinstance") [x, .ref tp] (upd H1 tp (.tup cs)) Q) (fun G H w1 v1 O1 w Q s r e q tp ntp => ?_) q
    · obtain ⟨env, G, Os, st, z⟩ := z
      refine ⟨env, G, Os, st, ?_⟩
      revert z
      cases m env with
      | bad => exact id
      | ex c env1 => exact id
      | ok w env1 => exact fun z v G' H' Os' Ow a1 a2 a3 a4 => i σ H' _ fun tp ntp => z v G' H' Os' Ow a1 a2 a3 a4 tp ntp
    · obtain ⟨b, rfl, ⟨t, h0, h1, h2⟩ | ⟨D, a, rfl, h1, h2, h3⟩⟩ := hf G H w1 v1 O1 w s r e
      · refine ⟨_, call_isiT, v1, tp, cs, t, us, b, rfl, upd_same, pr, h0 tp _ ntp, h2, ?_⟩
        exact q _ G _ [] (sub_upd s ntp) ⟨rfl, rfl⟩ List.nodup_nil (fun _ z => nomatch z) ((step_own ntp).less fun _ z => nomatch z)
      · refine ⟨_, call_isXT h2, tp, cs, us, b, rfl, sub_new ntp _ _ h1, upd_same, pr, h3, ?_⟩
        exact q _ G _ [] (sub_upd s ntp) ⟨rfl, rfl⟩ List.nodup_nil (fun _ z => nomatch z) ((step_own ntp).less fun _ z => nomatch z)
/-- isinstance(e, T), isinstance(e, (T1, ..)) of built-in types -/
theorem me_isi (tys : List String) {cs : List V} {us : List Value} {one : Bool} (ca : ClsArg Z.X c cs us one) (hm : Z.X.mg "isinstance" = none) (ha : ME Z e m p k1) (hu : us = tys.map Value.type := by rfl) (ho : one = false ∨ tys.length = 1 := by decide)
    (hg : Gl Z.X "isinstance" := by rfl) (hs : starEach [e, c] Z.X.env = (false, eval e Z.X.env) :: starEach [c] Z.X.env := by rfl) (hs2 : starEach [c] Z.X.env = (false, eval c Z.X.env) :: starEach [] Z.X.env := by rfl) (hpl : (backTo p2 (starEach [c] Z.X.env)).any (·.1) = false := by rfl) :
    ME Z (.Call (.Name "isinstance" p1) [e, c] [] p2) (mUn (isiW tys) m) p true := me_is ca hm ha (fun G H w v O r s ro e => by
  unfold isiW at e
  cases hk : w.kind with
  | none => rw [hk] at e; cases e
  | some kd =>
    rw [hk, Option.bind_some] at e
    cases hb : kitBs kd tys with
    | none => rw [hb] at e; cases e
    | some b =>
      rw [hb] at e
      cases e
      have ty := ro.tyx s hk
      refine ⟨b, rfl, .inl ⟨_, fun q o n => tyx_new n ty, ty, ?_⟩⟩
      subst hu
      cases one with
      | false => exact kitBs_any hb
      | true =>
        rcases ho with z | z
        · cases z
        · match tys, z, hb with
          | [T], _, hb =>
            show PySem.W.kitOne _ _ _ = _
            unfold kitBs at hb
            cases h : kitB kd T with
            | none => rw [h] at hb; cases hb
            | some x =>
              rw [h] at hb
              cases x with
              | true => cases hb; exact kit_ty h
              | false => cases hb; exact kit_ty h) hg hs hs2 hpl
/-- isinstance of an error that is held; tab: by its class -/
def isxW (tab : Nat → Option Bool) : W → Option W
  | .exc c => (tab c).map .bl
  | _ => none
theorem me_isx (tab : Nat → Option Bool) {cs : List V} {us : List Value} {one : Bool} (ca : ClsArg Z.X c cs us one) (hm : Z.X.mg "isinstance" = none) (ht : ∀ c b, tab c = some b → ExcC Z.X.K (Z.CA c) ∧ isAns Z.X.K (.ref (Z.CA c)) us one = some b) (ha : ME Z e m p k1)
    (hg : Gl Z.X "isinstance" := by rfl) (hs : starEach [e, c] Z.X.env = (false, eval e Z.X.env) :: starEach [c] Z.X.env := by rfl) (hs2 : starEach [c] Z.X.env = (false, eval c Z.X.env) :: starEach [] Z.X.env := by rfl) (hpl : (backTo p2 (starEach [c] Z.X.env)).any (·.1) = false := by rfl) :
    ME Z (.Call (.Name "isinstance" p1) [e, c] [] p2) (mUn (isxW tab) m) p true := me_is ca hm ha (fun G H w v O r s ro e => by
  cases w with
  | exc c =>
    have e' : (tab c).map W.bl = some r := e
    cases hb : tab c with
    | none => rw [hb] at e'; cases e'
    | some b =>
      rw [hb] at e'
      cases e'
      obtain ⟨_, a, rfl, h1⟩ := ro
      obtain ⟨h2, h3⟩ := ht c b hb
      exact ⟨b, rfl, .inr ⟨_, a, rfl, s _ _ h1, h2, h3⟩⟩
  | _ => cases e) hg hs hs2 hpl
end
end Ev

namespace Ev
open PySem PySem.Spec L2

/-! ### a op b op c, all looking only -/
def mChain (f g : W → W → Option W) (m1 m2 m3 : Sm W) : Sm W := Sm.bind m1 fun w1 => Sm.bind m2 fun w2 => Sm.bind (lft ((f w1 w2).bind blW)) fun b => if b = true then Sm.bind m3 fun w3 => lft (g w2 w3) else Sm.ret (.bl false)
theorem tx_chain {D : Dn} {Wx : WX} {r r' : R2} {f g : W → W → Option W} {m1 m2 m3 : Sm W} {k1 k2 k3 : Bool} (o : RelS D r f) (o' : RelS D r' g) {σ : L2.St} {H : Hp} {Q : VK} (q : TX D Wx true true (mChain f g m1 m2 m3) σ H Q) :
    tChain r r' (TX D Wx true k1 m1) (TX D Wx true k2 m2) (TX D Wx true k3 m3) σ H Q := by
  obtain ⟨env, G, Os, s, q⟩ := q
  refine ⟨env, G, Os, s, ?_⟩
  unfold mChain Sm.bind at q
  cases e1 : m1 env with
  | bad => rw [e1] at q; exact q
  | ex c env1 => rw [e1] at q; exact q
  | ok w1 env1 =>
    rw [e1] at q
    intro v1 G1 H1 Os1 O1 s1 r1 o1 t1
    refine ⟨env1, G1, Os1, s1, ?_⟩
    cases e2 : m2 env1 with
    | bad => simp only [e2] at q
    | ex c env2 =>
      simp only [e2] at q
      exact fun G' H' Os' s' t => q G' H' Os' s' (t1.trans t)
    | ok w2 env2 =>
      simp only [e2] at q
      intro v2 G2 H2 Os2 O2 s2 r2 o2 t2
      have r1' := stay s1 r1 o1 t2 (by cases k1 <;> rfl)
      cases ef : f w1 w2 with
      | none => simp only [ef, Option.bind_none, lft] at q
      | some wb =>
        have key : ∃ b, wb = .bl b := by
          cases wb <;> first
            | exact ⟨_, rfl⟩
            | (exfalso; simp only [ef, Option.bind_some, blW, lft] at q; done)
        obtain ⟨b, rfl⟩ := key
        simp only [ef, Option.bind_some, blW, lft] at q
        refine o G2 H2 w1 w2 v1 v2 O1 O2 (.bl b) _ s2.sub r1' r2 ef fun v G3 H3 Ow sub ro nd gn st => ?_
        obtain ⟨rfl, rfl⟩ := ro
        have s3 := s2.step st sub
        have t3 : Stp true env G H Os env2 G3 H3 Os2 [] := by
          have z := (t1.trans t2).trans (Stp.grow true (env := env2) (Os := Os2) st)
          exact z
        refine ⟨b, rfl, ?_⟩
        cases b with
        | false =>
          rw [if_neg Bool.false_ne_true]
          simp only [Bool.false_eq_true, if_false, Sm.ret] at q
          exact q (.bl false) G3 H3 Os2 [] s3 ⟨rfl, rfl⟩ (OwnK.nil s3) t3
        | true =>
          rw [if_pos rfl]
          simp only [if_true] at q
          refine ⟨env2, G3, Os2, s3, ?_⟩
          cases e3 : m3 env2 with
          | bad => simp only [e3] at q
          | ex c env3 =>
            simp only [e3] at q
            exact fun G' H' Os' s' t => q G' H' Os' s' (t3.trans t)
          | ok w3 env3 =>
            simp only [e3] at q
            intro v4 G4 H4 Os4 O4 s4 r4 o4 t4
            cases eg : g w2 w3 with
            | none => simp only [eg] at q
            | some w =>
              simp only [eg] at q
              have r2' : RO D G4 H4 w2 v2 O2 := by
                refine stay s2 r2 o2 (p := true) (O2 := []) ?_ (by cases k2 <;> rfl) (env' := env3) (Os' := Os4)
                have z := (Stp.grow true (env := env2) (Os := Os2) st).trans t4
                exact z.less fun _ z => nomatch z
              exact o' G4 H4 w2 w3 v2 v4 O2 O4 w Q s4.sub r2' r4 eg (Ans.of (p := true) s4 (t3.trans t4) q)
theorem mt_cmp {Z : Zt} {op : CmpOp} {f : W → W → Option W} {a b : Expr} {m1 m2 : Sm W} {p1 p2 k1 k2 : Bool} {pos : Pos} (o : OpS Z (compareOp op) f) (ha : ME Z a m1 p1 k1) (hb : ME Z b m2 p2 k2) (hm : behindInMarks op b = false := by first | exact nomark _ | rfl) :
    MT Z (.Compare a [op] [b] pos) (toB (mBin f (k1 || p2) m1 m2)) (p1 && p2) :=
  pt_imp (pt_cmpR op_any ha hb hm) fun _ _ _ h => tx_bin o (tt_val h)
theorem mt_chain {Z : Zt} {op op' : CmpOp} {f g : W → W → Option W} {a b c : Expr} {m1 m2 m3 : Sm W} {k1 k2 k3 : Bool} {pos : Pos} (o : OpS Z (compareOp op) f) (o' : OpS Z (compareOp op') g) (ha : ME Z a m1 true k1) (hb : ME Z b m2 true k2) (hc : ME Z c m3 true k3)
    (hm : lastMarks [op, op'] [b, c] = false := by with_unfolding_all rfl) : MT Z (.Compare a [op, op'] [b, c] pos) (toB (mChain f g m1 m2 m3)) true :=
  pt_imp (pt_chain op_any op_any ha hb hc hm) fun _ _ _ q => tx_chain o o' (tt_val q)
end Ev

namespace Ev
open PySem PySem.Spec L2

/-! ### the classes of the errors, the first one above all others -/
structure CF1 (K : PySem.W.Frag) (C : Addr) (x : Str) : Prop where
  ns : PySem.W.nsIn K mainGlobals x = some (some (.ref C))
  x : PySem.W.excIn K C [.type "ValueError", .type "Exception", .type "BaseException", .type "object"] "ValueError.__new__" = true
  k : PySem.W.keepIn K (.ref C) = true
  b : PySem.W.subIn K (.ref C) (.type "BaseException") = some true
  t : PySem.W.typeIn K (.ref C) = some (.type "type")
  v : PySem.W.subIn K (.ref C) (.type "ValueError") = some true
  e : ExcC K C
theorem CF1.i {K : PySem.W.Frag} {C : Addr} {x : Str} (q : CF1 K C x) : (PySem.W.clsIn K C).isSome = true := by
  obtain ⟨cd, h, _⟩ := PySem.W.any_some q.e.hd
  rw [h]
  rfl
structure CF (K : PySem.W.Frag) (names : List Str) (A : Nat → Addr) : Prop where
  one : ∀ c x, names[c]? = some x → CF1 K (A c) x
  sub : ∀ c d, c < names.length → d < names.length → PySem.W.subIn K (.ref (A c)) (.ref (A d)) = some (d == 0 || c == d)
section
variable {K : PySem.W.Frag} {names : List Str} {A : Nat → Addr}
theorem CF.clsT {h : Heap} {mg : Str → Option Value} (X : K.In h) (G : h.Ns mainGlobals mg) (F : CF K names A) {c : Nat} {x : Str} (e : names[c]? = some x) : ClsT K mg A x c :=
  have q := F.one c x e
  ⟨PySem.W.mg_of X G q.ns, q.x, q.k, q.b, q.t⟩
theorem CF.at (F : CF K names A) {c : Nat} (h : c < names.length) : ∃ x, CF1 K (A c) x := ⟨_, F.one c _ (List.getElem?_eq_getElem h)⟩
theorem CF.clsOf (F : CF K names A) {c d : Nat} (hc : c < names.length) (hd : d < names.length) : PySem.W.kitCls K (.ref (A c)) (.ref (A d)) = some (d == 0 || c == d) := by
  obtain ⟨x, q⟩ := F.at hd
  show (if ((PySem.W.clsIn K (A d)).isSome && PySem.W.typeIn K (.ref (A d)) == some (.type "type")) = true then PySem.W.subIn K (.ref (A c)) (.ref (A d)) else none) = _
  have e2 : ((PySem.W.clsIn K (A d)).isSome && PySem.W.typeIn K (.ref (A d)) == some (.type "type")) = true := by rw [q.i, q.t] <;> rfl
  rw [if_pos e2]
  exact F.sub c d hc hd
theorem CF.one_ (F : CF K names A) {c d : Nat} (hc : c < names.length) (hd : d < names.length) : PySem.W.kitOne K (.ref (A c)) (.ref (A d)) = some (d == 0 || c == d) := by
  unfold PySem.W.kitOne
  by_cases z : ((Value.ref (A c)) == (Value.ref (A d))) = true
  · rw [if_pos z]
    have e : A c = A d := Value.ref.inj (beq_iff_eq.mp z)
    have h1 := F.sub c d hc hd
    rw [← e, F.sub c c hc hc] at h1
    simp at h1
    have h2 : (d == 0 || c == d) = true := by simp [h1]
    rw [h2]
  · rw [if_neg z]
    exact F.clsOf hc hd
theorem CF.oneV (F : CF K names A) {c : Nat} (hc : c < names.length) : PySem.W.kitOne K (.ref (A c)) (.type "ValueError") = some true := by
  obtain ⟨x, q⟩ := F.at hc
  unfold PySem.W.kitOne
  rw [if_neg (by simp)]
  show (if PySem.W.kitMeta "ValueError" = true then PySem.W.subIn K (.ref (A c)) (.type "ValueError") else none) = _
  rw [if_pos (by decide +kernel)]
  exact q.v
theorem CF.exm (F : CF K names A) {c d : Nat} (hc : c < names.length) (hd : d < names.length) : PySem.W.exmOne K (.ref (A c)) (.ref (A d)) = some (d == 0 || c == d) := by
  obtain ⟨x, q⟩ := F.at hd
  unfold PySem.W.exmOne
  have e1 : (PySem.W.subIn K (.ref (A d)) (.type "BaseException") == some true) = true := by rw [q.b] <;> rfl
  rw [if_pos e1]
  exact F.clsOf hc hd
end
/-- what an isinstance names: none: ValueError; some d: the d-th class -/
def valU (A : Nat → Addr) : Option Nat → Value
  | none => .type "ValueError"
  | some d => .ref (A d)
def hitU (c : Nat) : Option Nat → Bool
  | none => true
  | some d => d == 0 || c == d
def tabU (us : List (Option Nat)) (n : Nat) (c : Nat) : Option Bool := if c < n then some (us.any (hitU c)) else none
def accU (d n : Nat) (c : Nat) : Option Bool := if c < n then some (d == 0 || c == d) else none
section
variable {K : PySem.W.Frag} {names : List Str} {A : Nat → Addr}
def okU (n : Nat) : Option Nat → Bool
  | none => true
  | some d => decide (d < n)
theorem CF.oneU (F : CF K names A) {c : Nat} (hc : c < names.length) : ∀ {u : Option Nat}, okU names.length u = true → PySem.W.kitOne K (.ref (A c)) (valU A u) = some (hitU c u)
  | none, _ => F.oneV hc
  | some _, h => F.one_ hc (of_decide_eq_true h)
theorem CF.anyU (F : CF K names A) {c : Nat} (hc : c < names.length) : ∀ {us : List (Option Nat)}, us.all (okU names.length) = true → PySem.W.kitAny K (.ref (A c)) (us.map (valU A)) = some (us.any (hitU c))
  | [], _ => rfl
  | u :: us, h => by
    rw [List.all_cons, Bool.and_eq_true] at h
    have h1 := F.oneU hc h.1
    have h2 := F.anyU hc h.2
    rw [List.map_cons, List.any_cons]
    unfold PySem.W.kitAny
    rw [h1]
    cases hitU c u with
    | true => rfl
    | false => exact h2
/-- what an isinstance wants of the classes -/
theorem CF.tab (us : List (Option Nat)) (one : Bool) {n : Nat} (F : CF K names A) (hn : names.length = n) (h1 : us.all (okU n) = true) (ho : one = false ∨ us.length = 1) : ∀ c b, tabU us n c = some b → ExcC K (A c) ∧ isAns K (.ref (A c)) (us.map (valU A)) one = some b := fun c b e => by
  subst hn
  unfold tabU at e
  by_cases hc : c < names.length
  · rw [if_pos hc] at e
    cases e
    obtain ⟨x, q⟩ := F.at hc
    refine ⟨q.e, ?_⟩
    cases one with
    | false => exact F.anyU hc h1
    | true =>
      rcases ho with z | z
      · cases z
      · match us, z, h1 with
        | [u], _, h1 =>
          show PySem.W.kitOne K (.ref (A c)) (valU A u) = _
          rw [List.all_cons, Bool.and_eq_true] at h1
          rw [F.oneU hc h1.1]
          simp
  · rw [if_neg hc] at e
    cases e
theorem CF.acc (d : Nat) {n : Nat} (F : CF K names A) (hn : names.length = n) (hd : d < n) : ∀ c b, accU d n c = some b → PySem.W.exmOne K (.ref (A c)) (.ref (A d)) = some b := fun c b e => by
  subst hn
  unfold accU at e
  by_cases hc : c < names.length
  · rw [if_pos hc] at e
    cases e
    exact F.exm hc hd
  · rw [if_neg hc] at e
    cases e
end

/-! ### the defs -/
def DF (K : PySem.W.Frag) (x : Str) (ps : List Str) (st : Stmt) : Prop := ∃ (f : Addr) (fd : FuncData), PySem.W.nsIn K mainGlobals x = some (some (.ref f)) ∧ Fun K x x st f fd ∧ ∀ (s : Shared) (us : List Value), us.length = ps.length → BindsTo s fd ⟨us, []⟩ (ps.zip us)
theorem DF.mk {K : PySem.W.Frag} {x : Str} {ps : List Str} {st : Stmt} {f : Addr} {oc : Value} {od an : Option Addr} {osl : Array (Option Value)} {kV doc pm cdv ct : Value}
    (h : ∀ (kV doc pm : Value) (an : Option Addr) (cdv ct : Value) (us : List Value), us.length = ps.length → bindArgs (PySem.W.fnOf x x (defArgs st) (defBody st) (defScope st) .none kV doc pm an cdv ct) ⟨us, []⟩ = pure (ps.zip us))
    (a : PySem.W.nsIn K mainGlobals x = some (some (.ref f))) (l : K.lookup f = some ⟨oc, od, .func (PySem.W.fnOf x x (defArgs st) (defBody st) (defScope st) .none kV doc pm an cdv ct), osl⟩) (c : PySem.W.codeIn K cdv x = true) (k : PySem.W.keepIn K (.ref f) = true) : DF K x ps st :=
  ⟨f, _, a, fun_mk l c k, fun s us hl => .of_eq (h kV doc pm an cdv ct us hl)⟩
theorem binds_of {K : PySem.W.Frag} {fd : FuncData} {ps : List Str} (h : ∀ (s : Shared) (us : List Value), us.length = ps.length → BindsTo s fd ⟨us, []⟩ (ps.zip us)) : Binds K fd ps [] := fun s us _ hl => by
  rw [List.append_nil] at hl ⊢
  exact h s us hl

/-! ### the law itself -/
theorem rfs_ints {D : Dn} {G : Hp} : ∀ ns : List Int, RFs D G (ns.map W.int) (ns.map V.int)
  | [] => rfl
  | n :: ns => ⟨.int n, _, rfl, rfl, rfs_ints ns⟩
def spTop (K : PySem.W.Frag) (g : Fn) : Sp := fun vs H Q E => ∀ CA : Nat → Addr, spOf ⟨K, CA⟩ 1 g vs H Q E
theorem spTop_of {K : PySem.W.Frag} {g : Fn} {ns : List Int} {H : Hp} {a : Addr} {ws : List W} (e : g [.scr (ns.map W.int)] = .ok (.bl true) ws) (hS : SqL K H a (ns.map V.int)) : spTop K g [.ref a] H (fun v _ => v = .bl true) fun _ _ _ => False := fun CA => by
  refine ⟨rfl, [.scr (ns.map W.int)], H, [], Sub.refl _, ⟨.ref a, [], [], [], rfl, rfl, ⟨rfl, a, _, rfl, hS, rfs_ints ns⟩, rfl, rfl⟩, List.nodup_nil, fun _ z => (nomatch z), ?_⟩
  rw [e]
  intro v G' H' O' Ow _ _ r _ _ _
  exact r.2
end Ev

namespace Ev
open PySem PySem.Spec L2

/-! ### running a meaning -/
section
variable {α β : Type} {env : List W}
theorem r_bind (m : Sm α) (f : α → Sm β) : Sm.bind m f env = match m env with
  | .ok a e' => f a e'
  | .ex c e' => .ex c e'
  | .bad => .bad := rfl
theorem r_ret (a : α) : Sm.ret a env = .ok a env := rfl
theorem r_lft (o : Option α) : lft o env = match o with
  | some a => .ok a env
  | none => .bad := rfl
theorem r_c (w : W) : mC w env = .ok w env := rfl
theorem r_var (i : Nat) : mVar i env = match env[i]? with
  | some .dead => .bad
  | some w => .ok w env
  | none => .bad := rfl
theorem r_move (i : Nat) : mMove i env = match env[i]? with
  | some .dead => .bad
  | some w => .ok w (env.set i .dead)
  | none => .bad := rfl
theorem r_un (f : W → Option W) (m : Sm W) : mUn f m env = match m env with
  | .ok w e' => (match f w with
    | some r => .ok r e'
    | none => .bad)
  | .ex c e' => .ex c e'
  | .bad => .bad := by
  unfold mUn
  rw [r_bind]
  cases m env with
  | ok w e' => dsimp only; rw [r_lft]; cases f w <;> rfl
  | _ => rfl
theorem r_bin (f : W → W → Option W) (g : Bool) (m1 m2 : Sm W) : mBin f g m1 m2 env = match m1 env with
  | .ok w1 e1 => (match m2 e1 with
    | .ok w2 e2 => if (g || w1.frz) = true then (match f w1 w2 with
      | some r => .ok r e2
      | none => .bad) else .bad
    | .ex c e' => .ex c e'
    | .bad => .bad)
  | .ex c e' => .ex c e'
  | .bad => .bad := by
  unfold mBin
  rw [r_bind]
  cases m1 env with
  | ok w1 e1 =>
    dsimp only
    rw [r_bind]
    cases m2 e1 with
    | ok w2 e2 =>
      dsimp only
      split
      · rw [r_lft]; cases f w1 w2 <;> rfl
      · rfl
    | _ => rfl
  | _ => rfl
theorem r_chain (f g : W → W → Option W) (m1 m2 m3 : Sm W) : mChain f g m1 m2 m3 env = match m1 env with
  | .ok w1 e1 => (match m2 e1 with
    | .ok w2 e2 => (match (f w1 w2).bind blW with
      | some true => (match m3 e2 with
        | .ok w3 e3 => (match g w2 w3 with
          | some r => .ok r e3
          | none => .bad)
        | .ex c e' => .ex c e'
        | .bad => .bad)
      | some false => .ok (.bl false) e2
      | none => .bad)
    | .ex c e' => .ex c e'
    | .bad => .bad)
  | .ex c e' => .ex c e'
  | .bad => .bad := by
  unfold mChain
  rw [r_bind]
  cases m1 env with
  | ok w1 e1 =>
    dsimp only
    rw [r_bind]
    cases m2 e1 with
    | ok w2 e2 =>
      dsimp only
      rw [r_bind, r_lft]
      cases (f w1 w2).bind blW with
      | none => rfl
      | some b =>
        cases b with
        | false => rfl
        | true =>
          dsimp only
          rw [if_pos rfl, r_bind]
          cases m3 e2 with
          | ok w3 e3 => dsimp only; rw [r_lft]; cases g w2 w3 <;> rfl
          | _ => rfl
    | _ => rfl
  | _ => rfl
theorem r_toB (m : Sm W) : toB m env = match m env with
  | .ok w e' => (match blW w with
    | some r => .ok r e'
    | none => .bad)
  | .ex c e' => .ex c e'
  | .bad => .bad := by
  unfold toB
  rw [r_bind]
  cases m env with
  | ok w e' => dsimp only; rw [r_lft]; cases blW w <;> rfl
  | _ => rfl
theorem r_ofB (m : Sm Bool) : ofB m env = match m env with
  | .ok b e' => .ok (.bl b) e'
  | .ex c e' => .ex c e'
  | .bad => .bad := by
  unfold ofB
  rw [r_bind]
  cases m env with
  | ok w e' => first | rfl | (dsimp only; done) | (dsimp only; first | rfl | (split <;> first | rfl | (split <;> rfl)))
  | _ => rfl
theorem r_and (m1 m2 : Sm Bool) : mAnd m1 m2 env = match m1 env with
  | .ok true e' => m2 e'
  | .ok false e' => .ok false e'
  | .ex c e' => .ex c e'
  | .bad => .bad := by
  unfold mAnd
  rw [r_bind]
  cases m1 env with
  | ok b e' => cases b <;> rfl
  | _ => rfl
theorem r_or (m1 m2 : Sm Bool) : mOr m1 m2 env = match m1 env with
  | .ok true e' => .ok true e'
  | .ok false e' => m2 e'
  | .ex c e' => .ex c e'
  | .bad => .bad := by
  unfold mOr
  rw [r_bind]
  cases m1 env with
  | ok b e' => cases b <;> rfl
  | _ => rfl
theorem r_not (m : Sm Bool) : mNot m env = match m env with
  | .ok b e' => .ok (!b) e'
  | .ex c e' => .ex c e'
  | .bad => .bad := by
  unfold mNot
  rw [r_bind]
  cases m env with
  | ok w e' => first | rfl | (dsimp only; done) | (dsimp only; first | rfl | (split <;> first | rfl | (split <;> rfl)))
  | _ => rfl
theorem r_nil : mNil env = .ok [] env := rfl
theorem r_cons (m : Sm W) (ms : Sm (List W)) : mCons m ms env = match m env with
  | .ok w e' => if w.frz = true then (match ms e' with
    | .ok ws e2 => .ok (w :: ws) e2
    | .ex c e' => .ex c e'
    | .bad => .bad) else .bad
  | .ex c e' => .ex c e'
  | .bad => .bad := by
  unfold mCons
  rw [r_bind]
  cases m env with
  | ok w e' =>
    dsimp only
    split
    · rw [r_bind]; cases ms e' <;> rfl
    · rfl
  | _ => rfl
theorem r_args (f : List W → Option W) (m : Sm (List W)) : mArgs f m env = match m env with
  | .ok ws e' => (match f ws with
    | some r => .ok r e'
    | none => .bad)
  | .ex c e' => .ex c e'
  | .bad => .bad := by
  unfold mArgs
  rw [r_bind]
  cases m env with
  | ok w e' => dsimp only; rw [r_lft]; cases f w <;> rfl
  | _ => rfl
theorem r_iargs (f : List W → Option (List W)) (m : Sm (List W)) : iArgs f m env = match m env with
  | .ok ws e' => (match f ws with
    | some r => .ok r e'
    | none => .bad)
  | .ex c e' => .ex c e'
  | .bad => .bad := by
  unfold iArgs
  rw [r_bind]
  cases m env with
  | ok w e' => dsimp only; rw [r_lft]; cases f w <;> rfl
  | _ => rfl
theorem r_ilst (m : Sm W) : iLst m env = match m env with
  | .ok w e' => (match frzL w with
    | some r => .ok r e'
    | none => .bad)
  | .ex c e' => .ex c e'
  | .bad => .bad := by
  unfold iLst
  rw [r_bind]
  cases m env with
  | ok w e' => dsimp only; rw [r_lft]; cases frzL w <;> rfl
  | _ => rfl
theorem r_part (m : Sm W) : mPart m env = match m env with
  | .ok w e' => (match (intW w).map some with
    | some r => .ok r e'
    | none => .bad)
  | .ex c e' => .ex c e'
  | .bad => .bad := by
  unfold mPart
  rw [r_bind]
  cases m env with
  | ok w e' => dsimp only; rw [r_lft]; cases (intW w).map some <;> rfl
  | _ => rfl
theorem r_no : mNo env = .ok none env := rfl
theorem r_slice (b g : Bool) (m : Sm W) (ml mh : Sm (Option Int)) : mSlice b g m ml mh env = match m env with
  | .ok w e1 => (match ml e1 with
    | .ok lo e2 => (match mh e2 with
      | .ok hi e3 => if (g || w.frz) = true then (match cutW b w lo hi with
        | some r => .ok r e3
        | none => .bad) else .bad
      | .ex c e' => .ex c e'
      | .bad => .bad)
    | .ex c e' => .ex c e'
    | .bad => .bad)
  | .ex c e' => .ex c e'
  | .bad => .bad := by
  unfold mSlice
  rw [r_bind]
  cases m env with
  | ok w e1 =>
    dsimp only
    rw [r_bind]
    cases ml e1 with
    | ok lo e2 =>
      dsimp only
      rw [r_bind]
      cases mh e2 with
      | ok hi e3 =>
        dsimp only
        split
        · rw [r_lft]; cases cutW b w lo hi <;> rfl
        · rfl
      | _ => rfl
    | _ => rfl
  | _ => rfl
theorem r_callP (g : Fn) (m : Sm (List W)) : mCallP g m env = match m env with
  | .ok ws e' => (match g ws with
    | .ok w _ => .ok w e'
    | .ex c _ => .ex c e'
    | .bad => .bad)
  | .ex c e' => .ex c e'
  | .bad => .bad := by
  unfold mCallP
  rw [r_bind]
  cases m env with
  | ok w e' => first | rfl | (dsimp only; done) | (dsimp only; first | rfl | (split <;> first | rfl | (split <;> rfl)))
  | _ => rfl
theorem r_rnil : rNil env = .ok [] env := rfl
theorem r_rval (m : Sm W) (ms : Sm (List AV)) : rVal m ms env = match m env with
  | .ok w e' => if w.frz = true then (match ms e' with
    | .ok as e2 => .ok (.v w :: as) e2
    | .ex c e' => .ex c e'
    | .bad => .bad) else .bad
  | .ex c e' => .ex c e'
  | .bad => .bad := by
  unfold rVal
  rw [r_bind]
  cases m env with
  | ok w e' =>
    dsimp only
    split
    · rw [r_bind]; cases ms e' <;> rfl
    · rfl
  | _ => rfl
theorem r_rvalX (m : Sm W) (ms : Sm (List AV)) : rValX m ms env = match m env with
  | .ok w e' => if w.pas = true then (match ms e' with
    | .ok as e2 => .ok (.v w :: as) e2
    | .ex c e' => .ex c e'
    | .bad => .bad) else .bad
  | .ex c e' => .ex c e'
  | .bad => .bad := by
  unfold rValX
  rw [r_bind]
  cases m env with
  | ok w e' =>
    dsimp only
    split
    · rw [r_bind]; cases ms e' <;> rfl
    · rfl
  | _ => rfl
theorem r_rio (i : Nat) (ms : Sm (List AV)) : rIo i ms env = match ms env with
  | .ok as e' => .ok (.io i :: as) e'
  | .ex c e' => .ex c e'
  | .bad => .bad := by
  unfold rIo
  rw [r_bind]
  cases ms env with
  | ok w e' => first | rfl | (dsimp only; done) | (dsimp only; first | rfl | (split <;> first | rfl | (split <;> rfl)))
  | _ => rfl
theorem r_call (g : Fn) (n : Nat) (m : Sm (List AV)) : mCall g n m env = match m env with
  | .ok as e' => if as.length = n then (match takeA e' as with
    | none => .bad
    | some (ws, env0) => match g ws with
      | .ok w ws' => .ok w (putA env0 as ws')
      | .ex c ws' => .ex c (putA env0 as ws')
      | .bad => .bad) else .bad
  | .ex c e' => .ex c e'
  | .bad => .bad := by
  unfold mCall
  rw [r_bind]
  cases m env with
  | ok w e' => first | rfl | (dsimp only; done) | (dsimp only; first | rfl | (split <;> first | rfl | (split <;> rfl)))
  | _ => rfl
theorem r_callL (g : Fn) (n : Nat) (m : Sm (List AV)) : mCallL g n m env = match m env with
  | .ok as e' => if as.length = n then (match lendA e' as with
    | none => .bad
    | some ws => match g ws with
      | .ok w _ => if w.flat = true then .ok w e' else .bad
      | .ex c _ => .ex c e'
      | .bad => .bad) else .bad
  | .ex c e' => .ex c e'
  | .bad => .bad := by
  unfold mCallL
  rw [r_bind]
  cases m env with
  | ok w e' => first | rfl | (dsimp only; done) | (dsimp only; first | rfl | (split <;> first | rfl | (split <;> rfl)))
  | _ => rfl
theorem r_fz (m : Sm W) : mFz m env = match m env with
  | .ok w e' => (match w.fz.frz with
    | true => .ok w.fz e'
    | false => .bad)
  | .ex c e' => .ex c e'
  | .bad => .bad := by
  unfold mFz
  rw [r_bind]
  cases m env with
  | ok w e' => dsimp only; cases w.fz.frz <;> rfl
  | _ => rfl
theorem r_seq (m1 m2 : Sm Fl) : sSeq m1 m2 env = match m1 env with
  | .ok .nx e' => m2 e'
  | .ok .bk e' => .ok .bk e'
  | .ok .ct e' => .ok .ct e'
  | .ok (.rt w) e' => .ok (.rt w) e'
  | .ex c e' => .ex c e'
  | .bad => .bad := by
  unfold sSeq
  rw [r_bind]
  cases m1 env with
  | ok fl e' => cases fl <;> rfl
  | _ => rfl
theorem r_snil : sNil env = .ok .nx env := rfl
theorem r_if (c : Sm Bool) (a b : Sm Fl) : sIf c a b env = match c env with
  | .ok true e' => a e'
  | .ok false e' => b e'
  | .ex c e' => .ex c e'
  | .bad => .bad := by
  unfold sIf
  rw [r_bind]
  cases c env with
  | ok b e' => cases b <;> rfl
  | _ => rfl
theorem r_drop (m : Sm W) : sDrop m env = match m env with
  | .ok _ e' => .ok .nx e'
  | .ex c e' => .ex c e'
  | .bad => .bad := by
  unfold sDrop
  rw [r_bind]
  cases m env with
  | ok w e' => first | rfl | (dsimp only; done) | (dsimp only; first | rfl | (split <;> first | rfl | (split <;> rfl)))
  | _ => rfl
theorem r_sret (k : Bool) (m : Sm W) : sRet k m env = match m env with
  | .ok w e' => if (k || w.frz) = true then .ok (.rt w) e' else .bad
  | .ex c e' => .ex c e'
  | .bad => .bad := by
  unfold sRet
  rw [r_bind]
  cases m env with
  | ok w e' => dsimp only; split <;> rfl
  | _ => rfl
theorem r_set (i : Nat) (k : Bool) (m : Sm W) : sSet i k m env = match m env with
  | .ok w e' => if (k || w.frz) = true then .ok .nx (e'.set i w) else .bad
  | .ex c e' => .ex c e'
  | .bad => .bad := by
  unfold sSet
  rw [r_bind]
  cases m env with
  | ok w e' => first | rfl | (dsimp only; done) | (dsimp only; first | rfl | (split <;> first | rfl | (split <;> rfl)))
  | _ => rfl
theorem r_asg (f : Tg) (m : Sm W) : sAsg f m env = match m env with
  | .ok w e' => if w.frz = true then (match f w e' with
    | some e2 => .ok .nx e2
    | none => .bad) else .bad
  | .ex c e' => .ex c e'
  | .bad => .bad := by
  unfold sAsg
  rw [r_bind]
  cases m env with
  | ok w e' => first | rfl | (dsimp only; done) | (dsimp only; split <;> first | rfl | (cases f w e' <;> rfl))
  | _ => rfl
theorem r_aug (i : Nat) (f : Int → Int → Int) (m : Sm W) : sAug i f m env = match env[i]? with
  | some (.int a) => (match m env with
    | .ok (.int b) env' => .ok .nx (env'.set i (.int (f a b)))
    | .ok _ _ => .bad
    | .ex c env' => .ex c env'
    | .bad => .bad)
  | _ => .bad := rfl
theorem r_sfor (f : Tg) (body : Sm Fl) (kill : List Nat) (mi : Sm (List W)) : sFor f body kill mi env = match mi env with
  | .ok ws e' => mFor f body kill ws e'
  | .ex c e' => .ex c e'
  | .bad => .bad := by
  unfold sFor
  rw [r_bind]
  cases mi env with
  | ok w e' => first | rfl | (dsimp only; done) | (dsimp only; first | rfl | (split <;> first | rfl | (split <;> rfl)))
  | _ => rfl
theorem r_mut (i : Nat) (F : MutF) (m : Sm (List W)) : mMut i F m env = match env[i]? with
  | some (.lst true _) => (match m env with
    | .ok ws env1 => (match env1[i]? with
      | some (.lst true xs) => (match F xs ws with
        | some (w, xs') => .ok w (env1.set i (.lst true xs'))
        | none => .bad)
      | _ => .bad)
    | .ex c env1 => .ex c env1
    | .bad => .bad)
  | _ => .bad := rfl
theorem r_sto (i : Nat) (mi me : Sm W) : sSto i mi me env = match me env with
  | .ok w e' => if w.frz = true then (match e'[i]? with
    | some (.lst true _) => (match mi e' with
      | .ok j e2 => stoAt i w j e2
      | .ex c e' => .ex c e'
      | .bad => .bad)
    | _ => .bad) else .bad
  | .ex c e' => .ex c e'
  | .bad => .bad := by
  unfold sSto
  rw [r_bind]
  cases me env with
  | ok w e' =>
    dsimp only
    split
    · cases e'[i]? with
      | none => rfl
      | some v =>
        cases v <;> first
          | rfl
          | (rename_i b _; cases b <;> first | rfl | (dsimp only; rw [r_bind]; cases mi e' <;> rfl))
    · rfl
  | _ => rfl
theorem r_go (g : Sm Unit) (m : Sm Fl) : sGo g m env = match g env with
  | .ok _ e' => m e'
  | .ex c e' => .ex c e'
  | .bad => .bad := by
  unfold sGo
  rw [r_bind]
  cases g env with
  | ok w e' => first | rfl | (dsimp only; done) | (dsimp only; first | rfl | (split <;> first | rfl | (split <;> rfl)))
  | _ => rfl
theorem r_gfz (i : Nat) : gFz i env = match env[i]? with
  | some (.lst true xs) => .ok () (env.set i (.lst false xs))
  | _ => .bad := rfl
theorem r_raise (c : Nat) : sRaise c env = .ex c env := rfl
theorem r_try (acc : Nat → Option Bool) (i j : Nat) (mb : Sm Fl) : sTry acc i j mb env = match mb env with
  | .ex x env1 => (match acc x with
    | some true => .ok .nx ((env1.set j (.exc x)).set i .dead)
    | some false => .ex x env1
    | none => .bad)
  | .ok a e => .ok a e
  | .bad => .bad := by
  unfold sTry
  cases mb env <;> rfl
theorem r_andV (m1 m2 : Sm W) : mAndV m1 m2 env = ofB (mAnd (toB m1) (toB m2)) env := rfl
theorem r_orV (m1 m2 : Sm W) : mOrV m1 m2 env = ofB (mOr (toB m1) (toB m2)) env := rfl
theorem r_notV (m : Sm W) : mNotV m env = ofB (mNot (toB m)) env := rfl
theorem r_fn (N : Nat) (io : List Bool) (body : Sm Fl) (ws : List W) : fnSem N io body ws = match body (ws ++ List.replicate (N - ws.length) .dead) with
  | .ok (.rt w) env => .ok w (maskL io env)
  | .ok .nx env => .ok .non (maskL io env)
  | .ok _ _ => .bad
  | .ex c env => .ex c (maskL io env)
  | .bad => .bad := rfl
end
theorem maskL_nil (env : List W) : maskL [] env = [] := rfl
theorem maskL_cons (b : Bool) (bs : List Bool) (w : W) (env : List W) : maskL (b :: bs) (w :: env) = cond b w .dead :: maskL bs env := rfl
theorem frz_non : W.non.frz = true := rfl
theorem frz_bl (b : Bool) : (W.bl b).frz = true := rfl
theorem frz_int (i : Int) : (W.int i).frz = true := rfl
theorem frz_str (i : Str) : (W.str i).frz = true := rfl
theorem frz_tup (i : List W) : (W.tup i).frz = true := rfl
theorem frz_lst (b : Bool) (i : List W) : (W.lst b i).frz = !b := rfl
theorem frz_scr (i : List W) : (W.scr i).frz = true := rfl
theorem fz_lst (b : Bool) (i : List W) : (W.lst b i).fz = .lst false i := rfl
theorem fz_int (i : Int) : (W.int i).fz = .int i := rfl
theorem fz_tup (i : List W) : (W.tup i).fz = .tup i := rfl
theorem fz_str (i : Str) : (W.str i).fz = .str i := rfl
theorem fz_bl (i : Bool) : (W.bl i).fz = .bl i := rfl
theorem w_lst (b : Bool) (ws : List W) : lstW b ws = if ws.length ≤ sizeLine then some (.lst b ws) else none := Eq.trans rfl rfl
theorem w_tup (ws : List W) : tupW ws = if ws.length ≤ sizeLine then some (.tup ws) else none := Eq.trans rfl rfl
theorem w_add (b : Bool) (i j : Int) : addW b (.int i) (.int j) = some (.int (i + j)) := rfl
theorem w_addL (b c d : Bool) (xs ys : List W) : addW b (.lst c xs) (.lst d ys) = if xs.length + ys.length ≤ sizeLine then some (.lst b (xs ++ ys)) else none := Eq.trans rfl rfl
theorem w_addB (b c : Bool) (i : Int) : addW b (.int i) (.bl c) = some (.int (i + PyProof.Rows.b2i c)) := rfl
theorem w_sub (i j : Int) : subW (.int i) (.int j) = some (.int (i - j)) := rfl
theorem w_mul (b : Bool) (i j : Int) : mulW b (.int i) (.int j) = if mulOk i j then some (.int (i * j)) else none := Eq.trans rfl rfl
theorem w_rep (b c : Bool) (xs : List W) (k : Int) : mulW b (.lst c xs) (.int k) = if repOk xs.length k then some (.lst b (List.replicate k.toNat xs).flatten) else none := Eq.trans rfl rfl
theorem w_fdiv (i j : Int) : fdivW (.int i) (.int j) = if divOk j then some (.int (i / j)) else none := Eq.trans rfl rfl
theorem w_mod (i j : Int) : modW (.int i) (.int j) = if 0 < j then some (.int (i % j)) else none := Eq.trans rfl rfl
theorem w_pow (i j : Int) : powW (.int i) (.int j) = if powOk i j then some (.int (i ^ j.toNat)) else none := Eq.trans rfl rfl
theorem w_neg (i : Int) : negW (.int i) = some (.int (-i)) := rfl
theorem w_lt (i j : Int) : ltW (.int i) (.int j) = some (.bl (decide (i < j))) := rfl
theorem w_le (i j : Int) : leW (.int i) (.int j) = some (.bl (decide (i ≤ j))) := rfl
theorem w_ge (i j : Int) : geW (.int i) (.int j) = some (.bl (decide (j ≤ i))) := rfl
theorem w_gt (i j : Int) : gtW (.int i) (.int j) = some (.bl (decide (j < i))) := rfl
theorem w_bl (b : Bool) : blW (.bl b) = some b := rfl
theorem w_intW (i : Int) : intW (.int i) = some i := rfl
theorem w_toI (i : Int) : toIntW (.int i) = some (.int i) := rfl
theorem w_toB (b : Bool) : toIntW (.bl b) = some (.int (if b = true then 1 else 0)) := Eq.trans rfl rfl
theorem w_max2 (i j : Int) : max2W [.int i, .int j] = some (.int (if j > i then j else i)) := Eq.trans rfl rfl
theorem w_min2 (i j : Int) : min2W [.int i, .int j] = some (.int (if j < i then j else i)) := Eq.trans rfl rfl
theorem w_abs (i : Int) : absW (.int i) = some (.int (if i < 0 then -i else i)) := Eq.trans rfl rfl
theorem w_lenL (b : Bool) (ws : List W) : lenW (.lst b ws) = some (.int ws.length) := rfl
theorem w_lenC (ws : List W) : lenW (.scr ws) = some (.int ws.length) := rfl
theorem w_lenT (ws : List W) : lenW (.tup ws) = some (.int ws.length) := rfl
theorem w_listL (c b : Bool) (ws : List W) : listOfW c (.lst b ws) = some (.lst c ws) := rfl
theorem w_listC (c : Bool) (ws : List W) : listOfW c (.scr ws) = some (.lst c ws) := rfl
theorem w_listT (c : Bool) (ws : List W) : listOfW c (.tup ws) = some (.lst c ws) := rfl
theorem w_tupL (b : Bool) (ws : List W) : tupOfW (.lst b ws) = some (.tup ws) := rfl
theorem w_rev (c b : Bool) (ws : List W) : revW c (.lst b ws) = some (.lst c ws.reverse) := rfl
theorem w_ixL (b : Bool) (xs : List W) (i : Int) : ixW (.lst b xs) (.int i) = atI xs i := rfl
theorem w_ixC (xs : List W) (i : Int) : ixW (.scr xs) (.int i) = atI xs i := rfl
theorem w_ixT (xs : List W) (i : Int) : ixW (.tup xs) (.int i) = atI xs i := rfl
theorem w_cutL (c b : Bool) (xs : List W) (lo hi : Option Int) : cutW c (.lst b xs) lo hi = some (.lst c (cutL xs lo hi)) := rfl
theorem w_cutC (c : Bool) (xs : List W) (lo hi : Option Int) : cutW c (.scr xs) lo hi = some (.lst c (cutL xs lo hi)) := rfl
theorem w_frzL (ws : List W) : frzL (.lst false ws) = some ws := rfl
theorem w_frzC (ws : List W) : frzL (.scr ws) = some ws := rfl
theorem w_rng1 (j : Int) : rng1 [.int j] = if rngOk j then some (rngL 0 j.toNat) else none := Eq.trans rfl rfl
theorem w_rng2 (i j : Int) : rng2 [.int i, .int j] = if rngOk i ∧ rngOk j then some (rngL i (j - i).toNat) else none := Eq.trans rfl rfl
theorem w_enum (ws : List W) : enumL [.lst false ws] = some (ws.zipIdx.map fun q => .tup [.int (q.2 : Nat), q.1]) := rfl
theorem w_enumC (ws : List W) : enumL [.scr ws] = some (ws.zipIdx.map fun q => .tup [.int (q.2 : Nat), q.1]) := rfl
theorem w_zip (ws xs : List W) : zipL [.lst false ws, .lst false xs] = some ((ws.zip xs).map fun q => .tup [q.1, q.2]) := rfl
theorem w_app (xs : List W) (w : W) : fAppend xs [w] = if xs.length < sizeLine then some (.non, xs ++ [w]) else none := Eq.trans rfl rfl
theorem w_ext (xs ys : List W) : fExtend xs [.lst false ys] = if xs.length + ys.length ≤ sizeLine then some (.non, xs ++ ys) else none := Eq.trans rfl rfl
theorem w_pop (xs : List W) (w : W) : fPop (xs ++ [w]) [] = some (w, xs) := by
  unfold fPop
  simp
theorem w_sum (b : Bool) (ns : List Int) : sumW (.lst b (ns.map W.int)) = some (.int ns.sum) := by
  unfold sumW lisW
  rw [Option.bind_some, intsW_map]
  rfl
theorem w_isx (tab : Nat → Option Bool) (c : Nat) : isxW tab (.exc c) = (tab c).map .bl := rfl
theorem w_isiI (i : Int) : isiW ["int"] (.int i) = some (.bl true) := by rfl
theorem w_isiB (i : Int) : isiW ["bool"] (.int i) = some (.bl false) := by rfl
theorem w_tgN (i : Nat) (w : W) (env : List W) : tgN i w env = some (env.set i w) := rfl
theorem w_tgT (is : List Nat) (ws env : List W) : tgT is (.tup ws) env = tgL is ws env := rfl
theorem w_killN (env : List W) : killE [] env = env := rfl
theorem w_killC (i : Nat) (is : List Nat) (env : List W) : killE (i :: is) env = killE is (env.set i .dead) := rfl
theorem w_takeN (env : List W) : takeA env [] = some ([], env) := rfl
theorem w_takeV (env : List W) (w : W) (as : List AV) : takeA env (.v w :: as) = (takeA env as).map fun r => (w :: r.1, r.2) := rfl
theorem w_takeI (env : List W) (i : Nat) (as : List AV) : takeA env (.io i :: as) = match env[i]? with
  | some .dead => none
  | some w => (takeA (env.set i .dead) as).map fun r => (w :: r.1, r.2)
  | none => none := Eq.trans rfl rfl
theorem w_putI (env : List W) (i : Nat) (as : List AV) (w : W) (ws : List W) : putA env (.io i :: as) (w :: ws) = putA (env.set i w) as ws := rfl
theorem w_putV (env : List W) (w1 : W) (as : List AV) (w : W) (ws : List W) : putA env (.v w1 :: as) (w :: ws) = putA env as ws := rfl
theorem w_putN (env : List W) (ws : List W) : putA env [] ws = env := by cases ws <;> rfl
theorem w_lendN (env : List W) : lendA env [] = some [] := rfl
theorem w_lendV (env : List W) (w : W) (as : List AV) : lendA env (.v w :: as) = (lendA env as).map (w :: ·) := rfl
theorem w_lendI (env : List W) (i : Nat) (as : List AV) : lendA env (.io i :: as) = match env[i]? with
  | some (.lst _ xs) => (lendA env as).map (.lst false xs :: ·)
  | some (.exc c) => (lendA env as).map (.exc c :: ·)
  | some (.nst xs) => if fzOks xs = true then (lendA env as).map (.lst false (fzDs xs) :: ·) else none
  | some (.ntp xs) => if fzOks xs = true then (lendA env as).map (.tup (fzDs xs) :: ·) else none
  | some w => if w.frz = true then (lendA env as).map (w :: ·) else none
  | none => none := Eq.trans rfl rfl
theorem flat_bl (b : Bool) : (W.bl b).flat = true := rfl
theorem flat_int (b : Int) : (W.int b).flat = true := rfl
theorem flat_non : W.non.flat = true := rfl
/-! ### side conditions -/
theorem mulOk_r {i j : Int} (h1 : -(2 ^ 64) < j) (h2 : j < 2 ^ 64) : mulOk i j := .inr ⟨h1, h2⟩
theorem mulOk_l {i j : Int} (h1 : -(2 ^ 64) < i) (h2 : i < 2 ^ 64) : mulOk i j := .inl ⟨h1, h2⟩
theorem divOk_of {j : Int} (h1 : 0 < j) (h2 : j < 2 ^ 64) : divOk j := by
  refine ⟨h1, ?_⟩
  have h3 : j.natAbs < 2 ^ 64 := by omega
  have h4 := (Nat.log2_lt (n := j.natAbs) (k := 64) (by omega)).mpr h3
  omega
theorem line_ge : (1000000 : Nat) ≤ sizeLine := by decide
theorem rngOk_of {j : Int} (h1 : -(2 ^ 62) ≤ j) (h2 : j < 2 ^ 62) : rngOk j := ⟨h1, h2⟩
/-! ### loops -/
/-- one turn of a for -/
def turn (f : Tg) (body : Sm Fl) (kill : List Nat) (x : W) (env : List W) : Out Fl := match f x env with
  | none => .bad
  | some env1 => match body env1 with
    | .ok .nx env2 => .ok .nx (killE kill env2)
    | .ok .ct env2 => .ok .nx (killE kill env2)
    | .ok .bk env2 => .ok .bk env2
    | .ok (.rt w) env2 => .ok (.rt w) env2
    | .ex c env2 => .ex c env2
    | .bad => .bad
theorem mFor_nil {f : Tg} {body : Sm Fl} {kill : List Nat} {env : List W} : mFor f body kill [] env = .ok .nx env := rfl
theorem mFor_cons {f : Tg} {body : Sm Fl} {kill : List Nat} {x : W} {xs : List W} {env : List W} : mFor f body kill (x :: xs) env = match turn f body kill x env with
  | .ok .nx env2 => mFor f body kill xs env2
  | .ok .bk env2 => .ok .nx env2
  | .ok .ct env2 => .ok .nx env2
  | .ok (.rt w) env2 => .ok (.rt w) env2
  | .ex c env2 => .ex c env2
  | .bad => .bad := by
  rw [mFor]
  unfold turn
  cases f x env with
  | none => rfl
  | some env1 =>
    dsimp only
    cases body env1 with
    | ok fl env2 => cases fl <;> rfl
    | _ => rfl
/-- a loop that goes through, its state by enc; I n s: what holds with n things to come -/
theorem mFor_fold {α σ : Type} {f : Tg} {body : Sm Fl} {kill : List Nat} (e : α → W) (enc : σ → List W) (step : σ → α → σ) (I : Nat → σ → Prop) : ∀ {xs : List α} {s : σ}, I xs.length s →
    (∀ x ∈ xs, ∀ n s, I (n + 1) s → turn f body kill (e x) (enc s) = .ok .nx (enc (step s x)) ∧ I n (step s x)) → mFor f body kill (xs.map e) (enc s) = .ok .nx (enc (xs.foldl step s)) ∧ I 0 (xs.foldl step s)
  | [], s, i, _ => ⟨rfl, i⟩
  | x :: xs, s, i, h => by
    obtain ⟨h1, h2⟩ := h x List.mem_cons_self _ s i
    rw [List.map_cons, mFor_cons, h1]
    exact mFor_fold e enc step I h2 fun y hy => h y (List.mem_cons_of_mem _ hy)
/-- a loop of all things, each turn at one and the same state -/
theorem mFor_all {α : Type} {f : Tg} {body : Sm Fl} {kill : List Nat} (e : α → W) {env : List W} : ∀ {xs : List α}, (∀ x ∈ xs, turn f body kill (e x) env = .ok .nx env) → mFor f body kill (xs.map e) env = .ok .nx env
  | [], _ => rfl
  | x :: xs, h => by
    rw [List.map_cons, mFor_cons, h x List.mem_cons_self]
    exact mFor_all e fun y hy => h y (List.mem_cons_of_mem _ hy)
/-- one thing of a comprehension -/
def lcOne (f : Tg) (tt : Sm Bool) (te : Sm W) (vs : List Nat) (x : W) (env : List W) : Out (Option W) := match f x env with
  | none => .bad
  | some env1 => match tt env1 with
    | .ok false env2 => .ok none (killE vs env2)
    | .ok true env2 => (match te env2 with
      | .ok y env3 => if y.frz = true then .ok (some y) (killE vs env3) else .bad
      | _ => .bad)
    | _ => .bad
theorem mLc_cons {f : Tg} {tt : Sm Bool} {te : Sm W} {vs : List Nat} {x : W} {xs acc env env' : List W} {o : Option W} (h : lcOne f tt te vs x (killE vs env) = .ok o env') (hl : acc.length < sizeLine) :
    ∃ env2, killE vs env2 = env' ∧ mLc f tt te vs (x :: xs) acc env = mLc f tt te vs xs (acc ++ o.toList) env2 := by
  unfold lcOne at h
  rw [mLc]
  cases e1 : f x (killE vs env) with
  | none => rw [e1] at h; cases h
  | some env1 =>
    rw [e1] at h
    dsimp only at h ⊢
    cases e2 : tt env1 with
    | bad => rw [e2] at h; cases h
    | ex c env2 => rw [e2] at h; cases h
    | ok b env2 =>
      rw [e2] at h
      cases b with
      | false =>
        cases h
        exact ⟨env2, rfl, by rw [Option.toList, List.append_nil]⟩
      | true =>
        dsimp only at h ⊢
        cases e3 : te env2 with
        | bad => rw [e3] at h; cases h
        | ex c env3 => rw [e3] at h; cases h
        | ok y env3 =>
          rw [e3] at h
          dsimp only at h ⊢
          by_cases hf : y.frz = true
          · rw [if_pos hf] at h
            cases h
            exact ⟨env3, rfl, by rw [if_pos ⟨hf, hl⟩]; rfl⟩
          · rw [if_neg hf] at h; cases h
def accG {α σ : Type} (g : σ → α → Option W) (step : σ → α → σ) : σ → List α → List W
  | _, [] => []
  | s, x :: xs => (g s x).toList ++ accG g step (step s x) xs
theorem mLc_fold {α σ : Type} {f : Tg} {tt : Sm Bool} {te : Sm W} {vs : List Nat} (e : α → W) (enc : σ → List W) (step : σ → α → σ) (g : σ → α → Option W) (I : Nat → σ → Prop) : ∀ {xs : List α} {s : σ} {acc env : List W}, I xs.length s → killE vs env = enc s → acc.length + xs.length ≤ sizeLine →
    (∀ x ∈ xs, ∀ n s, I (n + 1) s → lcOne f tt te vs (e x) (enc s) = .ok (g s x) (enc (step s x)) ∧ I n (step s x)) → mLc f tt te vs (xs.map e) acc env = .ok (acc ++ accG g step s xs) (enc (xs.foldl step s)) ∧ I 0 (xs.foldl step s)
  | [], s, acc, env, i, hk, hl, _ => ⟨by rw [List.map_nil, mLc, hk, accG, List.append_nil]; rfl, i⟩
  | x :: xs, s, acc, env, i, hk, hl, h => by
    rw [List.length_cons] at hl
    obtain ⟨h1, h2⟩ := h x List.mem_cons_self _ s i
    rw [← hk] at h1
    obtain ⟨env2, h3, h4⟩ := mLc_cons (xs := xs.map e) (acc := acc) h1 (by omega)
    have ho : (g s x).toList.length ≤ 1 := by cases g s x <;> simp
    obtain ⟨h5, h6⟩ := mLc_fold (acc := acc ++ (g s x).toList) e enc step g I h2 h3 (by rw [List.length_append]; omega) fun y hy => h y (List.mem_cons_of_mem _ hy)
    rw [List.map_cons, h4, h5, accG, List.append_assoc]
    exact ⟨rfl, h6⟩
theorem accG_fm {α σ : Type} {g : α → Option W} {step : σ → α → σ} : ∀ {xs : List α} {s : σ}, accG (fun _ => g) step s xs = xs.filterMap g
  | [], _ => rfl
  | x :: xs, s => by
    rw [accG, accG_fm, List.filterMap_cons]
    cases g x <;> rfl
/-- a comprehension that looks only, over things that are xs.map e -/
theorem comp_fm {α : Type} {f : Tg} {tt : Sm Bool} {te : Sm W} {vs : List Nat} {mi : Sm (List W)} {env : List W} (e : α → W) (g : α → Option W) {xs : List α} (hm : mi env = .ok (xs.map e) env) (hl : xs.length ≤ sizeLine)
    (h : ∀ x ∈ xs, lcOne f tt te vs (e x) (killE vs env) = .ok (g x) (killE vs env)) : mComp true f tt te vs mi env = .ok (.lst true (xs.filterMap g)) env := by
  unfold mComp
  rw [r_bind, hm]
  dsimp only
  obtain ⟨h1, _⟩ := mLc_fold (vs := vs) (σ := Unit) (acc := []) (env := env) (xs := xs) (f := f) (tt := tt) (te := te) e (fun _ => killE vs env) (fun _ _ => ()) (fun _ => g) (fun _ _ => True) (s := ()) trivial rfl (by simpa using hl) fun x hx _ _ _ => ⟨h x hx, trivial⟩
  rw [h1, accG_fm]
  rfl
theorem filterMap_some {α : Type} {g : α → W} {xs : List α} : xs.filterMap (fun x => some (g x)) = xs.map g := by
  induction xs with
  | nil => rfl
  | cons x xs ih => rw [List.filterMap_cons, ih]; rfl
theorem filterMap_if {α : Type} {p : α → Bool} {g : α → W} {xs : List α} : xs.filterMap (fun x => if p x = true then some (g x) else none) = (xs.filter p).map g := by
  induction xs with
  | nil => rfl
  | cons x xs ih =>
    rw [List.filterMap_cons, List.filter_cons]
    by_cases h : p x = true
    · rw [if_pos h, if_pos h, ih]; rfl
    · rw [if_neg h, if_neg h, ih]
theorem comp_map {α : Type} {f : Tg} {tt : Sm Bool} {te : Sm W} {vs : List Nat} {mi : Sm (List W)} {env : List W} (e : α → W) (g : α → W) {xs : List α} (hm : mi env = .ok (xs.map e) env) (hl : xs.length ≤ sizeLine)
    (h : ∀ x ∈ xs, lcOne f tt te vs (e x) (killE vs env) = .ok (some (g x)) (killE vs env)) : mComp true f tt te vs mi env = .ok (.lst true (xs.map g)) env := by
  rw [comp_fm e (fun x => some (g x)) hm hl h, filterMap_some]
theorem comp_filter {α : Type} {f : Tg} {tt : Sm Bool} {te : Sm W} {vs : List Nat} {mi : Sm (List W)} {env : List W} (e : α → W) (p : α → Bool) (g : α → W) {xs : List α} (hm : mi env = .ok (xs.map e) env) (hl : xs.length ≤ sizeLine)
    (h : ∀ x ∈ xs, lcOne f tt te vs (e x) (killE vs env) = .ok (if p x = true then some (g x) else none) (killE vs env)) : mComp true f tt te vs mi env = .ok (.lst true ((xs.filter p).map g)) env := by
  rw [comp_fm e (fun x => if p x = true then some (g x) else none) hm hl h, filterMap_if]
theorem rngL_nat (n : Nat) : rngL 0 n = (List.range n).map (fun i : Nat => W.int (0 + (i : Int))) := rfl
/-! ### items -/
theorem atI_pos {α : Type} (xs : List α) {i : Int} (h : 0 ≤ i) : atI xs i = xs[i.toNat]? := by
  unfold atI ixN
  rw [if_pos h]
  by_cases h1 : i < (xs.length : Int)
  · rw [if_pos h1]; rfl
  · rw [if_neg h1, List.getElem?_eq_none (by omega)]; rfl
theorem atI_nat {α : Type} (xs : List α) (k : Nat) : atI xs (k : Int) = xs[k]? := by
  rw [atI_pos xs (by omega), Int.toNat_natCast]
theorem atI_map {α : Type} (e : α → W) (xs : List α) (k : Nat) : atI (xs.map e) (k : Int) = (xs[k]?).map e := by
  rw [atI_nat, List.getElem?_map]
/-! ### things as values -/
structure EncOk {α : Type} (e : α → W) (n : Nat) : Prop where
  frz : ∀ a, (e a).frz = true
  fd : ∀ a, (e a).fd = true
  eqv : ∀ a b, PyData.eqv (e a).dat (e b).dat = true ↔ a = b
  dep : ∀ a, (e a).dat.depth ≤ n
theorem EncOk.int : EncOk W.int 0 := ⟨fun _ => rfl, fun _ => rfl, fun a b => by simp [W.dat, PyData.eqv], fun a => by simp [W.dat, PyData.depth]⟩
theorem EncOk.str : EncOk W.str 0 := ⟨fun _ => rfl, fun _ => rfl, fun a b => by simp [W.dat, PyData.eqv], fun a => by simp [W.dat, PyData.depth]⟩
section
variable {α β γ : Type} {e : α → W} {f : β → W} {g : γ → W} {n m k : Nat}
theorem EncOk.all (h : EncOk e n) : ∀ xs ys : List α, PyData.eqvAll (datL (xs.map e)) (datL (ys.map e)) = true ↔ xs = ys
  | [], [] => by simp [datL, PyData.eqvAll]
  | [], y :: ys => by simp [datL, PyData.eqvAll]
  | x :: xs, [] => by simp [datL, PyData.eqvAll]
  | x :: xs, y :: ys => by
    simp only [List.map_cons, datL, PyData.eqvAll, Bool.and_eq_true, h.eqv, h.all xs ys, List.cons.injEq]
theorem EncOk.deps (h : EncOk e n) : ∀ xs : List α, PyData.depthAll (datL (xs.map e)) ≤ n
  | [] => by simp [datL, PyData.depthAll]
  | x :: xs => by
    have h1 := h.dep x
    have h2 := h.deps xs
    simp only [List.map_cons, datL, PyData.depthAll]
    omega
theorem EncOk.lst (h : EncOk e n) : EncOk (fun xs : List α => .lst false (xs.map e)) (n + 1) := ⟨fun _ => rfl, fun _ => rfl, fun a b => by
  simp only [W.dat, PyData.eqv]
  exact h.all a b, fun a => by
  have := h.deps a
  simp only [W.dat, PyData.depth]
  omega⟩
variable [DecidableEq α]
theorem eqv_dec (h : EncOk e n) (a b : α) : PyData.eqv (e a).dat (e b).dat = decide (a = b) := by
  by_cases c : a = b
  · rw [(h.eqv a b).mpr c, decide_eq_true c]
  · have := fun z => c ((h.eqv a b).mp z)
    rw [decide_eq_false c]
    exact Bool.eq_false_iff.mpr this
theorem eqW_of (h : EncOk e n) (a b : α) (hn : n ≤ 60 := by decide) : eqW (e a) (e b) = some (.bl (decide (a = b))) := by
  unfold eqW
  rw [if_pos ⟨by rw [h.fd, h.fd]; rfl, .inl (Nat.le_trans (h.dep a) hn)⟩, eqv_dec h]
theorem neW_of (h : EncOk e n) (a b : α) (hn : n ≤ 60 := by decide) : neW (e a) (e b) = some (.bl (!decide (a = b))) := by
  unfold neW
  rw [if_pos ⟨by rw [h.fd, h.fd]; rfl, .inl (Nat.le_trans (h.dep a) hn)⟩, eqv_dec h]
end
/-- against the empty list -/
theorem eqW_nil (b c : Bool) (ws : List W) : eqW (.lst b ws) (.lst c []) = some (.bl (decide (ws = []))) := by
  unfold eqW
  rw [if_pos ⟨rfl, .inr (by simp [W.dat, datL, PyData.depth, PyData.depthAll])⟩]
  cases ws <;> simp [W.dat, datL, PyData.eqv, PyData.eqvAll]
theorem neW_nil (b c : Bool) (ws : List W) : neW (.lst b ws) (.lst c []) = some (.bl (!decide (ws = []))) := by
  unfold neW
  rw [if_pos ⟨rfl, .inr (by simp [W.dat, datL, PyData.depth, PyData.depthAll])⟩]
  cases ws <;> simp [W.dat, datL, PyData.eqv, PyData.eqvAll]
theorem eqW_int (i j : Int) : eqW (.int i) (.int j) = some (.bl (decide (i = j))) := eqW_of EncOk.int i j
theorem neW_int (i j : Int) : neW (.int i) (.int j) = some (.bl (!decide (i = j))) := neW_of EncOk.int i j
theorem eqW_str (i j : Str) : eqW (.str i) (.str j) = some (.bl (decide (i = j))) := eqW_of EncOk.str i j
theorem neW_str (i j : Str) : neW (.str i) (.str j) = some (.bl (!decide (i = j))) := neW_of EncOk.str i j
end Ev

namespace Ev
/-! ### set(xs), xs a list of ints -/
section
open PySem PySem.Spec PyProof.Rows L2
variable {P : Program} {w : World} {A : Around} {E : Value → Shared → Prop} {s : Shared}
end
end Ev

namespace Ev
/-! ### sorted(set(xs)) -/
open PySem PySem.Spec L2
theorem Ans.on {D : Dn} {G H : Hp} {w : W} {Q : VK} {p : Addr} {o : HO} (n : H p = none) (q : Ans D G H w Q) : Ans D G (upd H p o) w Q := fun v G' H' Ow a b c d e =>
  q v G' H' Ow a b c d ((Step.less (O2 := []) (step_own n) fun _ z => (nomatch z)).trans e)
section
variable {Z : Zt} {e : Expr} {m : Sm W} {p k1 : Bool} {p1 p2 p3 p4 : Pos}
end
/-! ### a def that calls itself: at no depth -/
theorem fnt_bad {P : Program} {w : World} {K : PySem.W.Frag} {mg : Str → Option Value} {base : Heap} {CA : Nat → Addr} {x qual : Str} {st : Stmt} {f : Addr} {fd : FuncData} {ps : List Str} {k n : Nat} (F : Fun K x qual st f fd) (g : mg x = some (.ref f)) (hb : Binds K fd ps []) (hps : ps.length = n) : FnT P w K mg base CA x n k (fun _ => .bad) :=
  ⟨f, fd, ps, ⟨fun vs H Q E h => by rw [h.1, hps], fun A outer s H args us vs Q E _ _ _ _ hsp => by
    obtain ⟨_, _, _, _, _, _, _, _, z⟩ := hsp
    exact z.elim⟩, g, F.kp, hb⟩
end Ev

namespace Ev
open PySem PySem.Spec L2

/-- a loop, by what holds between the turns -/
theorem mFor_inv {α : Type} {f : Tg} {body : Sm Fl} {kill : List Nat} (e : α → W) (I : Nat → List W → Prop) : ∀ {xs : List α} {env : List W}, I xs.length env →
    (∀ x ∈ xs, ∀ n env, I (n + 1) env → ∃ env', turn f body kill (e x) env = .ok .nx env' ∧ I n env') → ∃ env', mFor f body kill (xs.map e) env = .ok .nx env' ∧ I 0 env'
  | [], env, i, _ => ⟨env, rfl, i⟩
  | x :: xs, env, i, h => by
    obtain ⟨env1, h1, h2⟩ := h x List.mem_cons_self _ env i
    rw [List.map_cons, mFor_cons, h1]
    exact mFor_inv e I h2 fun y hy => h y (List.mem_cons_of_mem _ hy)
theorem sortedW_int (b c : Bool) (xs : List Int) (hl : xs.length ≤ sizeLine) : sortedW b (.lst c (xs.map W.int)) = some (.lst b ((xs.mergeSort fun a b => decide (a ≤ b)).map W.int)) := by
  unfold sortedW lisW
  rw [Option.bind_some]
  have ok : SortOk (xs.map W.int) := by
    refine ⟨?_, ?_, by rw [List.length_map]; exact hl, fun w hw => ?_⟩
    · rw [List.map_map]; exact PySem.W.AllAlike.of fun a b => by simp [W.dat, PySem.W.alike]
    · rw [List.map_map]; exact PySem.W.Sortable.others fun a => ⟨fun z => by simp [W.dat] at z, fun xs z => by simp [W.dat] at z⟩
    · obtain ⟨a, _, rfl⟩ := List.mem_map.mp hw
      simp [W.dat, PyData.depth]
  rw [if_pos ok, PySem.W.sort_maps W.int (s := leD) fun a _ b _ => by
    show _ = PySem.W.dataLe false W.dat (.int a) (.int b)
    show _ = (!PySem.W.dataLt (.int b) (.int a))
    rw [PySem.W.dataLt_int, PySem.W.not_lt_int]]
/-! ### things, rows, names -/
abbrev Th := Int × Str
abbrev Nm := Int × Nat × Nat
def encT (t : Th) : W := .tup [.int t.1, .str t.2]
def encR (r : List Th) : W := .lst false (r.map encT)
def encN (n : Nm) : W := .tup [.int n.1, .int (n.2.1 : Nat), .int (n.2.2 : Nat)]
theorem frzT (t : Th) : (encT t).frz = true := rfl
theorem frzR (t : List Th) : (encR t).frz = true := rfl
theorem frzN (t : Nm) : (encN t).frz = true := rfl
def ltN (a b : Nm) : Prop := a.1 < b.1 ∨ (a.1 = b.1 ∧ (a.2.1 < b.2.1 ∨ (a.2.1 = b.2.1 ∧ a.2.2 < b.2.2)))
instance {a b : Nm} : Decidable (ltN a b) := inferInstanceAs (Decidable (_ ∨ _))
theorem w_cutS (b : Bool) (z : Str) (lo hi : Option Int) (h : z.length ≤ sizeLine) : cutW b (.str z) lo hi = some (.str (cutS z lo hi)) := by
  show (if z.length ≤ sizeLine then some (W.str (cutS z lo hi)) else none) = _
  rw [if_pos h]
end Ev

namespace Ev
open PySem PySem.Spec L2

def tupL : W → Option (List W)
  | .tup ws => some ws
  | _ => none
def iTupM (m : Sm W) : Sm (List W) := Sm.bind m fun w => lft (tupL w)
theorem r_itup {env : List W} (m : Sm W) : iTupM m env = match m env with
  | .ok w e' => (match tupL w with
    | some r => .ok r e'
    | none => .bad)
  | .ex c e' => .ex c e'
  | .bad => .bad := by
  unfold iTupM
  rw [r_bind]
  cases m env with
  | ok w e' => dsimp only; rw [r_lft]; cases tupL w <;> rfl
  | _ => rfl
theorem w_tupLt (ws : List W) : tupL (.tup ws) = some ws := rfl
/-! ### a <= b, tuples too -/
def leXD (a b : W) : Option W := if (a.fd && b.fd) = true ∧ smallD a b ∧ PySem.W.alike a.dat b.dat = true then some (.bl (!PySem.W.dataLt b.dat a.dat)) else none
def leXW : W → W → Option W
  | .int i, .int j => some (.bl (decide (i ≤ j)))
  | .tup xs, .tup ys => leXD (.tup xs) (.tup ys)
  | _, _ => none
theorem w_leX (i j : Int) : leXW (.int i) (.int j) = some (.bl (decide (i ≤ j))) := rfl
theorem op_leXW {Z : Zt} {k : Nat} (hr : Room k Z.X.A) : OpS Z (compareOp .LtE) leXW := fun G H w1 w2 v1 v2 O1 O2 w Q s r1 r2 e q => by
  cases w1 with
  | int i =>
    cases w2 with
    | int j =>
      cases e
      obtain ⟨_, rfl⟩ := r1
      obtain ⟨_, rfl⟩ := r2
      exact ⟨_, op_le, i, j, rfl, rfl, q.bl s⟩
    | _ => cases e
  | tup xs =>
    cases w2 with
    | tup ys =>
      have e' : leXD (.tup xs) (.tup ys) = some w := e
      unfold leXD at e'
      by_cases hc : ((W.tup xs).fd && (W.tup ys).fd) = true ∧ smallD (.tup xs) (.tup ys) ∧ PySem.W.alike (W.tup xs).dat (W.tup ys).dat = true
      · rw [if_pos hc] at e'
        cases e'
        obtain ⟨_, hs, ha⟩ := hc
        have d1 := r1.dp s rfl
        have d2 := r2.dp s rfl
        refine ⟨fun x y H' Q' => x = v1 ∧ y = v2 ∧ H' = H ∧ Q' (.bl (!PySem.W.dataLt (W.tup ys).dat (W.tup xs).dat)) H, fun pins st σ H' x y v u Q' I rx ry hh => ?_, rfl, rfl, rfl, q.bl s⟩
        obtain ⟨rfl, rfl, rfl, hq⟩ := hh
        obtain ⟨as, x1⟩ := Dp.reads I _ _ v d1 rx
        obtain ⟨bs, x2⟩ := Dp.reads I _ _ u d2 ry
        have := hs.min
        have := hr.units
        exact PySem.W.rcLe_alike _ _ Z.X.A st v u as bs x1 x2 ha (fun z => nomatch z) (by omega) _ _ _ _ ⟨.bl _, _, I, rfl, hq⟩
      · rw [if_neg hc] at e'; cases e'
    | _ => cases e
  | _ => cases e
/-! ### a slot's value, also where it stands under a name -/
def pickV : Option W → List W → Out W
  | some .dead, _ => .bad
  | some w, env => .ok w env
  | none, _ => .bad
theorem r_var2 {env : List W} (i : Nat) : mVar i env = pickV env[i]? env := by
  rw [r_var]
  cases env[i]? with
  | none => rfl
  | some w => cases w <;> rfl
theorem pick_non (env : List W) : pickV (some .non) env = .ok .non env := rfl
theorem pick_bl (b : Bool) (env : List W) : pickV (some (.bl b)) env = .ok (.bl b) env := rfl
theorem pick_int (i : Int) (env : List W) : pickV (some (.int i)) env = .ok (.int i) env := rfl
theorem pick_str (i : Str) (env : List W) : pickV (some (.str i)) env = .ok (.str i) env := rfl
theorem pick_tup (i : List W) (env : List W) : pickV (some (.tup i)) env = .ok (.tup i) env := rfl
theorem pick_lst (b : Bool) (i : List W) (env : List W) : pickV (some (.lst b i)) env = .ok (.lst b i) env := rfl
theorem pick_scr (i : List W) (env : List W) : pickV (some (.scr i)) env = .ok (.scr i) env := rfl
theorem pick_exc (i : Nat) (env : List W) : pickV (some (.exc i)) env = .ok (.exc i) env := rfl
theorem pick_dct (a : Bool) (b : DKs) (c : List W) (env : List W) : pickV (some (.dct a b c)) env = .ok (.dct a b c) env := rfl
theorem pick_T (t : Th) (env : List W) : pickV (some (encT t)) env = .ok (encT t) env := rfl
theorem pick_R (t : List Th) (env : List W) : pickV (some (encR t)) env = .ok (encR t) env := rfl
theorem pick_N (t : Nm) (env : List W) : pickV (some (encN t)) env = .ok (encN t) env := rfl
end Ev

namespace Ev
open PySem PySem.Spec L2

def seqL : W → Option (List W)
  | .lst false ws => some ws
  | .scr ws => some ws
  | .tup ws => some ws
  | _ => none
def iSeq (m : Sm W) : Sm (List W) := Sm.bind m fun w => lft (seqL w)
theorem r_iseq {env : List W} (m : Sm W) : iSeq m env = match m env with
  | .ok w e' => (match seqL w with
    | some r => .ok r e'
    | none => .bad)
  | .ex c e' => .ex c e'
  | .bad => .bad := by
  unfold iSeq
  rw [r_bind]
  cases m env with
  | ok w e' => dsimp only; rw [r_lft]; cases seqL w <;> rfl
  | _ => rfl
theorem w_seqL (ws : List W) : seqL (.lst false ws) = some ws := rfl
theorem w_seqT (ws : List W) : seqL (.tup ws) = some ws := rfl
theorem w_seqC (ws : List W) : seqL (.scr ws) = some ws := rfl
/-! ### zip of two lists or two tuples -/
def zipA : List W → Option (List W)
  | [.tup ws, .tup xs] => some ((ws.zip xs).map fun q => .tup [q.1, q.2])
  | [w, x] => zipL [w, x]
  | _ => none
theorem w_zipT (ws xs : List W) : zipA [.tup ws, .tup xs] = some ((ws.zip xs).map fun q => .tup [q.1, q.2]) := rfl
theorem w_zipA (ws xs : List W) : zipA [.lst false ws, .lst false xs] = some ((ws.zip xs).map fun q => .tup [q.1, q.2]) := rfl
end Ev

namespace Ev
open PySem PySem.Spec PyProof.Rows L2
open Builtin Builtin.Str
/-! ### a text turned about -/
def revZ (z : Str) : Str := Txt.sliceBy z none none (-1, 0)
theorem revZ_le (z : Str) : (revZ z).length ≤ z.length := Txt.sliceBy_le z none none (-1, 0) (by decide)
def tRevZ (te : TE) : TE := fun σ H Q => te σ H fun x H1 => ∃ z, x = .str z ∧ z.length ≤ sizeLine ∧ Q (.str (revZ z)) H1
theorem pe_revZ {X : Cx} {e : Expr} {te : TE} {k : Nat} {p1 p2 p3 pos : Pos} (he : PE X e te) : PE X (.Subscript e (.Slice none none (some (.UnaryOp .USub (.Constant (.int 1) k p1) p2)) p3) pos) (tRevZ te) := by
  refine ⟨fun pins s σ H Q I h => ?_⟩
  refine Subscript_ (thn (he.run pins s σ H _ I h) fun v s1 ⟨x, H1, I1, r1, q1⟩ => ?_)
  obtain ⟨z, ex, hz, q⟩ := q1
  subst ex
  obtain ⟨t, rfl⟩ := r1
  have hst : PO X (some (.UnaryOp .USub (.Constant (.int 1) k p1) p2)) (tPart (tUn (rU fun i => .int (-i)) (tC (.int 1)))) := po_some (pe_un un_neg pe_int)
  refine wpAny_Slice (thn (po_none.run pins s1 σ H1 (fun o H2 => o = none ∧ H2 = H1) I1 ⟨rfl, rfl⟩) fun vl s2 ⟨l, H2, I2, pl, el, e2⟩ => ?_)
  subst el e2
  refine thn (po_none.run pins s2 σ H2 (fun o H3 => o = none ∧ H3 = H2) I2 ⟨rfl, rfl⟩) fun vu s3 ⟨u, H3, I3, pu, eu, e3⟩ => ?_
  subst eu e3
  refine thn (hst.run pins s3 σ H3 (fun o H4 => o = some (-1) ∧ H4 = H3) I3 ⟨1, rfl, -1, rfl, rfl, rfl⟩) fun vs s4 ⟨o, H4, I4, ps, eo, e4⟩ => ?_
  subst eo e4
  have I5 : Inv X pins σ H4 { s4 with heap := s4.heap.push { cls := .type "slice", data := .fields #[vl, vu, vs] } } := I4.kept (t' := s4.toks) fun b ob q => Heap.get?_push_of_some _ q
  obtain ⟨l0, rfl, e0⟩ := IsPart.raw pl
  obtain ⟨u0, rfl, e1⟩ := IsPart.raw pu
  obtain ⟨s0, rfl, e2⟩ := IsPart.raw ps
  show wpAny (model X.prog X.w) X.A (subscriptTail e (.Slice none none (some (.UnaryOp .USub (.Constant (.int 1) k p1) p2)) p3) (.str z t) (.ref s4.heap.objs.size)) (EP X pins σ Q) X.xe _
  refine tail_any (typeIs_str _ z t) PySem.F.slot_str_getitem.lookup ?_ (by with_unfolding_all rfl)
  cases l0 with
  | some _ => cases e0
  | none =>
    cases u0 with
    | some _ => cases e1
    | none =>
      cases s0 with
      | none => cases e2
      | some st =>
        obtain ⟨k0, uk⟩ := st
        have ek : k0 = -1 := by
          simp only [Option.map_some] at e2
          exact Option.some.inj e2
        subst ek
        refine wpAny_getItem_str_slice (l := none) (u := none) (st := some (-1, uk)) ⟨_, Heap.get?_push_size _ rfl, rfl, rfl⟩ rfl ?_
        exact post_val_or_str ⟨Nat.le_trans (Txt.sliceBy_le z none none (-1, uk) (by show (-1 : Int) ≠ 0; decide)) hz, fun t' c => ⟨.str _, H4, I5.tok _, ⟨_, rfl⟩, q⟩⟩
def revZW : W → Option W
  | .str z => if z.length ≤ sizeLine then some (.str (revZ z)) else none
  | _ => none
theorem me_revZ {Z : Zt} {e : Expr} {m : Sm W} {p k1 : Bool} {j : Nat} {q1 q2 q3 q4 : Pos} (he : ME Z e m p k1) : ME Z (.Subscript e (.Slice none none (some (.UnaryOp .USub (.Constant (.int 1) j q1) q2)) q3) q4) (mUn revZW m) p true :=
  pe_imp (pe_revZ he) fun σ H Q hq => tx_un (r := fun x H1 Q => ∃ z, x = .str z ∧ z.length ≤ sizeLine ∧ Q (.str (revZ z)) H1) (fun G H w1 v1 O1 w Q s r1 e q => by
    cases w1 with
    | str z =>
      simp only [revZW] at e
      by_cases h : z.length ≤ sizeLine
      · rw [if_pos h] at e
        cases e
        obtain ⟨rfl, f⟩ := r1.toF rfl
        have f' : v1 = .str z := f
        exact ⟨z, f', h, q.str s⟩
      · rw [if_neg h] at e; cases e
    | _ => cases e) hq
theorem w_revZ (z : Str) (h : z.length ≤ sizeLine) : revZW (.str z) = some (.str (revZ z)) := by
  unfold revZW
  exact if_pos h
end Ev

namespace Ev
open PySem PySem.Spec L2
theorem sub_lentS {G H : Hp} {S : List Addr} (s : Sub G H) : Sub (lentH G H S) H := sub_lent s
theorem lent_none {G H : Hp} {S : List Addr} {b : Addr} (hs : b ∉ S) (g : G b = none) : lentH G H S b = none := by
  unfold lentH
  rw [g]
  show (if b ∈ S then H b else none) = none
  rw [if_neg hs]
def mFzD (m : Sm W) : Sm W := Sm.bind m fun w => if w.fzOk = true then Sm.ret w.fzD else fun _ => .bad
theorem tx_fzD {D : Dn} {Wx : WX} {m : Sm W} {p : Bool} {σ : St} {H : Hp} {Q : VK} (q : TX D Wx p true (mFzD m) σ H Q) : TX D Wx p true m σ H Q := by
  obtain ⟨env, G, Os, s, q⟩ := q
  refine ⟨env, G, Os, s, ?_⟩
  unfold mFzD Sm.bind at q
  cases e1 : m env with
  | bad => rw [e1] at q; exact q
  | ex c env1 => rw [e1] at q; exact q
  | ok w env1 =>
    rw [e1] at q
    intro v G' H' Os' Ow s' r o t
    by_cases hf : w.fzOk = true
    · simp only [if_pos hf, Sm.ret] at q
      have na : ∀ b ∈ Os'.flatten, b ∉ Ow := fun b hb z => (List.nodup_append.mp o.1).2.2 b hb b z rfl
      have s2 : StOk D (lentH G' H' Ow) H' env1 σ Os' := ⟨s'.sl.mono lent_mono fun _ _ _ h => h, sub_lentS s'.sub, fun b hb => lent_none (na b hb) (s'.gn b hb), s'.nd⟩
      have rf := RO.deep (S := Ow) w v Ow hf r fun a ha => ⟨ha, o.2 a ha⟩
      refine q v (lentH G' H' Ow) H' Os' [] s2 (RO.ofF rf) (OwnK.nil s2) ?_
      cases p with
      | true =>
        obtain ⟨e1, e2, t⟩ := t
        refine ⟨e1, e2, t.mono.trans lent_mono, t.keep, fun b x hb hn nt hg => ?_, fun _ z => nomatch z⟩
        refine lent_none (fun z => ?_) (t.gnew b x hb hn nt hg)
        rcases t.new b z with y | y
        · cases y
        · rw [hb] at y; cases y
      | false =>
        have t' : Step G H Os.flatten G' H' (Os'.flatten ++ Ow) := t
        show Step G H Os.flatten _ H' (Os'.flatten ++ [])
        refine ⟨t'.mono.trans lent_mono, t'.keep, fun b x hb hn nt hg => ?_, fun b hb => t'.new b (by rw [List.append_nil] at hb; exact List.mem_append_left _ hb)⟩
        refine lent_none (fun z => ?_) (t'.gnew b x hb hn nt hg)
        rcases t'.new b (List.mem_append_right _ z) with y | y
        · exact hn y
        · rw [hb] at y; cases y
    · simp only [if_neg hf] at q
theorem me_fzD {Z : Zt} {e : Expr} {m : Sm W} {p : Bool} (h : ME Z e m p true) : ME Z e (mFzD m) p true := pe_imp h fun _ _ _ q => tx_fzD q
theorem r_fzD {env : List W} (m : Sm W) : mFzD m env = match m env with
    | .ok w e => if w.fzOk = true then .ok w.fzD e else .bad
    | .ex c e => .ex c e
    | .bad => .bad := by
  unfold mFzD Sm.bind
  cases m env with
  | ok w e =>
    dsimp only
    by_cases h : w.fzOk = true
    · rw [if_pos h, if_pos h]; rfl
    · rw [if_neg h, if_neg h]
  | _ => rfl
/-! ### a slot frozen through and through -/
def gFzD (i : Nat) : Sm Unit := fun env => match env[i]? with
  | some w => if w.fzOk = true then .ok () (env.set i w.fzD) else .bad
  | none => .bad
theorem r_gfzD {env : List W} (i : Nat) : gFzD i env = match env[i]? with
    | some w => if w.fzOk = true then .ok () (env.set i w.fzD) else .bad
    | none => .bad := rfl
theorem flat_mem {Os : List (List Addr)} {i : Nat} {O : List Addr} (h : Os[i]? = some O) {a : Addr} (ha : a ∈ O) : a ∈ Os.flatten := List.mem_flatten.mpr ⟨_, List.mem_of_getElem? h, ha⟩
theorem onceO {i : Nat} {O : List Addr} {Os : List (List Addr)} (nd : Os.flatten.Nodup) (e : Os[i]? = some O) {a : Addr} (ha : a ∈ O) : a ∉ (Os.set i []).flatten := fun z => by
  have pm := flat_set (O' := []) e
  rw [List.append_nil] at pm
  exact (List.nodup_append.mp (pm.nodup_iff.mpr nd)).2.2 a z a ha rfl
theorem StOk.fzD {D : Dn} {G H : Hp} {env : List W} {σ : St} {Os : List (List Addr)} {i : Nat} {w : W} (s : StOk D G H env σ Os) (e : env[i]? = some w) (hf : w.fzOk = true) :
    ∃ G', StOk D G' H (env.set i w.fzD) σ (Os.set i []) ∧ Step G H Os.flatten G' H (Os.set i []).flatten := by
  obtain ⟨sv, O, h1, h2, h3⟩ := s.sl.at e
  rcases h3 with ⟨v, ev, r⟩ | ⟨ev, _⟩
  · subst ev
    have inO : ∀ a ∈ O, a ∈ Os.flatten := fun a ha => flat_mem h2 ha
    have rf := RO.deep (S := O) w v O hf r fun a ha => ⟨ha, s.gn a (inO a ha)⟩
    refine ⟨lentH G H O, ⟨?_, sub_lentS s.sub, fun b hb => lent_none (fun z => onceO s.nd h2 z hb) (s.gn b (flat_sub b hb)), flat_nd s.nd⟩, lent_mono, fun b x hb _ => hb, fun b x hb hn _ g => lent_none (fun z => hn (inO b z)) g, fun b hb => .inl (flat_sub b hb)⟩
    have s0 : Sl D (lentH G H O) H env σ Os := s.sl.mono lent_mono fun _ _ _ h => h
    have z := Sl.set (D := D) (G := lentH G H O) (H := H) (w := w.fzD) (s := some v) (O := []) (.inl ⟨v, rfl, RO.ofF rf⟩) i s0
    rwa [set_self h1] at z
  · subst ev
    cases hf
theorem Ans.nst {D : Dn} {G H : Hp} {p : Addr} {Q : VK} (s : Sub G H) (n : H p = none) (h : Ans D G H (.nst []) Q) : Q (.ref p) (upd H p (.lst [])) :=
  h (.ref p) G (upd H p (.lst [])) [p] (sub_upd s n) ⟨p, [], [], rfl, rfl, upd_same, rfl, rfl⟩ (by simp) (fun a ha => by rw [List.mem_singleton.mp ha]; exact sub_none s n) (step_own n)
theorem ROs.append {D : Dn} {G H : Hp} : ∀ {xs ys : List W} {vs us : List V} {O P : List Addr}, ROs D G H xs vs O → ROs D G H ys us P → ROs D G H (xs ++ ys) (vs ++ us) (O ++ P)
  | [], _, _, _, _, _, h, k => by rw [h.1, h.2]; exact k
  | x :: xs, _, _, _, _, _, h, k => by
    obtain ⟨v, r, O1, O2, rfl, rfl, h1, h2⟩ := h
    exact ⟨v, _, O1, O2 ++ _, rfl, List.append_assoc .., h1, ROs.append h2 k⟩
/-! ### xs.append(e), e new and owned -/
def mPush (i : Nat) (m : Sm W) : Sm W := fun env => match env[i]? with
  | some (.nst _) => match m env with
    | .ok w env1 => match env1[i]? with
      | some (.nst ws) => if ws.length < sizeLine then .ok .non (env1.set i (.nst (ws ++ [w]))) else .bad
      | _ => .bad
    | .ex c env1 => .ex c env1
    | .bad => .bad
  | _ => .bad
def mMutN (i : Nat) (F : MutF) (mi : Sm W) (m : Sm (List W)) : Sm W := fun env => match env[i]? with
  | some (.nst ws) => match mi env with
    | .ok (.int n) _ => match ixN ws.length n with
      | some j => match ws[j]? with
        | some (.lst true xs) => match m env with
          | .ok us _ => match F xs us with
            | some (w, xs') => .ok w (env.set i (.nst (ws.set j (.lst true xs'))))
            | none => .bad
          | .ex c _ => .ex c env
          | .bad => .bad
        | _ => .bad
      | none => .bad
    | .ex c _ => .ex c env
    | _ => .bad
  | _ => .bad
theorem r_push {env : List W} (i : Nat) (m : Sm W) : mPush i m env = match env[i]? with
  | some (.nst _) => (match m env with
    | .ok w env1 => (match env1[i]? with
      | some (.nst ws) => if ws.length < sizeLine then .ok .non (env1.set i (.nst (ws ++ [w]))) else .bad
      | _ => .bad)
    | .ex c env1 => .ex c env1
    | .bad => .bad)
  | _ => .bad := rfl
/-! ### range with the step 2 -/
theorem small_two {a b : Int} (ha : -(2 ^ 62) ≤ a) (ha' : a < 2 ^ 62) (hb : -(2 ^ 62) ≤ b) (hb' : b < 2 ^ 62) : Builtin.Range.small a b 2 = true := by
  unfold Builtin.Range.small Builtin.Range.rangeSize
  simp only [Builtin.Range.rangeFitsLong, Bool.and_eq_true, Bool.or_eq_true, decide_eq_true_eq, beq_iff_eq, show ((2 : Int) > 0) by decide, if_true]
  split <;> omega
theorem RgC.two {i j : Int} (hi : rngOk i) (hj : rngOk j) : RgC i j 2 ((j - i + 1) / 2).toNat := by
  refine ⟨by decide, by decide, small_two hi.1 hi.2 hj.1 hj.2, ?_⟩
  unfold Builtin.Range.rangeSize
  rw [if_pos (by decide)]
  split <;> omega
end Ev

namespace Ev
open PySem PySem.Spec L2
/-! ### a method of a value: o.m(..), which looks only -/
def mMeth (ty : W → Bool) (f : W → List W → Option W) (g : Bool) (m : Sm W) (ma : Sm (List W)) : Sm W := Sm.bind m fun w => if ty w = true then Sm.bind ma fun ws => if (g || w.frz) = true then lft (f w ws) else fun _ => .bad else fun _ => .bad
def TyM (D : Dn) (T : String) (ty : W → Bool) : Prop := ∀ (G H : Hp) (w : W) (v : V) (O : List Addr), Sub G H → RO D G H w v O → ty w = true → tyV D.K T v H
def RelM (D : Dn) (r : V → List V → Hp → VK → Prop) (f : W → List W → Option W) : Prop := ∀ (G H : Hp) (w1 : W) (ws : List W) (v1 : V) (vs : List V) (O1 : List Addr) (w : W) (Q : VK), Sub G H → RO D G H w1 v1 O1 → RFs D G ws vs → f w1 ws = some w → Ans D G H w Q → r v1 vs H Q
theorem tx_meth {D : Dn} {Wx : WX} {T : String} {ty : W → Bool} {r : V → List V → Hp → VK → Prop} {f : W → List W → Option W} {m : Sm W} {ma : Sm (List W)} {p1 p2 k1 : Bool} (ht : TyM D T ty) (o : RelM D r f) {σ : St} {H : Hp} {Q : VK} (hq : TX D Wx (p1 && p2) true (mMeth ty f (k1 || p2) m ma) σ H Q) :
    TX D Wx p1 k1 m σ H fun x H1 => tyV D.K T x H1 ∧ TA' D Wx p2 ma σ H1 fun us H2 => r x us H2 Q := by
  obtain ⟨env, G, Os, s, hq⟩ := hq
  refine ⟨env, G, Os, s, ?_⟩
  unfold mMeth Sm.bind at hq
  cases e1 : m env with
  | bad => rw [e1] at hq; exact hq
  | ex c env1 =>
    rw [e1] at hq
    intro G' H' Os' s' t
    exact hq G' H' Os' s' (t.and p2)
  | ok w1 env1 =>
    rw [e1] at hq
    intro v1 G1 H1 Os1 O1 s1 r1 o1 t1
    by_cases hty : ty w1 = true
    · simp only [if_pos hty] at hq
      refine ⟨ht G1 H1 w1 v1 O1 s1.sub r1 hty, env1, G1, Os1, s1, ?_⟩
      cases e2 : ma env1 with
      | bad => simp only [e2] at hq
      | ex c env2 =>
        simp only [e2] at hq
        intro G' H' Os' s' t
        exact hq G' H' Os' s' (t1.trans t)
      | ok ws env2 =>
        simp only [e2] at hq
        intro vs G2 H2 Os2 s2 r2 t2
        by_cases hg : (k1 || p2 || w1.frz) = true
        · rw [if_pos hg] at hq
          unfold lft at hq
          cases ef : f w1 ws with
          | none => rw [ef] at hq; exact hq.elim
          | some w =>
            rw [ef] at hq
            have r1' := stay s1 r1 o1 t2 hg
            exact o G2 H2 w1 ws v1 vs O1 w Q s2.sub r1' r2 ef (Ans.of (p := p1 && p2) s2 (t1.trans t2) hq)
        · rw [if_neg hg] at hq
          exact hq.elim
    · simp only [if_neg hty] at hq
theorem r_meth {env : List W} (ty : W → Bool) (f : W → List W → Option W) (g : Bool) (m : Sm W) (ma : Sm (List W)) : mMeth ty f g m ma env = match m env with
  | .ok w e1 => if ty w = true then (match ma e1 with
    | .ok ws e2 => if (g || w.frz) = true then (match f w ws with
      | some r => .ok r e2
      | none => .bad) else .bad
    | .ex c e' => .ex c e'
    | .bad => .bad) else .bad
  | .ex c e' => .ex c e'
  | .bad => .bad := by
  unfold mMeth
  rw [r_bind]
  cases m env with
  | ok w e1 =>
    dsimp only
    split
    · rw [r_bind]
      cases ma e1 with
      | ok ws e2 =>
        dsimp only
        split
        · rw [r_lft]; cases f w ws <;> rfl
        · rfl
      | _ => rfl
    · rfl
  | _ => rfl
theorem me_meth {Z : Zt} {T id : String} {name : Str} {ty : W → Bool} {f : W → List W → Option W} {r : V → List V → Hp → VK → Prop} {o e : Expr} {es : List Expr} {m : Sm W} {ma : Sm (List W)} {p1 p2 k1 : Bool} {apos cpos : Pos} (pa : PlainAttrs T) (slot : Slot T name id) (hty : typeOf (.builtin id) = pure (.type "method_descriptor")) (hm : MtR Z.X id r) (ht : TyM Z.D T ty) (hr : RelM Z.D r f) (ho : ME Z o m p1 k1) (ha : MA Z (e :: es) ma p2)
    (hbase : attributeBase o name Z.X.env (eval o Z.X.env) = eval o Z.X.env := by rfl)
    (hfew : ((backTo cpos (starEach (e :: es) Z.X.env)).all (fun x => !x.1) && (backToKw cpos (keywordEach [] Z.X.env)).all (fun x => x.1.isSome)
      && decide ((e :: es).length + ([] : List Keyword).length + (if ([] : List Keyword).isEmpty then 0 else 1) < 30)) = true := by rfl)
    (hline : (apos.endLine == cpos.line) = true := by rfl) (hs : starEach (e :: es) Z.X.env = (false, eval e Z.X.env) :: starEach es Z.X.env := by rfl) (hplain : (backTo cpos (starEach es Z.X.env)).any (·.1) = false := by rfl) :
    ME Z (.Call (.Attribute o name apos) (e :: es) [] cpos) (mMeth ty f (k1 || p2) m ma) (p1 && p2) true :=
  pe_imp (pe_bm pa slot hty hm ho ha hbase hfew hline hs hplain) fun σ H Q q => tx_meth ht hr q
/-! ### x is None -/
def isNW (neg : Bool) (a b : W) : Option W := match b with
  | .non => match a with
    | .non => some (.bl (!neg))
    | .bl _ => some (.bl neg)
    | .int _ => some (.bl neg)
    | .str _ => some (.bl neg)
    | .tup _ => some (.bl neg)
    | .lst _ _ => some (.bl neg)
    | .scr _ => some (.bl neg)
    | .exc _ => some (.bl neg)
    | _ => none
  | _ => none
theorem RO.nonv {D : Dn} {G H : Hp} {a : W} {v : V} {O : List Addr} {n : Bool} {w : W} (s : Sub G H) (r : RO D G H a v O) (e : isNW n a .non = some w) : w = .bl (if v = .non then !n else n) := by
  cases a with
  | non => cases e; obtain ⟨_, rfl⟩ := r; rfl
  | bl b => cases e; obtain ⟨_, rfl⟩ := r; rfl
  | int b => cases e; obtain ⟨_, rfl⟩ := r; rfl
  | str b => cases e; obtain ⟨_, rfl⟩ := r; rfl
  | tup b => cases e; obtain ⟨_, a, vs, rfl, _⟩ := r; rfl
  | lst b ws => cases e; obtain ⟨a, vs, rfl, _⟩ := r.lstAt s; rfl
  | scr b => cases e; obtain ⟨_, a, vs, rfl, _⟩ := r; rfl
  | exc b => cases e; obtain ⟨_, a, rfl, _⟩ := r; rfl
  | _ => cases e
theorem op_isNW {Z : Zt} : OpS Z (compareOp .Is) (isNW false) := fun G H w1 w2 v1 v2 O1 O2 w Q s r1 r2 e q => by
  cases w2 with
  | non =>
    obtain ⟨_, rfl⟩ := r2
    have ew := RO.nonv s r1 e
    refine ⟨_, op_isN, rfl, ?_⟩
    rw [ew] at q
    have := q.bl s
    by_cases c : v1 = .non
    · rw [if_pos c] at this; rw [decide_eq_true c]; exact this
    · rw [if_neg c] at this; rw [decide_eq_false c]; exact this
  | _ => cases e
theorem op_isNotNW {Z : Zt} : OpS Z (compareOp .IsNot) (isNW true) := fun G H w1 w2 v1 v2 O1 O2 w Q s r1 r2 e q => by
  cases w2 with
  | non =>
    obtain ⟨_, rfl⟩ := r2
    have ew := RO.nonv s r1 e
    refine ⟨_, op_notN, rfl, ?_⟩
    rw [ew] at q
    have := q.bl s
    by_cases c : v1 = .non
    · rw [if_pos c] at this; rw [decide_eq_true c]; exact this
    · rw [if_neg c] at this; rw [decide_eq_false c]; exact this
  | _ => cases e
def sAugS (i : Nat) (f : Int → Int → Int) (mi me : Sm W) : Sm Fl := fun env => match env[i]? with
  | some (.lst true _) => match mi env with
    | .ok (.int n) env1 => match env1[i]? with
      | some (.lst true xs) => match ixN xs.length n with
        | some k => match xs[k]? with
          | some (.int a) => match me env1 with
            | .ok (.int b) _ => .ok .nx (env1.set i (.lst true (xs.set k (.int (f a b)))))
            | _ => .bad
          | _ => .bad
        | none => .bad
      | _ => .bad
    | _ => .bad
  | _ => .bad
theorem r_augS {env : List W} (i : Nat) (f : Int → Int → Int) (mi me : Sm W) : sAugS i f mi me env = match env[i]? with
  | some (.lst true _) => (match mi env with
    | .ok (.int n) env1 => (match env1[i]? with
      | some (.lst true xs) => (match ixN xs.length n with
        | some k => (match xs[k]? with
          | some (.int a) => (match me env1 with
            | .ok (.int b) _ => .ok .nx (env1.set i (.lst true (xs.set k (.int (f a b)))))
            | _ => .bad)
          | _ => .bad)
        | none => .bad)
      | _ => .bad)
    | _ => .bad)
  | _ => .bad := rfl
end Ev

namespace Ev
open PySem PySem.Spec L2
def zipL3 : List W → Option (List W)
  | [w, x, y] => (frzL w).bind fun ws => (frzL x).bind fun xs => (frzL y).map fun ys => (ws.zip (xs.zip ys)).map fun q => .tup [q.1, q.2.1, q.2.2]
  | _ => none
theorem w_zip3 (ws xs ys : List W) : zipL3 [.lst false ws, .lst false xs, .lst false ys] = some ((ws.zip (xs.zip ys)).map fun q => .tup [q.1, q.2.1, q.2.2]) := rfl
end Ev

namespace Ev
open PySem PySem.Spec L2
/-! ### walking a text, sign by sign -/
def strL : W → Option (List W)
  | .str z => some (z.cps.toList.map fun c => .str ⟨#[c]⟩)
  | _ => none
def iChr (m : Sm W) : Sm (List W) := Sm.bind m fun w => lft (strL w)
theorem r_ichr {env : List W} (m : Sm W) : iChr m env = match m env with
  | .ok w e' => (match strL w with
    | some r => .ok r e'
    | none => .bad)
  | .ex c e' => .ex c e'
  | .bad => .bad := by
  unfold iChr
  rw [r_bind]
  cases m env with
  | ok w e' => dsimp only; rw [r_lft]; cases strL w <;> rfl
  | _ => rfl
theorem w_strL (z : Str) : strL (.str z) = some (z.cps.toList.map fun c => .str ⟨#[c]⟩) := rfl
theorem walks_chr {D : Dn} {G0 : Hp} {z : Str} : Walks D (Its z) (z.cps.toList.map fun c => W.str ⟨#[c]⟩) G0 := fun i G H s0 s => by
  refine ⟨fun x e => ?_, fun hl => by rw [List.length_map, Array.length_toList] at hl; exact hl⟩
  rw [List.getElem?_map] at e
  cases ec : z.cps.toList[i]? with
  | none => rw [ec] at e; cases e
  | some c =>
    rw [ec] at e
    cases e
    have hi : i < z.cps.size := by
      have := (List.getElem?_eq_some_iff.mp ec).1
      rwa [Array.length_toList] at this
    refine ⟨hi, fun v H' y => ?_⟩
    obtain ⟨rfl, c', hc', rfl⟩ := y
    have e2 : c' = c := by
      rw [Array.getElem?_toList] at ec
      exact Option.some.inj (hc'.symm.trans ec)
    subst e2
    exact ⟨G, Step.refl _ _ _, s, rfl⟩
theorem mi_chr {Z : Zt} {tg e : Expr} {m : Sm W} {p k : Bool} (h : ME Z e m p k) : MI Z tg e (iChr m) p := pi_imp (pi_str h) fun σ H R q => by
  obtain ⟨env, G, Os, s, q⟩ := q
  refine ⟨env, G, Os, s, ?_⟩
  unfold iChr Sm.bind lft at q
  cases e : m env with
  | bad => rw [e] at q; exact q
  | ex c env1 => rw [e] at q; exact q
  | ok w env1 =>
    rw [e] at q
    intro v G' H' Os' Ow s' r o t
    have t' := t.less (O2 := []) kO_less
    cases w with
    | str z =>
      obtain ⟨rfl, rfl⟩ := r
      exact ⟨z, rfl, q _ G' H' Os' s' t' walks_chr⟩
    | _ => exact q.elim
theorem w_inS (neg : Bool) (c : Nat) (z : Str) : inW neg (.str ⟨#[c]⟩) (.str z) = some (.bl (if neg = true then !decide (c ∈ z.cps.toList) else decide (c ∈ z.cps.toList))) := by
  have e : (!(Builtin.Str.occurrences z ⟨#[c]⟩ 0 z.length 1).isEmpty) = decide (c ∈ z.cps.toList) := StrLaws.found_one z c
  show some (W.bl (if neg then !(!(Builtin.Str.occurrences z ⟨#[c]⟩ 0 z.length 1).isEmpty) else !(Builtin.Str.occurrences z ⟨#[c]⟩ 0 z.length 1).isEmpty)) = _
  rw [e]
/-! ### a >= b, tuples too -/
def geXD (a b : W) : Option W := if (a.fd && b.fd) = true ∧ smallD a b ∧ PySem.W.alike a.dat b.dat = true then some (.bl (!PySem.W.dataLt a.dat b.dat)) else none
def geXW : W → W → Option W
  | .int i, .int j => some (.bl (decide (j ≤ i)))
  | .tup xs, .tup ys => geXD (.tup xs) (.tup ys)
  | _, _ => none
theorem w_geX (i j : Int) : geXW (.int i) (.int j) = some (.bl (decide (j ≤ i))) := rfl
theorem op_geXW {Z : Zt} {k : Nat} (hr : Room k Z.X.A) : OpS Z (compareOp .GtE) geXW := fun G H w1 w2 v1 v2 O1 O2 w Q s r1 r2 e q => by
  cases w1 with
  | int i =>
    cases w2 with
    | int j =>
      cases e
      obtain ⟨_, rfl⟩ := r1
      obtain ⟨_, rfl⟩ := r2
      exact ⟨_, op_ge, i, j, rfl, rfl, q.bl s⟩
    | _ => cases e
  | tup xs =>
    cases w2 with
    | tup ys =>
      have e' : geXD (.tup xs) (.tup ys) = some w := e
      unfold geXD at e'
      by_cases hc : ((W.tup xs).fd && (W.tup ys).fd) = true ∧ smallD (.tup xs) (.tup ys) ∧ PySem.W.alike (W.tup xs).dat (W.tup ys).dat = true
      · rw [if_pos hc] at e'
        cases e'
        obtain ⟨_, hs, ha⟩ := hc
        have d1 := r1.dp s rfl
        have d2 := r2.dp s rfl
        refine ⟨fun x y H' Q' => x = v1 ∧ y = v2 ∧ H' = H ∧ Q' (.bl (!PySem.W.dataLt (W.tup xs).dat (W.tup ys).dat)) H, fun pins st σ H' x y v u Q' I rx ry hh => ?_, rfl, rfl, rfl, q.bl s⟩
        obtain ⟨rfl, rfl, rfl, hq⟩ := hh
        obtain ⟨as, x1⟩ := Dp.reads I _ _ v d1 rx
        obtain ⟨bs, x2⟩ := Dp.reads I _ _ u d2 ry
        have := hs.min
        have := hr.units
        exact PySem.W.rcGe_alike _ _ Z.X.A st v u as bs x1 x2 ha (fun z => nomatch z) (by omega) _ _ _ _ ⟨.bl _, _, I, rfl, hq⟩
      · rw [if_neg hc] at e'; cases e'
    | _ => cases e
  | _ => cases e
end Ev

namespace Ev
open PySem PySem.Spec L2
/-- behind an answer, a pure step -/
theorem Stp.then {p : Bool} {env env1 : List W} {G H G1 H1 G2 H2 : Hp} {Os Os1 : List (List Addr)} {O1 O2 : List Addr} (a : Stp p env G H Os env1 G1 H1 Os1 O1) (b : Step G1 H1 O1 G2 H2 O2) : Stp p env G H Os env1 G2 H2 Os1 O2 := by
  cases p with
  | true =>
    obtain ⟨e1, e2, a⟩ := a
    exact ⟨e1, e2, a.trans b⟩
  | false =>
    have a' : Step G H Os.flatten G1 H1 (Os1.flatten ++ O1) := a
    show Step G H Os.flatten G2 H2 (Os1.flatten ++ O2)
    exact a'.trans b.more
theorem Step.pureO {G H G' H' : Hp} {O : List Addr} (a : Step G H [] G' H' []) : Step G H O G' H' O := by
  have z := a.pure0 (O := O)
  rwa [List.append_nil] at z
/-! ### a pair, the first one owned -/
def mPair (m1 m2 : Sm W) : Sm W := fun env => match m1 env with
  | .ok w1 env1 => match m2 env1 with
    | .ok w2 _ => if w2.frz = true then .ok (.ntp [w1, w2]) env1 else .bad
    | _ => .bad
  | .ex c env1 => .ex c env1
  | .bad => .bad
theorem r_pair {env : List W} (m1 m2 : Sm W) : mPair m1 m2 env = match m1 env with
  | .ok w1 env1 => (match m2 env1 with
    | .ok w2 _ => if w2.frz = true then .ok (.ntp [w1, w2]) env1 else .bad
    | _ => .bad)
  | .ex c env1 => .ex c env1
  | .bad => .bad := rfl
def mMutT (i : Nat) (F : MutF) (mi : Sm W) (m : Sm (List W)) : Sm W := fun env => match env[i]? with
  | some (.ntp ws) => match mi env with
    | .ok (.int n) _ => match ixN ws.length n with
      | some j => match ws[j]? with
        | some (.lst true xs) => match m env with
          | .ok us _ => match F xs us with
            | some (w, xs') => .ok w (env.set i (.ntp (ws.set j (.lst true xs'))))
            | none => .bad
          | .ex c _ => .ex c env
          | .bad => .bad
        | _ => .bad
      | none => .bad
    | .ex c _ => .ex c env
    | _ => .bad
  | _ => .bad
theorem r_mutT {env : List W} (i : Nat) (F : MutF) (mi : Sm W) (m : Sm (List W)) : mMutT i F mi m env = match env[i]? with
  | some (.ntp ws) => (match mi env with
    | .ok (.int n) _ => (match ixN ws.length n with
      | some j => (match ws[j]? with
        | some (.lst true xs) => (match m env with
          | .ok us _ => (match F xs us with
            | some (w, xs') => .ok w (env.set i (.ntp (ws.set j (.lst true xs'))))
            | none => .bad)
          | .ex c _ => .ex c env
          | .bad => .bad)
        | _ => .bad)
      | none => .bad)
    | .ex c _ => .ex c env
    | _ => .bad)
  | _ => .bad := rfl
/-! ### xs.append(e), e may change other slots -/
def mApp (i : Nat) (m : Sm W) : Sm W := fun env => match env[i]? with
  | some (.lst true _) => match m env with
    | .ok w env1 => if w.frz = true then match env1[i]? with
      | some (.lst true xs) => if xs.length < sizeLine then .ok .non (env1.set i (.lst true (xs ++ [w]))) else .bad
      | _ => .bad else .bad
    | .ex c env1 => .ex c env1
    | .bad => .bad
  | _ => .bad
theorem r_app {env : List W} (i : Nat) (m : Sm W) : mApp i m env = match env[i]? with
  | some (.lst true _) => (match m env with
    | .ok w env1 => if w.frz = true then (match env1[i]? with
      | some (.lst true xs) => if xs.length < sizeLine then .ok .non (env1.set i (.lst true (xs ++ [w]))) else .bad
      | _ => .bad) else .bad
    | .ex c env1 => .ex c env1
    | .bad => .bad)
  | _ => .bad := rfl
/-! ### a list of lists, the inner ones frozen -/
def gFzC (i : Nat) : Sm Unit := fun env => match env[i]? with
  | some (.nst ws) => if fzOks ws = true then .ok () (env.set i (.lst true (fzDs ws))) else .bad
  | some (.lst true _) => .ok () env
  | _ => .bad
theorem r_gfzC {env : List W} (i : Nat) : gFzC i env = match env[i]? with
  | some (.nst ws) => if fzOks ws = true then .ok () (env.set i (.lst true (fzDs ws))) else .bad
  | some (.lst true _) => .ok () env
  | _ => .bad := rfl
/-! ### a call, its one argument new and owned -/
def mCallO (g : Fn) (m : Sm W) : Sm W := fun env => match m env with
  | .ok w1 env1 => match g [w1] with
    | .ok w _ => .ok w env1
    | _ => .bad
  | .ex c env1 => .ex c env1
  | .bad => .bad
theorem r_callO {env : List W} (g : Fn) (m : Sm W) : mCallO g m env = match m env with
  | .ok w1 env1 => (match g [w1] with
    | .ok w _ => .ok w env1
    | _ => .bad)
  | .ex c env1 => .ex c env1
  | .bad => .bad := rfl
/-! ### a, b = a pair, the first one owned -/
def sAsgN (i j : Nat) (m : Sm W) : Sm Fl := fun env => match m env with
  | .ok (.ntp [w1, w2]) env1 => match env1[i]?, env1[j]? with
    | some _, some _ => if w2.frz = true then .ok .nx ((env1.set i w1).set j w2) else .bad
    | _, _ => .bad
  | .ex c env1 => .ex c env1
  | _ => .bad
theorem r_asgN {env : List W} (i j : Nat) (m : Sm W) : sAsgN i j m env = match m env with
  | .ok (.ntp [w1, w2]) env1 => (match env1[i]?, env1[j]? with
    | some _, some _ => if w2.frz = true then .ok .nx ((env1.set i w1).set j w2) else .bad
    | _, _ => .bad)
  | .ex c env1 => .ex c env1
  | _ => .bad := rfl
def mTakeK (i : Nat) (mi : Sm W) : Sm W := fun env => match env[i]? with
  | some (.nst ws) => match mi env with
    | .ok (.int n) _ => match ixN ws.length n with
      | some j => match ws[j]? with
        | some w => .ok w (env.set i .dead)
        | none => .bad
      | none => .bad
    | _ => .bad
  | _ => .bad
theorem r_takeK {env : List W} (i : Nat) (mi : Sm W) : mTakeK i mi env = match env[i]? with
  | some (.nst ws) => (match mi env with
    | .ok (.int n) _ => (match ixN ws.length n with
      | some j => (match ws[j]? with
        | some w => .ok w (env.set i .dead)
        | none => .bad)
      | none => .bad)
    | _ => .bad)
  | _ => .bad := rfl
theorem pick_nst (i : List W) (env : List W) : pickV (some (.nst i)) env = .ok (.nst i) env := rfl
theorem pick_ntp (i : List W) (env : List W) : pickV (some (.ntp i)) env = .ok (.ntp i) env := rfl
end Ev

namespace Ev
open PySem PySem.Spec L2
structure LcN (D : Dn) (vs : List Nat) (G1 H1 : Hp) (d : Addr) (σ : St) (acc : List W) (env : List W) (H : Hp) (G : Hp) (Os : List (List Addr)) (σ2 : St) (Oa : List Addr) : Prop where
  st : StOk D G H env σ2 Os
  len : σ2.length = σ.length
  out : ∀ i, i ∉ vs → σ2[i]? = σ[i]?
  dg : ∀ a ∈ d :: Oa, G a = none
  dn : ∀ a ∈ d :: Oa, a ∉ Os.flatten
  nd : (d :: Oa).Nodup
  dl : ∃ va, H d = some (.lst va) ∧ ROs D G H acc va Oa
  step : Step G1 H1 [] G H (d :: Oa)
theorem LcN.there {D : Dn} {vs : List Nat} {G1 H1 : Hp} {d : Addr} {σ : St} {acc env : List W} {H G : Hp} {Os : List (List Addr)} {σ2 : St} {Oa : List Addr} (I : LcN D vs G1 H1 d σ acc env H G Os σ2 Oa) : ∀ a ∈ d :: Oa, ∃ o, H a = some o ∧ NT o := fun a ha => by
  obtain ⟨va, hd, ra⟩ := I.dl
  rcases List.mem_cons.mp ha with e | h
  · rw [e]; exact ⟨_, hd, fun _ z => nomatch z⟩
  · exact ROs.thn acc va Oa ra a h
theorem LcN.next {D : Dn} {vs : List Nat} {G1 H1 : Hp} {d : Addr} {σ : St} {acc env : List W} {H G : Hp} {Os : List (List Addr)} {σ2 : St} {Oa : List Addr} {env' : List W} {G' H' : Hp} {Os' : List (List Addr)}
    (I : LcN D vs G1 H1 d σ acc env H G Os σ2 Oa) (s : StOk D G' H' env' σ2 Os') (t : Stp true env G H Os env' G' H' Os' []) : LcN D vs G1 H1 d σ acc env' H' G' Os' σ2 Oa := by
  obtain ⟨va, hd, ra⟩ := I.dl
  obtain ⟨rfl, rfl, t⟩ := t
  refine ⟨s, I.len, I.out, fun a ha => ?_, I.dn, I.nd, ⟨va, t.keep d _ hd (fun z => nomatch z), ROs.mono t.mono _ _ _ (fun a _ o h => t.keep a o h (fun z => nomatch z)) ra⟩, I.step.trans t.pureO⟩
  obtain ⟨o, ho, nt⟩ := I.there a ha
  exact t.gnew a o ho (fun z => nomatch z) nt (I.dg a ha)
theorem r_mutN {env : List W} (i : Nat) (F : MutF) (mi : Sm W) (m : Sm (List W)) : mMutN i F mi m env = match env[i]? with
  | some (.nst ws) => (match mi env with
    | .ok (.int n) _ => (match ixN ws.length n with
      | some j => (match ws[j]? with
        | some (.lst true xs) => (match m env with
          | .ok us _ => (match F xs us with
            | some (w, xs') => .ok w (env.set i (.nst (ws.set j (.lst true xs'))))
            | none => .bad)
          | .ex c _ => .ex c env
          | .bad => .bad)
        | _ => .bad)
      | none => .bad)
    | .ex c _ => .ex c env
    | _ => .bad)
  | _ => .bad := rfl
end Ev

namespace Ev
open PySem PySem.Spec L2
end Ev

namespace Ev
open PySem PySem.Spec L2

/-! ### keys of dicts -/
def keyW : Key → W
  | .inl i => .int i
  | .inr x => .str x
def wKey : W → Option Key
  | .int i => some (.inl i)
  | .str x => some (.inr x)
  | _ => none
def wKeys : List W → Option (List Key)
  | [] => some []
  | w :: ws => match wKey w, wKeys ws with
    | some k, some ks => some (k :: ks)
    | _, _ => none
theorem RF.key {D : Dn} {G : Hp} {w : W} {v : V} {k : Key} (r : RF D G w v) (e : wKey w = some k) : v = kV k := by
  cases w <;> first
    | (cases e; exact r)
    | cases e
theorem RFs.keys {D : Dn} {G : Hp} : ∀ {ws : List W} {vs : List V} {ks : List Key}, RFs D G ws vs → wKeys ws = some ks → vs = ks.map kV
  | [], _, _, r, e => by cases e; exact r
  | w :: ws, _, ks, r, e => by
    obtain ⟨v, us, rfl, r1, r2⟩ := r
    unfold wKeys at e
    cases e1 : wKey w with
    | none => rw [e1] at e; cases e
    | some k =>
      cases e2 : wKeys ws with
      | none => rw [e1, e2] at e; cases e
      | some l =>
        rw [e1, e2] at e
        cases e
        rw [List.map_cons, ← RF.key r1 e1, ← RFs.keys r2 e2]
abbrev KK := Sum Key (List Key)
def KR (G : Hp) (y : V) : KK → Prop
  | .inl k => y = kV k
  | .inr ks => ∃ b, y = .ref b ∧ G b = some (.tup (ks.map kV))
theorem KR.mono {G G' : Hp} (e : Sub G G') {y : V} : ∀ {kk : KK}, KR G y kk → KR G' y kk
  | .inl _, h => h
  | .inr _, h => h.elim fun b q => ⟨b, q.1, e _ _ q.2⟩

/-! ### tables -/
section
variable {κ : Type} [DecidableEq κ]
def dAt {α : Type} : List κ → List α → κ → Option α
  | a :: l, w :: ws, k => if a = k then some w else dAt l ws k
  | _, _, _ => none
def dSet {α : Type} : List κ → List α → κ → α → List α
  | a :: l, w :: ws, k, x => (if a = k then x else w) :: dSet l ws k x
  | _, _, _, _ => []
def dPut {α : Type} (l : List κ) (ws : List α) (k : κ) (x : α) : List κ × List α := if k ∈ l then (l, dSet l ws k x) else (l ++ [k], ws ++ [x])
end
def dFind : DKs → List W → KK → Option (Option W)
  | .k l, ws, .inl k => some (dAt l ws k)
  | .t l, ws, .inr k => some (dAt l ws k)
  | _, _, _ => none
def dStore : DKs → List W → KK → W → Option (DKs × List W)
  | .k l, ws, .inl k, x => some (.k (dPut l ws k x).1, (dPut l ws k x).2)
  | .t l, ws, .inr k, x => some (.t (dPut l ws k x).1, (dPut l ws k x).2)
  | _, _, _, _ => none
def mKey1 (m : Sm W) : Sm KK := Sm.bind m fun w => lft ((wKey w).map Sum.inl)
def keyT (ws : List W) : Option KK := if ws.length ≤ 15 then (wKeys ws).map Sum.inr else none
def mKeyT (m : Sm (List W)) : Sm KK := Sm.bind m fun ws => lft (keyT ws)
/-! ### {}, d[k], d.get(k, x) -/
def mDNew (ks : DKs) : Sm W := Sm.ret (.dct true ks [])
def dLook : W → KK → Option W
  | .dct _ ks ws, kk => (dFind ks ws kk).bind id
  | _, _ => none
def dLookD : W → KK → W → Option W
  | .dct _ ks ws, kk, x => (dFind ks ws kk).map fun o => o.getD x
  | _, _, _ => none
def mDGet (g : Bool) (mo : Sm W) (mk : Sm KK) : Sm W := Sm.bind mo fun w1 => Sm.bind mk fun kk => if (g || w1.frz) = true then lft (dLook w1 kk) else fun _ => .bad
def isDW : W → Bool
  | .dct _ _ _ => true
  | _ => false
def mDGet2 (g : Bool) (mo : Sm W) (mk : Sm KK) (md : Sm W) : Sm W := Sm.bind mo fun w1 => if isDW w1 = true then Sm.bind mk fun kk => Sm.bind md fun w3 => if (g || w1.frz) = true ∧ w3.frz = true then lft (dLookD w1 kk w3) else fun _ => .bad else fun _ => .bad
/-! ### d[k] = e -/
def dPutW (ks : DKs) (ws : List W) (kk : KK) (w : W) (i : Nat) (env : List W) : Out Fl := if ws.length < sizeLine then match dStore ks ws kk w with
    | some q => .ok .nx (env.set i (.dct true q.1 q.2))
    | none => .bad
  else .bad
def sDPut (i : Nat) (mk : Sm KK) (me : Sm W) : Sm Fl := Sm.bind me fun w env => if w.frz = true then match env[i]? with
    | some (.dct true ks ws) => (match mk env with
      | .ok kk env2 => dPutW ks ws kk w i env2
      | _ => .bad)
    | _ => .bad
  else .bad
/-! ### the keys of a locked dict, walked -/
def dKeys : W → Option (List W)
  | .dct false (.k l) _ => some (l.map keyW)
  | .dct false (.t l) _ => some (l.map fun k => .tup (k.map keyW))
  | _ => none
def iKeysD (m : Sm W) : Sm (List W) := Sm.bind m fun w => lft (dKeys w)
end Ev

namespace Ev
open PySem PySem.Spec L2

/-! ### an owned thing is lent while a statement runs, and owned again behind it -/
def thinOk : W → Bool
  | .dead => true
  | .lst true ws => flats ws
  | w => w.flat
theorem SR.thin {D : Dn} {G' H' G2 : Hp} {w : W} {s : Option V} {O : List Addr} (thin : ∀ a xs, SqT D.K G' a xs → SqT D.K G2 a xs) (h : thinOk w = true) (r : SR D G' H' w s O) : SR D G2 H' w s O := by
  rcases r with ⟨v, rfl, r⟩ | r
  · have hc : w = .dead ∨ (∃ ws, w = .lst true ws) ∨ w.flat = true := by
      unfold thinOk at h
      split at h
      · exact .inl rfl
      · exact .inr (.inl ⟨_, rfl⟩)
      · exact .inr (.inr h)
    refine .inl ⟨v, rfl, ?_⟩
    rcases hc with rfl | ⟨ws, rfl⟩ | hf
    · exact r
    · obtain ⟨a, us, rfl, rfl, k1, k2⟩ := r
      exact ⟨a, us, rfl, rfl, k1, RFs.thin thin _ _ h k2⟩
    · obtain ⟨rfl, rf⟩ := r.toF (W.flat_frz hf)
      exact RO.ofF (RF.thin thin _ _ hf rf)
  · exact .inr r
abbrev Zt.only (Z : Zt) (vs : List Nat) : Zt := ⟨Z.X, Z.CA, Z.W, fun j => !vs.contains j⟩
end Ev

namespace Ev
open PySem PySem.Spec L2

/-! ### running the meanings of dicts -/
section
variable {env : List W}
theorem r_dnew (ks : DKs) : mDNew ks env = .ok (.dct true ks []) env := rfl
theorem r_key1 (m : Sm W) : mKey1 m env = match m env with
  | .ok w e => (match wKey w with
    | some k => .ok (.inl k) e
    | none => .bad)
  | .ex c e => .ex c e
  | .bad => .bad := by
  unfold mKey1
  rw [r_bind]
  cases m env with
  | ok w e => dsimp only; rw [r_lft]; cases wKey w <;> rfl
  | _ => rfl
theorem r_keyT (m : Sm (List W)) : mKeyT m env = match m env with
  | .ok ws e => (match keyT ws with
    | some k => .ok k e
    | none => .bad)
  | .ex c e => .ex c e
  | .bad => .bad := by
  unfold mKeyT
  rw [r_bind]
  cases m env with
  | ok w e => dsimp only; rw [r_lft]; cases keyT w <;> rfl
  | _ => rfl
theorem r_dget (g : Bool) (mo : Sm W) (mk : Sm KK) : mDGet g mo mk env = match mo env with
  | .ok w1 e1 => (match mk e1 with
    | .ok kk e2 => if (g || w1.frz) = true then (match dLook w1 kk with
      | some r => .ok r e2
      | none => .bad) else .bad
    | .ex c e' => .ex c e'
    | .bad => .bad)
  | .ex c e' => .ex c e'
  | .bad => .bad := by
  unfold mDGet
  rw [r_bind]
  cases mo env with
  | ok w1 e1 =>
    dsimp only
    rw [r_bind]
    cases mk e1 with
    | ok kk e2 =>
      dsimp only
      split
      · rw [r_lft]; cases dLook w1 kk <;> rfl
      · rfl
    | _ => rfl
  | _ => rfl
theorem r_dget2 (g : Bool) (mo : Sm W) (mk : Sm KK) (md : Sm W) : mDGet2 g mo mk md env = match mo env with
  | .ok w1 e1 => if isDW w1 = true then (match mk e1 with
    | .ok kk e2 => (match md e2 with
      | .ok w3 e3 => if (g || w1.frz) = true ∧ w3.frz = true then (match dLookD w1 kk w3 with
        | some r => .ok r e3
        | none => .bad) else .bad
      | .ex c e' => .ex c e'
      | .bad => .bad)
    | .ex c e' => .ex c e'
    | .bad => .bad) else .bad
  | .ex c e' => .ex c e'
  | .bad => .bad := by
  unfold mDGet2
  rw [r_bind]
  cases mo env with
  | ok w1 e1 =>
    dsimp only
    split
    · rw [r_bind]
      cases mk e1 with
      | ok kk e2 =>
        dsimp only
        rw [r_bind]
        cases md e2 with
        | ok w3 e3 =>
          dsimp only
          split
          · rw [r_lft]; cases dLookD w1 kk w3 <;> rfl
          · rfl
        | _ => rfl
      | _ => rfl
    · rfl
  | _ => rfl
theorem r_dput (i : Nat) (mk : Sm KK) (me : Sm W) : sDPut i mk me env = match me env with
  | .ok w e => if w.frz = true then (match e[i]? with
    | some (.dct true ks ws) => (match mk e with
      | .ok kk e2 => dPutW ks ws kk w i e2
      | _ => .bad)
    | _ => .bad) else .bad
  | .ex c e' => .ex c e'
  | .bad => .bad := by
  unfold sDPut
  rw [r_bind]
  cases me env <;> rfl
theorem r_ikeys (m : Sm W) : iKeysD m env = match m env with
  | .ok w e => (match dKeys w with
    | some x => .ok x e
    | none => .bad)
  | .ex c e => .ex c e
  | .bad => .bad := by
  unfold iKeysD
  rw [r_bind]
  cases m env with
  | ok w e => dsimp only; rw [r_lft]; cases dKeys w <;> rfl
  | _ => rfl
end
theorem w_keyI (i : Int) : wKey (.int i) = some (.inl i) := rfl
theorem w_keyS (i : Str) : wKey (.str i) = some (.inr i) := rfl
theorem w_keyT2 (i j : Int) : keyT [.int i, .int j] = some (.inr [.inl i, .inl j]) := rfl
theorem w_lookT (b : Bool) (l : List (List Key)) (ws : List W) (k : List Key) : dLook (.dct b (.t l) ws) (.inr k) = dAt l ws k := by
  show (some (dAt l ws k)).bind id = _
  rfl
theorem w_lookK (b : Bool) (l : List Key) (ws : List W) (k : Key) : dLook (.dct b (.k l) ws) (.inl k) = dAt l ws k := by
  show (some (dAt l ws k)).bind id = _
  rfl
theorem w_lookDT (b : Bool) (l : List (List Key)) (ws : List W) (k : List Key) (x : W) : dLookD (.dct b (.t l) ws) (.inr k) x = some ((dAt l ws k).getD x) := rfl
theorem w_lookDK (b : Bool) (l : List Key) (ws : List W) (k : Key) (x : W) : dLookD (.dct b (.k l) ws) (.inl k) x = some ((dAt l ws k).getD x) := rfl
theorem w_dputT (l : List (List Key)) (ws : List W) (k : List Key) (w : W) (i : Nat) (env : List W) : dPutW (.t l) ws (.inr k) w i env = if ws.length < sizeLine then .ok .nx (env.set i (.dct true (.t (dPut l ws k w).1) (dPut l ws k w).2)) else .bad := Eq.trans rfl rfl
theorem w_dputK (l : List Key) (ws : List W) (k : Key) (w : W) (i : Nat) (env : List W) : dPutW (.k l) ws (.inl k) w i env = if ws.length < sizeLine then .ok .nx (env.set i (.dct true (.k (dPut l ws k w).1) (dPut l ws k w).2)) else .bad := Eq.trans rfl rfl
theorem w_dkeysT (l : List (List Key)) (ws : List W) : dKeys (.dct false (.t l) ws) = some (l.map fun k => .tup (k.map keyW)) := rfl
theorem w_dkeysK (l : List Key) (ws : List W) : dKeys (.dct false (.k l) ws) = some (l.map keyW) := rfl
theorem isDW_dct (b : Bool) (k : DKs) (ws : List W) : isDW (.dct b k ws) = true := rfl
theorem frz_dct (b : Bool) (k : DKs) (ws : List W) : (W.dct b k ws).frz = false := rfl

/-! ### counting in a dict -/
section
variable {κ : Type} [DecidableEq κ]
/-- how often each thing comes, in the order of the first ones -/
def uniq : List κ → List κ → List κ
  | acc, [] => acc
  | acc, k :: ks => uniq (if k ∈ acc then acc else acc ++ [k]) ks
end

end Ev

namespace Ev
open PySem PySem.Spec L2

/-! ### an owned thing is lent while an expression is worked out -/
def lstT : W → Bool
  | .lst true ws => flats ws
  | _ => false
def lstTs : List W → Bool
  | [] => true
  | w :: ws => lstT w && lstTs ws
def thinE : W → Bool
  | .nst ws => lstTs ws
  | .lst true ws => flats ws
  | w => w.flat
theorem ROs.thinT {D : Dn} {G G' H : Hp} (thin : ∀ a xs, SqT D.K G a xs → SqT D.K G' a xs) : ∀ (ws : List W) (vs : List V) (O : List Addr), lstTs ws = true → ROs D G H ws vs O → ROs D G' H ws vs O
  | [], _, _, _, r => r
  | w :: ws, _, _, h, r => by
    obtain ⟨v, u, O1, O2, rfl, rfl, h1, h2⟩ := r
    have h' : lstT w = true ∧ lstTs ws = true := Bool.and_eq_true_iff.mp h
    refine ⟨v, u, O1, O2, rfl, rfl, ?_, ROs.thinT thin ws u O2 h'.2 h2⟩
    have hw : ∃ xs, w = .lst true xs ∧ flats xs = true := by
      have hl := h'.1
      unfold lstT at hl
      split at hl
      · exact ⟨_, rfl, hl⟩
      · cases hl
    obtain ⟨xs, rfl, hf⟩ := hw
    obtain ⟨a, us, rfl, rfl, k1, k2⟩ := h1
    exact ⟨a, us, rfl, rfl, k1, RFs.thin thin _ _ hf k2⟩
theorem RO.thinE {D : Dn} {G G' H : Hp} (thin : ∀ a xs, SqT D.K G a xs → SqT D.K G' a xs) {w : W} {v : V} {O : List Addr} (h : thinE w = true) (r : RO D G H w v O) : RO D G' H w v O := by
  have hc : (∃ ws, w = .nst ws ∧ lstTs ws = true) ∨ (∃ ws, w = .lst true ws ∧ flats ws = true) ∨ w.flat = true := by
    unfold Ev.thinE at h
    split at h
    · exact .inl ⟨_, rfl, h⟩
    · exact .inr (.inl ⟨_, rfl, h⟩)
    · exact .inr (.inr h)
  rcases hc with ⟨ws, rfl, hf⟩ | ⟨ws, rfl, hf⟩ | hf
  · obtain ⟨a, us, O', rfl, rfl, k1, k2⟩ := r
    exact ⟨a, us, O', rfl, rfl, k1, ROs.thinT thin _ _ _ hf k2⟩
  · obtain ⟨a, us, rfl, rfl, k1, k2⟩ := r
    exact ⟨a, us, rfl, rfl, k1, RFs.thin thin _ _ hf k2⟩
  · obtain ⟨rfl, rf⟩ := r.toF (W.flat_frz hf)
    exact RO.ofF (RF.thin thin _ _ hf rf)
def mLendE (i : Nat) (m : Sm W) : Sm W := fun env => match env[i]? with
  | some w0 => if w0.fzOk = true then (match m (env.set i w0.fzD) with
    | .ok w _ => if thinE w = true then .ok w env else .bad
    | _ => .bad) else .bad
  | none => .bad
theorem r_lendE {env : List W} (i : Nat) (m : Sm W) : mLendE i m env = match env[i]? with
  | some w0 => if w0.fzOk = true then (match m (env.set i w0.fzD) with
    | .ok w _ => if thinE w = true then .ok w env else .bad
    | _ => .bad) else .bad
  | none => .bad := rfl
theorem tx_lendE {D : Dn} {Wx : WX} {i : Nat} {m : Sm W} {σ : L2.St} {H : Hp} {Q : VK} (q : TX D Wx true true (mLendE i m) σ H Q) : TX D Wx true true m σ H Q := by
  obtain ⟨env, G, Os, s, q⟩ := q
  unfold mLendE at q
  cases e0 : env[i]? with
  | none => simp only [e0] at q
  | some w0 =>
    simp only [e0] at q
    by_cases hf : w0.fzOk = true
    · simp only [if_pos hf] at q
      obtain ⟨sv, O, h1, h2, h3⟩ := s.sl.at e0
      have hd : ∃ v, sv = some v ∧ RO D G H w0 v O := by
        rcases h3 with h3 | ⟨rfl, _⟩
        · exact h3
        · cases hf
      obtain ⟨v, rfl, ro⟩ := hd
      have inO : ∀ a ∈ O, a ∈ Os.flatten := fun a ha => flat_mem h2 ha
      have out : ∀ a ∈ (Os.set i []).flatten, a ∉ O := fun a ha z => onceO s.nd h2 z ha
      have g1 : ∀ a ∈ O, lentH G H O a = H a := fun a ha => lent_own ha (s.gn a (inO a ha))
      have mono : Sub G (lentH G H O) := lent_mono
      have s1 : StOk D (lentH G H O) H (env.set i w0.fzD) σ (Os.set i []) := by
        refine ⟨?_, sub_lentS s.sub, fun a ha => lent_none (out a ha) (s.gn a (flat_sub a ha)), flat_nd s.nd⟩
        have s0 : Sl D (lentH G H O) H (env.set i .dead) σ (Os.set i []) := (s.sl.kill1 i).mono mono fun _ _ _ h => h
        have z := Sl.set (D := D) (G := lentH G H O) (H := H) (w := w0.fzD) (s := some v) (O := []) (.inl ⟨v, rfl, RO.ofF (RO.deep (S := O) w0 v O hf ro fun a ha => ⟨ha, s.gn a (inO a ha)⟩)⟩) i s0
        rw [set_self h1, List.set_set, List.set_set] at z
        exact z
      refine ⟨_, _, _, s1, ?_⟩
      cases e1 : m (env.set i w0.fzD) with
      | bad => simp only [e1] at q
      | ex c env' => simp only [e1] at q
      | ok w env' =>
        simp only [e1] at q
        intro v' G' H' Os' Ow s' r o t
        obtain ⟨rfl, rfl, t⟩ := t
        by_cases hw : Ev.thinE w = true
        · simp only [if_pos hw] at q
          let G2 : Hp := fun a => if a ∈ O then none else G' a
          have g2 : ∀ a, a ∉ O → G2 a = G' a := fun a h => if_neg h
          have g0 : ∀ a, a ∈ O → G2 a = none := fun a h => if_pos h
          have sub2 : Sub G2 H' := fun a x hx => by
            by_cases c : a ∈ O
            · rw [g0 a c] at hx; cases hx
            · rw [g2 a c] at hx; exact s'.sub a x hx
          have st : Step G H [] G2 H' Ow := by
            refine ⟨fun a x hx => ?_, t.keep, fun a x hx hn nt hg => ?_, t.new⟩
            · have na : a ∉ O := fun z => by rw [s.gn a (inO a z)] at hx; cases hx
              rw [g2 a na]; exact t.mono a x (mono a x hx)
            · by_cases c : a ∈ O
              · exact g0 a c
              · rw [g2 a c]; exact t.gnew a x hx hn nt (lent_none c hg)
          have there : ∀ a ∈ O, ∃ o, G' a = some o ∧ H a = some o ∧ NT o ∧ ∀ ob xs, o ≠ .frz ob (.tup xs) := fun a ha => by
            obtain ⟨o, ho, nt⟩ := s.thn a (inO a ha)
            refine ⟨o, t.mono a o (by rw [g1 a ha]; exact ho), ho, nt, fun ob xs z => ?_⟩
            rw [z] at ho
            exact (s.sl.noT a (inO a ha) xs).2 ob ho
          have thin : ∀ a xs, SqT D.K G' a xs → SqT D.K G2 a xs := fun a xs h => by
            rcases h with (h | ⟨o', h⟩) | h
            · refine .inl (.inl ?_)
              have na : a ∉ O := fun z => by
                obtain ⟨o, k1, _, k3, _⟩ := there a z
                rw [h] at k1
                exact k3 xs (Option.some.inj k1).symm
              rw [g2 a na]; exact h
            · refine .inl (.inr ⟨o', ?_⟩)
              have na : a ∉ O := fun z => by
                obtain ⟨o, k1, _, _, k4⟩ := there a z
                rw [h] at k1
                exact k4 o' xs (Option.some.inj k1).symm
              rw [g2 a na]; exact h
            · exact .inr h
          have s2 : StOk D G2 H' env σ Os := s.step (st.less (O2 := []) fun _ z => nomatch z) sub2
          refine q v' G2 H' Os Ow s2 (RO.thinE thin hw r) ⟨s.apart st (List.nodup_append.mp o.1).2.1, fun a ha => ?_⟩ ⟨rfl, rfl, st⟩
          by_cases c : a ∈ O
          · exact g0 a c
          · rw [g2 a c]; exact o.2 a ha
        · simp only [if_neg hw] at q
    · simp only [if_neg hf] at q
theorem me_lendE {Z : Zt} {e : Expr} (i : Nat) {m : Sm W} (h : ME Z e m true true) : ME Z e (mLendE i m) true true := pe_imp h fun _ _ _ q => tx_lendE q
end Ev

namespace Ev
open PySem PySem.Spec L2

/-! ### x[1:] of a tuple, as a key -/
def cutK : W → Option KK
  | .tup (_ :: k :: ks) => keyT (k :: ks)
  | _ => none
def mKeyCut (m : Sm W) : Sm KK := Sm.bind m fun w => lft (cutK w)
theorem r_keyCut {env : List W} (m : Sm W) : mKeyCut m env = match m env with
  | .ok w e => (match cutK w with
    | some k => .ok k e
    | none => .bad)
  | .ex c e => .ex c e
  | .bad => .bad := by
  unfold mKeyCut
  rw [r_bind]
  cases m env with
  | ok w e => dsimp only; rw [r_lft]; cases cutK w <;> rfl
  | _ => rfl
end Ev

namespace Ev
open PySem PySem.Spec L2
/-! ### methods of texts -/
def tyStr : W → Bool
  | .str _ => true
  | _ => false
theorem tyM_str {D : Dn} : TyM D "str" tyStr := fun G H w v O s r e => by
  cases w with
  | str x =>
    obtain ⟨_, rfl⟩ := r
    exact rfl
  | _ => cases e
def strsW : List W → Option (List Str)
  | [] => some []
  | .str i :: ws => (strsW ws).map (i :: ·)
  | _ :: _ => none
theorem strsW_map : ∀ ns : List Str, strsW (ns.map W.str) = some ns
  | [] => rfl
  | n :: ns => by rw [List.map_cons, strsW, strsW_map ns]; rfl
theorem strsW_eq : ∀ {ws : List W} {ns : List Str}, strsW ws = some ns → ws = ns.map W.str
  | [], ns, h => by cases h; rfl
  | .str i :: ws, ns, h => by
    rw [strsW] at h
    cases e : strsW ws with
    | none => rw [e] at h; cases h
    | some ms =>
      rw [e] at h
      have h' : i :: ms = ns := Option.some.inj h
      rw [← h', List.map_cons, strsW_eq e]
theorem RFs.strs {D : Dn} {G : Hp} : ∀ {ns : List Str} {vs : List V}, RFs D G (ns.map W.str) vs → vs = ns.map V.str
  | [], _, h => h
  | n :: ns, _, h => by
    obtain ⟨v, r, rfl, h1, h2⟩ := h
    rw [List.map_cons, RFs.strs h2, show v = .str n from h1]
theorem RFs.ofStrs {D : Dn} {G : Hp} : ∀ ns : List Str, RFs D G (ns.map W.str) (ns.map V.str)
  | [] => rfl
  | n :: ns => ⟨.str n, _, rfl, rfl, RFs.ofStrs ns⟩
def jnOk (a : Str) (ys : List Str) : Prop := (ys.map (·.length)).sum + ys.length * a.length ≤ 16777216
noncomputable instance {a : Str} {ys : List Str} : Decidable (jnOk a ys) := Classical.propDecidable _
def spOk (a b : Str) : Prop := (b.length == 0) = false ∧ a.length + 2 ≤ sizeLine
noncomputable instance {a b : Str} : Decidable (spOk a b) := Classical.propDecidable _
def spkOk (a b : Str) (k : Int) : Prop := (b.length == 0) = false ∧ -(2 ^ 63) ≤ k ∧ k < 2 ^ 63 ∧ a.length + 2 ≤ sizeLine
noncomputable instance {a b : Str} {k : Int} : Decidable (spkOk a b k) := Classical.propDecidable _
noncomputable def joinW : W → List W → Option W
  | .str a, [w] => (seqW w).bind fun ws => (strsW ws).bind fun ys => if jnOk a ys then some (.str (Txt.join a ys)) else none
  | _, _ => none
noncomputable def splitW (b : Bool) : W → List W → Option W
  | .str a, [.str s] => if spOk a s then some (.lst b ((Txt.split a s).map W.str)) else none
  | .str a, [.str s, .int k] => if spkOk a s k then some (.lst b ((Txt.splitMax a s k).map W.str)) else none
  | _, _ => none
noncomputable def partW : W → List W → Option W
  | .str a, [.str s] => if spOk a s then some (.tup [.str (Txt.partition a s).1, .str (Txt.partition a s).2.1, .str (Txt.partition a s).2.2]) else none
  | _, _ => none
abbrev rJoin (X : Cx) : V → List V → Hp → VK → Prop := fun x xs H Q => ∃ a p, ∃ ys : List Str, x = .str a ∧ xs = [.ref p] ∧ (SqL X.K H p (ys.map V.str) ∨ SqT X.K H p (ys.map V.str)) ∧ (ys.map (·.length)).sum + ys.length * a.length ≤ 16777216 ∧ Q (.str (Txt.join a ys)) H
abbrev rSpl : V → List V → Hp → VK → Prop := fun x xs H Q => ∃ a b, x = .str a ∧ xs = [.str b] ∧ (b.length == 0) = false ∧ a.length + 2 ≤ sizeLine ∧ rNewStrs (Txt.split a b) H Q
abbrev rPart : V → List V → Hp → VK → Prop := fun x xs H Q => ∃ a b, x = .str a ∧ xs = [.str b] ∧ (b.length == 0) = false ∧ a.length ≤ sizeLine ∧ ∀ p, H p = none → Q (.ref p) (upd H p (.tup [.str (Txt.partition a b).1, .str (Txt.partition a b).2.1, .str (Txt.partition a b).2.2]))
theorem rel_join {Z : Zt} : RelM Z.D (rJoin Z.X) joinW := fun G H w1 ws v1 vs O1 w Q s r1 r2 e q => by
  unfold joinW at e
  split at e
  · rename_i a w2
    obtain ⟨_, rfl⟩ := r1
    obtain ⟨v, r, rfl, h1, h2⟩ := r2
    obtain rfl : r = [] := h2
    cases h : seqW w2 with
    | none => rw [h] at e; cases e
    | some us =>
      cases h2 : strsW us with
      | none => rw [h, Option.bind_some, h2] at e; cases e
      | some ys =>
        rw [h, Option.bind_some, h2, Option.bind_some] at e
        by_cases hj : jnOk a ys
        · rw [if_pos hj] at e
          cases e
          obtain ⟨p, zs, rfl, h3, h4⟩ := seqW_at s (RO.ofF (H := H) h1) h
          rw [strsW_eq h2] at h4
          rw [RFs.strs h4] at h3
          exact ⟨a, p, ys, rfl, rfl, h3, hj, q.str s⟩
        · rw [if_neg hj] at e; cases e
  · cases e
theorem rel_split {Z : Zt} {b : Bool} : RelM Z.D rSpl (fun w ws => match ws with | [x] => splitW b w [x] | _ => none) := fun G H w1 ws v1 vs O1 w Q s r1 r2 e q => by
  cases ws with
  | nil => cases e
  | cons x ws =>
    cases ws with
    | cons _ _ => cases e
    | nil =>
      dsimp only at e
      unfold splitW at e
      split at e
      · rename_i a y e1
        cases e1
        obtain ⟨_, rfl⟩ := r1
        obtain ⟨v, r, rfl, h1, h2⟩ := r2
        obtain rfl : r = [] := h2
        by_cases hj : spOk a y
        · rw [if_pos hj] at e
          cases e
          refine ⟨a, y, rfl, ?_, hj.1, hj.2, fun p n => q.lst s (RFs.ofStrs _) n⟩
          rw [show v = .str y from h1]
        · rw [if_neg hj] at e; cases e
      · rename_i e1; cases e1
      · cases e
theorem rel_part {Z : Zt} : RelM Z.D rPart partW := fun G H w1 ws v1 vs O1 w Q s r1 r2 e q => by
  unfold partW at e
  split at e
  · rename_i a y
    obtain ⟨_, rfl⟩ := r1
    obtain ⟨v, r, rfl, h1, h2⟩ := r2
    obtain rfl : r = [] := h2
    by_cases hj : spOk a y
    · rw [if_pos hj] at e
      cases e
      refine ⟨a, y, rfl, ?_, hj.1, Nat.le_trans (Nat.le_add_right _ _) hj.2, fun p n => q.tup s ?_ n⟩
      · rw [show v = .str y from h1]
      · exact ⟨_, _, rfl, rfl, _, _, rfl, rfl, _, _, rfl, rfl, rfl⟩
    · rw [if_neg hj] at e; cases e
  · cases e
section
variable {Z : Zt} {o e e2 : Expr} {m : Sm W} {ma : Sm (List W)} {p1 p2 k1 : Bool} {apos cpos : Pos}
theorem me_join (ho : ME Z o m p1 k1) (ha : MA Z [e] ma p2)
    (hbase : attributeBase o "join" Z.X.env (eval o Z.X.env) = eval o Z.X.env := by rfl)
    (hfew : ((backTo cpos (starEach [e] Z.X.env)).all (fun x => !x.1) && (backToKw cpos (keywordEach [] Z.X.env)).all (fun x => x.1.isSome)
      && decide ([e].length + ([] : List Keyword).length + (if ([] : List Keyword).isEmpty then 0 else 1) < 30)) = true := by rfl)
    (hline : (apos.endLine == cpos.line) = true := by rfl) (hs : starEach [e] Z.X.env = (false, eval e Z.X.env) :: starEach [] Z.X.env := by rfl) :
    ME Z (.Call (.Attribute o "join" apos) [e] [] cpos) (mMeth tyStr joinW (k1 || p2) m ma) (p1 && p2) true :=
  me_meth PySem.F.plainAttrs_str F.slot_str_join F.type_str_join mt_join tyM_str rel_join ho ha hbase hfew hline hs rfl
theorem me_part (ho : ME Z o m p1 k1) (ha : MA Z [e] ma p2)
    (hbase : attributeBase o "partition" Z.X.env (eval o Z.X.env) = eval o Z.X.env := by rfl)
    (hfew : ((backTo cpos (starEach [e] Z.X.env)).all (fun x => !x.1) && (backToKw cpos (keywordEach [] Z.X.env)).all (fun x => x.1.isSome)
      && decide ([e].length + ([] : List Keyword).length + (if ([] : List Keyword).isEmpty then 0 else 1) < 30)) = true := by rfl)
    (hline : (apos.endLine == cpos.line) = true := by rfl) (hs : starEach [e] Z.X.env = (false, eval e Z.X.env) :: starEach [] Z.X.env := by rfl) :
    ME Z (.Call (.Attribute o "partition" apos) [e] [] cpos) (mMeth tyStr partW (k1 || p2) m ma) (p1 && p2) true :=
  me_meth PySem.F.plainAttrs_str F.slot_str_partition F.type_str_partition mt_partition tyM_str rel_part ho ha hbase hfew hline hs rfl
noncomputable def split1W (b : Bool) : W → List W → Option W := fun w ws => match ws with | [x] => splitW b w [x] | _ => none
theorem me_split (b : Bool) (ho : ME Z o m p1 k1) (ha : MA Z [e] ma p2)
    (hbase : attributeBase o "split" Z.X.env (eval o Z.X.env) = eval o Z.X.env := by rfl)
    (hfew : ((backTo cpos (starEach [e] Z.X.env)).all (fun x => !x.1) && (backToKw cpos (keywordEach [] Z.X.env)).all (fun x => x.1.isSome)
      && decide ([e].length + ([] : List Keyword).length + (if ([] : List Keyword).isEmpty then 0 else 1) < 30)) = true := by rfl)
    (hline : (apos.endLine == cpos.line) = true := by rfl) (hs : starEach [e] Z.X.env = (false, eval e Z.X.env) :: starEach [] Z.X.env := by rfl) :
    ME Z (.Call (.Attribute o "split" apos) [e] [] cpos) (mMeth tyStr (split1W b) (k1 || p2) m ma) (p1 && p2) true :=
  me_meth PySem.F.plainAttrs_str F.slot_str_split F.type_str_split mt_split tyM_str (rel_split (Z := Z) (b := b)) ho ha hbase hfew hline hs rfl
end
theorem w_join {a : Str} {b : Bool} {ys : List Str} (h : jnOk a ys) : joinW (.str a) [.lst b (ys.map W.str)] = some (.str (Txt.join a ys)) := by
  show ((strsW (ys.map W.str)).bind fun ys => if jnOk a ys then some (W.str (Txt.join a ys)) else none) = _
  rw [strsW_map, Option.bind_some, if_pos h]
theorem w_split {a s : Str} {b : Bool} (h : spOk a s) : split1W b (.str a) [.str s] = some (.lst b ((Txt.split a s).map W.str)) := if_pos h
theorem w_part {a s : Str} (h : spOk a s) : partW (.str a) [.str s] = some (.tup [.str (Txt.partition a s).1, .str (Txt.partition a s).2.1, .str (Txt.partition a s).2.2]) := if_pos h
theorem ty_str (s : Str) : tyStr (.str s) = true := rfl
end Ev

namespace Ev
open PySem PySem.Spec L2 TL
/-! ### the signs of numbers -/
def keyS (k : Int) : Str := Str.ofString (toString k)
def keyL (k : Int) : List Nat := if k < 0 then 45 :: numL k.natAbs else numL k.natAbs
theorem tl_key (k : Int) : tl (keyS k) = keyL k := by
  unfold keyS keyL
  cases k with
  | ofNat n =>
    rw [if_neg (by show ¬ (Int.ofNat n) < 0; have : (Int.ofNat n) = ((n : Nat) : Int) := rfl; omega)]
    exact tl_num n
  | negSucc n =>
    have e : (toString (n + 1)).toList.map Char.toNat = numL (n + 1) := by
      have z := tl_num (n + 1)
      rw [tl_ofString] at z
      exact z
    rw [show toString (Int.negSucc n) = "-" ++ toString (n + 1) from rfl, tl_ofString, String.toList_append, List.map_append, e, if_pos (Int.negSucc_lt_zero n)]
    rfl
def isFig (c : Nat) : Bool := decide (48 ≤ c ∧ c ≤ 57)
theorem fig_mem (c : Nat) : decide (c ∈ (Str.cps "0123456789").toList) = isFig c := by
  have e : (Str.cps "0123456789").toList = [48, 49, 50, 51, 52, 53, 54, 55, 56, 57] := by decide
  rw [e]
  unfold isFig
  rw [Bool.eq_iff_iff, decide_eq_true_eq, decide_eq_true_eq]
  simp only [List.mem_cons, List.not_mem_nil, or_false]
  omega
/-- the figures of a key's word -/
def figsL (l : List Nat) : List Nat := if l.take 1 = [45] then l.drop 1 else l
structure OkKey (l : List Nat) : Prop where
  ne : figsL l ≠ []
  len : (figsL l).length ≤ 30
  fig : ∀ c ∈ figsL l, isFig c = true
  led : ¬ (1 < (figsL l).length ∧ (figsL l)[0]? = some 48)
  neg : l ≠ [45, 48]
def keyV (l : List Nat) : Int := if l.take 1 = [45] then -((NumText.digitsVal (l.drop 1) : Nat) : Int) else ((NumText.digitsVal l : Nat) : Int)
theorem take_one {l : List Nat} {c : Nat} (h : l.take 1 = [c]) : l = c :: l.drop 1 := by
  cases l with
  | nil => cases h
  | cons d r =>
    have : d = c := by simpa using h
    rw [this]; rfl
theorem OkKey.int {z : Str} (h : OkKey (tl z)) : intText? z = some (keyV (tl z)) ∧ z.length ≤ 31 := by
  have hl := len_tl z
  have hlen := h.len
  have hfig := h.fig
  have hne := h.ne
  unfold keyV
  unfold figsL at hlen hfig hne
  by_cases c : (tl z).take 1 = [45]
  · rw [if_pos c] at hlen hfig hne ⊢
    have e := take_one c
    have l1 : (tl z).length = ((tl z).drop 1).length + 1 := by
      conv => lhs; rw [e]
      rfl
    refine ⟨intText_neg e (fun c hc => by simpa [isFig] using hfig c hc) hne (by omega), by omega⟩
  · rw [if_neg c] at hlen hfig hne ⊢
    exact ⟨intText_digits (fun c hc => by simpa [isFig] using hfig c hc) hne (by omega), by omega⟩
theorem keyL_len (k : Int) (h : k.natAbs < 10 ^ 30) : (keyL k).length ≤ 31 := by
  have hl := numL_len (by decide : 0 < 30) h
  unfold keyL
  split
  · rw [List.length_cons]; omega
  · omega
/-- a sign that stands in no key -/
theorem keyL_free {s : Nat} (h : s ≠ 45) (h2 : s < 48 ∨ 57 < s) (k : Int) : s ∉ keyL k := by
  have hn := numL_free (n := k.natAbs) h2
  unfold keyL
  split
  · intro z
    rcases List.mem_cons.mp z with e | z
    · exact h e
    · exact hn z
  · exact hn
/-! ### slices of texts -/
theorem tl_take1 (z : Str) : tl (cutS z none (some 1)) = (tl z).take 1 := by
  unfold cutS
  rw [HT.sIx_none, show (1 : Int) = ((1 : Nat) : Int) from rfl, HT.sIx_nat, List.drop_zero, Nat.sub_zero]
  show ((tl z).take (min 1 z.length)) = _
  rw [len_tl]
  cases tl z with
  | nil => rfl
  | cons a r =>
    have : min 1 (a :: r).length = 1 := by rw [List.length_cons]; omega
    rw [this]
theorem tl_dropN (z : Str) (n : Nat) : tl (cutS z (some (n : Int)) none) = (tl z).drop n := by
  unfold cutS
  rw [HT.sIx_none, HT.sIx_nat]
  show ((tl z).drop (min n z.length)).take (z.length - min n z.length) = _
  rw [len_tl]
  by_cases h : n ≤ (tl z).length
  · rw [Nat.min_eq_left h, List.take_of_length_le (by rw [List.length_drop]; omega)]
  · rw [Nat.min_eq_right (by omega), List.drop_of_length_le (Nat.le_refl _), List.drop_of_length_le (by omega), List.take_nil]
theorem tl_drop1 (z : Str) : tl (cutS z (some 1) none) = (tl z).drop 1 := tl_dropN z 1
theorem str_dec (a b : Str) : decide (a = b) = decide (tl a = tl b) := by
  rw [Bool.eq_iff_iff, decide_eq_true_eq, decide_eq_true_eq]
  exact ⟨fun e => by rw [e], ext_tl⟩
theorem w_lenS (z : Str) (h : z.length ≤ sizeLine) : lenW (.str z) = some (.int (z.length : Int)) := if_pos h
theorem w_cutZ (b : Bool) (z : Str) (lo hi : Option Int) (h : z.length ≤ sizeLine) : cutW b (.str z) lo hi = some (.str (cutS z lo hi)) := if_pos h
theorem w_addZ (b : Bool) (x y : Str) (h : x.length + y.length ≤ sizeLine) : addW b (.str x) (.str y) = some (.str (x ++ y)) := if_pos h
theorem w_strOf (i : Int) (h : i.natAbs < 2 ^ 1900) : strOfW (.int i) = some (.str (keyS i)) := by
  have h2 : i.natAbs.log2 < 1920 := by
    by_cases z : i.natAbs = 0
    · rw [z]; decide
    · have := (Nat.log2_lt z (k := 1900)).mpr h
      omega
  exact if_pos h2
theorem w_toIntS (z : Str) (n : Int) (h : z.length ≤ 640) (e : intText? z = some n) : toIntW (.str z) = some (.int n) := by
  show (if z.length ≤ 640 then (intText? z).map W.int else none) = _
  rw [if_pos h, e]
  rfl
theorem w_ixZ (z : Str) (i : Nat) (c : Nat) (h : z.length ≤ sizeLine) (e : (tl z)[i]? = some c) : ixW (.str z) (.int (i : Int)) = some (.str ⟨#[c]⟩) := by
  show (if z.length ≤ sizeLine then (atI (tl z) (i : Int)).map fun c => W.str ⟨#[c]⟩ else none) = _
  rw [if_pos h, atI_nat, e]
  rfl
theorem join_len (S : List Nat) : ∀ ps : List (List Nat), (joinL S ps).length + S.length = (ps.map List.length).sum + (if ps = [] then S.length else ps.length * S.length)
  | [] => by simp [joinL]
  | [p] => by simp [joinL]
  | p :: q :: r => by
    have ih := join_len S (q :: r)
    rw [if_neg (by simp)] at ih
    rw [if_neg (by simp)]
    show (p ++ (S ++ joinL S (q :: r))).length + S.length = _
    rw [List.length_append, List.length_append, List.map_cons, List.sum_cons, List.length_cons (a := p), Nat.succ_mul]
    omega
end Ev

namespace Ev
open PySem PySem.Spec L2

/-! ### places: a thing within a thing -/
def W.kids : W → List W
  | .nst ws => ws
  | .ndc _ ws => ws
  | .obj _ _ ws => ws
  | _ => []
def W.withKids : W → List W → W
  | .nst _, ws => .nst ws
  | .ndc ks _, ws => .ndc ks ws
  | .obj c fs _, ws => .obj c fs ws
  | w, _ => w
def getP : W → List Nat → Option W
  | w, [] => some w
  | w, j :: p => match w.kids[j]? with
    | some x => getP x p
    | none => none
def setP : W → List Nat → W → W
  | _, [], y => y
  | w, j :: p, y => match w.kids[j]? with
    | some x => w.withKids (w.kids.set j (setP x p y))
    | none => w
/-- the values of what is within -/
def KidV (D : Dn) (H : Hp) : W → V → List V → Prop
  | .nst _, v, vs => ∃ a, v = .ref a ∧ H a = some (.lst vs)
  | .ndc ks _, v, vs => ∃ a, v = .ref a ∧ DR H a ks vs
  | .obj c fs _, v, vs => ∃ a dx, v = .ref a ∧ fs.length = vs.length ∧ H a = some (.ins (D.CA c) dx (fs.zip vs))
  | _, _, _ => False
theorem zip_snd {α β : Type} {l : List α} {xs ys : List β} (h1 : l.length = xs.length) (h2 : l.length = ys.length) (e : l.zip xs = l.zip ys) : xs = ys := by
  have a := List.map_snd_zip (l₁ := l) (l₂ := xs) (by omega)
  have b := List.map_snd_zip (l₁ := l) (l₂ := ys) (by omega)
  rw [← a, e, b]
theorem KidV.uniq {D : Dn} {H : Hp} {w : W} {v : V} {vs us : List V} (h : KidV D H w v vs) (k : KidV D H w v us) : vs = us := by
  cases w with
  | nst ws =>
    obtain ⟨a, rfl, e⟩ := h
    obtain ⟨b, e2, e3⟩ := k
    cases e2
    rw [e] at e3
    cases e3
    rfl
  | ndc ks ws =>
    obtain ⟨a, rfl, e⟩ := h
    obtain ⟨b, e2, e3⟩ := k
    cases e2
    cases ks with
    | k l =>
      obtain ⟨l1, e⟩ := e
      obtain ⟨l2, e3⟩ := e3
      rw [e] at e3
      have e4 : l.zip vs = l.zip us := by
        have := Option.some.inj e3
        injection this
      exact zip_snd l1 l2 e4
    | t l =>
      obtain ⟨l1, e⟩ := e
      obtain ⟨l2, e3⟩ := e3
      rw [e] at e3
      have e4 : l.zip vs = l.zip us := by
        have := Option.some.inj e3
        injection this
      exact zip_snd l1 l2 e4
  | obj c fs ws =>
    obtain ⟨a, dx, rfl, l1, e⟩ := h
    obtain ⟨b, dy, e2, l2, e3⟩ := k
    cases e2
    rw [e] at e3
    have e4 : fs.zip vs = fs.zip us := by
      have := Option.some.inj e3
      injection this
    exact zip_snd l1 l2 e4
  | _ => exact h.elim
/-- the value of what stands at a place -/
def NodeV (D : Dn) (H : Hp) : W → V → List Nat → V → Prop
  | _, v, [], y => y = v
  | w, v, j :: p, y => ∃ vs u x, KidV D H w v vs ∧ vs[j]? = some u ∧ w.kids[j]? = some x ∧ NodeV D H x u p y
theorem NodeV.uniq {D : Dn} {H : Hp} : ∀ {p : List Nat} {w : W} {v y z : V}, NodeV D H w v p y → NodeV D H w v p z → y = z
  | [], _, _, _, _, h, k => by rw [show _ = _ from h, show _ = _ from k]
  | j :: p, w, v, y, z, h, k => by
    obtain ⟨vs, u, x, h1, h2, h3, h4⟩ := h
    obtain ⟨vs', u', x', k1, k2, k3, k4⟩ := k
    have e := h1.uniq k1
    subst e
    rw [h2] at k2
    cases k2
    rw [h3] at k3
    cases k3
    exact NodeV.uniq h4 k4
theorem NodeV.snoc {D : Dn} {H : Hp} : ∀ {p : List Nat} {w w1 x : W} {v u y : V} {vs : List V} {k : Nat}, NodeV D H w v p u → getP w p = some w1 → KidV D H w1 u vs → vs[k]? = some y → w1.kids[k]? = some x → NodeV D H w v (p ++ [k]) y ∧ getP w (p ++ [k]) = some x
  | [], w, w1, x, v, u, y, vs, k, h, g, hk, hv, hx => by
    cases g
    rw [show u = v from h] at hk
    exact ⟨⟨vs, y, x, hk, hv, hx, rfl⟩, by rw [List.nil_append]; unfold getP; rw [hx]; rfl⟩
  | j :: p, w, w1, x, v, u, y, vs, k, h, g, hk, hv, hx => by
    obtain ⟨vs', u', x', h1, h2, h3, h4⟩ := h
    unfold getP at g
    rw [h3] at g
    obtain ⟨a, b⟩ := NodeV.snoc h4 g hk hv hx
    exact ⟨⟨vs', u', x', h1, h2, h3, a⟩, by rw [List.cons_append]; unfold getP; rw [h3]; exact b⟩
theorem ROs.kid {D : Dn} {G H : Hp} : ∀ {ws : List W} {vs : List V} {O : List Addr} {j : Nat} {x : W}, ROs D G H ws vs O → ws[j]? = some x →
    ∃ u O1 R, vs[j]? = some u ∧ RO D G H x u O1 ∧ (R ++ O1).Perm O ∧ ∀ (G' H' : Hp) (x' : W) (O1' : List Addr), Sub G G' → (∀ a ∈ R, ∀ o, H a = some o → H' a = some o) → RO D G' H' x' u O1' → ∃ O', ROs D G' H' (ws.set j x') vs O' ∧ O'.Perm (R ++ O1')
  | [], _, _, _, _, _, e => by simp at e
  | w :: ws, _, _, 0, x, h, e => by
    obtain ⟨v, r, O1, O2, rfl, rfl, h1, h2⟩ := h
    have ew : w = x := by simpa using e
    subst ew
    refine ⟨v, O1, O2, rfl, h1, List.perm_append_comm, fun G' H' x' O1' sub k r' => ⟨O1' ++ O2, ?_, List.perm_append_comm⟩⟩
    exact ⟨v, r, O1', O2, rfl, rfl, r', ROs.mono sub _ _ _ k h2⟩
  | w :: ws, _, _, j + 1, x, h, e => by
    obtain ⟨v, r, O1, O2, rfl, rfl, h1, h2⟩ := h
    obtain ⟨u, Ox, R, e1, e2, e3, e4⟩ := ROs.kid (j := j) (x := x) h2 (by simpa using e)
    refine ⟨u, Ox, O1 ++ R, by simpa using e1, e2, by rw [List.append_assoc]; exact List.Perm.append_left _ e3, fun G' H' x' O1' sub k r' => ?_⟩
    obtain ⟨O', f1, f2⟩ := e4 G' H' x' O1' sub (fun a ha => k a (List.mem_append_right _ ha)) r'
    exact ⟨O1 ++ O', ⟨v, r, O1, O', rfl, rfl, RO.mono sub _ _ _ (fun a ha => k a (List.mem_append_left _ ha)) h1, f1⟩, by rw [List.append_assoc]; exact List.Perm.append_left _ f2⟩
theorem RO.kidsAt {D : Dn} {G H : Hp} {w : W} {v : V} {O : List Addr} {j : Nat} {x : W} (h : RO D G H w v O) (e : w.kids[j]? = some x) :
    ∃ a vs O', v = .ref a ∧ O = a :: O' ∧ (∀ H', (∀ o, H a = some o → H' a = some o) → KidV D H' w v vs) ∧ ROs D G H w.kids vs O' ∧ ∀ (G' H' : Hp) (ws' : List W) (O'' : List Addr), (∀ o, H a = some o → H' a = some o) → ROs D G' H' ws' vs O'' → RO D G' H' (w.withKids ws') v (a :: O'') := by
  cases w with
  | nst ws =>
    obtain ⟨a, vs, O', rfl, rfl, h1, h2⟩ := h
    exact ⟨a, vs, O', rfl, rfl, fun H' k => ⟨a, rfl, k _ h1⟩, h2, fun G' H' ws' O'' k r => ⟨a, vs, O'', rfl, rfl, k _ h1, r⟩⟩
  | ndc ks ws =>
    obtain ⟨a, vs, O', rfl, rfl, h1, h2⟩ := h
    exact ⟨a, vs, O', rfl, rfl, fun H' k => ⟨a, rfl, h1.keep k⟩, h2, fun G' H' ws' O'' k r => ⟨a, vs, O'', rfl, rfl, h1.keep k, r⟩⟩
  | obj c fs ws =>
    obtain ⟨a, dx, vs, O', rfl, rfl, hl, h1, h2⟩ := h
    exact ⟨a, vs, O', rfl, rfl, fun H' k => ⟨a, dx, rfl, hl, k _ h1⟩, h2, fun G' H' ws' O'' k r => ⟨a, dx, vs, O'', rfl, rfl, hl, k _ h1, r⟩⟩
  | _ => exact absurd e (by unfold W.kids; simp)
theorem RO.place {D : Dn} {G H : Hp} : ∀ (p : List Nat) {w w1 : W} {v : V} {O : List Addr}, RO D G H w v O → getP w p = some w1 →
    ∃ u O1 R, RO D G H w1 u O1 ∧ (R ++ O1).Perm O ∧ (∀ H', (∀ a ∈ O, ∀ o, H a = some o → H' a = some o) → NodeV D H' w v p u) ∧
      ∀ (G' H' : Hp) (y : W) (O1' : List Addr), Sub G G' → (∀ a ∈ R, ∀ o, H a = some o → H' a = some o) → RO D G' H' y u O1' → ∃ O', RO D G' H' (setP w p y) v O' ∧ O'.Perm (R ++ O1')
  | [], w, w1, v, O, h, g => by
    cases g
    exact ⟨v, O, [], h, by rw [List.nil_append], fun _ _ => rfl, fun G' H' y O1' _ _ r => ⟨O1', r, by rw [List.nil_append]⟩⟩
  | j :: p, w, w1, v, O, h, g => by
    unfold getP at g
    cases e : w.kids[j]? with
    | none => rw [e] at g; cases g
    | some x =>
      rw [e] at g
      obtain ⟨a, vs, O', rfl, rfl, kv, hk, back⟩ := h.kidsAt e
      obtain ⟨u0, Ok, Rk, f1, f2, f3, f4⟩ := ROs.kid hk e
      obtain ⟨u, O1, R1, i1, i2, i3, i4⟩ := RO.place p f2 g
      refine ⟨u, O1, a :: (Rk ++ R1), i1, ?_, fun H' k => ?_, fun G' H' y O1' sub k r => ?_⟩
      · rw [List.cons_append, List.append_assoc]
        exact List.Perm.cons _ ((List.Perm.append_left _ i2).trans f3)
      · refine ⟨vs, u0, x, kv H' fun o ho => k a List.mem_cons_self o ho, f1, e, i3 H' fun b hb => k b (List.mem_cons_of_mem _ (f3.mem_iff.mp (List.mem_append_right _ hb)))⟩
      · obtain ⟨Ok', j1, j2⟩ := i4 G' H' y O1' sub (fun b hb => k b (List.mem_cons_of_mem _ (List.mem_append_right _ hb))) r
        obtain ⟨O'', l1, l2⟩ := f4 G' H' _ _ sub (fun b hb => k b (List.mem_cons_of_mem _ (List.mem_append_left _ hb))) j1
        refine ⟨a :: O'', ?_, ?_⟩
        · unfold setP
          rw [e]
          exact back G' H' _ _ (fun o ho => k a List.mem_cons_self o ho) l1
        · rw [List.cons_append, List.append_assoc]
          exact List.Perm.cons _ (l2.trans (List.Perm.append_left _ j2))
/-- what stands at a place of a slot, and how it may be put otherwise -/
structure Foc (D : Dn) (G H : Hp) (env : List W) (σ : St) (Os : List (List Addr)) (i : Nat) (w : W) (p : List Nat) (w1 : W) (v u : V) (O1 R : List Addr) : Prop where
  sv : σ[i]? = some (some v)
  ro : RO D G H w1 u O1
  pm : (R ++ O1).Perm Os.flatten
  nv : ∀ H', (∀ a ∈ Os.flatten, ∀ o, H a = some o → H' a = some o) → NodeV D H' w v p u
  back : ∀ (G' H' : Hp) (y : W) (O1' : List Addr), Sub G G' → Sub G' H' → (∀ a ∈ R, ∀ o, H a = some o → H' a = some o) → (∀ a ∈ R, G' a = none) → RO D G' H' y u O1' → (R ++ O1').Nodup → (∀ a ∈ O1', G' a = none) →
    ∃ Os', StOk D G' H' (env.set i (setP w p y)) σ Os' ∧ Os'.flatten.Perm (R ++ O1')
theorem StOk.focus {D : Dn} {G H : Hp} {env : List W} {σ : St} {Os : List (List Addr)} {i : Nat} {w w1 : W} {p : List Nat} (s : StOk D G H env σ Os) (e : env[i]? = some w) (nd : w ≠ .dead) (g : getP w p = some w1) :
    ∃ v u O1 R, Foc D G H env σ Os i w p w1 v u O1 R := by
  obtain ⟨sv, O, h1, h2, h3⟩ := s.sl.at e
  have hv : ∃ v, sv = some v ∧ RO D G H w v O := by
    rcases h3 with h3 | ⟨z, _⟩
    · exact h3
    · exact absurd z nd
  obtain ⟨v, rfl, ro⟩ := hv
  obtain ⟨u, O1, R0, i1, i2, i3, i4⟩ := RO.place p ro g
  have p1 := flat_set (O' := []) h2
  rw [List.append_nil] at p1
  have inO : ∀ a ∈ O, a ∈ Os.flatten := fun a ha => flat_mem h2 ha
  refine ⟨v, u, O1, (Os.set i []).flatten ++ R0, h1, i1, ?_, fun H' k => i3 H' fun a ha => k a (inO a ha), fun G' H' y O1' sub sub' k gn r ndp gn' => ?_⟩
  · rw [List.append_assoc]
    exact (List.Perm.append_left _ i2).trans p1
  · obtain ⟨O', j1, j2⟩ := i4 G' H' y O1' sub (fun a ha => k a (List.mem_append_right _ ha)) r
    have hi : i < Os.length := (List.getElem?_eq_some_iff.mp h2).1
    have e0 : (Os.set i [])[i]? = some [] := by rw [List.getElem?_set_self hi]
    have p2 := flat_set (O' := O') e0
    rw [List.append_nil, List.set_set] at p2
    have pm : (Os.set i O').flatten.Perm ((Os.set i []).flatten ++ R0 ++ O1') := by
      rw [List.append_assoc]
      exact p2.trans (List.Perm.append_left _ j2)
    refine ⟨Os.set i O', ⟨?_, sub', fun a ha => ?_, pm.nodup_iff.mpr ndp⟩, pm⟩
    · have s0 : Sl D G' H' (env.set i .dead) σ (Os.set i []) := (s.sl.kill1 i).mono sub fun a ha x hx => k a (List.mem_append_left _ ha) x hx
      have s1 := Sl.set (D := D) (G := G') (H := H') (w := setP w p y) (s := some v) (O := O') (.inl ⟨v, rfl, j1⟩) i s0
      rw [set_self h1, List.set_set, List.set_set] at s1
      exact s1
    · rcases List.mem_append.mp (pm.mem_iff.mp ha) with z | z
      · exact gn a z
      · exact gn' a z
theorem Foc.inR {D : Dn} {G H : Hp} {env : List W} {σ : St} {Os : List (List Addr)} {i : Nat} {w w1 : W} {p : List Nat} {v u : V} {O1 R : List Addr} (f : Foc D G H env σ Os i w p w1 v u O1 R) : ∀ a ∈ R, a ∈ Os.flatten := fun a ha => f.pm.mem_iff.mp (List.mem_append_left _ ha)
theorem Foc.in1 {D : Dn} {G H : Hp} {env : List W} {σ : St} {Os : List (List Addr)} {i : Nat} {w w1 : W} {p : List Nat} {v u : V} {O1 R : List Addr} (f : Foc D G H env σ Os i w p w1 v u O1 R) : ∀ a ∈ O1, a ∈ Os.flatten := fun a ha => f.pm.mem_iff.mp (List.mem_append_right _ ha)
/-- the thing at the place is changed at an address of its own; more may become its own -/
theorem Foc.upd {D : Dn} {G H : Hp} {env : List W} {σ : St} {Os : List (List Addr)} {i : Nat} {w w1 y : W} {p : List Nat} {v u : V} {O1 R O1' Ow : List Addr} {b : Addr} {o : HO} (s : StOk D G H env σ Os) (f : Foc D G H env σ Os i w p w1 v u O1 R) (hb : b ∈ O1)
    (r : RO D G (upd H b o) y u O1') (n1 : O1'.Nodup) (hs : ∀ a ∈ O1', a ∈ O1 ∨ a ∈ Ow) (nd : (Os.flatten ++ Ow).Nodup) (gn : ∀ a ∈ Ow, G a = none) :
    ∃ Os', StOk D G (upd H b o) (env.set i (setP w p y)) σ Os' ∧ Step G H (Os.flatten ++ Ow) G (upd H b o) Os'.flatten := by
  have inO : b ∈ Os.flatten := f.in1 b hb
  have gb : G b = none := s.gn b inO
  have ndp : (R ++ O1).Nodup := f.pm.nodup_iff.mpr s.nd
  have nR : ∀ a ∈ R, a ≠ b := fun a ha e => (List.nodup_append.mp ndp).2.2 a ha b hb e
  have nd2 : (R ++ O1').Nodup := by
    refine List.nodup_append.mpr ⟨(List.nodup_append.mp ndp).1, n1, fun a ha c hc e => ?_⟩
    subst e
    rcases hs a hc with z | z
    · exact (List.nodup_append.mp ndp).2.2 a ha a z rfl
    · exact (List.nodup_append.mp nd).2.2 a (f.inR a ha) a z rfl
  obtain ⟨Os', k1, k2⟩ := f.back G (L2.upd H b o) y O1' (Sub.refl _) (fun a x ha => by rw [upd_ne (ne_of_none ha gb)]; exact s.sub a x ha) (fun a ha x hx => by rw [upd_ne (nR a ha)]; exact hx)
    (fun a ha => s.gn a (f.inR a ha)) r nd2 (fun a ha => by
      rcases hs a ha with z | z
      · exact s.gn a (f.in1 a z)
      · exact gn a z)
  refine ⟨Os', k1, Sub.refl _, fun a x ha hn => ?_, fun a x ha hn _ g => g, fun a ha => .inl ?_⟩
  · rw [upd_ne (fun e => hn (by rw [e]; exact List.mem_append_left _ inO))]; exact ha
  · rcases List.mem_append.mp (k2.mem_iff.mp ha) with z | z
    · exact List.mem_append_left _ (f.inR a z)
    · rcases hs a z with y' | y'
      · exact List.mem_append_left _ (f.in1 a y')
      · exact List.mem_append_right _ y'
/-- the place's value stands behind what changes nothing -/
theorem Foc.same {D : Dn} {G H : Hp} {env : List W} {σ : St} {Os : List (List Addr)} {i : Nat} {w w1 : W} {p : List Nat} {v u v' u' : V} {O1 R : List Addr} (s : StOk D G H env σ Os) (f : Foc D G H env σ Os i w p w1 v u O1 R) (h1 : σ[i]? = some (some v')) (h2 : NodeV D H w v' p u') : u' = u := by
  have e := f.sv
  rw [h1] at e
  cases e
  exact h2.uniq (f.nv H fun _ _ _ h => h)
def lvW : W → Bool
  | .dead => false
  | _ => true
/-- the node at a place -/
def nodeAt (i : Nat) (p : List Nat) (env : List W) : Option W := match env[i]? with
  | some w => if lvW w = true then getP w p else none
  | none => none
/-- the field's number -/
def fIx : List Str → Str → Option Nat
  | [], _ => none
  | g :: fs, f => if (f == g) = true then some 0 else (fIx fs f).map (· + 1)
end Ev

namespace Ev
open PySem PySem.Spec L2

/-- the place behind what changes nothing -/
theorem Foc.on {D : Dn} {G H G2 H2 : Hp} {env : List W} {σ : St} {Os : List (List Addr)} {i : Nat} {w w1 : W} {p : List Nat} {v u : V} {O1 R O2 : List Addr} (e : env[i]? = some w) (nd : w ≠ .dead) (g : getP w p = some w1) (f : Foc D G H env σ Os i w p w1 v u O1 R)
    (s2 : StOk D G2 H2 env σ Os) (t : Step G H [] G2 H2 O2) : ∃ O1' R', Foc D G2 H2 env σ Os i w p w1 v u O1' R' := by
  obtain ⟨v2, u2, O1', R', f2⟩ := s2.focus e nd g
  have ev : v2 = v := by
    have := f.sv
    rw [f2.sv] at this
    cases this
    rfl
  subst ev
  have eu := f2.same s2 f.sv (f.nv H2 fun a _ o h => t.keep a o h (fun z => nomatch z))
  subst eu
  exact ⟨O1', R', f2⟩
def putAt (i : Nat) (p : List Nat) (y : W) (env : List W) : List W := match env[i]? with
  | some w => env.set i (setP w p y)
  | none => env
/-! ### a method of a list at a place -/
def mMutP (i : Nat) (mp : Sm (List Nat)) (F : MutF) (m : Sm (List W)) : Sm W := Sm.bind mp fun p env1 => match nodeAt i p env1 with
  | some (.lst true xs) => (match m env1 with
    | .ok us _ => (match F xs us with
      | some (w, xs') => .ok w (putAt i p (.lst true xs') env1)
      | none => .bad)
    | .ex c _ => .ex c env1
    | .bad => .bad)
  | _ => .bad
theorem r_mutP {env : List W} (i : Nat) (mp : Sm (List Nat)) (F : MutF) (m : Sm (List W)) : mMutP i mp F m env = match mp env with
  | .ok p env1 => (match nodeAt i p env1 with
    | some (.lst true xs) => (match m env1 with
      | .ok us _ => (match F xs us with
        | some (w, xs') => .ok w (putAt i p (.lst true xs') env1)
        | none => .bad)
      | .ex c _ => .ex c env1
      | .bad => .bad)
    | _ => .bad)
  | .ex c e' => .ex c e'
  | .bad => .bad := by
  unfold mMutP
  rw [r_bind]
  cases mp env <;> rfl
/-! ### place[ix] = e: e frozen, the place an own list; or an own thing in a list of things -/
def sStoP (i : Nat) (mp : Sm (List Nat)) (mi me : Sm W) : Sm Fl := Sm.bind me fun w env => if w.frz = true then (Sm.bind mp fun p env1 => match nodeAt i p env1 with
  | some (.lst true xs) => (match mi env1 with
    | .ok (.int n) _ => (match ixN xs.length n with
      | some k => .ok .nx (putAt i p (.lst true (xs.set k w)) env1)
      | none => .bad)
    | .ex c _ => .ex c env1
    | _ => .bad)
  | _ => .bad) env else .bad
end Ev

namespace Ev
open PySem PySem.Spec L2

/-! ### methods of a list of things -/
theorem ROs.split {D : Dn} {G H : Hp} : ∀ (n : Nat) {ws : List W} {vs : List V} {O : List Addr}, ROs D G H ws vs O → ∃ O1 O2, O = O1 ++ O2 ∧ ROs D G H (ws.take n) (vs.take n) O1 ∧ ROs D G H (ws.drop n) (vs.drop n) O2
  | 0, ws, vs, O, h => ⟨[], O, rfl, ⟨rfl, rfl⟩, h⟩
  | n + 1, [], vs, O, h => by
    obtain ⟨rfl, rfl⟩ := h
    exact ⟨[], [], rfl, ⟨rfl, rfl⟩, ⟨rfl, rfl⟩⟩
  | n + 1, w :: ws, _, _, h => by
    obtain ⟨v, r, O1, O2, rfl, rfl, h1, h2⟩ := h
    obtain ⟨P1, P2, rfl, k1, k2⟩ := ROs.split n h2
    exact ⟨O1 ++ P1, P2, (List.append_assoc ..).symm, ⟨v, _, O1, P1, rfl, rfl, h1, k1⟩, k2⟩
def mMutKP (i : Nat) (mp : Sm (List Nat)) (F : MutF) (m : Sm (List W)) : Sm W := Sm.bind mp fun p env1 => match nodeAt i p env1 with
  | some (.nst xs) => (match m env1 with
    | .ok us _ => (match F xs us with
      | some (w, xs') => .ok w (putAt i p (.nst xs') env1)
      | none => .bad)
    | .ex c _ => .ex c env1
    | .bad => .bad)
  | _ => .bad
theorem r_mutKP {env : List W} (i : Nat) (mp : Sm (List Nat)) (F : MutF) (m : Sm (List W)) : mMutKP i mp F m env = match mp env with
  | .ok p env1 => (match nodeAt i p env1 with
    | some (.nst xs) => (match m env1 with
      | .ok us _ => (match F xs us with
        | some (w, xs') => .ok w (putAt i p (.nst xs') env1)
        | none => .bad)
      | .ex c _ => .ex c env1
      | .bad => .bad)
    | _ => .bad)
  | .ex c e' => .ex c e'
  | .bad => .bad := by
  unfold mMutKP
  rw [r_bind]
  cases mp env <;> rfl
section
variable {env : List W}
theorem r_stoP (i : Nat) (mp : Sm (List Nat)) (mi me : Sm W) : sStoP i mp mi me env = match me env with
  | .ok w env0 => if w.frz = true then (match mp env0 with
    | .ok p env1 => (match nodeAt i p env1 with
      | some (.lst true xs) => (match mi env1 with
        | .ok (.int n) _ => (match ixN xs.length n with
          | some k => .ok .nx (putAt i p (.lst true (xs.set k w)) env1)
          | none => .bad)
        | .ex c _ => .ex c env1
        | _ => .bad)
      | _ => .bad)
    | .ex c e' => .ex c e'
    | .bad => .bad) else .bad
  | .ex c e' => .ex c e'
  | .bad => .bad := by
  unfold sStoP
  rw [r_bind]
  cases me env with
  | ok w env0 =>
    dsimp only
    split
    · rw [r_bind]
      cases mp env0 <;> rfl
    · rfl
  | _ => rfl
end
end Ev

namespace Ev
open PySem PySem.Spec L2

section
variable {X : Cx} {CT : CXT} {lv : Nat} {C g : Addr} {gd : FuncData} {ps : List Str} {sp : Sp} {E : St → XK} {nm : Str} {o e : Expr} {es : List Expr} {ta : TE} {t : TA} {ap p : Pos} {pl : Sem Bool}
end
/-- a call's promise, from what is known behind it -/
theorem call_core {D : Dn} {σ : St} {n : Nat} {g : Fn} {as : List AV} {env1 : List W} {vs : List V} {G1 H1 : Hp} {Os1 : List (List Addr)} {Q : VK} {E : XK} (s1 : StOk D G1 H1 env1 σ Os1) (r1 : AVs D G1 σ as vs) (hl : as.length = n)
    (q : match takeA env1 as with
      | none => False
      | some (ws, env0) => match g ws with
        | .ok w ws' => ∀ v G' H' Os' Ow, StOk D G' H' (putA env0 as ws') σ Os' → RO D G' H' w v Ow → OwnK true Os' Ow G' → Step G1 H1 Os1.flatten G' H' (Os'.flatten ++ Ow) → Q v H'
        | .ex c ws' => ∀ G' H' Os', StOk D G' H' (putA env0 as ws') σ Os' → Step G1 H1 Os1.flatten G' H' Os'.flatten → E (.ref (D.CA c)) none H'
        | .bad => False) : spOf D n g vs H1 Q E := by
  cases e2 : takeA env1 as with
  | none => rw [e2] at q; exact q.elim
  | some qq =>
    obtain ⟨ws, env0⟩ := qq
    simp only [e2] at q
    obtain ⟨Os0, O, a1, a2, a3⟩ := takeA_ok s1.sl r1 e2
    have ndO : (Os0.flatten ++ O).Nodup := a3.nodup_iff.mpr s1.nd
    have inO : ∀ a ∈ O, a ∈ Os1.flatten := fun a ha => a3.mem_iff.mp (List.mem_append_right _ ha)
    have in0 : ∀ a ∈ Os0.flatten, a ∈ Os1.flatten := fun a ha => a3.mem_iff.mp (List.mem_append_left _ ha)
    have no0 : ∀ a ∈ Os0.flatten, a ∉ O := fun a ha hb => (List.nodup_append.mp ndO).2.2 a ha a hb rfl
    refine ⟨by rw [← r1.len]; exact hl, ws, G1, O, s1.sub, a2, (List.nodup_append.mp ndO).2.1, fun a ha => s1.gn a (inO a ha), ?_⟩
    have after : ∀ {ws' : List W} {G' H' : Hp} {O' Ow : List Addr}, Sub G' H' → ROs D G' H' ws' vs O' → (O' ++ Ow).Nodup → (∀ a ∈ O' ++ Ow, G' a = none) → Step G1 H1 O G' H' (O' ++ Ow) →
        ∃ Os', StOk D G' H' (putA env0 as ws') σ Os' ∧ (Os'.flatten ++ Ow).Nodup ∧ Step G1 H1 Os1.flatten G' H' (Os'.flatten ++ Ow) := by
      intro ws' G' H' O' Ow sub ro nd gn st
      have s0 : Sl D G' H' env0 σ Os0 := a1.mono st.mono fun a ha o ho => st.keep a o ho (no0 a ha)
      have nd0 : (Os0.flatten ++ (O' ++ Ow)).Nodup := by
        refine List.nodup_append.mpr ⟨(List.nodup_append.mp ndO).1, nd, fun a ha b hb eab => ?_⟩
        subst eab
        rcases st.new a hb with z | z
        · exact no0 a ha z
        · obtain ⟨o, ho⟩ := s1.there a (in0 a ha)
          rw [ho] at z; cases z
      obtain ⟨Os', b1, b2, b3⟩ := putA_ok s0 (r1.mono st.mono) ro nd0
      have gn0 : ∀ a ∈ Os0.flatten, G' a = none := fun a ha => by
        obtain ⟨o, ho, nt⟩ := s1.thn a (in0 a ha)
        exact st.gnew a o ho (no0 a ha) nt (s1.gn a (in0 a ha))
      refine ⟨Os', ⟨b1, sub, fun a ha => ?_, (List.nodup_append.mp b2).1⟩, b2, ⟨st.mono, fun a o h1 h2 => st.keep a o h1 fun z => h2 (inO a z), fun a o h1 h2 nt => st.gnew a o h1 (fun z => h2 (inO a z)) nt, fun a ha => ?_⟩⟩
      · rcases b3 a ha with z | z
        · exact gn0 a z
        · exact gn a (List.mem_append_left _ z)
      · rcases List.mem_append.mp ha with z | z
        · rcases b3 a z with y | y
          · exact .inl (in0 a y)
          · exact (st.new a (List.mem_append_left _ y)).imp (inO a) id
        · exact (st.new a (List.mem_append_right _ z)).imp (inO a) id
    cases e3 : g ws with
    | bad => simp only [e3] at q
    | ex c ws' =>
      simp only [e3] at q
      intro G' H' O' sub ro nd gn st
      obtain ⟨Os', c1, c2, c3⟩ := after (Ow := []) sub ro (by rw [List.append_nil]; exact nd) (by rw [List.append_nil]; exact gn) (by rw [List.append_nil]; exact st)
      rw [List.append_nil] at c3
      exact q G' H' Os' c1 c3
    | ok w ws' =>
      simp only [e3] at q
      intro v G' H' O' Ow sub ro r nd gn st
      obtain ⟨Os', c1, c2, c3⟩ := after sub ro nd gn st
      exact q v G' H' Os' Ow c1 r ⟨c2, fun a ha => gn a (List.mem_append_right _ ha)⟩ c3
/-- an object of the class c without a field of that name stands in the slot -/
def isRecv (c : Nat) (nm : Str) (i : Nat) (env : List W) : Bool := match env[i]? with
  | some (.obj c' fs _) => decide (c' = c) && (fIx fs nm).isNone
  | _ => false
def mCallM (c : Nat) (nm : Str) (g : Fn) (n i : Nat) (m : Sm (List AV)) : Sm W := fun env => if isRecv c nm i env = true then mCall g n (Sm.bind m fun as => Sm.ret (.io i :: as)) env else .bad
section
variable {Z : Zt} {c n k i : Nat} {nm : Str} {g : Fn} {o e : Expr} {es : List Expr} {p : Bool} {ap cp : Pos} {pl : Sem Bool}
end
theorem r_callM {env : List W} (c : Nat) (nm : Str) (g : Fn) (n i : Nat) (m : Sm (List AV)) : mCallM c nm g n i m env = if isRecv c nm i env = true then mCall g n (Sm.bind m fun as => Sm.ret (.io i :: as)) env else .bad := rfl
end Ev

namespace Ev
open PySem PySem.Spec L2

def fPut (fs : List Str) (ws : List W) (f : Str) (w : W) : List Str × List W := match fIx fs f with
  | some j => (fs, ws.set j w)
  | none => (fs ++ [f], ws ++ [w])
def sFldP (c i : Nat) (f : Str) (k : Bool) (mp : Sm (List Nat)) (me : Sm W) : Sm Fl := Sm.bind me fun w env => if (k || w.frz) = true then (Sm.bind mp fun p env1 => match nodeAt i p env1 with
  | some (.obj c' fs ws) => if c' = c ∧ fs.length < 1000 then .ok .nx (putAt i p (.obj c' (fPut fs ws f w).1 (fPut fs ws f w).2) env1) else .bad
  | _ => .bad) env else .bad
theorem r_fldP {env : List W} (c i : Nat) (f : Str) (k : Bool) (mp : Sm (List Nat)) (me : Sm W) : sFldP c i f k mp me env = match me env with
  | .ok w env0 => if (k || w.frz) = true then (match mp env0 with
    | .ok p env1 => (match nodeAt i p env1 with
      | some (.obj c' fs ws) => if c' = c ∧ fs.length < 1000 then .ok .nx (putAt i p (.obj c' (fPut fs ws f w).1 (fPut fs ws f w).2) env1) else .bad
      | _ => .bad)
    | .ex c e' => .ex c e'
    | .bad => .bad) else .bad
  | .ex c e' => .ex c e'
  | .bad => .bad := by
  unfold sFldP
  rw [r_bind]
  cases me env with
  | ok w env0 =>
    dsimp only
    split
    · rw [r_bind]
      cases mp env0 <;> rfl
    · rfl
  | _ => rfl
end Ev

namespace Ev
open PySem PySem.Spec L2

/-! ### C(..): a new object, its arguments lent -/
mutual
/-- own all the way down, flat at the ground -/
def thk : W → Bool
  | .lst true ws => flats ws
  | .nst ws => thks ws
  | .ndc _ ws => thks ws
  | .obj _ _ ws => thks ws
  | .dct true _ ws => flats ws
  | .non => true
  | .bl _ => true
  | .int _ => true
  | .str _ => true
  | .tup ws => flats ws
  | _ => false
def thks : List W → Bool
  | [] => true
  | w :: ws => thk w && thks ws
end
mutual
theorem RO.thk {D : Dn} {G G' H : Hp} (thin : ∀ a xs, SqT D.K G a xs → SqT D.K G' a xs) : ∀ (w : W) (v : V) (O : List Addr), Ev.thk w = true → RO D G H w v O → RO D G' H w v O
  | .lst true ws, v, O, h, r => by
    obtain ⟨a, us, rfl, rfl, k1, k2⟩ := r
    exact ⟨a, us, rfl, rfl, k1, RFs.thin thin _ _ h k2⟩
  | .nst ws, v, O, h, r => by
    obtain ⟨a, us, O', rfl, rfl, k1, k2⟩ := r
    exact ⟨a, us, O', rfl, rfl, k1, ROs.thk thin _ _ _ h k2⟩
  | .ndc ks ws, v, O, h, r => by
    obtain ⟨a, us, O', rfl, rfl, k1, k2⟩ := r
    exact ⟨a, us, O', rfl, rfl, k1, ROs.thk thin _ _ _ h k2⟩
  | .obj c fs ws, v, O, h, r => by
    obtain ⟨a, dx, us, O', rfl, rfl, hl, k1, k2⟩ := r
    exact ⟨a, dx, us, O', rfl, rfl, hl, k1, ROs.thk thin _ _ _ h k2⟩
  | .dct true ks ws, v, O, h, r => by
    obtain ⟨a, us, rfl, rfl, k1, k2⟩ := r
    exact ⟨a, us, rfl, rfl, k1, RFs.thin thin _ _ h k2⟩
  | .non, _, _, _, r => ⟨r.1, r.2⟩
  | .bl _, _, _, _, r => ⟨r.1, r.2⟩
  | .int _, _, _, _, r => ⟨r.1, r.2⟩
  | .str _, _, _, _, r => ⟨r.1, r.2⟩
  | .tup ws, v, O, h, r => ⟨r.1, RF.thin thin (.tup ws) v h r.2⟩
  | .dead, _, _, h, _ => nomatch h
  | .lst false _, _, _, h, _ => nomatch h
  | .scr _, _, _, h, _ => nomatch h
  | .ntp _, _, _, h, _ => nomatch h
  | .dct false _ _, _, _, h, _ => nomatch h
  | .exc _, _, _, h, _ => nomatch h
  | .edc, _, _, h, _ => nomatch h
theorem ROs.thk {D : Dn} {G G' H : Hp} (thin : ∀ a xs, SqT D.K G a xs → SqT D.K G' a xs) : ∀ (ws : List W) (vs : List V) (O : List Addr), thks ws = true → ROs D G H ws vs O → ROs D G' H ws vs O
  | [], _, _, _, r => r
  | w :: ws, _, _, h, r => by
    obtain ⟨v, u, O1, O2, rfl, rfl, h1, h2⟩ := r
    have h' : Ev.thk w = true ∧ thks ws = true := Bool.and_eq_true_iff.mp h
    exact ⟨v, u, O1, O2, rfl, rfl, RO.thk thin w v O1 h'.1 h1, ROs.thk thin ws u O2 h'.2 h2⟩
end
def mMakeL (c : Nat) (g : Fn) (n : Nat) (m : Sm (List AV)) : Sm W := Sm.bind m fun as env => if as.length + 1 = n then match lendA env as with
  | none => .bad
  | some ws => match g (.obj c [] [] :: ws) with
    | .ok .non (w :: _) => if thk w = true then .ok w env else .bad
    | .ex c' _ => .ex c' env
    | _ => .bad
  else .bad
theorem r_makeL {env : List W} (c : Nat) (g : Fn) (n : Nat) (m : Sm (List AV)) : mMakeL c g n m env = match m env with
  | .ok as env1 => if as.length + 1 = n then (match lendA env1 as with
    | none => .bad
    | some ws => (match g (.obj c [] [] :: ws) with
      | .ok .non (w :: _) => if thk w = true then .ok w env1 else .bad
      | .ex c' _ => .ex c' env1
      | _ => .bad)) else .bad
  | .ex c' e' => .ex c' e'
  | .bad => .bad := by
  unfold mMakeL
  rw [r_bind]
  cases m env <;> rfl
/-! ### what stands in a list at a place is frozen -/
def gFzK (i : Nat) (p : List Nat) : Sm Unit := fun env => match nodeAt i p env with
  | some (.nst ws) => if fzOks ws = true then .ok () (putAt i p (.lst true (fzDs ws)) env) else .bad
  | _ => .bad
theorem r_gfzK {env : List W} (i : Nat) (p : List Nat) : gFzK i p env = match nodeAt i p env with
  | some (.nst ws) => if fzOks ws = true then .ok () (putAt i p (.lst true (fzDs ws)) env) else .bad
  | _ => .bad := rfl
end Ev

namespace Ev
open PySem PySem.Spec L2

/-! ### place[key] = e: e frozen, the place a dict -/
def sDPutP (i : Nat) (mp : Sm (List Nat)) (mk : Sm KK) (me : Sm W) : Sm Fl := Sm.bind me fun w env => if w.frz = true then (Sm.bind mp fun p env1 => match nodeAt i p env1 with
  | some (.dct true ks ws) => (match mk env1 with
    | .ok kk _ => if ws.length < sizeLine then (match dStore ks ws kk w with
      | some st => .ok .nx (putAt i p (.dct true st.1 st.2) env1)
      | none => .bad) else .bad
    | _ => .bad)
  | _ => .bad) env else .bad
theorem r_dputP {env : List W} (i : Nat) (mp : Sm (List Nat)) (mk : Sm KK) (me : Sm W) : sDPutP i mp mk me env = match me env with
  | .ok w env0 => if w.frz = true then (match mp env0 with
    | .ok p env1 => (match nodeAt i p env1 with
      | some (.dct true ks ws) => (match mk env1 with
        | .ok kk _ => if ws.length < sizeLine then (match dStore ks ws kk w with
          | some st => .ok .nx (putAt i p (.dct true st.1 st.2) env1)
          | none => .bad) else .bad
        | _ => .bad)
      | _ => .bad)
    | .ex c e' => .ex c e'
    | .bad => .bad) else .bad
  | .ex c e' => .ex c e'
  | .bad => .bad := by
  unfold sDPutP
  rw [r_bind]
  cases me env with
  | ok w env0 =>
    dsimp only
    split
    · rw [r_bind]
      cases mp env0 <;> rfl
    · rfl
  | _ => rfl
/-! ### place[ix] = e, the place a list of things -/
def sStoN (i : Nat) (k : Bool) (mp : Sm (List Nat)) (mi me : Sm W) : Sm Fl := Sm.bind me fun w env => if (k || w.frz) = true then (Sm.bind mp fun p env1 => match nodeAt i p env1 with
  | some (.nst xs) => (match mi env1 with
    | .ok (.int n) _ => (match ixN xs.length n with
      | some j => .ok .nx (putAt i p (.nst (xs.set j w)) env1)
      | none => .bad)
    | _ => .bad)
  | _ => .bad) env else .bad
theorem r_stoN {env : List W} (i : Nat) (k : Bool) (mp : Sm (List Nat)) (mi me : Sm W) : sStoN i k mp mi me env = match me env with
  | .ok w env0 => if (k || w.frz) = true then (match mp env0 with
    | .ok p env1 => (match nodeAt i p env1 with
      | some (.nst xs) => (match mi env1 with
        | .ok (.int n) _ => (match ixN xs.length n with
          | some j => .ok .nx (putAt i p (.nst (xs.set j w)) env1)
          | none => .bad)
        | _ => .bad)
      | _ => .bad)
    | .ex c e' => .ex c e'
    | .bad => .bad) else .bad
  | .ex c e' => .ex c e'
  | .bad => .bad := by
  unfold sStoN
  rw [r_bind]
  cases me env with
  | ok w env0 =>
    dsimp only
    split
    · rw [r_bind]
      cases mp env0 <;> rfl
    · rfl
  | _ => rfl
end Ev

namespace Ev
open PySem PySem.Spec L2 PyProof.Rows

section
variable {X : Cx}
end
/-! a key out of a dict -/
section
variable {κ : Type} [DecidableEq κ]
def dCutW {α : Type} : List κ → List α → κ → List α
  | a :: l, w :: ws, k => if a = k then dCutW l ws k else w :: dCutW l ws k
  | _, _, _ => []
def dCutK (l : List κ) (k : κ) : List κ := l.filter fun a => decide (a ≠ k)
end
def mDPopP (i : Nat) (mp : Sm (List Nat)) (mk : Sm KK) : Sm W := Sm.bind mp fun p env1 => match nodeAt i p env1 with
  | some (.dct true (.t l) ws) => (match mk env1 with
    | .ok (.inr k) _ => (match dAt l ws k with
      | some w => .ok w (putAt i p (.dct true (.t (dCutK l k)) (dCutW l ws k)) env1)
      | none => .bad)
    | _ => .bad)
  | _ => .bad
theorem r_dpopP {env : List W} (i : Nat) (mp : Sm (List Nat)) (mk : Sm KK) : mDPopP i mp mk env = match mp env with
  | .ok p env1 => (match nodeAt i p env1 with
    | some (.dct true (.t l) ws) => (match mk env1 with
      | .ok (.inr k) _ => (match dAt l ws k with
        | some w => .ok w (putAt i p (.dct true (.t (dCutK l k)) (dCutW l ws k)) env1)
        | none => .bad)
      | _ => .bad)
    | _ => .bad)
  | .ex c e' => .ex c e'
  | .bad => .bad := by
  unfold mDPopP
  rw [r_bind]
  cases mp env <;> rfl
/-! ### place[ix] += n: an own list of ints at a place -/
def sAugP (i : Nat) (f : Int → Int → Int) (mp : Sm (List Nat)) (mi me : Sm W) : Sm Fl := Sm.bind mp fun p env => match nodeAt i p env with
  | some (.lst true xs) => match mi env with
    | .ok (.int n) _ => match ixN xs.length n with
      | some k => match xs[k]? with
        | some (.int a) => match me env with
          | .ok (.int b) _ => .ok .nx (putAt i p (.lst true (xs.set k (.int (f a b)))) env)
          | _ => .bad
        | _ => .bad
      | none => .bad
    | _ => .bad
  | _ => .bad
theorem r_augP {env : List W} (i : Nat) (f : Int → Int → Int) (mp : Sm (List Nat)) (mi me : Sm W) : sAugP i f mp mi me env = match mp env with
  | .ok p env => (match nodeAt i p env with
    | some (.lst true xs) => (match mi env with
      | .ok (.int n) _ => (match ixN xs.length n with
        | some k => (match xs[k]? with
          | some (.int a) => (match me env with
            | .ok (.int b) _ => .ok .nx (putAt i p (.lst true (xs.set k (.int (f a b)))) env)
            | _ => .bad)
          | _ => .bad)
        | none => .bad)
      | _ => .bad)
    | _ => .bad)
  | .ex c e' => .ex c e'
  | .bad => .bad := by
  unfold sAugP
  rw [r_bind]
  cases mp env <;> rfl
/-! ### what stands at a place is frozen, all of it -/
def gFzP (i : Nat) (p : List Nat) : Sm Unit := fun env => match nodeAt i p env with
  | some w => if w.fzOk = true then .ok () (putAt i p w.fzD env) else .bad
  | _ => .bad
theorem r_gfzP {env : List W} (i : Nat) (p : List Nat) : gFzP i p env = match nodeAt i p env with
  | some w => if w.fzOk = true then .ok () (putAt i p w.fzD env) else .bad
  | _ => .bad := rfl
/-! ### for x in place: what holds the place stays aside -/
def sForP (i : Nat) (f : Tg) (body : Sm Fl) (kill : List Nat) (mp : Sm (List Nat)) : Sm Fl := Sm.bind mp fun p env => match nodeAt i p env with
  | some (.lst true ws) => (match mFor f body kill ws (env.set i .dead) with
    | .ok .nx env2 => .ok .nx (env2.set i (env[i]?.getD .dead))
    | _ => .bad)
  | _ => .bad
theorem r_forP {env : List W} (i : Nat) (f : Tg) (body : Sm Fl) (kill : List Nat) (mp : Sm (List Nat)) : sForP i f body kill mp env = match mp env with
  | .ok p env => (match nodeAt i p env with
    | some (.lst true ws) => (match mFor f body kill ws (env.set i .dead) with
      | .ok .nx env2 => .ok .nx (env2.set i (env[i]?.getD .dead))
      | _ => .bad)
    | _ => .bad)
  | .ex c e' => .ex c e'
  | .bad => .bad := by
  unfold sForP
  rw [r_bind]
  cases mp env <;> rfl
end Ev

namespace Ev
open PySem PySem.Spec L2

end Ev

namespace Ev
open PySem PySem.Spec L2

/-! ### a op b op c, b may act -/
def mChainI (f g : W → W → Option W) (m1 m2 m3 : Sm W) : Sm W := Sm.bind m1 fun w1 => Sm.bind m2 fun w2 => if (w1.frz && w2.frz) = true then (Sm.bind (lft ((f w1 w2).bind blW)) fun b => if b = true then Sm.bind m3 fun w3 => lft (g w2 w3) else Sm.ret (.bl false)) else fun _ => .bad
theorem r_chainI {env : List W} (f g : W → W → Option W) (m1 m2 m3 : Sm W) : mChainI f g m1 m2 m3 env = match m1 env with
  | .ok w1 e1 => (match m2 e1 with
    | .ok w2 e2 => if (w1.frz && w2.frz) = true then (match (f w1 w2).bind blW with
      | some b => if b = true then (match m3 e2 with
        | .ok w3 e3 => (match g w2 w3 with
          | some r => .ok r e3
          | none => .bad)
        | .ex c e' => .ex c e'
        | .bad => .bad) else .ok (.bl false) e2
      | none => .bad) else .bad
    | .ex c e' => .ex c e'
    | .bad => .bad)
  | .ex c e' => .ex c e'
  | .bad => .bad := by
  unfold mChainI
  rw [r_bind]
  cases m1 env with
  | ok w1 e1 =>
    dsimp only
    rw [r_bind]
    cases m2 e1 with
    | ok w2 e2 =>
      dsimp only
      split
      · rw [r_bind, r_lft]
        cases (f w1 w2).bind blW with
        | none => rfl
        | some b =>
          dsimp only
          split
          · rw [r_bind]
            cases m3 e2 with
            | ok w3 e3 => dsimp only; rw [r_lft]; cases g w2 w3 <;> rfl
            | _ => rfl
          · rfl
      · rfl
    | _ => rfl
  | _ => rfl
/-! ### the defs of a class, by their bodies -/
section
variable {P : Program} {w : World} {K : PySem.W.Frag} {mg : Str → Option Value} {base : Heap} {CA : Nat → Addr} {x y qual : Str} {st : Stmt} {f : Addr} {fd : FuncData} {N ps : List Str} {c k n : Nat} {io : List Bool} {body : Sm Fl} {nN : Nat}
end
/-! ### what the top has made of a class -/
def DM (K : PySem.W.Frag) (C : Addr) (x qual : Str) (ps : List Str) (st : Stmt) : Prop := ∃ (f : Addr) (fd : FuncData), Meth K C x f ∧ Fun K x qual st f fd ∧ ∀ (s : Shared) (us : List Value), us.length = ps.length → BindsTo s fd ⟨us, []⟩ (ps.zip us)
theorem DM.mk {K : PySem.W.Frag} {C : Addr} {x qual : Str} {ps : List Str} {st : Stmt} {f : Addr} {oc : Value} {od an : Option Addr} {osl : Array (Option Value)} {kV doc pm cdv ct : Value}
    (h : ∀ (kV doc pm : Value) (an : Option Addr) (cdv ct : Value) (us : List Value), us.length = ps.length → bindArgs (PySem.W.fnOf x qual (defArgs st) (defBody st) (defScope st) .none kV doc pm an cdv ct) ⟨us, []⟩ = pure (ps.zip us))
    (a : PySem.W.findIn K (.ref C) x = some (some (.ref f))) (i : PySem.W.isFn K (.ref f) = true) (l : K.lookup f = some ⟨oc, od, .func (PySem.W.fnOf x qual (defArgs st) (defBody st) (defScope st) .none kV doc pm an cdv ct), osl⟩) (c : PySem.W.codeIn K cdv qual = true) (k : PySem.W.keepIn K (.ref f) = true) : DM K C x qual ps st :=
  ⟨f, _, ⟨a, i, k⟩, fun_mk l c k, fun s us hl => .of_eq (h kV doc pm an cdv ct us hl)⟩
/-- the class itself -/
structure OC (K : PySem.W.Frag) (C : Addr) (x : Str) : Prop where
  ns : PySem.W.nsIn K mainGlobals x = some (some (.ref C))
  cl : Cls K C
  ms : PySem.W.makesIn K C = true
  kp : PySem.W.keepIn K (.ref C) = true
theorem CF.ext {K : PySem.W.Frag} {names : List Str} {A A' : Nat → Addr} (e : ∀ c, c < names.length → A' c = A c) (h : CF K names A) : CF K names A' :=
  ⟨fun c x hc => by
    have hl := (List.getElem?_eq_some_iff.mp hc).1
    rw [e c hl]
    exact h.one c x hc, fun c d hc hd => by
    rw [e c hc, e d hd]
    exact h.sub c d hc hd⟩
end Ev

namespace Ev
open PySem PySem.Spec L2

/-! ### a slot more, for a while -/
theorem Sl.snoc {D : Dn} {G H : Hp} {w : W} {x : Option V} {O : List Addr} (r : SR D G H w x O) : ∀ {env : List W} {σ : L2.St} {Os : List (List Addr)}, Sl D G H env σ Os → Sl D G H (env ++ [w]) (σ ++ [x]) (Os ++ [O])
  | [], _, _, h => by
    obtain ⟨rfl, rfl⟩ := h
    exact ⟨x, [], O, [], rfl, rfl, r, rfl, rfl⟩
  | _ :: env, _, _, h => by
    obtain ⟨y, σ, P, Os, rfl, rfl, h1, h2⟩ := h
    exact ⟨y, _, P, _, rfl, rfl, h1, Sl.snoc r h2⟩
theorem Sl.init {D : Dn} {G H : Hp} {x : Option V} : ∀ {σ : L2.St} {env : List W} {Os : List (List Addr)}, Sl D G H env (σ ++ [x]) Os → Sl D G H env.dropLast σ Os.dropLast
  | [], [], _, h => nomatch h.1
  | [], w :: env, _, h => by
    obtain ⟨y, σ, P, Os, e, rfl, h1, h2⟩ := h
    cases e
    cases env with
    | nil =>
      obtain ⟨_, rfl⟩ := h2
      exact ⟨rfl, rfl⟩
    | cons w2 env =>
      obtain ⟨_, _, _, _, e, _⟩ := h2
      cases e
  | y :: σ, [], _, h => nomatch h.1
  | y :: σ, w :: env, _, h => by
    obtain ⟨y', σ', P, Os, e, rfl, h1, h2⟩ := h
    cases e
    have ih := Sl.init h2
    cases env with
    | nil =>
      have : (σ ++ [x]) = [] := h2.1
      simp at this
    | cons w2 env =>
      cases Os with
      | nil =>
        obtain ⟨_, _, _, _, _, e, _⟩ := h2
        cases e
      | cons P2 Os => exact ⟨y, σ, P, _, rfl, rfl, h1, ih⟩
theorem flat_init {Os : List (List Addr)} : ∀ a ∈ Os.dropLast.flatten, a ∈ Os.flatten := fun a ha => by
  obtain ⟨l, hl, hal⟩ := List.mem_flatten.mp ha
  exact List.mem_flatten.mpr ⟨l, List.dropLast_subset _ hl, hal⟩
theorem flat_initS : ∀ {Os : List (List Addr)}, Os.dropLast.flatten.Sublist Os.flatten
  | [] => List.Sublist.refl _
  | [O] => by simp
  | O :: P :: Os => by
    rw [List.dropLast_cons₂, List.flatten_cons, List.flatten_cons]
    exact List.Sublist.append (List.Sublist.refl _) flat_initS
theorem StOk.snoc {D : Dn} {G H : Hp} {env : List W} {σ : L2.St} {Os : List (List Addr)} {w : W} {v : V} {O : List Addr} (s : StOk D G H env σ Os) (r : RO D G H w v O) (o : OwnK true Os O G) : StOk D G H (env ++ [w]) (σ ++ [some v]) (Os ++ [O]) :=
  ⟨s.sl.snoc (.inl ⟨v, rfl, r⟩), s.sub, fun a ha => by
    rw [List.flatten_append, List.flatten_singleton] at ha
    rcases List.mem_append.mp ha with z | z
    · exact s.gn a z
    · exact o.2 a z, by rw [List.flatten_append, List.flatten_singleton]; exact o.1⟩
theorem StOk.init {D : Dn} {G H : Hp} {env : List W} {σ : L2.St} {Os : List (List Addr)} {x : Option V} (s : StOk D G H env (σ ++ [x]) Os) : StOk D G H env.dropLast σ Os.dropLast :=
  ⟨s.sl.init, s.sub, fun a ha => s.gn a (flat_init a ha), s.nd.sublist flat_initS⟩
/-! ### f(slot, new, values): what is new is lent to the call -/
def mCallT (g : Fn) (n i : Nat) (mt : Sm W) (mv : Sm (List W)) : Sm W := fun env => match env[i]? with
  | some w0 => if lvW w0 = true then (match mt env with
    | .ok w2 env1 => (match mv env1 with
      | .ok ws _ => (match mCall g n (Sm.ret (.io i :: .io env1.length :: ws.map .v)) (env1 ++ [w2]) with
        | .ok w e2 => .ok w e2.dropLast
        | .ex c e2 => .ex c e2.dropLast
        | .bad => .bad)
      | _ => .bad)
    | _ => .bad) else .bad
  | none => .bad
theorem r_callT {env : List W} (g : Fn) (n i : Nat) (mt : Sm W) (mv : Sm (List W)) : mCallT g n i mt mv env = match env[i]? with
  | some w0 => if lvW w0 = true then (match mt env with
    | .ok w2 env1 => (match mv env1 with
      | .ok ws _ => (match mCall g n (Sm.ret (.io i :: .io env1.length :: ws.map .v)) (env1 ++ [w2]) with
        | .ok w e2 => .ok w e2.dropLast
        | .ex c e2 => .ex c e2.dropLast
        | .bad => .bad)
      | _ => .bad)
    | _ => .bad) else .bad
  | none => .bad := rfl
theorem avs_of {D : Dn} {G : Hp} {σ : L2.St} : ∀ {ws : List W} {vs : List V}, RFs D G ws vs → AVs D G σ (ws.map .v) vs
  | [], _, h => h
  | _ :: _, _, h => by
    obtain ⟨x, r, rfl, h1, h2⟩ := h
    exact ⟨x, r, rfl, .inl h1, avs_of h2⟩
end Ev

namespace Ev
open PySem PySem.Spec L2

end Ev

namespace Ev
open PySem PySem.Spec L2

/-! ### a display {"a": x, ..} -/
def seqF : List (Sm W) → List W → Option (List W)
  | [], _ => some []
  | m :: ms, env => match m env with
    | .ok w _ => if w.frz = true then (seqF ms env).map (w :: ·) else none
    | _ => none
def PreD (D : Dn) (ks : List Str) (ms : List (Sm W)) (σ : L2.St) (H : Hp) (Q : List (V × V) → Hp → Prop) : Prop := ∃ (env : List W) (G : Hp) (Os : List (List Addr)), StOk D G H env σ Os ∧ match seqF ms env with
  | some ws => ∀ vs G' H', StOk D G' H' env σ Os → RFs D G' ws vs → Step G H [] G' H' [] → Q ((ks.zip vs).map fun p => (V.str p.1, p.2)) H'
  | none => False
structure MDs (Z : Zt) (pos : Pos) (keys : List (Option Expr)) (values : List Expr) (ks : List Str) (ms : List (Sm W)) : Prop where
  ex : ∃ trs, PPs Z.X pos keys values trs ∧ ∀ σ H Q, PreD Z.D ks ms σ H Q → tPairs trs σ H Q
  all : keys.all (·.isSome) = true
  l1 : keys.length = values.length
  l2 : ks.length = keys.length
  l3 : ms.length = keys.length
end Ev

namespace Ev
/-! ### set(xs), xs a list of texts no two of which are alike -/
section
open PySem PySem.Spec PyProof.Rows L2
variable {P : Program} {w : World} {A : Around} {E : Value → Shared → Prop} {s : Shared}
end
/-! ### len(set(xs)) -/
open PySem PySem.Spec L2
end Ev

namespace Ev
open PySem PySem.Spec L2
section
variable {Z : Zt} {e : Expr} {m : Sm W} {p k1 : Bool} {p1 p2 p3 p4 : Pos}
end
end Ev

namespace Ev
open PySem PySem.Spec L2
section
variable {Z : Zt} {o e e2 : Expr} {i : Nat} {mp : Sm (List Nat)} {m : Sm (List W)} {apos cpos : Pos}
end
end Ev

namespace Ev
open PySem PySem.Spec L2
section
variable {Z : Zt} {c n k i : Nat} {nm : Str} {g : Fn} {o e : Expr} {es : List Expr} {ap cp : Pos} {pl : Sem Bool} {mp : Sm (List Nat)}
end
end Ev

namespace Ev
open PySem PySem.Spec L2
end Ev

namespace Ev
open PySem PySem.Spec L2
/-! ### one more name for the thing at a place -/
/-- slot j holds what stands at the place p of slot i -/
def Ali (D : Dn) (H : Hp) (env : List W) (σ : St) (i j : Nat) (p : List Nat) : Prop := ∃ w y v u, env[i]? = some w ∧ w ≠ .dead ∧ getP w p = some y ∧ σ[i]? = some (some v) ∧ NodeV D H w v p u ∧ σ[j]? = some (some u)
theorem Ali.on {D : Dn} {G H G2 H2 : Hp} {env : List W} {σ : St} {Os : List (List Addr)} {i j : Nat} {p : List Nat} (a : Ali D H env σ i j p) (s : StOk D G H env σ Os) (t : Step G H [] G2 H2 []) : Ali D H2 env σ i j p := by
  obtain ⟨w, y, v, u, h1, h2, h3, h4, h5, h6⟩ := a
  obtain ⟨v0, u0, O1, R, fo⟩ := s.focus h1 h2 h3
  have ev : v0 = v := by have := fo.sv; rw [h4] at this; cases this; rfl
  subst ev
  have eu := fo.same s h4 h5
  subst eu
  exact ⟨w, y, v0, u, h1, h2, h3, h4, fo.nv H2 fun b _ o h => t.keep b o h (fun z => nomatch z), h6⟩
section
variable {Z : Zt} {i j : Nat}
end
end Ev

namespace Ev
open PySem PySem.Spec L2
section
variable {Z : Zt} {e ix : Expr} {i n : Nat} {mp : Sm (List Nat)} {mk : Sm KK} {pos : Pos}
end
end Ev

namespace Ev
open PySem PySem.Spec L2
end Ev

namespace Ev
open PySem PySem.Spec L2
/-! ### a table of the module, texts to texts -/
def tabO (w : World) (l : List (Str × Tok × Str × Tok)) (n : Nat) : Obj := { cls := .type "dict", data := .dict (l.map fun q => (⟨PyData.keyHash w.params q.1, .str q.1 q.2.1, .str q.2.2.1 q.2.2.2⟩ : DictEntry)).toArray n }
def ConT (K : PySem.W.Frag) (w : World) (c : Addr) (kv : List (Str × Str)) : Prop := ∃ l n, K.lookup c = some (tabO w l n) ∧ l.map (fun q => (q.1, q.2.2.1)) = kv ∧ (c == sysModules) = false
theorem ConT.mk {K : PySem.W.Frag} {w : World} {c : Addr} {kv : List (Str × Str)} {l : List (Str × Tok × Str × Tok)} {n : Nat} {o : Obj} (h : K.lookup c = some o) (e : o = tabO w l n) (m : l.map (fun q => (q.1, q.2.2.1)) = kv) (s : (c == sysModules) = false) : ConT K w c kv := ⟨l, n, by rw [h, e], m, s⟩
section
variable {X : Cx} {e o : Expr} {te : TE} {c : Addr} {kv : List (Str × Str)} {pos : Pos}
end
section
variable {Z : Zt} {e : Expr} {m : Sm W} {p k : Bool} {x : Str} {c : Addr} {kv : List (Str × Str)} {pos p1 : Pos}
end
end Ev

namespace Ev
open PySem PySem.Spec PyProof.Rows L2
end Ev

namespace Ev
open PySem PySem.Spec PyProof.Rows L2
end Ev

namespace Ev
open PySem PySem.Spec L2
theorem kids_with (w : W) (ws : List W) (j : Nat) (x : W) (h : w.kids[j]? = some x) : (w.withKids ws).kids = ws := by
  cases w <;> first
    | rfl
    | (unfold W.kids at h; simp at h)
theorem kidV_with {D : Dn} {H : Hp} {w : W} {v : V} {vs : List V} (ws : List W) (h : KidV D H w v vs) : KidV D H (w.withKids ws) v vs := by
  cases w <;> exact h
theorem NodeV.setP {D : Dn} {H : Hp} {y' : W} : ∀ {p : List Nat} {w : W} {v u : V}, NodeV D H w v p u → NodeV D H (setP w p y') v p u
  | [], _, _, _, h => h
  | j :: p, w, v, u, h => by
    obtain ⟨vs, u0, x, h1, h2, h3, h4⟩ := h
    unfold Ev.setP
    rw [h3]
    dsimp only
    refine ⟨vs, u0, Ev.setP x p y', kidV_with _ h1, h2, ?_, NodeV.setP h4⟩
    rw [kids_with w _ j x h3, List.getElem?_set_self (List.getElem?_eq_some_iff.mp h3).1]
end Ev

namespace Ev
open PySem PySem.Spec L2
section
variable {Z : Zt} {c k1 k2 i : Nat} {nm nm2 : Str} {g g2 : Fn} {o o2 : Expr} {ap cp ap2 cp2 sp ip : Pos} {kk : Nat} {kx : Int} {pl pl2 : Sem Bool} {mp : Sm (List Nat)}
end
end Ev

namespace Ev
open PySem PySem.Spec L2
end Ev

namespace Ev
open PySem PySem.Spec L2
/-! ### a table of the module, as it is written out -/
def ents (o : Obj) : List DictEntry := match o.data with
  | .dict es _ => es.toList
  | _ => []
def isDct (o : Obj) : Bool := match o.data with
  | .dict _ _ => true
  | _ => false
def keyStr : Value → Str
  | .str s _ => s
  | _ => ""
def entKV (en : DictEntry) : Option (Str × Str) := match en.key, en.val with
  | .str k _, .str v _ => some (k, v)
  | _, _ => none
theorem ents_of {w : World} : ∀ (es : List DictEntry) (kv : List (Str × Str)), es.map entKV = kv.map some → es.map (·.hash) = es.map (fun en => PyData.keyHash w.params (keyStr en.key)) →
    ∃ l : List (Str × Tok × Str × Tok), es = l.map (fun q => (⟨PyData.keyHash w.params q.1, .str q.1 q.2.1, .str q.2.2.1 q.2.2.2⟩ : DictEntry)) ∧ l.map (fun q => (q.1, q.2.2.1)) = kv
  | [], kv, h1, _ => by
    cases kv with
    | nil => exact ⟨[], rfl, rfl⟩
    | cons a b => cases h1
  | en :: es, kv, h1, h2 => by
    cases kv with
    | nil => cases h1
    | cons q kv =>
      rw [List.map_cons, List.map_cons] at h1 h2
      obtain ⟨a1, a2⟩ := List.cons.inj h1
      obtain ⟨b1, b2⟩ := List.cons.inj h2
      obtain ⟨l, c1, c2⟩ := ents_of es kv a2 b2
      obtain ⟨hs, ky, vl⟩ := en
      unfold entKV at a1
      cases ky <;> first
        | (cases vl <;> first
            | (rename_i k t v t2
               cases a1
               refine ⟨(k, t, v, t2) :: l, ?_, ?_⟩
               · rw [List.map_cons, ← c1]
                 congr 1
                 dsimp only [keyStr] at b1
                 rw [b1]
               · rw [List.map_cons, c2])
            | cases a1)
        | cases a1
theorem ConT.of {K : PySem.W.Frag} {w : World} {c : Addr} {kv : List (Str × Str)} {o : Obj} (h : K.lookup c = some o) (e1 : o.cls = .type "dict") (e2 : o.dict = none) (e3 : o.slots = #[]) (e4 : (ents o).map entKV = kv.map some)
    (e5 : (ents o).map (·.hash) = (ents o).map (fun en => PyData.keyHash w.params (keyStr en.key))) (e6 : isDct o = true) (s : (c == sysModules) = false) : ConT K w c kv := by
  obtain ⟨l, h1, h2⟩ := ents_of (w := w) _ _ e4 e5
  cases o with
  | mk cls dict data slots =>
    dsimp only at e1 e2 e3
    subst e1 e2 e3
    cases data <;> first
      | cases e6
      | skip
    rename_i es n
    refine ⟨l, n, ?_, h2, s⟩
    rw [h]
    unfold tabO
    have h3 : es.toList = _ := h1
    rw [← h3]
end Ev

namespace Ev
open PySem PySem.Spec L2
variable {Z : Zt}
end Ev

namespace Ev
open PySem PySem.Spec L2
/-! ### range with any step upwards -/
def rngU (i j c : Int) : Nat := if i < j then ((j - i - 1) / c + 1).toNat else 0
def stepOk (c : Int) : Prop := 1 ≤ c ∧ c < 1073741824
noncomputable instance {c : Int} : Decidable (stepOk c) := Classical.propDecidable _
def endOk (j : Int) : Prop := -(2 ^ 60) ≤ j ∧ j < 2 ^ 60
noncomputable instance {c : Int} : Decidable (endOk c) := Classical.propDecidable _
theorem size_up {i j c : Int} (hi : endOk i) (hj : endOk j) (hc : stepOk c) : Builtin.Range.rangeSize i j c = (rngU i j c : Nat) ∧ (rngU i j c : Int) < 2 ^ 61 + 1 := by
  unfold Builtin.Range.rangeSize rngU
  obtain ⟨c1, c2⟩ := hc
  obtain ⟨i1, i2⟩ := hi
  obtain ⟨j1, j2⟩ := hj
  rw [if_pos (show c > 0 by omega)]
  by_cases h : i < j
  · rw [if_pos h, if_pos h]
    have a : 0 ≤ (j - i - 1) / c := Int.ediv_nonneg (by omega) (by omega)
    have b : (j - i - 1) / c ≤ j - i - 1 := Int.ediv_le_self c (by omega)
    omega
  · rw [if_neg h, if_neg h]
    omega
theorem small_up {i j c : Int} (hi : endOk i) (hj : endOk j) (hc : stepOk c) : Builtin.Range.small i j c = true := by
  obtain ⟨e, l⟩ := size_up hi hj hc
  unfold Builtin.Range.small
  rw [e]
  obtain ⟨c1, c2⟩ := hc
  obtain ⟨i1, i2⟩ := hi
  obtain ⟨j1, j2⟩ := hj
  simp only [Builtin.Range.rangeFitsLong, Bool.and_eq_true, Bool.or_eq_true, decide_eq_true_eq, beq_iff_eq]
  rw [if_pos (show c > 0 by omega)]
  simp only [Bool.and_eq_true, decide_eq_true_eq]
  omega
theorem RgC.up {i j c : Int} (hi : endOk i) (hj : endOk j) (hc : stepOk c) : RgC i j c (rngU i j c) :=
  ⟨by have := hc.1; omega, by have := hc.1; have := hc.2; omega, small_up hi hj hc, (size_up hi hj hc).1⟩
end Ev

namespace Ev
open PySem PySem.Spec PyProof.Rows L2
end Ev

namespace Ev
open PySem PySem.Spec L2
end Ev

namespace Ev
/-! ### an exception out of a comprehension -/
section
open PySem PySem.Spec PyProof.Rows L2
theorem looks_flZ {M : Model} {A : Around} {E : Value → Shared → Prop} {s : Shared} {base : Heap} {env : Env} {outer : List Env} {e L : Addr} {Z : Obj → Prop} {fl : Value} {Q : Unit → Shared → Prop} (hZ : HandSPX.Steady Z) (hfr : A.frames = some (env :: outer)) (hf : env.frame = some L)
    (hkb : base.StaysIn s.heap) (hen : base.get? e = none) (hl : s.heap.FunFrames base (env :: outer)) (ht : HandSPX.TracedZ s.heap base e Z fl) (hne : (fl == rawInt L) = false)
    (hQ : ∀ h', HandSPX.HeldZ base (env :: outer) e Z L h' → s.heap.UpToSlots h' → Q () { s with heap := h' }) : wpAny M A (noteFrame (.ref e) env) Q E s := by
  obtain ⟨oe, vs, T, oT, ts, he, hz, hd, h1, hnT, hTe, hT, hdT, h3⟩ := ht
  unfold noteFrame
  simp only [hf]
  refine wpAny_bind (wpAny_field he hd h1 ?_)
  rw [if_pos (show (Value.ref T != Value.none) = true from by simp)]
  refine wpAny_bind (wpAny_field hT hdT h3 ?_)
  rw [if_neg (show ¬ ((fl == rawInt L) = true) from by rw [hne]; simp)]
  refine wpAny_bind (wpAny_setField hT hdT (Array.getElem?_eq_some_iff.mp h3).1 ?_)
  have other : ∀ b, b ≠ T → (s.heap.update T (Obj.mapFields (·.setIfInBounds 3 Value.none))).get? b = s.heap.get? b := fun b hb => Heap.get?_update_other _ _ (Ne.symm hb)
  have noRecord : ∀ b o, s.heap.get? b = some o → (∀ vs, o.data ≠ .fields vs) → b ≠ T := fun b o hb hnf q => by
    rw [q, hT] at hb; injection hb with hb; subst hb; exact hnf ts hdT
  refine HandSPX.wpAny_entryZ hZ hfr (hl.of_keeps fun b o hb hnf => ⟨o, (other b (noRecord b o hb hnf)).trans hb, rfl⟩) hf ((other e (Ne.symm hTe)).trans he)
    (fun b o hbo => (other b fun q => by rw [q, hnT] at hbo; cases hbo).trans (hkb b o hbo)) hen hd (Array.getElem?_eq_some_iff.mp h1).1 hz fun h' hN => ?_
  obtain ⟨x1, x2, x3, x4⟩ := hN
  exact hQ h' ⟨x1, hen, x2, x3⟩ fun b o hb hnf => x4 b o ((other b (noRecord b o hb hnf)).trans hb) hnf
variable {X : Cx} {pins : List (Addr × Obj)} {σ : L2.St} {H : Hp} {s : Shared}
/-- the context of a block that may let an exception out -/
abbrev blkX (X : Cx) (s : Shared) (H : Hp) (scope : Scope) (cenv : Env) (fp : List Addr) (xe : Value → Shared → Prop) : Cx := { X.blk s H scope cenv fp with xe := xe }
theorem Inv.xeOf {X : Cx} {pins : List (Addr × Obj)} {σ : L2.St} {H : Hp} {s : Shared} {xe xe' : Value → Shared → Prop} (I : Inv { X with xe := xe } pins σ H s) : Inv { X with xe := xe' } pins σ H s :=
  ⟨⟨I.ok.mod, I.ok.kind, I.ok.glob, I.ok.blt, I.ok.above, I.ok.inj, I.ok.has, I.ok.cab, I.ok.hd, I.ok.frames, I.ok.stk, I.ok.exf, I.ok.bs, I.ok.bsz, I.ok.noex, I.ok.exfs, I.ok.funs, I.ok.frf⟩, I.os, I.bare, I.base, I.loc, I.cell, I.free, I.freeC, I.pin, I.hok, I.len⟩
/-- the exception leaves the block: noted at the def's frame, the block's names let go, it goes on -/
theorem air {W WB : WX} {scope : Scope} {ce : Env} {fp : List Addr} {s3 s' : Shared} {H3 : Hp} {u : Value} (tk : Takes X W) (hs : X.stack = X.env :: X.outer) (hf : X.env.frame = some X.env.locals) (I3 : Inv X pins σ H3 s3)
    (f3 : ∀ b ∈ fp, FpOk X pins H3 b ∧ b < s3.heap.objs.size) (hcf : ce.frame = X.env.frame) (hcl : ce.locals = s3.heap.objs.size) (xe : Value → Shared → Prop)
    (hW : ∀ cls d σ' H', WB cls d σ' H' → W cls d σ H') (x : XE (blkX X s3 H3 scope ce fp xe) WB u s') :
    notedBy (model X.prog X.w) X.A ce (fun e s2 => CompFails (model X.prog X.w) X.A X.xe ce e s2) u s' := by
  obtain ⟨a, B, sI, pins', σ', H', cls, d, rfl, I, nb, up, sky, na, os, ag, w⟩ := x
  have hfr : X.A.frames = some (X.env :: X.outer) := by rw [I3.ok.frames, hs]
  have nC : H' ce.locals = none := I.free
  have hlt : X.env.locals < ce.locals := by
    obtain ⟨m, hn, _⟩ := I3.loc
    obtain ⟨o, es, ep, ho, _⟩ := hn
    rw [hcl]
    exact Heap.lt_size ho
  have nst : ce.locals ∉ frs X.stack := fun hm => by
    obtain ⟨_, o, e, _⟩ := I3.stack.mem hm
    have := Heap.lt_size e
    rw [hcl] at this
    exact absurd this (Nat.lt_irrefl _)
  -- the ground, without the block's names
  obtain ⟨B2, hB2⟩ : ∃ B2, B2 = PySem.W.hideAll B [ce.locals] := ⟨_, rfl⟩
  have sub : ∀ b o, B2.get? b = some o → B.get? b = some o := fun b o e => by rw [hB2] at e; exact PySem.W.of_hideAll _ e
  have no : ∀ b, B.get? b = none → B2.get? b = none := fun b hb => by
    cases q : B2.get? b with
    | none => rfl
    | some o => rw [sub b o q] at hb; cases hb
  have nB2 : B2.get? ce.locals = none := by rw [hB2]; exact PySem.W.hideAll_none _ List.mem_cons_self
  have keepB : ∀ b o, b ≠ ce.locals → B.get? b = some o → B2.get? b = some o := fun b o hb e => by
    rw [hB2]
    exact PySem.W.hideAll_get _ e fun z => hb (List.mem_singleton.mp z)
  have stk : (blkX X s3 H3 scope ce fp xe).stack = X.env :: X.outer := hs
  have nb' : ∀ b o, sI.heap.get? b = some o → b ∉ frs X.stack → B.get? b = some o := nb
  -- the end
  have fin : ∀ h2, HandSPX.HeldZ B2 (X.env :: X.outer) a (Zc cls d) X.env.locals h2 → s'.heap.UpToSlots h2 → CompFails (model X.prog X.w) X.A X.xe ce (.ref a) { s' with heap := h2 } := fun h2 hh up2 => by
    obtain ⟨m0, hn0, _⟩ := I.loc
    have hn0 : sI.heap.Ns ce.locals m0 := hn0
    have hn1 : s'.heap.Ns ce.locals m0 := hn0.upToSlots fun b o e n => up b o e n
    have hn2 : h2.Ns ce.locals m0 := hn1.upToSlots fun b o e n => up2 b o e n
    refine ⟨m0, hn2, fun h' m' hn' sb => ?_⟩
    obtain ⟨b1, b0, f1, oe, vs, T, oT, ts, he, hz, hd, h1, hnT, hTe, hT, hdT, h3⟩ := hh
    obtain ⟨oC, es, ep, hoC, hdC, _⟩ := hn2
    have ndf : ∀ b o vs, h2.get? b = some o → o.data = .fields vs → b ≠ ce.locals := fun b o vs e hd q => by
      rw [q] at e
      rw [hoC] at e
      cases e
      rw [hdC] at hd
      cases hd
    have held' : HandSPX.HeldZ B2 (X.env :: X.outer) a (Zc cls d) X.env.locals h' := by
      refine ⟨fun b o hb => (sb.2 b fun q => by rw [q, nB2] at hb; cases hb).trans (b1 b o hb), b0, Heap.FunFrames.sameBut sb hn' f1, oe, vs, T, oT, ts, (sb.2 a (ndf a oe vs he hd)).trans he, hz, hd, h1, hnT, hTe, (sb.2 T (ndf T oT ts hT hdT)).trans hT, hdT, h3⟩
    have he' := (sb.2 a (ndf a oe vs he hd)).trans he
    unfold PySem.passOn
    refine wpAny_bind (wpAny_field he' hd h1 ?_)
    rw [if_neg (show ¬ ((Value.ref T == Value.none) = true) from by simp)]
    rw [hcf, hf]
    refine wpAny_bind (HandSPX.setFlight_onZ (L := X.env.locals) held' fun h4 hh4 up4 => ?_)
    refine wpAny_throw ?_
    -- back in the def's context
    obtain ⟨hI, ehI⟩ : ∃ hI, hI = PySem.W.hideAll sI.heap [ce.locals] := ⟨_, rfl⟩
    have gI : ∀ b o, b ≠ ce.locals → sI.heap.get? b = some o → hI.get? b = some o := fun b o hb e => by
      rw [ehI]
      exact PySem.W.hideAll_get _ e fun z => hb (List.mem_singleton.mp z)
    have oI : ∀ b o, hI.get? b = some o → b ≠ ce.locals ∧ sI.heap.get? b = some o := fun b o e => by
      rw [ehI] at e
      refine ⟨fun q => ?_, PySem.W.of_hideAll _ e⟩
      rw [q, PySem.W.hideAll_none _ List.mem_cons_self] at e
      cases e
    have neC : ∀ b o, s3.heap.get? b = some o → b ≠ ce.locals := fun b o e q => by
      have := Heap.lt_size e
      rw [q, hcl] at this
      exact absurd this (Nat.lt_irrefl _)
    have base : Un (frs X.stack) fp H3 H' s3.heap sI.heap := I.base
    have base2 : Un (frs X.stack) fp H3 H' s3.heap hI :=
      ⟨fun b o e n h1 h2 => gI b o (neC b o e) (base.keep b o e n h1 h2), fun b o e n h1 h2 => by
        obtain ⟨sl, q⟩ := base.slot b o e n h1 h2
        exact ⟨sl, gI b _ (neC b o e) q⟩, base.free, fun b o e h => by
        obtain ⟨o', q⟩ := base.there b o e h
        exact ⟨o', gI b _ (neC b o e) q⟩, base.tups, base.frzs, base.tbls⟩
    have hok2 : HOk X.prog X.w H' hI := fun b o q => (I.hok b o q).stay (fun c u hc r => gI c u (fun e => by
      rcases hc with hc | hc
      · rw [← hc, e, nC] at q; cases q
      · rw [e, nC] at hc; cases hc) r) (fun _ r => r) fun _ _ r => r
    have J : Inv X pins σ H' { sI with heap := hI } := I3.call' (s' := { sI with heap := hI }) (ch := fp) I.os base2 hok2 I.bare fun b hb => ⟨(f3 b hb).1.2.2.2.1, (f3 b hb).1.2.1, (f3 b hb).1.2.2.2.2.1, (f3 b hb).1.2.2.2.2.2⟩
    refine tk _ _ ⟨a, B2, { sI with heap := hI }, pins, σ, H', cls, d, rfl, J, fun b o e hb => ?_, fun b o e n => ?_, ?_, na, os, ag, hW _ _ _ _ w⟩
    · obtain ⟨e1, e2⟩ := oI b o e
      exact keepB b o e1 (nb' b o e2 hb)
    · obtain ⟨e1, e2⟩ := oI b o e
      obtain ⟨sl1, q1⟩ := up b o e2 n
      obtain ⟨sl2, q2⟩ := up2 b _ q1 n
      have q3 := (sb.2 b e1).trans q2
      obtain ⟨sl4, q4⟩ := up4 b _ q3 n
      exact ⟨sl4, q4⟩
    · rw [hs]
      exact .inr (.inr hh4)
  -- noted
  show wpAny _ _ (noteFrame (.ref a) ce) _ _ s'
  rw [noteFrame_env _ hcf]
  have sky : Sky B (X.env :: X.outer) a (Zc cls d) ce.locals s'.heap := by
    have := sky
    rw [stk] at this
    exact this
  rcases sky with ⟨hB, hn, hl, oe, vs, he, hz, hd, h1⟩ | ⟨q1, q2, q3, q4⟩ | ⟨q1, q2, q3, q4⟩
  · exact HandSPX.look_newZ (base := B2) Zc.steady hfr (funFrames_none hl fun c hc => no c (hl.mem hc).1) hf he (fun b o hb => hB b o (sub b o hb)) (no a hn) hd h1 hz fin
  · obtain ⟨oe, vs, T, oT, ts, he, hz, hd, h1, hnT, hTe, r⟩ := q4
    exact HandSPX.looks_onZ Zc.steady hfr hf ⟨fun b o hb => q1 b o (sub b o hb), no a q2, funFrames_none q3 fun c hc => no c (q3.mem hc).1, oe, vs, T, oT, ts, he, hz, hd, h1, no T hnT, hTe, r⟩ fin
  · obtain ⟨oe, vs, T, oT, ts, he, hz, hd, h1, hnT, hTe, r⟩ := q4
    exact looks_flZ Zc.steady hfr hf (fun b o hb => q1 b o (sub b o hb)) (no a q2) (funFrames_none q3 fun c hc => no c (q3.mem hc).1) ⟨oe, vs, T, oT, ts, he, hz, hd, h1, no T hnT, hTe, r⟩ (by
      rw [beq_eq_false_iff_ne]
      intro e
      unfold rawInt at e
      have := Value.int.inj e
      exact absurd (Int.ofNat.inj this.1) (Nat.ne_of_gt hlt)) fin

theorem wpMono {α : Type} {t : Sem α} {Q Q' : α → Shared → Prop} {M : Model} {A : Around} {E E' : Value → Shared → Prop} {s : Shared} (h : wpAny M A t Q E s) (hE : ∀ u s, E u s → E' u s) (hQ : ∀ a s, Q a s → Q' a s) : wpAny M A t Q' E' s := wpAny_mono h hQ hE
/-- a block out of which WB's exceptions go -/
abbrev XBk (X : Cx) (s : Shared) (H : Hp) (scope : Scope) (cenv : Env) (fp : List Addr) (WB : WX) : Cx := blkX X s H scope cenv fp (XE (X.blk s H scope cenv fp) WB)
theorem takesB {s : Shared} {H : Hp} {scope : Scope} {cenv : Env} {fp : List Addr} {WB : WX} : Takes (XBk X s H scope cenv fp WB) WB := fun u s' ⟨a, B, sI, pins, σ, H, cls, d, e, I, nb, up, sky, na, os, ag, w⟩ =>
  ⟨a, B, sI, pins, σ, H, cls, d, e, Inv.xeOf I, nb, up, sky, na, os, ag, w⟩
theorem lc_coreX {W WB : WX} {pins : List (Addr × Obj)} {s : Shared} {σ : L2.St} {H : Hp} {Q : VK} {elt tg iter : Expr} {ifs : List Expr} {scope : Scope} {own : List (Str × Nat)} {pos pos' : Pos} {wi : TI} {g : TG} {tt : TT} {te : TE} {use : Option (Value → Sem Unit)} {Qf : Value → Shared → Prop}
    (hst : X.stack = X.env :: X.outer) (hfm : X.env.frame = some X.env.locals) (tk : Takes X W) (hWB : ∀ cls d σ' H', WB cls d σ' H' → W cls d σ H') (hc : X.calm = true) (hN : X.N.Nodup) (I : Inv X pins σ H s) (hi : PI X tg iter wi) (ok : BlkOk X.N X.env.scope scope own)
    (hg : ∀ (s : Shared) (H : Hp) (C : Addr) (cl : List (Str × Addr)) (fp : List Addr), PG (XBk X s H scope (compEnvC scope cl C X.env) fp WB) tg g) (ht : ∀ (s : Shared) (H : Hp) (C : Addr) (cl : List (Str × Addr)) (fp : List Addr), PTs (XBk X s H scope (compEnvC scope cl C X.env) fp WB) ifs tt)
    (he : ∀ (s : Shared) (H : Hp) (C : Addr) (cl : List (Str × Addr)) (fp : List Addr), PE (XBk X s H scope (compEnvC scope cl C X.env) fp WB) elt te) (hs : ∀ x, foldedSetIterable iter X.env x = pure x)
    (h : tLc wi g tt te (own.map (·.2)) σ H Q)
    (hRR : ∀ D C cl s' m H', Inv X pins σ H' s' → Q (.ref D) H' → s'.heap.Ns C m → FpOk X pins H' C → compEnds (model X.prog X.w) X.A X.xe use Qf (.ref D) (compEnvC scope cl C X.env) (.ok .next) s') :
    wpAny (model X.prog X.w) X.A (comprehension (.ListComp elt [⟨tg, iter, ifs, 0⟩] scope pos) scope X.env pos' (newList []) false (eval iter X.env) use) Qf X.xe s := by
  have hfree : ∀ y ∈ scope.names, y.2 = .free → ∃ c, X.env.cells.lookup y.1 = some c := fun y hy e => by
    rcases ok.free y hy e with k | k
    · exact I.ok.has _ (.inl k)
    · exact I.ok.has _ (.inr k)
  refine comprehension_at (use := use) rfl hs (closure_ok hfree) ok.kind (fun y hy e => by rw [ok.uniq y hy, e])
    (thn (hi.run pins s σ H _ I h) fun xv s1 hx => thn hx fun itv s2 h2 => ?_)
  obtain ⟨it, fp, tn, J, H2, e, I2, T, st2, f2, q⟩ := h2
  subst e
  refine wpAny_newObj_type (newEnv_comp ?_) (by show 0 ≤ sizeLine; decide)
  generalize hD : s2.heap.objs.size = D
  have hDn : H2 D = none := I2.hok.fresh (Nat.le_of_eq hD)
  obtain ⟨W, ⟨m0, w0⟩, turn⟩ := q D hDn
  -- the new list
  generalize hs3 : ({ s2 with heap := s2.heap.push { cls := .type "list", data := .seq ([] : List Value).toArray } } : Shared) = s3
  have I3 : Inv X pins σ (upd H2 D (.lst [])) s3 := by
    rw [← hs3]
    refine I2.laid (t' := s2.toks) (fun b o e => Heap.get?_push_of_some _ e) (Nat.le_of_eq hD) ⟨Nat.zero_le _, [], 0, .nil, ?_⟩
    rw [← hD]
    exact Heap.get?_push_size _ rfl
  have h3 : s3.heap = s2.heap.push { cls := .type "list", data := .seq ([] : List Value).toArray } := by rw [← hs3]
  have sz : ∀ b ∈ fp, b < s2.heap.objs.size := fun b hb => by
    obtain ⟨o, e, _⟩ := T.obj _ _ st2 b hb
    exact Heap.lt_size e
  have f3 : ∀ b ∈ fp, FpOk X pins (upd H2 D (.lst [])) b ∧ b < s3.heap.objs.size := fun b hb => by
    have hlt := sz b hb
    refine ⟨⟨?_, (f2 b hb).2⟩, by rw [h3, Heap.size_push]; exact Nat.lt_succ_of_lt hlt⟩
    rw [upd_ne (by rw [← hD]; exact Nat.ne_of_lt hlt)]
    exact (f2 b hb).1
  have st3 : tn 0 s3.heap := T.keep _ _ _ st2 fun b _ o e => by rw [h3]; exact Heap.get?_push_of_some _ e
  have I4 := block_start I3 ok hN f3
  have pg := hg s3 (upd H2 D (.lst [])) s3.heap.objs.size (cellsFrom (s3.heap.objs.size + 1) scope.names (cloFrom X.env.cells scope.names [])) fp
  have pt := ht s3 (upd H2 D (.lst [])) s3.heap.objs.size (cellsFrom (s3.heap.objs.size + 1) scope.names (cloFrom X.env.cells scope.names [])) fp
  have pe := he s3 (upd H2 D (.lst [])) s3.heap.objs.size (cellsFrom (s3.heap.objs.size + 1) scope.names (cloFrom X.env.cells scope.names [])) fp
  show codeAny _ _ (.compStart (.ListComp elt [⟨tg, iter, ifs, 0⟩] scope pos) 0 (.ref it) (.ref D) (compEnvC scope (cellsFrom (s3.heap.objs.size + 1) scope.names (cloFrom X.env.cells scope.names [])) s3.heap.objs.size X.env)) (compEnds (model X.prog X.w) X.A X.xe use Qf (.ref D) (compEnvC scope (cellsFrom (s3.heap.objs.size + 1) scope.names (cloFrom X.env.cells scope.names [])) s3.heap.objs.size X.env)) { s3 with heap := pushCells (s3.heap.push { cls := .type "dict", data := .dict #[] }) scope.names }
  have nfp : ∀ b ∈ fp, (upd H2 D (.lst [])) b = none := fun b hb => (f3 b hb).1.1
  have hRR := fun D => hRR D s3.heap.objs.size (cellsFrom (s3.heap.objs.size + 1) scope.names (cloFrom X.env.cells scope.names []))
  generalize hce : compEnvC scope (cellsFrom (s3.heap.objs.size + 1) scope.names (cloFrom X.env.cells scope.names [])) s3.heap.objs.size X.env = ce at I4 pg pt pe hRR ⊢
  have cL : ce.locals = s3.heap.objs.size := by subst hce; rfl
  generalize hH3 : upd H2 D (.lst []) = H3 at I3 I4 pg pt pe w0 nfp f3
  generalize hs4 : ({ s3 with heap := pushCells (s3.heap.push { cls := .type "dict", data := .dict #[] }) scope.names } : Shared) = s4 at I4 ⊢
  have st4 : tn 0 s4.heap := T.keep _ _ _ st3 fun b _ o e => by rw [← hs4]; exact pushCells_keeps _ _ _ _ (Heap.get?_push_of_some _ e)
  have stat : ∀ {σ' : L2.St} {H' : Hp} {s' : Shared}, Inv (XBk X s3 H3 scope ce fp WB) [] σ' H' s' → (∀ b ∈ fp, H' b = none) → ∀ b ∈ fp, FpOk (XBk X s3 H3 scope ce fp WB) [] H' b := fun {σ' H' s'} I' hn b hb =>
    ⟨hn b hb, (I'.ok.exf b hb).1, I'.ok.exfs b hb, .inl hb, fun x c e => (I'.ok.exf b hb).2 x c e, fun p hp => absurd (show p ∈ ([] : List (Addr × Obj)) ++ [] from hp) (by simp)⟩
  replace I4 := Inv.xeOf (X := X.blk s3 H3 scope ce fp) (xe := fun _ _ => False) (xe' := XE (X.blk s3 H3 scope ce fp) WB) I4
  have hcF : ce.frame = X.env.frame := by rw [← hce]; rfl
  have err : ∀ u s', XE (X.blk s3 H3 scope ce fp) WB u s' → notedBy (model X.prog X.w) X.A ce (fun e s2 => compEnds (model X.prog X.w) X.A X.xe use Qf (.ref D) ce (.error e) s2) u s' := fun u s' x => by
    have z := air (xe := fun _ _ => False) tk hst hfm I3 f3 hcF cL hWB x
    cases use <;> exact z
  have loop : codeAny (model X.prog X.w) X.A (.compLoop (.ListComp elt [⟨tg, iter, ifs, 0⟩] scope pos) 0 (.ref it) (.ref D) ce) (compEnds (model X.prog X.w) X.A X.xe use Qf (.ref D) ce) s4 := by
    refine compLoop_any (fun n s' => ∃ i H', Inv (XBk X s3 H3 scope ce fp WB) [] (wipe σ (own.map (·.2))) H' s' ∧ tn i s'.heap ∧ (∀ b ∈ fp, H' b = none) ∧ W i n H') ?_ m0 ⟨0, H3, I4, st4, nfp, w0⟩
    rintro n s5 ⟨i, H5, I5, st5, n5, w5⟩
    rcases turn i n H5 w5 with ⟨stop, qq⟩ | ⟨go, Nx, hNx, step⟩
    · have td := T.done (XBk X s3 H3 scope ce fp WB) rfl rfl rfl hc i [] s5 _ H5 (fun _ _ => False) I5 (stat I5 n5) st5 stop
      refine thnF td fun r s6 ⟨hr, I6⟩ => ?_
      subst hr
      -- back in the def's context
      have I7 : Inv X pins σ H5 s6 := I3.call' (ch := fp) I6.os I6.base I6.hok I6.bare fun b hb => ⟨(f3 b hb).1.2.2.2.1, (f3 b hb).1.2.1, (f3 b hb).1.2.2.2.2.1, (f3 b hb).1.2.2.2.2.2⟩
      have nC : H5 s3.heap.objs.size = none := by
        have z : H5 ce.locals = none := I6.free
        rw [cL] at z
        exact z
      obtain ⟨m, hn, _⟩ := I6.loc
      have hn : s6.heap.Ns ce.locals m := hn
      rw [cL] at hn
      exact hRR D s6 m H5 I7 qq hn (I3.fpOk (Nat.le_refl _) nC)
    · have ti := T.item (XBk X s3 H3 scope ce fp WB) rfl rfl rfl hc i [] s5 _ H5 (fun _ _ => False) I5 (stat I5 n5) st5 go
      refine thnF ti fun r s6 ⟨u, hr, h6⟩ => ?_
      subst hr
      refine thnF h6 fun _ s7 ⟨x, H7, I7, r7, y7, st7, n7⟩ => ?_
      have I7' := I7.pinned (stat I7 n7) (T.obj _ _ st7)
      refine wpMono (pg.run _ s7 _ H7 x u _ I7' r7 (step x H7 y7)) err fun _ s8 ⟨σ8, H8, I8, hw8, q8⟩ => ?_
      refine wpMono (pt.run _ s8 σ8 H8 _ I8 q8) err fun b s9 ⟨H9, I9, q9⟩ => ?_
      -- the turn's end
      have fin : ∀ {s' : Shared} {H' : Hp}, Inv (XBk X s3 H3 scope ce fp WB) ([] ++ pinsAt fp s7.heap) σ8 H' s' → Nx H' → ∃ m, m < n ∧ ∃ i H', Inv (XBk X s3 H3 scope ce fp WB) [] (wipe σ (own.map (·.2))) H' s' ∧ tn i s'.heap ∧ (∀ b ∈ fp, H' b = none) ∧ W i m H' := fun {s' H'} I' nx => by
        obtain ⟨m', hm, w'⟩ := hNx H' nx
        have pin' : ∀ b ∈ fp, ∀ o, s7.heap.get? b = some o → s'.heap.get? b = some o ∧ H' b = none := fun b hb o e =>
          let z := I'.pin (b, o) (List.mem_append_right _ (List.mem_append_right _ (mem_pinsAt hb e)))
          ⟨z.1, z.2.1⟩
        have hl : (wipe σ (own.map (·.2))).length = σ8.length := by rw [← hw8, wipe_length]
        refine ⟨m', hm, i + 1, H', (I'.unpinned (pins := [])).weak hl (fun j v e => ?_), T.keep _ _ _ st7 fun b hb o e => (pin' b hb o e).1, fun b hb => ?_, w'⟩
        · rw [← hw8] at e
          exact (wipe_some e).1
        · obtain ⟨o, e, _⟩ := T.obj _ _ st7 b hb
          exact (pin' b hb o e).2
      cases b with
      | false =>
        simp only [Bool.false_eq_true, if_false] at q9 ⊢
        exact fin I9 q9
      | true =>
        simp only [if_true] at q9 ⊢
        refine wpMono (pe.run _ s9 σ8 H9 _ I9 q9) err fun z s10 ⟨yv, H10, I10, r10, acc, hD10, hz10, nx⟩ => ?_
        exact app_ok (X := XBk X s3 H3 scope ce fp WB) I10 hD10 hz10 r10 fun s11 I11 => fin I11 nx
  exact codeAny_compStart_list loop (T.self X.A 0 _ _ _ st4 loop)
def tLcX (W : WX) (wi : TI) (g : TG) (tt : WX → TT) (te : WX → TE) (vs : List Nat) : TE := fun σ H Q => tLc wi g (tt fun cls d _ H' => W cls d σ H') (te fun cls d _ H' => W cls d σ H') vs σ H Q
theorem pe_lcX {W : WX} {elt tg iter : Expr} {ifs : List Expr} {scope : Scope} {own : List (Str × Nat)} {pos : Pos} {wi : TI} {g : TG} {tt : WX → TT} {te : WX → TE} (hst : X.stack = X.env :: X.outer) (hfm : X.env.frame = some X.env.locals) (tk : Takes X W) (hc : X.calm = true) (hN : X.N.Nodup) (hi : PI X tg iter wi) (ok : BlkOk X.N X.env.scope scope own)
    (hg : ∀ (WB : WX) (s : Shared) (H : Hp) (C : Addr) (cl : List (Str × Addr)) (fp : List Addr), PG (XBk X s H scope (compEnvC scope cl C X.env) fp WB) tg g) (ht : ∀ (WB : WX) (s : Shared) (H : Hp) (C : Addr) (cl : List (Str × Addr)) (fp : List Addr), PTs (XBk X s H scope (compEnvC scope cl C X.env) fp WB) ifs (tt WB))
    (he : ∀ (WB : WX) (s : Shared) (H : Hp) (C : Addr) (cl : List (Str × Addr)) (fp : List Addr), PE (XBk X s H scope (compEnvC scope cl C X.env) fp WB) elt (te WB)) (hs : ∀ x, foldedSetIterable iter X.env x = pure x := by intro _; rfl) :
    PE X (.ListComp elt [⟨tg, iter, ifs, 0⟩] scope pos) (tLcX W wi g tt te (own.map (·.2))) := by
  refine ⟨fun pins s σ H Q I h => ?_⟩
  rw [eval_ListComp]
  refine lc_coreX hst hfm tk (fun _ _ _ _ w => w) hc hN I hi ok (hg _) (ht _) (he _) hs h fun D C cl s' m H' I' q hn f => ⟨m, hn, fun h'' sb => ?_⟩
  obtain ⟨f0, f1, f2, f3, f4, f5⟩ := f
  exact ⟨.ref D, H', I'.turned (t' := s'.toks) (fun b o hb e => (sb.2 b hb).trans e) f0 f1 f3 f4 f5, rfl, q⟩
/-- name = [..] on one line, the name a local -/
theorem ps_setLcX {W : WX} {i : Nat} {y : Str} {py : Pos} {elt tg iter : Expr} {ifs : List Expr} {scope : Scope} {own : List (Str × Nat)} {pos spos : Pos} {wi : TI} {g : TG} {tt : WX → TT} {te : WX → TE} (hst : X.stack = X.env :: X.outer) (hfm : X.env.frame = some X.env.locals) (tk : Takes X W) (hc : X.calm = true) (hN : X.N.Nodup) (hy : X.N[i]? = some y) (hyl : X.env.scope.names.lookup y = some .local)
    (hsw : swapsWith (.ListComp elt [⟨tg, iter, ifs, 0⟩] scope pos) (some (.Name y py)) spos.line X.env = pure true) (hi : PI X tg iter wi) (ok : BlkOk X.N X.env.scope scope own)
    (hg : ∀ (WB : WX) (s : Shared) (H : Hp) (C : Addr) (cl : List (Str × Addr)) (fp : List Addr), PG (XBk X s H scope (compEnvC scope cl C X.env) fp WB) tg g) (ht : ∀ (WB : WX) (s : Shared) (H : Hp) (C : Addr) (cl : List (Str × Addr)) (fp : List Addr), PTs (XBk X s H scope (compEnvC scope cl C X.env) fp WB) ifs (tt WB))
    (he : ∀ (WB : WX) (s : Shared) (H : Hp) (C : Addr) (cl : List (Str × Addr)) (fp : List Addr), PE (XBk X s H scope (compEnvC scope cl C X.env) fp WB) elt (te WB)) (hs : ∀ x, foldedSetIterable iter X.env x = pure x := by intro _; rfl) :
    PS X (.Assign [.Name y py] (.ListComp elt [⟨tg, iter, ifs, 0⟩] scope pos) spos) (tAsg (tLcX W wi g tt te (own.map (·.2))) (gName i)) := by
  refine ⟨fun pins s σ H D I h => ?_⟩
  rw [exec_Assign_Name_used _ _ _ _ hsw]
  refine wpAny_bind (wpAny_standAt (wpAny_bind ?_))
  show wpAny _ X.A (do let _ ← comprehension (.ListComp elt [⟨tg, iter, ifs, 0⟩] scope pos) scope X.env (firstIterPos [⟨tg, iter, ifs, 0⟩] pos) (newList []) false (eval iter X.env) (some (assign (.Name y py) X.env))) _ _ s
  have h : tLcX W wi g tt te (own.map (·.2)) σ H (fun x H1 => gName i x σ H1 D.nx) := h
  refine wpAny_bind (thn (lc_coreX (Qf := fun _ s' => SP X pins D .next s') hst hfm tk (fun _ _ _ _ w => w) hc hN I hi ok (hg _) (ht _) (he _) hs h fun L C cl s' m H' I' q hn f => ?_) fun _ s' hq => wpAny_pure (wpAny_pure hq))
  show wpAny _ _ (assign (.Name y py) X.env (.ref L)) _ _ _
  refine wpAny_assign_Name (store_ok2 (v := V.ref L) I' hN hy (.inl hyl) rfl (fun s2 I2 ⟨a, sb, ha⟩ => ?_) (.inr hyl))
  obtain ⟨f0, f1, f2, f3, f4, f5⟩ := f
  have haC : C ≠ a := by
    rcases ha with z | z
    · rw [z]; exact f1
    · exact fun e => f4 y a z e.symm
  refine ⟨m, hn.sameBut sb haC, fun h3 sb3 => ?_⟩
  exact ⟨_, H', I2.turned (t' := s2.toks) (fun b o hb e => (sb3.2 b hb).trans e) f0 f1 f3 f4 f5, q⟩
end
end Ev

namespace Ev
open PySem PySem.Spec L2
/-! ### comprehensions out of which errors go -/
def mLcX (f : Tg) (tt : Sm Bool) (te : Sm W) (vs : List Nat) : List W → List W → Sm (List W)
  | [], acc, env => .ok acc (killE vs env)
  | x :: xs, acc, env => match f x (killE vs env) with
    | none => .bad
    | some env1 => match tt env1 with
      | .ok false env2 => mLcX f tt te vs xs acc env2
      | .ok true env2 => match te env2 with
        | .ok y env3 => if y.frz = true ∧ acc.length < sizeLine then mLcX f tt te vs xs (acc ++ [y]) env3 else .bad
        | .ex c env3 => .ex c env3
        | .bad => .bad
      | .ex c env2 => .ex c env2
      | .bad => .bad
def mCompX (f : Tg) (tt : Sm Bool) (te : Sm W) (vs : List Nat) (mi : Sm (List W)) : Sm W := Sm.bind mi fun ws env => match mLcX f tt te vs ws [] env with
  | .ok ys _ => .ok (.lst true ys) env
  | .ex c _ => .ex c env
  | .bad => .bad
theorem tx_lcX {D : Dn} {Wx : WX} {f : Tg} {tt : Sm Bool} {te : Sm W} {mi : Sm (List W)} {vs : List Nat} {p kk : Bool} {σ : St} {H : Hp} {Q : VK}
    (q : TX D Wx p true (mCompX f tt te vs mi) σ H Q) : tLcX Wx (TIx D Wx p mi) (TGx D (ioB vs) f) (fun WB => TT' D WB true tt) (fun WB => TX D WB true kk te) vs σ H Q := by
  obtain ⟨env, G, Os, s, q⟩ := q
  refine ⟨env, G, Os, s, ?_⟩
  unfold mCompX Sm.bind at q
  cases e : mi env with
  | bad => rw [e] at q; exact q
  | ex c env1 =>
    rw [e] at q
    exact q
  | ok ws env1 =>
    rw [e] at q
    intro J G1 H1 Os1 s1 t1 wk d hd
    have gd1 : G1 d = none := sub_none s1.sub hd
    have dn1 : d ∉ Os1.flatten := fun z => s1.sl.there d z hd
    obtain ⟨oF, eF⟩ : ∃ o, o = mLcX f tt te vs ws [] env1 := ⟨_, rfl⟩
    simp only [← eF] at q
    have raised : ∀ c envF, oF = .ex c envF → ∀ G5 H5 Oo, Step G1 H1 [] G5 H5 Oo → Sub G5 H5 → Wx (.ref (D.CA c)) none σ H5 := fun c envF e G5 H5 Oo st su => by
      subst e
      refine q G5 H5 Os1 (s1.step (st.less (O2 := []) fun _ z => nomatch z) su) ?_
      exact t1.ofP (σ := σ) (st.less (O2 := []) fun _ z => nomatch z)
    refine ⟨fun i m H' => m = ws.length - i ∧ i ≤ ws.length ∧ ∃ env' G' Os' σ' acc, LcI D true vs G1 H1 Os1 d σ acc env' H' G' Os' σ' ∧ Sub G1 G' ∧ mLcX f tt te vs (ws.drop i) acc env' = oF, ⟨ws.length, rfl, Nat.zero_le _, env1, G1, Os1, σ, [], ?_, Sub.refl _, eF.symm⟩, ?_⟩
    · refine ⟨s1.updD gd1 dn1, rfl, fun _ _ => rfl, gd1, dn1, ⟨[], upd_same, rfl⟩, step_updNew (Step.less (Step.refl _ _ _) ?_) hd⟩
      exact fun x hx => hx
    rintro i m H2 ⟨rfl, hi, env2, G2, Os2, σ2, acc, I, sub2, e2⟩
    obtain ⟨w1, w2⟩ := wk i G2 H2 sub2 I.st.sub
    by_cases hl : i < ws.length
    · have ei : ws[i]? = some ws[i] := List.getElem?_eq_getElem hl
      obtain ⟨go, yl⟩ := w1 _ ei
      rw [List.drop_eq_getElem_cons hl] at e2
      refine .inr ⟨go, fun H' => ∃ env' G' Os' σ' acc, LcI D true vs G1 H1 Os1 d σ acc env' H' G' Os' σ' ∧ Sub G1 G' ∧ mLcX f tt te vs (ws.drop (i + 1)) acc env' = oF, fun H' h => ⟨ws.length - (i + 1), by omega, rfl, hl, h⟩, fun v H3 y => ?_⟩
      obtain ⟨G3, t3, sub3, r3⟩ := yl v H3 y
      unfold mLcX at e2
      cases ef : f ws[i] (killE vs env2) with
      | none => simp only [ef] at e2; rw [← e2] at q; exact q.elim
      | some env3 =>
        simp only [ef] at e2
        -- the item comes
        have I3 : LcI D true vs G1 H1 Os1 d σ acc env2 H3 G3 Os2 σ2 := I.next (q := true) (fun _ => rfl) (I.st.step t3 sub3) ⟨rfl, rfl, t3⟩
        have s3 : StOk D G3 H3 (killE vs env2) (wipe σ vs) (killO vs Os2) := I3.st.re (by rw [wipe_length]; exact I.len.symm) fun j hj => by rw [wipe_at hj, I.out j hj]
        refine ⟨killE vs env2, G3, killO vs Os2, ws[i], env3, s3, r3, ef, fun σ4 Os4 s4 hsub io4 len4 => ?_⟩
        rw [wipe_length] at len4
        have out4 : ∀ j, j ∉ vs → σ4[j]? = σ[j]? := fun j hj => by
          have hio : ioB vs j = true := by
            show (!vs.contains j) = true
            rw [Bool.not_eq_true', List.contains_eq_mem, decide_eq_false_iff_not]
            exact hj
          rw [io4 j hio, wipe_at hj]
        have hsub2 : ∀ a ∈ Os4.flatten, a ∈ Os2.flatten := fun a ha => killO_sub a (hsub a ha)
        obtain ⟨va, hda, rva⟩ := I3.dl
        have I4 : LcI D true vs G1 H1 Os1 d σ acc env3 H3 G3 Os4 σ4 := ⟨s4, len4, out4, I3.dg, fun z => I3.dn (hsub2 d z), ⟨va, hda, rva⟩, I3.step.less (fun x hx => hx)⟩
        refine ⟨wipe_eq len4 out4, env3, G3, Os4, s4, ?_⟩
        cases et : tt env3 with
        | bad => simp only [et] at e2; rw [← e2] at q; exact q.elim
        | ex c env4 =>
          simp only [et] at e2
          intro G5 H5 Os5 s5 t5
          have I5 := I4.next (q := true) (fun _ => rfl) s5 t5
          exact raised c env4 e2.symm G5 H5 _ I5.step s5.sub
        | ok b env4 =>
          intro G5 H5 Os5 s5 t5
          have I5 := I4.next (q := true) (fun _ => rfl) s5 t5
          have sub5 : Sub G1 G5 := (sub2.trans t3.mono).trans t5.gen.mono
          cases b with
          | false =>
            rw [if_neg Bool.false_ne_true]
            simp only [et] at e2
            exact ⟨env4, G5, Os5, σ4, acc, I5, sub5, e2⟩
          | true =>
            rw [if_pos rfl]
            simp only [et] at e2
            refine ⟨env4, G5, Os5, s5, ?_⟩
            cases ee : te env4 with
            | bad => simp only [ee] at e2; rw [← e2] at q; exact q.elim
            | ex c env6 =>
              simp only [ee] at e2
              intro G6 H6 Os6 s6 t6
              have I6 := I5.next (q := true) (fun _ => rfl) s6 t6
              exact raised c env6 e2.symm G6 H6 _ I6.step s6.sub
            | ok y env6 =>
              simp only [ee] at e2
              intro v6 G6 H6 Os6 Ow s6 r6 o6 t6
              by_cases hy : y.frz = true ∧ acc.length < sizeLine
              · rw [if_pos hy] at e2
                obtain ⟨rfl, rf⟩ := r6.toF hy.1
                have t6' : Stp true env4 G5 H5 Os5 env6 G6 H6 Os6 [] := t6.less kO_less
                have I6 := I5.next (q := true) (fun _ => rfl) s6 t6'
                obtain ⟨va6, hd6, rva6⟩ := I6.dl
                refine ⟨va6, hd6, by rw [← rva6.len]; exact hy.2, env6, G6, Os6, σ4, acc ++ [y], ?_, sub5.trans t6'.gen.mono, e2⟩
                refine ⟨s6.updD I6.dg I6.dn, len4, out4, I6.dg, I6.dn, ⟨va6 ++ [v6], upd_same, rva6.append ⟨v6, [], rfl, rf, rfl⟩⟩, step_updNew I6.step hd⟩
              · rw [if_neg hy] at e2; rw [← e2] at q; exact q.elim
    · have e3 : i = ws.length := by omega
      subst e3
      rw [List.drop_length] at e2
      refine .inl ⟨w2 (Nat.le_refl _), ?_⟩
      rw [← e2] at q
      obtain ⟨va, hda, rva⟩ := I.dl
      have st : Step G1 H1 [] G2 H2 [d] := ⟨I.step.mono, I.step.keep, I.step.gnew, fun a ha => .inr (by rw [List.mem_singleton.mp ha]; exact hd)⟩
      have sF : StOk D G2 H2 env1 σ Os1 := s1.step st I.st.sub
      refine q (.ref d) G2 H2 Os1 [d] sF ⟨d, va, rfl, rfl, hda, rva⟩ ⟨s1.apart st (by simp), fun a ha => by rw [List.mem_singleton.mp ha]; exact I.dg⟩ ?_
      exact t1.ofP (σ := σ) st

abbrev Zt.blkX (Z : Zt) (s : Shared) (H : Hp) (scope : Scope) (C : Addr) (cl : List (Str × Addr)) (fp : List Addr) (vs : List Nat) (WB : WX) : Zt := ⟨XBk Z.X s H scope (compEnvC scope cl C Z.X.env) fp WB, Z.CA, WB, ioB vs⟩
theorem blkX_takes {Z : Zt} {s : Shared} {H : Hp} {scope : Scope} {C : Addr} {cl : List (Str × Addr)} {fp : List Addr} {vs : List Nat} {WB : WX} : Takes (Z.blkX s H scope C cl fp vs WB).X (Z.blkX s H scope C cl fp vs WB).W := takesB
theorem me_lcX {Z : Zt} {elt tg iter : Expr} {ifs : List Expr} {scope : Scope} {own : List (Str × Nat)} {pos : Pos} {f : Tg} {mt : Sm Bool} {me : Sm W} {mi : Sm (List W)} {p k : Bool} (tk : Takes Z.X Z.W) (hc : Z.X.calm = true) (hN : Z.X.N.Nodup) (hi : MI Z tg iter mi p) (ok : BlkOk Z.X.N Z.X.env.scope scope own)
    (hg : ∀ (WB : WX) (s : Shared) (H : Hp) (C : Addr) (cl : List (Str × Addr)) (fp : List Addr), MG (Z.blkX s H scope C cl fp (own.map (·.2)) WB) tg f) (ht : ∀ (WB : WX) (s : Shared) (H : Hp) (C : Addr) (cl : List (Str × Addr)) (fp : List Addr), MTs (Z.blkX s H scope C cl fp (own.map (·.2)) WB) ifs mt true)
    (he : ∀ (WB : WX) (s : Shared) (H : Hp) (C : Addr) (cl : List (Str × Addr)) (fp : List Addr), ME (Z.blkX s H scope C cl fp (own.map (·.2)) WB) elt me true k) (hst : Z.X.stack = Z.X.env :: Z.X.outer := by rfl) (hfm : Z.X.env.frame = some Z.X.env.locals := by rfl) (hs : ∀ x, foldedSetIterable iter Z.X.env x = pure x := by intro _; rfl) :
    ME Z (.ListComp elt [⟨tg, iter, ifs, 0⟩] scope pos) (mCompX f mt me (own.map (·.2)) mi) p true := pe_imp (pe_lcX (W := Z.W) (tt := fun WB => TT' Z.D WB true mt) (te := fun WB => TX Z.D WB true k me) hst hfm tk hc hN hi ok hg ht he hs) fun σ H Q q => tx_lcX q
/-- .. of new things that stay owned -/
def mLcNX (f : Tg) (tt : Sm Bool) (te : Sm W) (vs : List Nat) : List W → List W → Sm (List W)
  | [], acc, env => .ok acc (killE vs env)
  | x :: xs, acc, env => match f x (killE vs env) with
    | none => .bad
    | some env1 => match tt env1 with
      | .ok false env2 => mLcNX f tt te vs xs acc env2
      | .ok true env2 => match te env2 with
        | .ok y env3 => if acc.length < sizeLine then mLcNX f tt te vs xs (acc ++ [y]) env3 else .bad
        | .ex c env3 => .ex c env3
        | .bad => .bad
      | .ex c env2 => .ex c env2
      | .bad => .bad
def mCompNX (f : Tg) (tt : Sm Bool) (te : Sm W) (vs : List Nat) (mi : Sm (List W)) : Sm W := Sm.bind mi fun ws env => match mLcNX f tt te vs ws [] env with
  | .ok ys _ => .ok (.nst ys) env
  | .ex c _ => .ex c env
  | .bad => .bad
theorem tx_lcNX {D : Dn} {Wx : WX} {f : Tg} {tt : Sm Bool} {te : Sm W} {mi : Sm (List W)} {vs : List Nat} {p : Bool} {σ : St} {H : Hp} {Q : VK}
    (q : TX D Wx p true (mCompNX f tt te vs mi) σ H Q) : tLcX Wx (TIx D Wx p mi) (TGx D (ioB vs) f) (fun WB => TT' D WB true tt) (fun WB => TX D WB true true te) vs σ H Q := by
  obtain ⟨env, G, Os, s, q⟩ := q
  refine ⟨env, G, Os, s, ?_⟩
  unfold mCompNX Sm.bind at q
  cases e : mi env with
  | bad => rw [e] at q; exact q
  | ex c env1 =>
    rw [e] at q
    exact q
  | ok ws env1 =>
    rw [e] at q
    intro J G1 H1 Os1 s1 t1 wk d hd
    have gd1 : G1 d = none := sub_none s1.sub hd
    have dn1 : d ∉ Os1.flatten := fun z => s1.sl.there d z hd
    obtain ⟨oF, eF⟩ : ∃ o, o = mLcNX f tt te vs ws [] env1 := ⟨_, rfl⟩
    simp only [← eF] at q
    have raised : ∀ c envF, oF = .ex c envF → ∀ G5 H5 Oo, Step G1 H1 [] G5 H5 Oo → Sub G5 H5 → Wx (.ref (D.CA c)) none σ H5 := fun c envF e G5 H5 Oo st su => by
      subst e
      refine q G5 H5 Os1 (s1.step (st.less (O2 := []) fun _ z => nomatch z) su) ?_
      exact t1.ofP (σ := σ) (st.less (O2 := []) fun _ z => nomatch z)
    refine ⟨fun i m H' => m = ws.length - i ∧ i ≤ ws.length ∧ ∃ env' G' Os' σ' acc Oa, LcN D vs G1 H1 d σ acc env' H' G' Os' σ' Oa ∧ Sub G1 G' ∧ mLcNX f tt te vs (ws.drop i) acc env' = oF, ⟨ws.length, rfl, Nat.zero_le _, env1, G1, Os1, σ, [], [], ?_, Sub.refl _, eF.symm⟩, ?_⟩
    · exact ⟨s1.updD gd1 dn1, rfl, fun _ _ => rfl, fun a ha => by rw [List.mem_singleton.mp ha]; exact gd1, fun a ha => by rw [List.mem_singleton.mp ha]; exact dn1, by simp, ⟨[], upd_same, rfl, rfl⟩, step_own hd⟩
    rintro i m H2 ⟨rfl, hi, env2, G2, Os2, σ2, acc, Oa, I, sub2, e2⟩
    obtain ⟨w1, w2⟩ := wk i G2 H2 sub2 I.st.sub
    by_cases hl : i < ws.length
    · have ei : ws[i]? = some ws[i] := List.getElem?_eq_getElem hl
      obtain ⟨go, yl⟩ := w1 _ ei
      rw [List.drop_eq_getElem_cons hl] at e2
      refine .inr ⟨go, fun H' => ∃ env' G' Os' σ' acc Oa, LcN D vs G1 H1 d σ acc env' H' G' Os' σ' Oa ∧ Sub G1 G' ∧ mLcNX f tt te vs (ws.drop (i + 1)) acc env' = oF, fun H' h => ⟨ws.length - (i + 1), by omega, rfl, hl, h⟩, fun v H3 y => ?_⟩
      obtain ⟨G3, t3, sub3, r3⟩ := yl v H3 y
      unfold mLcNX at e2
      cases ef : f ws[i] (killE vs env2) with
      | none => simp only [ef] at e2; rw [← e2] at q; exact q.elim
      | some env3 =>
        simp only [ef] at e2
        have I3 : LcN D vs G1 H1 d σ acc env2 H3 G3 Os2 σ2 Oa := I.next (I.st.step t3 sub3) ⟨rfl, rfl, t3⟩
        have s3 : StOk D G3 H3 (killE vs env2) (wipe σ vs) (killO vs Os2) := I3.st.re (by rw [wipe_length]; exact I.len.symm) fun j hj => by rw [wipe_at hj, I.out j hj]
        refine ⟨killE vs env2, G3, killO vs Os2, ws[i], env3, s3, r3, ef, fun σ4 Os4 s4 hsub io4 len4 => ?_⟩
        rw [wipe_length] at len4
        have out4 : ∀ j, j ∉ vs → σ4[j]? = σ[j]? := fun j hj => by
          have hio : ioB vs j = true := by
            show (!vs.contains j) = true
            rw [Bool.not_eq_true', List.contains_eq_mem, decide_eq_false_iff_not]
            exact hj
          rw [io4 j hio, wipe_at hj]
        have hsub2 : ∀ a ∈ Os4.flatten, a ∈ Os2.flatten := fun a ha => killO_sub a (hsub a ha)
        have I4 : LcN D vs G1 H1 d σ acc env3 H3 G3 Os4 σ4 Oa := ⟨s4, len4, out4, I3.dg, fun a ha z => I3.dn a ha (hsub2 a z), I3.nd, I3.dl, I3.step⟩
        refine ⟨wipe_eq len4 out4, env3, G3, Os4, s4, ?_⟩
        cases et : tt env3 with
        | bad => simp only [et] at e2; rw [← e2] at q; exact q.elim
        | ex c env4 =>
          simp only [et] at e2
          intro G5 H5 Os5 s5 t5
          have I5 := I4.next s5 t5
          exact raised c env4 e2.symm G5 H5 _ I5.step s5.sub
        | ok b env4 =>
          intro G5 H5 Os5 s5 t5
          have I5 := I4.next s5 t5
          have sub5 : Sub G1 G5 := (sub2.trans t3.mono).trans t5.gen.mono
          cases b with
          | false =>
            rw [if_neg Bool.false_ne_true]
            simp only [et] at e2
            exact ⟨env4, G5, Os5, σ4, acc, Oa, I5, sub5, e2⟩
          | true =>
            rw [if_pos rfl]
            simp only [et] at e2
            refine ⟨env4, G5, Os5, s5, ?_⟩
            cases ee : te env4 with
            | bad => simp only [ee] at e2; rw [← e2] at q; exact q.elim
            | ex c env6 =>
              simp only [ee] at e2
              intro G6 H6 Os6 s6 t6
              have I6 := I5.next s6 t6
              exact raised c env6 e2.symm G6 H6 _ I6.step s6.sub
            | ok y env6 =>
              simp only [ee] at e2
              intro v6 G6 H6 Os6 Ow s6 r6 o6 t6
              by_cases hy : acc.length < sizeLine
              · rw [if_pos hy] at e2
                have t6' : Stp true env4 G5 H5 Os5 env6 G6 H6 Os6 [] := t6.less fun _ z => nomatch z
                have I6 := I5.next s6 t6'
                obtain ⟨va6, hd6, rva6⟩ := I6.dl
                obtain ⟨rfl, rfl, t6s⟩ := id t6
                have newW : ∀ a ∈ Ow, H5 a = none := fun a ha => (t6s.new a ha).elim (fun z => nomatch z) id
                have apart : ∀ a ∈ Ow, a ∉ d :: Oa := fun a ha z => by
                  obtain ⟨o, ho, _⟩ := I5.there a z
                  rw [newW a ha] at ho
                  cases ho
                have ndw := List.nodup_append.mp o6.1
                have ne : ∀ a ∈ Oa ++ Ow, a ≠ d := fun a ha e => by
                  rcases List.mem_append.mp ha with z | z
                  · exact (List.nodup_cons.mp I6.nd).1 (by rw [← e]; exact z)
                  · exact apart a z (by rw [e]; exact List.mem_cons_self)
                have nd6 : (d :: (Oa ++ Ow)).Nodup := List.nodup_cons.mpr ⟨fun z => ne d z rfl, List.nodup_append.mpr ⟨(List.nodup_cons.mp I6.nd).2, ndw.2.1, fun a ha b hb ee => apart b hb (List.mem_cons_of_mem _ (by rw [← ee]; exact ha))⟩⟩
                refine ⟨va6, hd6, by rw [← rva6.len]; exact hy, env6, G6, Os6, σ4, acc ++ [y], Oa ++ Ow, ?_, sub5.trans t6s.mono, e2⟩
                refine ⟨s6.updD (I6.dg d List.mem_cons_self) (I6.dn d List.mem_cons_self), len4, out4, fun a ha => ?_, fun a ha => ?_, nd6, ⟨va6 ++ [v6], upd_same, ?_⟩, ?_⟩
                · rcases List.mem_cons.mp ha with e | z
                  · rw [e]; exact I6.dg d List.mem_cons_self
                  · rcases List.mem_append.mp z with z | z
                    · exact I6.dg a (List.mem_cons_of_mem _ z)
                    · exact o6.2 a z
                · rcases List.mem_cons.mp ha with e | z
                  · rw [e]; exact I6.dn d List.mem_cons_self
                  · rcases List.mem_append.mp z with z | z
                    · exact I6.dn a (List.mem_cons_of_mem _ z)
                    · exact fun y => ndw.2.2 a y a z rfl
                · refine ROs.append (ROs.mono (Sub.refl _) _ _ _ (fun a ha o h => by rw [upd_ne (ne a (List.mem_append_left _ ha))]; exact h) rva6) ?_
                  exact ⟨v6, [], Ow, [], rfl, (List.append_nil _).symm, RO.mono (Sub.refl _) _ _ _ (fun a ha o h => by rw [upd_ne (ne a (List.mem_append_right _ ha))]; exact h) r6, rfl, rfl⟩
                · have st6 : Step G1 H1 [] G6 H6 (d :: (Oa ++ Ow)) := ⟨I6.step.mono, I6.step.keep, I6.step.gnew, fun a ha => by
                    rcases List.mem_cons.mp ha with e | z
                    · rw [e]; exact I6.step.new d List.mem_cons_self
                    · rcases List.mem_append.mp z with z | z
                      · exact I6.step.new a (List.mem_cons_of_mem _ z)
                      · refine .inr ?_
                        cases h1 : H1 a with
                        | none => rfl
                        | some o =>
                          have := I5.step.keep a o h1 (fun z => nomatch z)
                          rw [newW a z] at this
                          cases this⟩
                  exact step_updNew st6 hd
              · rw [if_neg hy] at e2; rw [← e2] at q; exact q.elim
    · have e3 : i = ws.length := by omega
      subst e3
      rw [List.drop_length] at e2
      refine .inl ⟨w2 (Nat.le_refl _), ?_⟩
      rw [← e2] at q
      obtain ⟨va, hda, rva⟩ := I.dl
      have st : Step G1 H1 [] G2 H2 (d :: Oa) := I.step
      have sF : StOk D G2 H2 env1 σ Os1 := s1.step st I.st.sub
      exact q (.ref d) G2 H2 Os1 (d :: Oa) sF ⟨d, va, Oa, rfl, rfl, hda, rva⟩ ⟨s1.apart st I.nd, I.dg⟩ (t1.ofP (σ := σ) st)
theorem ms_setLcNX {Z : Zt} {i : Nat} {y : Str} {py : Pos} {elt tg iter : Expr} {ifs : List Expr} {scope : Scope} {own : List (Str × Nat)} {pos spos : Pos} {f : Tg} {mt : Sm Bool} {me : Sm W} {mi : Sm (List W)} (tk : Takes Z.X Z.W) (hc : Z.X.calm = true) (hN : Z.X.N.Nodup) (hi : MI Z tg iter mi true) (ok : BlkOk Z.X.N Z.X.env.scope scope own)
    (hg : ∀ (WB : WX) (s : Shared) (H : Hp) (C : Addr) (cl : List (Str × Addr)) (fp : List Addr), MG (Z.blkX s H scope C cl fp (own.map (·.2)) WB) tg f) (ht : ∀ (WB : WX) (s : Shared) (H : Hp) (C : Addr) (cl : List (Str × Addr)) (fp : List Addr), MTs (Z.blkX s H scope C cl fp (own.map (·.2)) WB) ifs mt true)
    (he : ∀ (WB : WX) (s : Shared) (H : Hp) (C : Addr) (cl : List (Str × Addr)) (fp : List Addr), ME (Z.blkX s H scope C cl fp (own.map (·.2)) WB) elt me true true)
    (hst : Z.X.stack = Z.X.env :: Z.X.outer := by rfl) (hfm : Z.X.env.frame = some Z.X.env.locals := by rfl) (hy : Z.X.N[i]? = some y := by rfl) (hyl : Z.X.env.scope.names.lookup y = some .local := by rfl) (hio : Z.io i = false := by rfl)
    (hsw : swapsWith (.ListComp elt [⟨tg, iter, ifs, 0⟩] scope pos) (some (.Name y py)) spos.line Z.X.env = pure true := by exact sw_true rfl rfl rfl (by decide +kernel)) (hs : ∀ x, foldedSetIterable iter Z.X.env x = pure x := by intro _; rfl) :
    MS Z (.Assign [.Name y py] (.ListComp elt [⟨tg, iter, ifs, 0⟩] scope pos) spos) (sSet i true (mCompNX f mt me (own.map (·.2)) mi)) := by
  have core := ps_setLcX (X := Z.X) (W := Z.W) (i := i) (py := py) (spos := spos) (pos := pos) (g := TGx Z.D (ioB (own.map (·.2))) f) (tt := fun WB => TT' Z.D WB true mt) (te := fun WB => TX Z.D WB true true me) hst hfm tk hc hN hy hyl hsw hi ok hg ht he hs
  refine ⟨fun pins sh σ H D I q => ?_⟩
  have hlen := I.len
  refine core.run pins sh σ H D I ?_
  have fin : ∀ {m : Sm W}, TSx Z.D Z.W Z.io (sSet i true m) D σ H → TX Z.D Z.W true true m σ H fun v H' => D.nx (σ.set i (some v)) H' := by
    intro m q
    obtain ⟨env, G, Os, s, q⟩ := q
    refine ⟨env, G, Os, s, ?_⟩
    unfold sSet Sm.bind at q
    cases e : m env with
    | bad => rw [e] at q; exact q
    | ex c env1 =>
      rw [e] at q
      exact fun G' H' Os' s' t => q σ G' H' Os' s' t.st (IoS.refl _)
    | ok w env1 =>
      rw [e] at q
      intro v G' H' Os' Ow s' r o t
      simp only [Bool.true_or, if_true] at q
      obtain ⟨s2, inn⟩ := s'.put i (by rw [hlen]; exact (List.getElem?_eq_some_iff.mp hy).1) r o
      exact q (σ.set i (some v)) G' H' (Os'.set i Ow) s2 (t.gen.less inn) (IoS.set hio)
  exact tx_lcNX (Q := fun v H' => D.nx (σ.set i (some v)) H') (fin q)


end Ev

namespace Ev
open PySem PySem.Spec PyProof.Rows L2
/-! ### str(x), x a number or a text -/
def call_str_strR : List V → Hp → VK → Prop := fun xs H Q => ∃ x, xs = [.str x] ∧ Q (.str x) H
theorem call_str_str {X : Cx} : CallR X (.type "str") call_str_strR := by
  intro pins s σ H xs us Q I r h
  obtain ⟨x, e, q⟩ := h
  subst e
  obtain ⟨u, eu, rx⟩ := vals1 r
  subst eu
  obtain ⟨t, rfl⟩ := rx
  exact PySem.P.str_of_str ⟨.str x, H, I, ⟨t, rfl⟩, q⟩
end Ev

namespace Ev
open PySem PySem.Spec PyProof.Rows L2
section
variable {X : Cx} {a b e o : Expr} {es : List Expr} {ta tb to : TE} {t : TA} {pos p apos : Pos} {x : Str} {id : String}
end
section
variable {Z : Zt}
end
end Ev

namespace Ev
open PySem PySem.Spec L2
end Ev

namespace Ev
open PySem PySem.Spec PyProof.Rows L2
/-! ### a text times a number -/
theorem op_mulS {X : Cx} : OpR X (binaryOp .Mult) (fun x y H Q => ∃ a n, x = .str a ∧ y = .int n ∧ MulOk a n ∧ Q (.str (Txt.mul a n)) H) := by
  intro pins s σ H x y v u Q I rx ry h
  obtain ⟨a, n, rfl, rfl, ok, q⟩ := h
  obtain ⟨t, rfl⟩ := rx
  obtain ⟨t2, rfl⟩ := ry
  exact PySem.SB.mul ok fun t' k => ⟨.str (Txt.mul a n), H, I.tok k, ⟨t', rfl⟩, q⟩
open Classical in
noncomputable def mulZW : W → W → Option W
  | .str a, .int n => if MulOk a n then some (.str (Txt.mul a n)) else none
  | _, _ => none
theorem op_mulZ {Z : Zt} : OpS Z (binaryOp .Mult) mulZW := fun G H w1 w2 v1 v2 O1 O2 w Q s r1 r2 e q => by
  cases w1 with
  | str a =>
    cases w2 with
    | int n =>
      have e' : (open Classical in if MulOk a n then some (W.str (Txt.mul a n)) else none) = some w := e
      by_cases hl : MulOk a n
      · rw [if_pos hl] at e'
        cases e'
        obtain ⟨_, rfl⟩ := r1
        obtain ⟨_, rfl⟩ := r2
        exact ⟨_, op_mulS, a, n, rfl, rfl, hl, q.str s⟩
      · rw [if_neg hl] at e'; cases e'
    | _ => cases e
  | _ => cases e
theorem w_mulZ {a : Str} {n : Int} (h : MulOk a n) : mulZW (.str a) (.int n) = some (.str (Txt.mul a n)) := by
  show (open Classical in if MulOk a n then some (W.str (Txt.mul a n)) else none) = _
  rw [if_pos h]
end Ev

namespace Ev
open PySem PySem.Spec PyProof.Rows L2
end Ev

namespace PySem
open Builtin Builtin.Str
namespace Txt
end Txt
end PySem
namespace Ev
open PySem PySem.Spec PyProof.Rows L2
section
variable {X : Cx} {o : Expr} {to : TE} {y z : Str} {j k i : Nat} {c0 c1 c2 apos pos : Pos}
end
section
variable {X : Cx} {a b e : Expr} {ta tb te : TE} {p1 p2 p3 : Pos}
end
section
variable {Z : Zt} {a b o : Expr} {p1 p2 p3 : Pos} {y z : Str} {j k i : Nat} {c0 c1 c2 apos pos : Pos} {pa pb ka kb po ko : Bool}
end
/-! ### the empty table that is nobody's; one of a display -/
theorem me_edc {Z : Zt} {pos : Pos} : ME Z (.Dict [] [] pos) (mC .edc) true true := pe_imp pe_dnewK fun σ H Q q p n => by
  obtain ⟨env, G, Os, s, q⟩ := q
  have st := step_frz (o := .dK []) s.sub n
  have s2 := s.step st (sub_upd2 s.sub)
  exact q (.ref p) _ _ Os [] s2 ⟨rfl, p, rfl, upd_same⟩ (OwnK.nil s2) ⟨rfl, rfl, st⟩
def avV : AV → Option W
  | .v w => some w
  | .io _ => none
def avAt (as : List AV) (j : Int) : Option W := (L2.atI as j).bind avV
def mPick (ms : Sm (List AV)) (mi : Sm W) : Sm W := Sm.bind ms fun as => if as.length ≤ sizeLine then Sm.bind mi fun w => match w with
  | .int j => lft (avAt as j)
  | _ => fun _ => .bad else fun _ => .bad
theorem AVs.get {D : Dn} {G : Hp} {σ : L2.St} : ∀ {as : List AV} {vs : List V} {i : Nat} {w : W}, AVs D G σ as vs → as[i]? = some (.v w) → ∃ v, vs[i]? = some v ∧ RP D G w v
  | [], _, _, _, _, e => by simp at e
  | .v _ :: _, _, 0, _, h, e => by
    obtain ⟨v, r, rfl, h1, h2⟩ := h
    cases e
    exact ⟨v, rfl, h1⟩
  | .io _ :: _, _, 0, _, h, e => by cases e
  | .v _ :: as, _, i + 1, _, h, e => by
    obtain ⟨v, r, rfl, h1, h2⟩ := h
    exact AVs.get (as := as) (vs := r) (i := i) h2 e
  | .io _ :: as, _, i + 1, _, h, e => by
    obtain ⟨v, r, rfl, h1, h2⟩ := h
    exact AVs.get (as := as) (vs := r) (i := i) h2 e
theorem avAt_at {D : Dn} {G : Hp} {σ : L2.St} {as : List AV} {vs : List V} {j : Int} {w : W} (h : AVs D G σ as vs) (e : avAt as j = some w) : ∃ v, L2.atI vs j = some v ∧ RP D G w v := by
  have e0 : ∃ a, L2.atI as j = some a ∧ a = .v w := by
    unfold avAt at e
    cases ha : L2.atI as j with
    | none => rw [ha] at e; cases e
    | some a =>
      rw [ha] at e
      cases a with
      | io _ => cases e
      | v w' => cases e; exact ⟨_, rfl, rfl⟩
  obtain ⟨a, ha, rfl⟩ := e0
  unfold L2.atI at ha ⊢
  rw [h.len] at ha
  cases hn : ixN vs.length j with
  | none => rw [hn] at ha; cases ha
  | some i =>
    rw [hn] at ha
    exact h.get ha
theorem me_pick {Z : Zt} {es : List Expr} {b : Expr} {ms : Sm (List AV)} {mi : Sm W} {p1 p2 k2 : Bool} {ps pos : Pos} (h : MAr Z es ms p1) (hb : ME Z b mi p2 k2) (hs : PlainIx b := by exact fun _ _ => rfl) : ME Z (.Subscript (.List es ps) b pos) (mPick ms mi) (p1 && p2) true :=
  pe_imp (pe_ix ix_any (pe_lst h) hb hs) fun σ H Q q => by
    obtain ⟨env, G, Os, s, q⟩ := q
    refine ⟨env, G, Os, s, ?_⟩
    unfold mPick Sm.bind at q
    cases e1 : ms env with
    | bad => rw [e1] at q; exact q
    | ex c env1 =>
      rw [e1] at q
      exact fun G' H' Os' s' t => q G' H' Os' s' (t.and p2)
    | ok as env1 =>
      rw [e1] at q
      intro vs G1 H1 Os1 s1 r1 t1
      by_cases hl : as.length ≤ sizeLine
      · simp only [if_pos hl] at q
        refine ⟨by rw [← r1.len]; exact hl, fun p n => ?_⟩
        have st := step_frz (o := .lst vs) s1.sub n
        have s2 : StOk Z.D (upd G1 p (.lst vs)) (upd H1 p (.lst vs)) env1 σ Os1 := s1.step st (sub_upd2 s1.sub)
        have t12 := t1.ofP (σ := σ) st
        refine ⟨env1, _, Os1, s2, ?_⟩
        cases e2 : mi env1 with
        | bad => simp only [e2] at q
        | ex c env2 =>
          simp only [e2] at q
          exact fun G' H' Os' s' t => q G' H' Os' s' (t12.trans t)
        | ok w env2 =>
          simp only [e2] at q
          intro y G3 H3 Os3 Oy s3 ry oy t3
          cases w with
          | int j =>
            obtain ⟨_, rfl⟩ := ry
            unfold lft at q
            cases e3 : avAt as j with
            | none => simp only [e3] at q
            | some w' =>
              simp only [e3] at q
              have t3' : Stp p2 env1 (upd G1 p (.lst vs)) (upd H1 p (.lst vs)) Os1 env2 G3 H3 Os3 [] := t3.less fun _ z => nomatch z
              have mono : Sub G1 G3 := st.mono.trans t3'.gen.mono
              obtain ⟨v', h2, rp⟩ := avAt_at (r1.mono mono) e3
              have hp : H3 p = some (.lst vs) := s3.sub _ _ (t3'.gen.mono _ _ upd_same)
              exact ⟨_, ix_list, p, vs, j, v', rfl, rfl, SqL.of hp, h2, q v' G3 H3 Os3 [] s3 rp.toO (OwnK.nil s3) (t12.trans t3')⟩
          | _ => exact q.elim
      · simp only [if_neg hl] at q
theorem r_pick {env : List W} (ms : Sm (List AV)) (mi : Sm W) : mPick ms mi env = match ms env with
  | .ok as e1 => if as.length ≤ sizeLine then (match mi e1 with
    | .ok (.int j) e2 => (match avAt as j with
      | some w => .ok w e2
      | none => .bad)
    | .ok _ _ => .bad
    | .ex c e2 => .ex c e2
    | .bad => .bad) else .bad
  | .ex c e1 => .ex c e1
  | .bad => .bad := by
  unfold mPick
  rw [r_bind]
  cases ms env with
  | ok as e1 =>
    dsimp only
    by_cases hl : as.length ≤ sizeLine
    · rw [if_pos hl, if_pos hl, r_bind]
      cases mi e1 with
      | ok w e2 => cases w <;> first | rfl | (unfold lft; dsimp only; cases avAt as _ <;> rfl)
      | _ => rfl
    · rw [if_neg hl, if_neg hl]
  | _ => rfl
end Ev

namespace Ev
open PySem PySem.Spec PyProof.Rows L2
theorem pas_str (s : Str) : (W.str s).pas = true := rfl
theorem pas_int (i : Int) : (W.int i).pas = true := rfl
theorem pas_bl (b : Bool) : (W.bl b).pas = true := rfl
theorem pas_non : W.non.pas = true := rfl
theorem pas_tup (ws : List W) : (W.tup ws).pas = true := rfl
theorem pas_lst (ws : List W) : (W.lst false ws).pas = true := rfl
theorem pas_edc : W.edc.pas = true := rfl
theorem pick_edc (env : List W) : pickV (some .edc) env = .ok .edc env := rfl
end Ev

namespace Ev
open PySem PySem.Spec PyProof.Rows L2
/-! ### f(new, values): what is new is lent to the call -/
def mCallU (g : Fn) (n : Nat) (mt : Sm W) (mv : Sm (List W)) : Sm W := fun env => match mt env with
  | .ok w2 env1 => (match mv env1 with
    | .ok ws _ => (match mCall g n (Sm.ret (.io env1.length :: ws.map .v)) (env1 ++ [w2]) with
      | .ok w e2 => .ok w e2.dropLast
      | .ex c e2 => .ex c e2.dropLast
      | .bad => .bad)
    | _ => .bad)
  | _ => .bad
theorem me_callU {Z : Zt} {x : Str} {n k : Nat} {g : Fn} {e2 : Expr} {es : List Expr} {p1 p2 : Pos} {mt : Sm W} {mv : Sm (List W)} (F : FnZ Z x n k g) (hr : Room k Z.X.A) (tk : Takes Z.X Z.W) (ht : ME Z e2 mt true true) (hv : MA Z es mv true) (hg : Gl Z.X x) (hdb : (x == ("__debug__" : Str)) = false := by decide)
    (s1 : starEach (e2 :: es) Z.X.env = (false, eval e2 Z.X.env) :: starEach es Z.X.env := by rfl) (hpl : (backTo p2 (starEach es Z.X.env)).any (·.1) = false := by rfl)
    : ME Z (.Call (.Name x p1) (e2 :: es) [] p2) (mCallU g n mt mv) false true := by
  obtain ⟨f, fd, ps, F, hm, hk, hb⟩ := F
  refine pe_imp (pe_callS F hr hg hm hk hb (fun σ => passAt tk σ) (pa_cons ht hv s1) hdb s1 hpl) fun σ H Q q => ?_
  obtain ⟨env, G, Os, s, q⟩ := q
  unfold mCallU at q
  refine ⟨env, G, Os, s, ?_⟩
  cases e1 : mt env with
  | bad => simp only [e1] at q
  | ex c env1 => simp only [e1] at q
  | ok w2 env1 =>
    simp only [e1] at q
    intro v2 G1 H1 Os1 O2 s1 r2 o2 t1
    obtain ⟨rfl, rfl, t1'⟩ := id t1
    refine ⟨env1, G1, Os1, s1, ?_⟩
    cases e2 : mv env1 with
    | bad => simp only [e2] at q
    | ex c env2 => simp only [e2] at q
    | ok ws env2 =>
      simp only [e2] at q
      intro vs3 G2 H2 Os2 s2 r3 t2
      obtain ⟨rfl, rfl, t2'⟩ := id t2
      have r2' : RO Z.D G2 H2 w2 v2 O2 := stay s1 r2 o2 t2 rfl
      have gn2 : ∀ a ∈ O2, G2 a = none := fun a ha => by
        obtain ⟨o, ho, nt⟩ := RO.thn w2 v2 O2 r2 a ha
        exact t2'.gnew a o ho (fun z => nomatch z) nt (o2.2 a ha)
      have s3 := s2.snoc r2' ⟨o2.1, gn2⟩
      have hl1 : σ.length = env2.length := s2.sl.len.1.symm
      have t12 : Step G H Os2.flatten G2 H2 (Os2 ++ [O2]).flatten := by
        have a1 : Step G H Os2.flatten G1 H1 (Os2.flatten ++ O2) := t1'.pure0 (O := Os2.flatten)
        have a2 : Step G1 H1 (Os2.flatten ++ O2) G2 H2 (Os2.flatten ++ O2) := (t2'.pure0 (O := Os2.flatten ++ O2)).less fun x hx => List.mem_append_left _ hx
        rw [List.flatten_append, List.flatten_singleton]
        exact a1.trans a2
      have av : AVs Z.D G2 (σ ++ [some v2]) (.io env2.length :: ws.map .v) (v2 :: vs3) :=
        ⟨v2, _, rfl, by rw [← hl1, List.getElem?_append_right (Nat.le_refl _), Nat.sub_self]; rfl, avs_of r3⟩
      unfold mCall Sm.bind Sm.ret at q
      dsimp only at q
      by_cases hl : (AV.io env2.length :: ws.map AV.v).length = n
      · simp only [if_pos hl] at q
        refine call_core s3 av hl ?_
        cases e3 : takeA (env2 ++ [w2]) (.io env2.length :: ws.map .v) with
        | none => simp only [e3] at q
        | some qq =>
          obtain ⟨ys, env0⟩ := qq
          simp only [e3] at q ⊢
          cases e4 : g ys with
          | bad => simp only [e4] at q
          | ex c ws' =>
            simp only [e4] at q ⊢
            intro G' H' Os' s' t
            refine q G' H' _ s'.init ?_
            show Step G H _ G' H' (_ ++ [])
            rw [List.append_nil]
            exact (t12.trans t).less flat_init
          | ok w ws' =>
            simp only [e4] at q ⊢
            intro v G' H' Os' Ow s' r o t
            refine q v G' H' _ Ow s'.init r ⟨o.1.sublist (List.Sublist.append flat_initS (List.Sublist.refl _)), o.2⟩ ?_
            refine (t12.trans t).less fun a ha => ?_
            rcases List.mem_append.mp ha with z | z
            · exact List.mem_append_left _ (flat_init a z)
            · exact List.mem_append_right _ z
      · simp only [if_neg hl] at q
end Ev

namespace Ev
open PySem PySem.Spec PyProof.Rows L2

/-! ### str of any plain thing, where no text of another thing is being made -/
theorem call_str_ref {X : Cx} (hg : X.A.guards = some []) (hu : X.A.units + 64 < cLine) : CallR X (.type "str") (fun xs H Q => ∃ (a : Addr) (d : PyData), xs = [.ref a] ∧ (∀ (pins : List (Addr × Obj)) (σ : L2.St) (s : Shared), Inv X pins σ H s → ∃ as, Reads s.heap (.ref a) d as ∧ (d.hasDict = true → sysModules ∉ as)) ∧ d.showable = true ∧ d.depth ≤ 20 ∧ d.shown.length ≤ sizeLine ∧ Q (.str d.shown) H) := by
  intro pins s σ H xs us Q I r h
  obtain ⟨a, d, rfl, hr, hs, hd, hz, q⟩ := h
  obtain ⟨u, rfl, r1⟩ := vals1 r
  cases r1
  obtain ⟨as, h1, h2⟩ := hr pins σ s I
  exact PySem.str_of_reads h1 hs h2 hg (by omega) (fun _ _ e => e) (fun h' u tk k => ⟨.str _, H, I.kept k, ⟨_, rfl⟩, q⟩) hz
theorem call_str_non {X : Cx} : CallR X (.type "str") (fun xs H Q => xs = [.non] ∧ Q (.str "None") H) := by
  intro pins s σ H xs us Q I r h
  obtain ⟨rfl, q⟩ := h
  obtain ⟨u, rfl, r1⟩ := vals1 r
  cases r1
  exact PySem.P.str_of_none ⟨.str _, H, I.tok _, ⟨_, rfl⟩, q⟩
theorem call_str_bl {X : Cx} : CallR X (.type "str") (fun xs H Q => ∃ b, xs = [.bl b] ∧ Q (.str (if b = true then "True" else "False")) H) := by
  intro pins s σ H xs us Q I r h
  obtain ⟨b, rfl, q⟩ := h
  obtain ⟨u, rfl, r1⟩ := vals1 r
  cases r1
  exact PySem.P.str_of_bool ⟨.str _, H, I.tok _, ⟨_, rfl⟩, q⟩
def W.many : W → Bool
  | .lst _ _ => true
  | .tup _ => true
  | _ => false
def showOk (d : PyData) : Prop := d.showable = true ∧ d.hasDict = false ∧ d.depth ≤ 20 ∧ d.shown.length ≤ 4000
instance {d : PyData} : Decidable (showOk d) := inferInstanceAs (Decidable (_ ∧ _ ∧ _ ∧ _))
def strXW : W → Option W
  | .int i => if i.natAbs.log2 < 1920 then some (.str (toString i)) else none
  | .str s => some (.str s)
  | .non => some (.str "None")
  | .bl b => some (.str (if b = true then "True" else "False"))
  | .edc => some (.str (PyData.dict []).shown)
  | w => if w.many = true ∧ w.fd = true ∧ showOk w.dat then some (.str w.dat.shown) else none
section
variable {Z : Zt} {e : Expr} {m : Sm W} {p k1 : Bool} {p1 p2 : Pos}
theorem many_ref {D : Dn} {G H : Hp} {w : W} {v : V} {O : List Addr} (s : Sub G H) (r : RO D G H w v O) (h : w.many = true) : ∃ a, v = .ref a := by
  cases w with
  | lst b ws => obtain ⟨a, _, rfl, _⟩ := r.lstAt s; exact ⟨a, rfl⟩
  | tup ws => obtain ⟨_, a, _, rfl, _⟩ := r; exact ⟨a, rfl⟩
  | _ => cases h
theorem me_strX (hk : Z.X.A.guards = some []) (hu : Z.X.A.units + 64 < cLine) (hm : Z.X.mg "str" = none) (ha : ME Z e m p k1) (hg : Gl Z.X "str" := by rfl) (hs : starEach [e] Z.X.env = (false, eval e Z.X.env) :: starEach [] Z.X.env := by rfl) : ME Z (.Call (.Name "str" p1) [e] [] p2) (mUn strXW m) p true :=
  me_t1 (fun G H w1 v1 O1 w Q s r e q => by
    have many : ∀ w1 : W, w1.many = true → RO Z.D G H w1 v1 O1 → (if w1.many = true ∧ w1.fd = true ∧ showOk w1.dat then some (W.str w1.dat.shown) else none) = some w → clAny Z.X (.type "str") [v1] H Q := fun w1 hm r e => by
      by_cases c : w1.many = true ∧ w1.fd = true ∧ showOk w1.dat
      · rw [if_pos c] at e
        cases e
        obtain ⟨a, rfl⟩ := many_ref s r hm
        refine ⟨_, call_str_ref hk hu, a, w1.dat, rfl, fun pins σ t I => ?_, c.2.2.1, c.2.2.2.2.1, Nat.le_trans c.2.2.2.2.2 (by rw [sizeLine_eq]; omega), q.str s⟩
        obtain ⟨as, h1⟩ := Dp.reads I w1.dat (.ref a) (.ref a) (RO.dp s r c.2.1) rfl
        exact ⟨as, h1, fun z => by rw [c.2.2.2.1] at z; cases z⟩
      · rw [if_neg c] at e
        cases e
    cases w1 with
    | int i =>
      have e' : (if i.natAbs.log2 < 1920 then some (W.str (toString i)) else none) = some w := e
      by_cases hl : i.natAbs.log2 < 1920
      · rw [if_pos hl] at e'
        cases e'
        obtain ⟨_, rfl⟩ := r
        exact ⟨_, call_str_int, i, rfl, hl, q.str s⟩
      · rw [if_neg hl] at e'; cases e'
    | str z =>
      cases e
      obtain ⟨_, rfl⟩ := r
      exact ⟨_, call_str_str, z, rfl, q.str s⟩
    | non =>
      cases e
      obtain ⟨_, rfl⟩ := r
      exact ⟨_, call_str_non, rfl, q.str s⟩
    | bl b =>
      cases e
      obtain ⟨_, rfl⟩ := r
      exact ⟨_, call_str_bl, b, rfl, q.str s⟩
    | edc =>
      cases e
      obtain ⟨_, a, rfl, h⟩ := r
      refine ⟨_, call_str_ref hk hu, a, .dict [], rfl, fun pins σ t I => ?_, by rfl, by decide, by rw [sizeLine_eq]; decide, q.str s⟩
      obtain ⟨_, hS, vs, rel, o, es, ep, h1, h2, h3, _, h4, _⟩ := dk_of I.hok (s _ _ h)
      cases rel
      have h5 : es.toList = [] := List.eq_nil_of_length_eq_zero h4.length
      have rd : Reads t.heap (.ref a) (.dict []) (a :: [] ++ []) := Reads.dict h1 h2.1 h3 (by rw [h5]; exact ReadsAll.nil) (by rw [h5]; exact ReadsAll.nil)
      refine ⟨_, rd, fun _ z => ?_⟩
      rw [List.append_nil, List.mem_singleton] at z
      rw [z] at hS
      simp at hS
    | lst b ws => exact many _ rfl r e
    | tup ws => exact many _ rfl r e
    | _ => cases e) hg hm PyProof.Rows.boot_str ha (by decide) (by decide) hs
end
end Ev

namespace Ev
open PySem PySem.Spec PyProof.Rows L2

/-! ### the law's own body, at the place from which the law is called (no text is being made there) -/
section
variable {P : Program} {w : World} {K : PySem.W.Frag} {mg : Str → Option Value} {base : Heap} {CA : Nat → Addr}
/-- what a def answers when called from the place A0 -/
def AnsAt (A0 : Around) (outer : List Env) (P : Program) (w : World) (K : PySem.W.Frag) (mg : Str → Option Value) (base : Heap) (f : Addr) (fd : FuncData) (ps : List Str) (sp : Sp) : Prop :=
  ∀ (s : Shared) (H : Hp) (args : Args) (us : List Value) (vs : List V) (Q : VK) (E : XK), Env0 P w K mg base A0 outer s H → BindsTo s fd args (ps.zip us) → Vals vs us → sp vs H Q E →
    codeAny (model P w) A0 (.call (.ref f) args) (CR (L2.CX P w) outer P w H s Q E) s
theorem ans_at {A0 : Around} {outer : List Env} {x qual : Str} {st : Stmt} {f : Addr} {fd : FuncData} {N ps : List Str} {k : Nat} {sp : Sp} (hr : Room (k + 1) A0) (F : Fun K x qual st f fd) (S : FnScope N ps (defScope st)) (len : ∀ vs H Q E, sp vs H Q E → vs.length = ps.length)
    (hbody : ∀ (cdv : Value) (s : Shared) (H : Hp) (vs : List V) (Q : VK) (E : XK), sp vs H Q E →
      ∃ t, PSs (cxOf (L2.CX P w) P w K mg base N qual (defScope st) f cdv A0 outer s H E) (defBody st) t ∧ t { nx := fun _ H' => Q .non H', rt := Q } (start N vs) H) : AnsAt A0 outer P w K mg base f fd ps sp := by
  intro s H args us vs Q E e0 hb r hsp
  obtain ⟨oc, od, kV, doc, pm, an, cdv, ct, osl, rfl, lk, hcd⟩ := F.ex
  have old : ∀ b o, base.get? b = some o → s.heap.get? b = some o := fun b o e => (e0.bs b o e).1
  have hK := e0.mod.kin.keeps old
  refine codeAny_call_function hr.depth (hK _ _ lk) rfl S.co S.gen rfl (PySem.W.codeRec_of hK hcd) (hb _ _ _ _ (wpAny_newFunctionEnv_cells S.kind (fun y hy => ?_) fun env he s1 x => ?_))
  · rcases S.par y.1 (List.of_mem_zip (a := y.1) (b := y.2) hy).1 with q | q
    · exact .inl q
    · exact .inr ⟨q, PySem.W.cellsFrom_some _ _ _ (.inl q)⟩
  subst he
  obtain ⟨t, ht, hq⟩ := hbody cdv s H vs Q E hsp
  have I := inv_start (CX := L2.CX P w) (E := E) S hr.hd e0 (len _ _ _ _ hsp) r x
  refine ⟨(e0.mod.nolimit.keeps old).keeps x.toInCall.keep, codeAny_func (wpAny_mono (ht.run [] s1 _ H _ I hq) (fun fl s' z => ?_) fun _ _ z => z)⟩
  have fin : ∀ {σ' : L2.St} {H' : Hp} {v : V} {u : Value}, Inv (cxOf (L2.CX P w) P w K mg base N qual (defScope st) f cdv A0 outer s H E) [] σ' H' s' → RelV v u → Q v H' → CE outer P w H s Q u s' := fun J rv q => ⟨_, _, J.os, J.bare, J.base, J.hok, rv, q⟩
  match fl, z with
  | .ret u, ⟨v, σ', H', J, rv, q⟩ => exact fin J rv q
  | .next, ⟨σ', H', J, q⟩ => exact fin (v := V.non) J rfl q
  | .brk, ⟨_, _, _, q⟩ => exact q.elim
  | .cont, ⟨_, _, _, q⟩ => exact q.elim
/-- as fn_body, called from A0 -/
theorem top_body {A0 : Around} {outer : List Env} {x qual : Str} {st : Stmt} {f : Addr} {fd : FuncData} {N ps : List Str} {k : Nat} {io : List Bool} {body : Sm Fl} {nN : Nat} (hr : Room (k + 1) A0) (F : Fun K x qual st f fd) (S : FnScope N ps (defScope st)) (hn : N.length = nN)
    (hio : io.length = ps.length) (hbody : ∀ (cdv : Value) (s : Shared) (H : Hp) (E : XK), Room k (A0.deeper (PyProof.Rows.envOfC qual (defScope st) s.heap.objs.size f cdv)) →
      MSs (Zf P w K mg base CA N qual (defScope st) f cdv A0 outer s H E io) (defBody st) body) : AnsAt A0 outer P w K mg base f fd ps (spOf ⟨K, CA⟩ ps.length (fnSem nN io body)) := by
  refine ans_at hr F S (fun vs H Q E h => h.1) fun cdv s H vs Q E hsp => ⟨_, hbody cdv s H E (hr.deeper _), ?_⟩
  obtain ⟨hl, ws, G, O, sub, ro, nd, gn, q⟩ := hsp
  obtain ⟨Os, e, sl⟩ := ro.slots
  have lw : ws.length = vs.length := ro.len
  have hlN : ps.length ≤ N.length := by have := congrArg List.length S.pre; rw [List.length_take] at this; omega
  refine ⟨ws ++ List.replicate (nN - ws.length) .dead, G, Os ++ List.replicate (nN - ws.length) [], ⟨?_, sub, ?_, ?_⟩, ?_⟩
  · have z := sl.app (Sl.deads (D := ⟨K, CA⟩) (G := G) (H := H) (nN - ws.length))
    unfold L2.start
    rw [hn, ← lw]
    exact z
  · rw [List.flatten_append, flat_reps, List.append_nil, e]; exact gn
  · rw [List.flatten_append, flat_reps, List.append_nil, e]; exact nd
  have fO : (Os ++ List.replicate (nN - ws.length) ([] : List Addr)).flatten = O := by rw [List.flatten_append, flat_reps, List.append_nil, e]
  have slot : ∀ {σ' : L2.St}, IoS (ioF io) (start N vs) σ' → ∀ i, io.getD i false = true → σ'[i]? = some vs[i]? := fun {σ'} h i hi => by
    rw [h i hi]
    have hi' : i < io.length := by
      rcases Nat.lt_or_ge i io.length with z | z
      · exact z
      · rw [List.getD_eq_getElem?_getD, List.getElem?_eq_none z] at hi; cases hi
    have hv : i < vs.length := by rw [hl, ← hio]; exact hi'
    unfold L2.start
    rw [List.getElem?_append_left (by rw [List.length_map]; exact hv), List.getElem?_map, List.getElem?_eq_getElem hv]
    rfl
  have fin : ∀ {env' : List W} {σ' : L2.St} {G' H' : Hp} {Os' : List (List Addr)} {Ow : List Addr}, StOk ⟨K, CA⟩ G' H' env' σ' Os' → (Os'.flatten ++ Ow).Nodup → (∀ a ∈ Ow, G' a = none) → Step G H O G' H' (Os'.flatten ++ Ow) → IoS (ioF io) (start N vs) σ' →
      ∃ O', ROs ⟨K, CA⟩ G' H' (maskL io env') vs O' ∧ (O' ++ Ow).Nodup ∧ (∀ a ∈ O' ++ Ow, G' a = none) ∧ Step G H O G' H' (O' ++ Ow) := fun {env' σ' G' H' Os' Ow} s nd gn st io' => by
    obtain ⟨O', r, sl⟩ := s.sl.mask (by rw [hl, hio]) (slot io')
    have s2 : List.Sublist (O' ++ Ow) (Os'.flatten ++ Ow) := List.Sublist.append sl (List.Sublist.refl _)
    refine ⟨O', r, nd.sublist s2, fun a ha => ?_, st.less fun a ha => s2.subset ha⟩
    rcases List.mem_append.mp ha with z | z
    · exact s.gn a (sl.subset z)
    · exact gn a z
  unfold fnSem at q
  cases eb : body (ws ++ List.replicate (nN - ws.length) .dead) with
  | bad => simp only [eb] at q
  | ex c env' =>
    simp only [eb] at q
    intro σ' G' H' Os' s' t io'
    rw [fO] at t
    obtain ⟨O', a1, a2, a3, a4⟩ := fin (Ow := []) s' (by rw [List.append_nil]; exact s'.nd) (fun _ z => nomatch z) (by rw [List.append_nil]; exact t) io'
    rw [List.append_nil] at a2 a3 a4
    exact q G' H' O' s'.sub a1 a2 a3 a4
  | ok fl env' =>
    cases fl with
    | nx =>
      simp only [eb] at q
      intro σ' G' H' Os' s' t io'
      rw [fO] at t
      obtain ⟨O', a1, a2, a3, a4⟩ := fin (Ow := []) s' (by rw [List.append_nil]; exact s'.nd) (fun _ z => nomatch z) (by rw [List.append_nil]; exact t) io'
      exact q .non G' H' O' [] s'.sub a1 ⟨rfl, rfl⟩ a2 a3 a4
    | bk => simp only [eb] at q
    | ct => simp only [eb] at q
    | rt w =>
      simp only [eb] at q
      intro v σ' G' H' Os' Ow s' r o t io'
      rw [fO] at t
      obtain ⟨O', a1, a2, a3, a4⟩ := fin s' o.1 o.2 t io'
      exact q v G' H' O' Ow s'.sub a1 r a2 a3 a4
end
/-- the law's list is the module's own or nobody's: an abstract heap that tells it -/
theorem script_heap {P : Program} {w : World} {K : PySem.W.Frag} {h : Heap} {a : Addr} {vs : List Value} {ns : List Int} (KX : K.In h) (ha : h.get? a = some { cls := .type "list", data := .seq vs.toArray }) (hi : IntsAre vs ns) (hl : ns.length ≤ sizeLine) :
    ∃ H : Hp, SqL K H a (ns.map V.int) ∧ HOk P w H h ∧ (∀ b, H b = none ∨ (b = a ∧ K.lookup a = none ∧ ∃ o xs, H b = some (.frz o (.lst xs)))) := by
  have rv := vals_ints hi
  cases hk : K.lookup a with
  | some o =>
    have e := KX a o hk
    rw [ha] at e
    cases e
    exact ⟨fun _ => none, .inr ⟨_, vs.toArray, _, hk, rfl, rfl, rfl, by rw [List.size_toArray, hi.length]; exact hl, by simpa using rv⟩, fun b u z => (nomatch (show (none : Option HO) = some u from z)), fun _ => .inl rfl⟩
  | none =>
    refine ⟨fun b => if b = a then some (.frz { cls := .type "list", data := .seq vs.toArray } (.lst (ns.map V.int))) else none, .inl (.inr ⟨_, if_pos rfl⟩), fun b u z => ?_, fun b => ?_⟩
    · by_cases hb : b = a
      · cases (if_pos hb).symm.trans z
        subst hb
        exact ⟨ha, by rw [List.length_map]; exact hl, vs, _, rv, ha⟩
      · cases (if_neg hb).symm.trans z
    · by_cases hb : b = a
      · exact .inr ⟨hb, rfl, _, _, if_pos hb⟩
      · exact .inl (if_neg hb)
theorem top_call {P : Program} {w : World} {K : PySem.W.Frag} {mg mb : Str → Option Value} {fa a : Addr} {fd : FuncData} {x : Str} {sp : Sp} {s₁ : Shared} {vs : List Value} {ns : List Int}
    (KX : K.In s₁.heap) (hns : s₁.heap.Ns mainGlobals mg) (hb : s₁.heap.Ns builtinsNs mb) (hbb : ∀ x : Str, x ≠ "__name__" → mb x = bootBuiltins x) (hlim : s₁.heap.NoLimit) (hg : s₁.gens = #[])
    (ha : s₁.heap.get? a = some { cls := .type "list", data := .seq vs.toArray }) (hi : IntsAre vs ns) (hl : ns.length ≤ sizeLine)
    (F : ∀ base : Heap, AnsAt callerA [] P w K mg base fa fd [x] sp) (hbind : ∀ (s : Shared) (u : Value), BindsTo s fd ⟨[u], []⟩ [(x, u)])
    (hsp : ∀ H : Hp, SqL K H a (ns.map V.int) → sp [.ref a] H (fun v _ => v = .bl true) fun _ _ _ => False)
    (hCX : ∀ H e s', L2.CX P w [] H s₁ (fun _ _ _ => False) e s' → False) :
    codeAny (model P w) callerA (.call (.ref fa) ⟨[.ref a], []⟩) (fun r s' => r = .ok (.ret (.bool true)) ∧ OldK s₁.heap s'.heap ∧ s'.os = s₁.os ∧ AllBare s'.gens) s₁ := by
  obtain ⟨H, hS, hok, hH⟩ := script_heap (P := P) (w := w) KX ha hi hl
  -- what lies in the heap and is no list stays in sight
  have see : ∀ {b : Addr} {o : Obj}, s₁.heap.get? b = some o → (b = a → K.lookup a = none → False) → (hidT s₁.heap H).get? b = some o := fun e n => hidT_get e ((hH _).elim id fun z => (n z.1 z.2.1).elim)
  have seeN : ∀ {b : Addr} {m : Str → Option Value}, s₁.heap.Ns b m → (hidT s₁.heap H).Ns b m := fun {b m} ⟨o, es, ep, e, d, r⟩ => by
    refine ⟨o, es, ep, see e fun z _ => ?_, d, r⟩
    subst z
    rw [ha] at e
    cases e
    exact Data.noConfusion d
  have hK : K.In (hidT s₁.heap H) := fun b o e => see (KX b o e) fun z n => by subst z; rw [n] at e; cases e
  obtain ⟨mc, l1, l2⟩ := hlim
  have e0 : Env0 P w K mg (hidT s₁.heap H) callerA [] s₁ H := ⟨rfl, ⟨hK, seeN hns, ⟨mb, seeN hb, hbb⟩, mc, seeN l1, l2⟩, fun b o e => of_hidT e, Nat.le_of_eq (hidT_size _ _), trivial, fun b z => (nomatch (show b ∈ ([] : List Addr) from z)), hok, .of_eq hg⟩
  refine codeAny_mono (F _ s₁ H ⟨[.ref a], []⟩ [.ref a] [.ref a] _ _ e0 (hbind s₁ (.ref a)) (.cons rfl .nil) (hsp H hS)) fun r s' h => ?_
  match r, h with
  | .error e, h => exact (hCX H e s' h).elim
  | .ok (.ret u), ⟨v, H', os, bare, un, hok', r', q⟩ =>
    have q' : v = .bl true := q
    subst q'
    obtain rfl : u = Value.bool true := r'
    refine ⟨rfl, OldK.of_keep fun b o e => ?_, os, bare⟩
    rcases hH b with z | ⟨_, _, ob, xs, z⟩
    · exact un.keep b o e z (fun y => nomatch (show b ∈ ([] : List Addr) from y)) (fun y => nomatch y)
    · obtain ⟨e1, _⟩ := hok b _ z
      obtain ⟨e2, _⟩ := hok' b _ (un.frzs b ob _ z)
      rw [e] at e1
      cases e1
      exact e2
  | .ok .next, h => exact h.elim
  | .ok .brk, h => exact h.elim
  | .ok .cont, h => exact h.elim
/-- as walk_top, the law's body walked at the caller's place -/
theorem walk_topA {l : PySem.W.OpenLaw} {q : Program} {loose : List Str} {XP : (Str → Option Value) → Heap → Prop} {YP : World → Heap → Prop} {d : PySem.DefRec} {K : Params → PySem.W.Frag} (g : Fn)
    (hn : l.most = some 63) (hdf : d.params.defaults = []) (hY : ∀ (w : World) (h : Heap), YP w h → (K w.params).In h)
    (F : ∀ (w : World) (mg : Str → Option Value) (fa : Addr) (h : Heap), (K w.params).In h → h.Ns mainGlobals mg → mg d.name = some (.ref fa) →
      ∃ fd : FuncData, (∀ (s : Shared) (u : Value), BindsTo s fd ⟨[u], []⟩ [("script", u)]) ∧ ∃ CA : Nat → Addr, ∀ base : Heap, AnsAt callerA [] l.prog w (K w.params) mg base fa fd ["script"] (spOf ⟨K w.params, CA⟩ 1 g))
    (law : ∀ ns : List Int, ns.length ≤ 63 → (∀ z ∈ ns, Builtin.Int.intBits z ≤ 1048576) → ∃ ws, g [.scr (ns.map W.int)] = .ok (.bl true) ws) :
    PySem.W.WalkO q loose XP YP l.row.toRowW d [] (fun f vs => PySem.call f vs) := by
  refine Att.attach_callB hn hdf fun w s₀ s₁ mg mb fa o pm cd doc a vs ns G Y ho hd hcd hmg hobj hints hlen hbits hg => ?_
  have KX := hY w _ Y
  obtain ⟨fd, hb, CA, hF⟩ := F w mg fa _ KX G.T.g hmg
  refine top_call KX G.T.g G.T.b G.T.builtins G.T.nolimit hg hobj hints (Nat.le_trans hlen (by decide)) hF hb (fun H hS => ?_) fun H e s' z => ?_
  · obtain ⟨ws, e⟩ := law ns hlen hbits
    exact spTop_of e hS CA
  · obtain ⟨_, _, _, _, _, _, _, _, _, _, _, _, z⟩ := z
    exact z
end Ev

namespace Ev
open PySem PySem.Spec L2
def topS (i : Nat) : Stmt := PySem.Challenge.pw_evenlots_k45_texts_of_no_rows.main.body.getD i (.Pass ⟨0, 0, 0, 0⟩)
theorem boot_VE : bootBuiltins "ValueError" = some (.type "ValueError") := by decide +kernel
section
variable {P : Program} {w : World} {K : PySem.W.Frag} {mg : Str → Option Value} {base : Heap} {CA : Nat → Addr}
/-! ### is_whole_number -/
abbrev s_is_whole_number : Stmt := topS 11
abbrev N_is_whole_number : List Str := ["thing"]
theorem sc_is_whole_number : FnScope N_is_whole_number ["thing"] (defScope s_is_whole_number) := ⟨rfl, rfl, rfl, by decide +kernel, rfl, by decide +kernel, by decide +kernel⟩
noncomputable def b_is_whole_number : Sm Fl := sRet true (mAndV (mUn (isiW ["int"]) (mVar 0)) (mNotV (mUn (isiW ["bool"]) (mVar 0))))
noncomputable def f_is_whole_number : Fn := fnSem 1 [false] b_is_whole_number
theorem w_is_whole_number {f : Addr} {fd : FuncData} (F : Fun K "is_whole_number" "is_whole_number" s_is_whole_number f fd) (g : mg "is_whole_number" = some (.ref f)) (hb : Binds K fd ["thing"] []) (m_bool : mg "bool" = none) (m_int : mg "int" = none) (m_isinstance : mg "isinstance" = none) : FnT P w K mg base CA "is_whole_number" 1 1 f_is_whole_number :=
  fnt_body F g hb sc_is_whole_number rfl rfl rfl fun cdv A outer s H E hr => (mss_one (ms_ret (me_and (p1 := true) (p2 := true) (me_isi ["int"] (ca_ty (by rfl) m_int PyProof.Rows.boot_int) m_isinstance (me_var 0 (pv 0))) (me_one (me_not (me_isi ["bool"] (ca_ty (by rfl) m_bool PyProof.Rows.boot_bool) m_isinstance (me_var 0 (pv 0))))))))
/-! ### is_tag -/
abbrev s_is_tag : Stmt := topS 12
abbrev N_is_tag : List Str := ["thing", "sign"]
theorem sc_is_tag : FnScope N_is_tag ["thing"] (defScope s_is_tag) := ⟨rfl, rfl, rfl, by decide +kernel, rfl, by decide +kernel, by decide +kernel⟩
noncomputable def c_is_tag_1 : Sm W := mComp true (tgN 1) (toB (mBin (inW true) true (mVar 1) (mC (.str "abcdefghijklmnopqrstuvwxyz")))) (mVar 1) [1] (iChr (mVar 0))
noncomputable def b_is_tag : Sm Fl := sSeq (sIf (mOr (mNot (toB (mUn (isiW ["str"]) (mVar 0)))) (mNot (toB (mChain leXW leXW (mC (.int 1)) (mUn lenW (mVar 0)) (mC (.int 8)))))) (sRet true (mC (.bl false))) (sNil)) (sRet true (mBin eqW true (c_is_tag_1) (mArgs (lstW true) (mNil))))
noncomputable def f_is_tag : Fn := fnSem 2 [false] b_is_tag
theorem w_is_tag {f : Addr} {fd : FuncData} (F : Fun K "is_tag" "is_tag" s_is_tag f fd) (g : mg "is_tag" = some (.ref f)) (hb : Binds K fd ["thing"] []) (m_isinstance : mg "isinstance" = none) (m_len : mg "len" = none) (m_str : mg "str" = none) {t_LETTERS : Tok} (c_LETTERS : mg "LETTERS" = some (.str "abcdefghijklmnopqrstuvwxyz" t_LETTERS)) {t_LONGEST_TAG : Tok} (c_LONGEST_TAG : mg "LONGEST_TAG" = some (.int 8 t_LONGEST_TAG)) : FnT P w K mg base CA "is_tag" 1 1 f_is_tag :=
  fnt_body F g hb sc_is_tag rfl rfl rfl fun cdv A outer s H E hr => (mss_cons (ms_if (mt_w (mw_or (p1 := true) (p2 := true) (mt_not (mt_val (me_isi ["str"] (ca_ty (by rfl) m_str PyProof.Rows.boot_str) m_isinstance (me_var 0 (pv 0))))) (mw_or1 (mt_not (mt_chain (op_leXW hr) (op_leXW hr) me_int (me_len m_len (me_var 0 (pv 0))) (me_globI (by rfl) (c_LONGEST_TAG))))))) (mss_one (ms_ret me_bl)) mss_nil) (mss_one (ms_ret (me_cmp (p1 := true) (p2 := true) (k1 := true) (op_eqW hr) (me_lc rfl sc_is_tag.nd (own := [("sign", 1)]) (p := true) (pt := true) (pe := true) (mi_chr (me_var 0 (pv 0))) (show BlkOk N_is_tag (defScope s_is_tag) _ _ from blkOk_by (own := [("sign", 1)]) (by decide +kernel)) (fun _ _ _ _ _ => (mg_name (i := 1) sc_is_tag.nd)) (fun _ _ _ _ _ => (mts_one (mt_cmp (p1 := true) (p2 := true) (k1 := false) (op_notInW hr) (me_var 1 (pv 1)) (me_globS (by rfl) (c_LETTERS))))) (fun _ _ _ _ _ => (me_var 1 (pv 1)))) (me_lst true ma_nil)))))
/-! ### is_keyed -/
abbrev s_is_keyed : Stmt := topS 13
abbrev N_is_keyed : List Str := ["thing"]
theorem sc_is_keyed : FnScope N_is_keyed ["thing"] (defScope s_is_keyed) := ⟨rfl, rfl, rfl, by decide +kernel, rfl, by decide +kernel, by decide +kernel⟩
noncomputable def b_is_keyed : Sm Fl := sRet true (mAndV (mUn (isiW ["tuple"]) (mVar 0)) (mAndV (mBin eqW true (mUn lenW (mVar 0)) (mC (.int 2))) (mAndV (mCallP f_is_whole_number (Sm.bind (mCons (mBin ixW true (mVar 0) (mC (.int 0))) (mNil)) fun ws => if ws.length = 1 then Sm.ret ws else fun _ => .bad)) (mCallP f_is_tag (Sm.bind (mCons (mBin ixW true (mVar 0) (mC (.int 1))) (mNil)) fun ws => if ws.length = 1 then Sm.ret ws else fun _ => .bad)))))
noncomputable def f_is_keyed : Fn := fnSem 1 [false] b_is_keyed
theorem w_is_keyed {f : Addr} {fd : FuncData} (F : Fun K "is_keyed" "is_keyed" s_is_keyed f fd) (g : mg "is_keyed" = some (.ref f)) (hb : Binds K fd ["thing"] []) (m_isinstance : mg "isinstance" = none) (m_len : mg "len" = none) (m_tuple : mg "tuple" = none) (F_is_whole_number : FnT P w K mg base CA "is_whole_number" 1 1 f_is_whole_number) (F_is_tag : FnT P w K mg base CA "is_tag" 1 1 f_is_tag) : FnT P w K mg base CA "is_keyed" 1 2 f_is_keyed :=
  fnt_body F g hb sc_is_keyed rfl rfl rfl fun cdv A outer s H E hr => (mss_one (ms_ret (me_and (p1 := true) (p2 := true) (me_isi ["tuple"] (ca_ty (by rfl) m_tuple PyProof.Rows.boot_tuple) m_isinstance (me_var 0 (pv 0))) (me_and (p1 := true) (p2 := true) (me_cmp (p1 := true) (p2 := true) (k1 := true) (op_eqW hr) (me_len m_len (me_var 0 (pv 0))) me_int) (me_and (p1 := true) (p2 := true) (me_callP F_is_whole_number (hr.mono (by decide)) zf_takes (ma_cons (p1 := true) (p2 := true) (me_ix (p1 := true) (p2 := true) (k1 := false) (me_var 0 (pv 0)) me_int) ma_nil) (by rfl)) (me_one (me_callP F_is_tag (hr.mono (by decide)) zf_takes (ma_cons (p1 := true) (p2 := true) (me_ix (p1 := true) (p2 := true) (k1 := false) (me_var 0 (pv 0)) me_int) ma_nil) (by rfl))))))))
/-! ### is_row -/
abbrev s_is_row : Stmt := topS 14
abbrev N_is_row : List Str := ["thing", "one"]
theorem sc_is_row : FnScope N_is_row ["thing"] (defScope s_is_row) := ⟨rfl, rfl, rfl, by decide +kernel, rfl, by decide +kernel, by decide +kernel⟩
noncomputable def c_is_row_1 : Sm W := mComp true (tgN 1) (mNot (toB (mCallP f_is_keyed (Sm.bind (mCons (mVar 1) (mNil)) fun ws => if ws.length = 1 then Sm.ret ws else fun _ => .bad)))) (mVar 1) [1] (iLst (mVar 0))
noncomputable def b_is_row : Sm Fl := sRet true (mAndV (mUn (isiW ["list"]) (mVar 0)) (mBin eqW true (c_is_row_1) (mArgs (lstW true) (mNil))))
noncomputable def f_is_row : Fn := fnSem 2 [false] b_is_row
theorem w_is_row {f : Addr} {fd : FuncData} (F : Fun K "is_row" "is_row" s_is_row f fd) (g : mg "is_row" = some (.ref f)) (hb : Binds K fd ["thing"] []) (m_isinstance : mg "isinstance" = none) (m_list : mg "list" = none) (F_is_keyed : FnT P w K mg base CA "is_keyed" 1 2 f_is_keyed) : FnT P w K mg base CA "is_row" 1 3 f_is_row :=
  fnt_body F g hb sc_is_row rfl rfl rfl fun cdv A outer s H E hr => (mss_one (ms_ret (me_and (p1 := true) (p2 := true) (me_isi ["list"] (ca_ty (by rfl) m_list PyProof.Rows.boot_list) m_isinstance (me_var 0 (pv 0))) (me_one (me_cmp (p1 := true) (p2 := true) (k1 := true) (op_eqW hr) (me_lc rfl sc_is_row.nd (own := [("one", 1)]) (p := true) (pt := true) (pe := true) (mi_list (me_var 0 (pv 0))) (show BlkOk N_is_row (defScope s_is_row) _ _ from blkOk_by (own := [("one", 1)]) (by decide +kernel)) (fun _ _ _ _ _ => (mg_name (i := 1) sc_is_row.nd)) (fun _ _ _ _ _ => (mts_one (mt_not (mt_val (me_callP F_is_keyed (hr.mono (by decide)) blk_takes (ma_cons (p1 := true) (p2 := true) (me_var 1 (pv 1)) ma_nil) (by rfl)))))) (fun _ _ _ _ _ => (me_var 1 (pv 1)))) (me_lst true ma_nil))))))
/-! ### are_rows -/
abbrev s_are_rows : Stmt := topS 15
abbrev N_are_rows : List Str := ["thing", "row"]
theorem sc_are_rows : FnScope N_are_rows ["thing"] (defScope s_are_rows) := ⟨rfl, rfl, rfl, by decide +kernel, rfl, by decide +kernel, by decide +kernel⟩
noncomputable def c_are_rows_1 : Sm W := mComp true (tgN 1) (mNot (toB (mCallP f_is_row (Sm.bind (mCons (mVar 1) (mNil)) fun ws => if ws.length = 1 then Sm.ret ws else fun _ => .bad)))) (mVar 1) [1] (iLst (mVar 0))
noncomputable def b_are_rows : Sm Fl := sSeq (sIf (mOr (mNot (toB (mUn (isiW ["list"]) (mVar 0)))) (mNot (toB (mChain leXW leXW (mC (.int 1)) (mUn lenW (mVar 0)) (mC (.int 6)))))) (sRet true (mC (.bl false))) (sNil)) (sRet true (mBin eqW true (c_are_rows_1) (mArgs (lstW true) (mNil))))
noncomputable def f_are_rows : Fn := fnSem 2 [false] b_are_rows
theorem w_are_rows {f : Addr} {fd : FuncData} (F : Fun K "are_rows" "are_rows" s_are_rows f fd) (g : mg "are_rows" = some (.ref f)) (hb : Binds K fd ["thing"] []) (m_isinstance : mg "isinstance" = none) (m_len : mg "len" = none) (m_list : mg "list" = none) {t_MOST_HANDS : Tok} (c_MOST_HANDS : mg "MOST_HANDS" = some (.int 6 t_MOST_HANDS)) (F_is_row : FnT P w K mg base CA "is_row" 1 3 f_is_row) : FnT P w K mg base CA "are_rows" 1 4 f_are_rows :=
  fnt_body F g hb sc_are_rows rfl rfl rfl fun cdv A outer s H E hr => (mss_cons (ms_if (mt_w (mw_or (p1 := true) (p2 := true) (mt_not (mt_val (me_isi ["list"] (ca_ty (by rfl) m_list PyProof.Rows.boot_list) m_isinstance (me_var 0 (pv 0))))) (mw_or1 (mt_not (mt_chain (op_leXW hr) (op_leXW hr) me_int (me_len m_len (me_var 0 (pv 0))) (me_globI (by rfl) (c_MOST_HANDS))))))) (mss_one (ms_ret me_bl)) mss_nil) (mss_one (ms_ret (me_cmp (p1 := true) (p2 := true) (k1 := true) (op_eqW hr) (me_lc rfl sc_are_rows.nd (own := [("row", 1)]) (p := true) (pt := true) (pe := true) (mi_list (me_var 0 (pv 0))) (show BlkOk N_are_rows (defScope s_are_rows) _ _ from blkOk_by (own := [("row", 1)]) (by decide +kernel)) (fun _ _ _ _ _ => (mg_name (i := 1) sc_are_rows.nd)) (fun _ _ _ _ _ => (mts_one (mt_not (mt_val (me_callP F_is_row (hr.mono (by decide)) blk_takes (ma_cons (p1 := true) (p2 := true) (me_var 1 (pv 1)) ma_nil) (by rfl)))))) (fun _ _ _ _ _ => (me_var 1 (pv 1)))) (me_lst true ma_nil)))))
/-! ### key_from -/
abbrev s_key_from : Stmt := topS 19
abbrev N_key_from : List Str := ["word", "figures", "sign"]
theorem sc_key_from : FnScope N_key_from ["word"] (defScope s_key_from) := ⟨rfl, rfl, rfl, by decide +kernel, rfl, by decide +kernel, by decide +kernel⟩
noncomputable def c_key_from_1 : Sm W := mComp true (tgN 2) (toB (mBin (inW true) true (mVar 2) (mC (.str "0123456789")))) (mVar 2) [2] (iChr (mVar 1))
noncomputable def b_key_from : Sm Fl := sSeq (sSet 1 false (mVar 0)) (sSeq (sIf (toB (mBin eqW true (mSlice false true (mVar 0) (mNo) (mPart (mC (.int 1)))) (mC (.str "-")))) (sSet 1 true (mSlice false true (mVar 0) (mPart (mC (.int 1))) (mNo))) (sNil)) (sSeq (sIf (mOr (toB (mBin eqW true (mVar 1) (mC (.str "")))) (mOr (toB (mBin gtW true (mUn lenW (mVar 1)) (mC (.int 30)))) (toB (mBin neW true (mFz (c_key_from_1)) (mArgs (lstW false) (mNil)))))) (sRaise 3) (sNil)) (sSeq (sIf (mOr (mAnd (toB (mBin gtW true (mUn lenW (mVar 1)) (mC (.int 1)))) (toB (mBin eqW true (mBin ixW true (mVar 1) (mC (.int 0))) (mC (.str "0"))))) (toB (mBin eqW true (mVar 0) (mC (.str "-0"))))) (sRaise 3) (sNil)) (sRet true (mUn toIntW (mVar 0))))))
noncomputable def f_key_from : Fn := fnSem 3 [false] b_key_from
theorem w_key_from {f : Addr} {fd : FuncData} (F : Fun K "key_from" "key_from" s_key_from f fd) (g : mg "key_from" = some (.ref f)) (hb : Binds K fd ["word"] []) (m_int : mg "int" = none) (m_len : mg "len" = none) {t_FIGURES : Tok} (c_FIGURES : mg "FIGURES" = some (.str "0123456789" t_FIGURES)) {t_MOST_FIGURES : Tok} (c_MOST_FIGURES : mg "MOST_FIGURES" = some (.int 30 t_MOST_FIGURES)) (k_NoText : ClsT K mg CA "NoText" 3) : FnT P w K mg base CA "key_from" 1 1 f_key_from :=
  fnt_body F g hb sc_key_from rfl rfl rfl fun cdv A outer s H E hr => (mss_cons (ms_set (i := 1) sc_key_from.nd (me_var 0 (pv 0))) (mss_cons (ms_if (mt_cmp (p1 := true) (p2 := true) (k1 := true) (op_eqW hr) (me_slice false (p := true) (p1 := true) (p2 := true) (k1 := false) (me_var 0 (pv 0)) mo_no (mo_some me_int)) me_str) (mss_one (ms_set (i := 1) sc_key_from.nd (me_slice false (p := true) (p1 := true) (p2 := true) (k1 := false) (me_var 0 (pv 0)) (mo_some me_int) mo_no))) mss_nil) (mss_cons (ms_if (mt_w (mw_or (p1 := true) (p2 := true) (mt_cmp (p1 := true) (p2 := true) (k1 := false) (op_eqW hr) (me_var 1 (pv 1)) me_str) (mw_or (p1 := true) (p2 := true) (mt_cmp (p1 := true) (p2 := true) (k1 := true) (op_gtW hr) (me_len m_len (me_var 1 (pv 1))) (me_globI (by rfl) (c_MOST_FIGURES))) (mw_or1 (mt_cmp (p1 := true) (p2 := true) (k1 := true) (op_neW hr) (me_fz (me_lc rfl sc_key_from.nd (own := [("sign", 2)]) (p := true) (pt := true) (pe := true) (mi_chr (me_var 1 (pv 1))) (show BlkOk N_key_from (defScope s_key_from) _ _ from blkOk_by (own := [("sign", 2)]) (by decide +kernel)) (fun _ _ _ _ _ => (mg_name (i := 2) sc_key_from.nd)) (fun _ _ _ _ _ => (mts_one (mt_cmp (p1 := true) (p2 := true) (k1 := false) (op_notInW hr) (me_var 2 (pv 2)) (me_globS (by rfl) (c_FIGURES))))) (fun _ _ _ _ _ => (me_var 2 (pv 2))))) (me_lst false ma_nil)))))) (mss_one (ms_raise k_NoText rfl zf_takes (by rfl))) mss_nil) (mss_cons (ms_if (mt_w (mw_or (p1 := true) (p2 := true) (mt_w (mw_and (p1 := true) (p2 := true) (mt_cmp (p1 := true) (p2 := true) (k1 := true) (op_gtW hr) (me_len m_len (me_var 1 (pv 1))) me_int) (mw_and1 (mt_cmp (p1 := true) (p2 := true) (k1 := true) (op_eqW hr) (me_ix (p1 := true) (p2 := true) (k1 := false) (me_var 1 (pv 1)) me_int) me_str)))) (mw_or1 (mt_cmp (p1 := true) (p2 := true) (k1 := false) (op_eqW hr) (me_var 0 (pv 0)) me_str)))) (mss_one (ms_raise k_NoText rfl zf_takes (by rfl))) mss_nil) (mss_one (ms_ret (me_intOf rfl m_int (me_var 0 (pv 0)))))))))
/-! ### thing_from -/
abbrev s_thing_from : Stmt := topS 20
abbrev N_thing_from : List Str := ["word", "key", "mark", "tag"]
theorem sc_thing_from : FnScope N_thing_from ["word"] (defScope s_thing_from) := ⟨rfl, rfl, rfl, by decide +kernel, rfl, by decide +kernel, by decide +kernel⟩
noncomputable def b_thing_from : Sm Fl := sSeq (sAsg (tgT [1, 2, 3]) (mMeth tyStr partW true (mVar 0) (mCons (mC (.str ":")) (mNil)))) (sRet true (mArgs tupW (mCons (mCallP f_key_from (Sm.bind (mCons (mVar 1) (mNil)) fun ws => if ws.length = 1 then Sm.ret ws else fun _ => .bad)) (mCons (mVar 3) (mNil)))))
noncomputable def f_thing_from : Fn := fnSem 4 [false] b_thing_from
theorem w_thing_from {f : Addr} {fd : FuncData} (F : Fun K "thing_from" "thing_from" s_thing_from f fd) (g : mg "thing_from" = some (.ref f)) (hb : Binds K fd ["word"] []) (F_key_from : FnT P w K mg base CA "key_from" 1 1 f_key_from) : FnT P w K mg base CA "thing_from" 1 2 f_thing_from :=
  fnt_body F g hb sc_thing_from rfl rfl rfl fun cdv A outer s H E hr => (mss_cons (ms_asg (me_part (p1 := true) (p2 := true) (k1 := false) (me_var 0 (pv 0)) (ma_cons (p1 := true) (p2 := true) me_str ma_nil)) (mg_tup rfl (mgs_cons (i := 1) sc_thing_from.nd (mgs_cons (i := 2) sc_thing_from.nd (mgs_cons (i := 3) sc_thing_from.nd mgs_nil))))) (mss_one (ms_ret (me_tup (ma_cons (p1 := true) (p2 := true) (me_callP F_key_from (hr.mono (by decide)) zf_takes (ma_cons (p1 := true) (p2 := true) (me_var 1 (pv 1)) ma_nil) (by rfl)) (ma_cons (p1 := true) (p2 := true) (me_var 3 (pv 3)) ma_nil))))))
/-! ### row_from -/
abbrev s_row_from : Stmt := topS 21
abbrev N_row_from : List Str := ["text", "word"]
theorem sc_row_from : FnScope N_row_from ["text"] (defScope s_row_from) := ⟨rfl, rfl, rfl, by decide +kernel, rfl, by decide +kernel, by decide +kernel⟩
noncomputable def c_row_from_1 : Sm W := mCompX (tgN 1) (Sm.ret true) (mCallP f_thing_from (Sm.bind (mCons (mVar 1) (mNil)) fun ws => if ws.length = 1 then Sm.ret ws else fun _ => .bad)) [1] (iLst (mMeth tyStr (split1W false) true (mVar 0) (mCons (mC (.str ", ")) (mNil))))
noncomputable def b_row_from : Sm Fl := sSeq (sIf (toB (mBin eqW true (mVar 0) (mC (.str "-")))) (sRet true (mArgs (lstW true) (mNil))) (sNil)) (sRet true (c_row_from_1))
noncomputable def f_row_from : Fn := fnSem 2 [false] b_row_from
theorem w_row_from {f : Addr} {fd : FuncData} (F : Fun K "row_from" "row_from" s_row_from f fd) (g : mg "row_from" = some (.ref f)) (hb : Binds K fd ["text"] []) (F_thing_from : FnT P w K mg base CA "thing_from" 1 2 f_thing_from) : FnT P w K mg base CA "row_from" 1 3 f_row_from :=
  fnt_body F g hb sc_row_from rfl rfl rfl fun cdv A outer s H E hr => (mss_cons (ms_if (mt_cmp (p1 := true) (p2 := true) (k1 := false) (op_eqW hr) (me_var 0 (pv 0)) me_str) (mss_one (ms_ret (me_lst true ma_nil))) mss_nil) (mss_one (ms_ret (me_lcX zf_takes rfl sc_row_from.nd (own := [("word", 1)]) (p := true) (mi_list (me_split false (p1 := true) (p2 := true) (k1 := false) (me_var 0 (pv 0)) (ma_cons (p1 := true) (p2 := true) me_str ma_nil))) (show BlkOk N_row_from (defScope s_row_from) _ _ from blkOk_by (own := [("word", 1)]) (by decide +kernel)) (fun _ _ _ _ _ _ => (mg_name (i := 1) sc_row_from.nd)) (fun _ _ _ _ _ _ => mts_nil) (fun _ _ _ _ _ _ => (me_callP F_thing_from (hr.mono (by decide)) blkX_takes (ma_cons (p1 := true) (p2 := true) (me_var 1 (pv 1)) ma_nil) (by rfl)))))))
/-! ### read_rows -/
abbrev s_read_rows : Stmt := topS 22
abbrev N_read_rows : List Str := ["text", "rows", "part"]
theorem sc_read_rows : FnScope N_read_rows ["text"] (defScope s_read_rows) := ⟨rfl, rfl, rfl, by decide +kernel, rfl, by decide +kernel, by decide +kernel⟩
noncomputable def c_read_rows_1 : Sm W := mCompNX (tgN 2) (Sm.ret true) (mCallP f_row_from (Sm.bind (mCons (mVar 2) (mNil)) fun ws => if ws.length = 1 then Sm.ret ws else fun _ => .bad)) [2] (iLst (mMeth tyStr (split1W false) true (mVar 0) (mCons (mC (.str "; ")) (mNil))))
noncomputable def b_read_rows : Sm Fl := sSeq (sIf (mNot (toB (mUn (isiW ["str"]) (mVar 0)))) (sRaise 3) (sNil)) (sSeq (sSet 1 true (c_read_rows_1)) (sSeq (sIf (mNot (toB (mLendE 1 (mCallP f_are_rows (Sm.bind (mCons (mVar 1) (mNil)) fun ws => if ws.length = 1 then Sm.ret ws else fun _ => .bad))))) (sRaise 3) (sNil)) (sRet true (mMove 1))))
noncomputable def f_read_rows : Fn := fnSem 3 [false] b_read_rows
theorem w_read_rows {f : Addr} {fd : FuncData} (F : Fun K "read_rows" "read_rows" s_read_rows f fd) (g : mg "read_rows" = some (.ref f)) (hb : Binds K fd ["text"] []) (m_isinstance : mg "isinstance" = none) (m_str : mg "str" = none) (k_NoText : ClsT K mg CA "NoText" 3) (F_are_rows : FnT P w K mg base CA "are_rows" 1 4 f_are_rows) (F_row_from : FnT P w K mg base CA "row_from" 1 3 f_row_from) : FnT P w K mg base CA "read_rows" 1 5 f_read_rows :=
  fnt_body F g hb sc_read_rows rfl rfl rfl fun cdv A outer s H E hr => (mss_cons (ms_if (mt_not (mt_val (me_isi ["str"] (ca_ty (by rfl) m_str PyProof.Rows.boot_str) m_isinstance (me_var 0 (pv 0))))) (mss_one (ms_raise k_NoText rfl zf_takes (by rfl))) mss_nil) (mss_cons (ms_setLcNX (i := 1) zf_takes rfl sc_read_rows.nd (own := [("part", 2)]) (mi_list (me_split false (p1 := true) (p2 := true) (k1 := false) (me_var 0 (pv 0)) (ma_cons (p1 := true) (p2 := true) me_str ma_nil))) (show BlkOk N_read_rows (defScope s_read_rows) _ _ from blkOk_by (own := [("part", 2)]) (by decide +kernel)) (fun _ _ _ _ _ _ => (mg_name (i := 2) sc_read_rows.nd)) (fun _ _ _ _ _ _ => mts_nil) (fun _ _ _ _ _ _ => (me_callP F_row_from (hr.mono (by decide)) blkX_takes (ma_cons (p1 := true) (p2 := true) (me_var 2 (pv 2)) ma_nil) (by rfl)))) (mss_cons (ms_if (mt_not (mt_val (me_lendE 1 (me_callP F_are_rows (hr.mono (by decide)) zf_takes (ma_cons (p1 := true) (p2 := true) (me_var 1 (pv 1)) ma_nil) (by rfl))))) (mss_one (ms_raise k_NoText rfl zf_takes (by rfl))) mss_nil) (mss_one (ms_ret (me_move 1 (pv 1) rfl))))))
/-! ### _law_cell_at -/
abbrev s__law_cell_at : Stmt := topS 24
abbrev N__law_cell_at : List Str := ["script", "k"]
theorem sc__law_cell_at : FnScope N__law_cell_at ["script", "k"] (defScope s__law_cell_at) := ⟨rfl, rfl, rfl, by decide +kernel, rfl, by decide +kernel, by decide +kernel⟩
noncomputable def b__law_cell_at : Sm Fl := sSeq (sIf (toB (mBin ltW true (mVar 1) (mUn lenW (mVar 0)))) (sRet true (mBin ixW true (mVar 0) (mVar 1))) (sNil)) (sRet true (mC (.int 0)))
noncomputable def f__law_cell_at : Fn := fnSem 2 [false, false] b__law_cell_at
theorem w__law_cell_at {f : Addr} {fd : FuncData} (F : Fun K "_law_cell_at" "_law_cell_at" s__law_cell_at f fd) (g : mg "_law_cell_at" = some (.ref f)) (hb : Binds K fd ["script", "k"] []) (m_len : mg "len" = none) : FnT P w K mg base CA "_law_cell_at" 2 1 f__law_cell_at :=
  fnt_body F g hb sc__law_cell_at rfl rfl rfl fun cdv A outer s H E hr => (mss_cons (ms_if (mt_cmp (p1 := true) (p2 := true) (k1 := false) (op_ltW hr) (me_var 1 (pv 1)) (me_len m_len (me_var 0 (pv 0)))) (mss_one (ms_ret (me_ix (p1 := true) (p2 := true) (k1 := false) (me_var 0 (pv 0)) (me_var 1 (pv 1))))) mss_nil) (mss_one (ms_ret me_int)))
/-! ### _law_numbers -/
abbrev s__law_numbers : Stmt := topS 25
abbrev N__law_numbers : List Str := ["cell", "many", "found", "rest", "stir", "k", "again"]
theorem sc__law_numbers : FnScope N__law_numbers ["cell", "many"] (defScope s__law_numbers) := ⟨rfl, rfl, rfl, by decide +kernel, rfl, by decide +kernel, by decide +kernel⟩
noncomputable def b__law_numbers_1 : Sm Fl := sIf (mAnd (toB (mBin geXW true (mVar 0) (mBin powW true (mC (.int 10)) (mC (.int 18))))) (toB (mBin gtW true (mVar 3) (mC (.int 0))))) (sSeq (sDrop (mMut 2 fAppend (mCons (mBin modW true (mVar 3) (mC (.int 64))) (mNil)))) (sSet 3 true (mBin fdivW true (mVar 3) (mC (.int 64))))) (sSeq (sSet 4 true (mBin modW true (mBin (mulW false) true (mBin (addW false) true (mBin (addW false) true (mVar 4) (mBin (mulW false) true (mC (.int 7)) (mVar 5))) (mC (.int 3))) (mC (.int 48271))) (mC (.int 2147483647)))) (sSeq (sSet 6 true (mBin modW true (mBin (mulW false) true (mBin modW true (mBin (mulW false) true (mVar 4) (mVar 4)) (mC (.int 2147483629))) (mC (.int 69621))) (mC (.int 2147483587)))) (sDrop (mMut 2 fAppend (mCons (mBin modW true (mBin fdivW true (mVar 6) (mC (.int 8))) (mC (.int 720720))) (mNil))))))
noncomputable def b__law_numbers : Sm Fl := sSeq (sSet 2 true (mArgs (lstW true) (mNil))) (sSeq (sSet 3 false (mVar 0)) (sSeq (sSet 4 true (mBin modW true (mVar 0) (mC (.int 2147483647)))) (sSeq (sFor (tgN 5) b__law_numbers_1 [5, 6] (iArgs rng1 (mCons (mVar 1) (mNil)))) (sRet true (mMove 2)))))
noncomputable def f__law_numbers : Fn := fnSem 7 [false, false] b__law_numbers
theorem w__law_numbers {f : Addr} {fd : FuncData} (F : Fun K "_law_numbers" "_law_numbers" s__law_numbers f fd) (g : mg "_law_numbers" = some (.ref f)) (hb : Binds K fd ["cell", "many"] []) (m_range : mg "range" = none) : FnT P w K mg base CA "_law_numbers" 2 1 f__law_numbers :=
  fnt_body F g hb sc__law_numbers rfl rfl rfl fun cdv A outer s H E hr => (mss_cons (ms_set (i := 2) sc__law_numbers.nd (me_lst true ma_nil)) (mss_cons (ms_set (i := 3) sc__law_numbers.nd (me_var 0 (pv 0))) (mss_cons (ms_set (i := 4) sc__law_numbers.nd (me_op (p1 := true) (p2 := true) (k1 := false) op_modW (me_var 0 (pv 0)) me_int)) (mss_cons (ms_for [5, 6] zf_pass rfl (mi_range1 m_range (ma_cons (p1 := true) (p2 := true) (me_var 1 (pv 1)) ma_nil)) (mg_name (i := 5) sc__law_numbers.nd) (mss_one (ms_if (mt_w (mw_and (p1 := true) (p2 := true) (mt_cmp (p1 := true) (p2 := true) (k1 := false) (op_geXW hr) (me_var 0 (pv 0)) (me_op (p1 := true) (p2 := true) (k1 := true) op_powW me_int me_int)) (mw_and1 (mt_cmp (p1 := true) (p2 := true) (k1 := false) (op_gtW hr) (me_var 3 (pv 3)) me_int)))) (mss_cons (ms_expr (me_append (pv 2) (ma_cons (p1 := true) (p2 := true) (me_op (p1 := true) (p2 := true) (k1 := false) op_modW (me_var 3 (pv 3)) me_int) ma_nil))) (mss_one (ms_set (i := 3) sc__law_numbers.nd (me_op (p1 := true) (p2 := true) (k1 := false) op_fdivW' (me_var 3 (pv 3)) me_int)))) (mss_cons (ms_set (i := 4) sc__law_numbers.nd (me_op (p1 := true) (p2 := true) (k1 := true) op_modW (me_op (p1 := true) (p2 := true) (k1 := true) op_mulW (me_op (p1 := true) (p2 := true) (k1 := true) op_addW (me_op (p1 := true) (p2 := true) (k1 := false) op_addW (me_var 4 (pv 4)) (me_op (p1 := true) (p2 := true) (k1 := true) op_mulW me_int (me_var 5 (pv 5)))) me_int) me_int) me_int)) (mss_cons (ms_set (i := 6) sc__law_numbers.nd (me_op (p1 := true) (p2 := true) (k1 := true) op_modW (me_op (p1 := true) (p2 := true) (k1 := true) op_mulW (me_op (p1 := true) (p2 := true) (k1 := true) op_modW (me_op (p1 := true) (p2 := true) (k1 := false) op_mulW (me_var 4 (pv 4)) (me_var 4 (pv 4))) me_int) me_int) me_int)) (mss_one (ms_expr (me_append (pv 2) (ma_cons (p1 := true) (p2 := true) (me_op (p1 := true) (p2 := true) (k1 := true) op_modW (me_op (p1 := true) (p2 := true) (k1 := false) op_fdivW' (me_var 6 (pv 6)) me_int) me_int) ma_nil))))))))) (mss_one (ms_ret (me_move 2 (pv 2) rfl)))))))
/-! ### _law_deck -/
abbrev s__law_deck : Stmt := topS 26
abbrev N__law_deck : List Str := ["cell", "many"]
theorem sc__law_deck : FnScope N__law_deck ["cell", "many"] (defScope s__law_deck) := ⟨rfl, rfl, rfl, by decide +kernel, rfl, by decide +kernel, by decide +kernel⟩
noncomputable def b__law_deck : Sm Fl := sRet true (mUn (revW true) (mCallP f__law_numbers (Sm.bind (mCons (mVar 0) (mCons (mVar 1) (mNil))) fun ws => if ws.length = 2 then Sm.ret ws else fun _ => .bad)))
noncomputable def f__law_deck : Fn := fnSem 2 [false, false] b__law_deck
theorem w__law_deck {f : Addr} {fd : FuncData} (F : Fun K "_law_deck" "_law_deck" s__law_deck f fd) (g : mg "_law_deck" = some (.ref f)) (hb : Binds K fd ["cell", "many"] []) (F__law_numbers : FnT P w K mg base CA "_law_numbers" 2 1 f__law_numbers) : FnT P w K mg base CA "_law_deck" 2 2 f__law_deck :=
  fnt_body F g hb sc__law_deck rfl rfl rfl fun cdv A outer s H E hr => (mss_one (ms_ret (me_rev true (me_callP F__law_numbers (hr.mono (by decide)) zf_takes (ma_cons (p1 := true) (p2 := true) (me_var 0 (pv 0)) (ma_cons (p1 := true) (p2 := true) (me_var 1 (pv 1)) ma_nil)) (by rfl)))))
/-! ### _law_take -/
abbrev s__law_take : Stmt := topS 27
abbrev N__law_take : List Str := ["deck", "many"]
theorem sc__law_take : FnScope N__law_take ["deck", "many"] (defScope s__law_take) := ⟨rfl, rfl, rfl, by decide +kernel, rfl, by decide +kernel, by decide +kernel⟩
noncomputable def b__law_take : Sm Fl := sSeq (sIf (toB (mBin eqW true (mVar 0) (mArgs (lstW false) (mNil)))) (sRet true (mC (.int 0))) (sNil)) (sRet true (mBin modW true (mMut 0 fPop mNil) (mVar 1)))
noncomputable def f__law_take : Fn := fnSem 2 [true, false] b__law_take
theorem w__law_take {f : Addr} {fd : FuncData} (F : Fun K "_law_take" "_law_take" s__law_take f fd) (g : mg "_law_take" = some (.ref f)) (hb : Binds K fd ["deck", "many"] []) : FnT P w K mg base CA "_law_take" 2 1 f__law_take :=
  fnt_body F g hb sc__law_take rfl rfl rfl fun cdv A outer s H E hr => (mss_cons (ms_if (mt_cmp (p1 := true) (p2 := true) (k1 := false) (op_eqW hr) (me_var 0 (pv 0)) (me_lst false ma_nil)) (mss_one (ms_ret me_int)) mss_nil) (mss_one (ms_ret (me_op (p1 := false) (p2 := true) (k1 := true) op_modW (me_pop (pv 0)) (me_var 1 (pv 1))))))
/-! ### _law_key -/
abbrev s__law_key : Stmt := topS 28
abbrev N__law_key : List Str := ["deck", "way", "number", "far"]
theorem sc__law_key : FnScope N__law_key ["deck"] (defScope s__law_key) := ⟨rfl, rfl, rfl, by decide +kernel, rfl, by decide +kernel, by decide +kernel⟩
noncomputable def b__law_key : Sm Fl := sSeq (sSet 1 true (mCall f__law_take 2 (Sm.bind (mVar 0) fun _ => rIo 0 (rVal (mC (.int 8)) (rNil))))) (sSeq (sSet 2 true (mCall f__law_take 2 (Sm.bind (mVar 0) fun _ => rIo 0 (rVal (mC (.int 64)) (rNil))))) (sSeq (sIf (toB (mBin ltW true (mVar 1) (mC (.int 4)))) (sRet true (mBin modW true (mVar 2) (mC (.int 6)))) (sNil)) (sSeq (sIf (toB (mBin eqW true (mVar 1) (mC (.int 4)))) (sRet true (mBin subW true (mC (.int 0)) (mBin modW true (mVar 2) (mC (.int 6))))) (sNil)) (sSeq (sIf (toB (mBin eqW true (mVar 1) (mC (.int 5)))) (sRet true (mBin subW true (mBin (mulW true) true (mVar 2) (mC (.int 1009))) (mC (.int 30000)))) (sNil)) (sSeq (sSet 3 true (mBin (addW false) true (mBin (mulW false) true (mBin powW true (mC (.int 10)) (mC (.int 29))) (mBin (addW false) true (mC (.int 1)) (mBin modW true (mVar 2) (mC (.int 9))))) (mBin (mulW false) true (mVar 2) (mC (.int 7919))))) (sRet true (mBin ixW true (mArgs (lstW true) (mCons (mVar 3) (mCons (mBin subW true (mC (.int 0)) (mVar 3)) (mNil)))) (mBin subW true (mVar 1) (mC (.int 6))))))))))
noncomputable def f__law_key : Fn := fnSem 4 [true] b__law_key
theorem w__law_key {f : Addr} {fd : FuncData} (F : Fun K "_law_key" "_law_key" s__law_key f fd) (g : mg "_law_key" = some (.ref f)) (hb : Binds K fd ["deck"] []) (F__law_take : FnT P w K mg base CA "_law_take" 2 1 f__law_take) : FnT P w K mg base CA "_law_key" 1 2 f__law_key :=
  fnt_body F g hb sc__law_key rfl rfl rfl fun cdv A outer s H E hr => (mss_cons (ms_set (i := 1) sc__law_key.nd (me_call F__law_take (hr.mono (by decide)) zf_takes (mr_io 0 (pv 0) (mr_val (p1 := true) (p2 := true) me_int mr_nil)) (by rfl))) (mss_cons (ms_set (i := 2) sc__law_key.nd (me_call F__law_take (hr.mono (by decide)) zf_takes (mr_io 0 (pv 0) (mr_val (p1 := true) (p2 := true) me_int mr_nil)) (by rfl))) (mss_cons (ms_if (mt_cmp (p1 := true) (p2 := true) (k1 := false) (op_ltW hr) (me_var 1 (pv 1)) me_int) (mss_one (ms_ret (me_op (p1 := true) (p2 := true) (k1 := false) op_modW (me_var 2 (pv 2)) me_int))) mss_nil) (mss_cons (ms_if (mt_cmp (p1 := true) (p2 := true) (k1 := false) (op_eqW hr) (me_var 1 (pv 1)) me_int) (mss_one (ms_ret (me_op (p1 := true) (p2 := true) (k1 := true) op_subW me_int (me_op (p1 := true) (p2 := true) (k1 := false) op_modW (me_var 2 (pv 2)) me_int)))) mss_nil) (mss_cons (ms_if (mt_cmp (p1 := true) (p2 := true) (k1 := false) (op_eqW hr) (me_var 1 (pv 1)) me_int) (mss_one (ms_ret (me_op (p1 := true) (p2 := true) (k1 := true) op_subW (me_op (p1 := true) (p2 := true) (k1 := false) op_mulW (me_var 2 (pv 2)) me_int) me_int))) mss_nil) (mss_cons (ms_set (i := 3) sc__law_key.nd (me_op (p1 := true) (p2 := true) (k1 := true) op_addW (me_op (p1 := true) (p2 := true) (k1 := true) op_mulW (me_op (p1 := true) (p2 := true) (k1 := true) op_powW me_int me_int) (me_op (p1 := true) (p2 := true) (k1 := true) op_addW me_int (me_op (p1 := true) (p2 := true) (k1 := false) op_modW (me_var 2 (pv 2)) me_int))) (me_op (p1 := true) (p2 := true) (k1 := false) op_mulW (me_var 2 (pv 2)) me_int))) (mss_one (ms_ret (me_ix (p1 := true) (p2 := true) (k1 := true) (me_lst true (ma_cons (p1 := true) (p2 := true) (me_var 3 (pv 3)) (ma_cons (p1 := true) (p2 := true) (me_op (p1 := true) (p2 := true) (k1 := true) op_subW me_int (me_var 3 (pv 3))) ma_nil))) (me_op (p1 := true) (p2 := true) (k1 := false) op_subW (me_var 1 (pv 1)) me_int))))))))))
/-! ### _law_tag -/
abbrev s__law_tag : Stmt := topS 29
abbrev N__law_tag : List Str := ["deck", "number", "letters", "size", "j"]
theorem sc__law_tag : FnScope N__law_tag ["deck"] (defScope s__law_tag) := ⟨rfl, rfl, rfl, by decide +kernel, rfl, by decide +kernel, by decide +kernel⟩
noncomputable def c__law_tag_1 : Sm W := mComp true (tgN 4) (Sm.ret true) (mBin ixW true (mVar 2) (mBin modW true (mBin (addW false) true (mBin fdivW true (mVar 1) (mC (.int 2))) (mBin (mulW false) true (mVar 4) (mBin (addW false) true (mBin fdivW true (mVar 1) (mC (.int 16))) (mVar 4)))) (mC (.int 26)))) [4] (iArgs rng1 (mCons (mVar 3) (mNil)))
noncomputable def b__law_tag : Sm Fl := sSeq (sSet 1 true (mCall f__law_take 2 (Sm.bind (mVar 0) fun _ => rIo 0 (rVal (mC (.int 720720)) (rNil))))) (sSeq (sIf (toB (mBin eqW true (mBin modW true (mVar 1) (mC (.int 2))) (mC (.int 0)))) (sRet true (mBin ixW true (mArgs (lstW true) (mCons (mC (.str "a")) (mCons (mC (.str "b")) (mCons (mC (.str "ab")) (mCons (mC (.str "zzzzzzzz")) (mCons (mC (.str "x")) (mNil))))))) (mBin modW true (mBin fdivW true (mVar 1) (mC (.int 2))) (mC (.int 5))))) (sNil)) (sSeq (sSet 2 true (mC (.str "abcdefghijklmnopqrstuvwxyz"))) (sSeq (sSet 3 true (mBin (addW false) true (mC (.int 1)) (mBin modW true (mBin fdivW true (mVar 1) (mC (.int 4))) (mC (.int 8))))) (sRet true (mMeth tyStr joinW true (mC (.str "")) (mCons (mFz (c__law_tag_1)) (mNil)))))))
noncomputable def f__law_tag : Fn := fnSem 5 [true] b__law_tag
theorem w__law_tag {f : Addr} {fd : FuncData} (F : Fun K "_law_tag" "_law_tag" s__law_tag f fd) (g : mg "_law_tag" = some (.ref f)) (hb : Binds K fd ["deck"] []) (m_range : mg "range" = none) (F__law_take : FnT P w K mg base CA "_law_take" 2 1 f__law_take) : FnT P w K mg base CA "_law_tag" 1 2 f__law_tag :=
  fnt_body F g hb sc__law_tag rfl rfl rfl fun cdv A outer s H E hr => (mss_cons (ms_set (i := 1) sc__law_tag.nd (me_call F__law_take (hr.mono (by decide)) zf_takes (mr_io 0 (pv 0) (mr_val (p1 := true) (p2 := true) me_int mr_nil)) (by rfl))) (mss_cons (ms_if (mt_cmp (p1 := true) (p2 := true) (k1 := true) (op_eqW hr) (me_op (p1 := true) (p2 := true) (k1 := false) op_modW (me_var 1 (pv 1)) me_int) me_int) (mss_one (ms_ret (me_ix (p1 := true) (p2 := true) (k1 := true) (me_lst true (ma_cons (p1 := true) (p2 := true) me_str (ma_cons (p1 := true) (p2 := true) me_str (ma_cons (p1 := true) (p2 := true) me_str (ma_cons (p1 := true) (p2 := true) me_str (ma_cons (p1 := true) (p2 := true) me_str ma_nil)))))) (me_op (p1 := true) (p2 := true) (k1 := true) op_modW (me_op (p1 := true) (p2 := true) (k1 := false) op_fdivW' (me_var 1 (pv 1)) me_int) me_int)))) mss_nil) (mss_cons (ms_set (i := 2) sc__law_tag.nd me_str) (mss_cons (ms_set (i := 3) sc__law_tag.nd (me_op (p1 := true) (p2 := true) (k1 := true) op_addW me_int (me_op (p1 := true) (p2 := true) (k1 := true) op_modW (me_op (p1 := true) (p2 := true) (k1 := false) op_fdivW' (me_var 1 (pv 1)) me_int) me_int))) (mss_one (ms_ret (me_join (p1 := true) (p2 := true) (k1 := true) me_str (ma_cons (p1 := true) (p2 := true) (me_fz (me_lc rfl sc__law_tag.nd (own := [("j", 4)]) (p := true) (pt := true) (pe := true) (mi_range1 m_range (ma_cons (p1 := true) (p2 := true) (me_var 3 (pv 3)) ma_nil)) (show BlkOk N__law_tag (defScope s__law_tag) _ _ from blkOk_by (own := [("j", 4)]) (by decide +kernel)) (fun _ _ _ _ _ => (mg_name (i := 4) sc__law_tag.nd)) (fun _ _ _ _ _ => mts_nil) (fun _ _ _ _ _ => (me_ix (p1 := true) (p2 := true) (k1 := false) (me_var 2 (pv 2)) (me_op (p1 := true) (p2 := true) (k1 := true) op_modW (me_op (p1 := true) (p2 := true) (k1 := true) op_addW (me_op (p1 := true) (p2 := true) (k1 := false) op_fdivW' (me_var 1 (pv 1)) me_int) (me_op (p1 := true) (p2 := true) (k1 := false) op_mulW (me_var 4 (pv 4)) (me_op (p1 := true) (p2 := true) (k1 := true) op_addW (me_op (p1 := true) (p2 := true) (k1 := false) op_fdivW' (me_var 1 (pv 1)) me_int) (me_var 4 (pv 4))))) me_int))))) ma_nil))))))))
/-! ### _law_rows -/
abbrev s__law_rows : Stmt := topS 30
abbrev N__law_rows : List Str := ["deck", "most", "rows", "hand", "many", "keys", "k", "way", "key"]
theorem sc__law_rows : FnScope N__law_rows ["deck", "most"] (defScope s__law_rows) := ⟨rfl, rfl, rfl, by decide +kernel, rfl, by decide +kernel, by decide +kernel⟩
noncomputable def c__law_rows_1 : Sm W := mComp false (tgN 6) (Sm.ret true) (mCall f__law_key 1 (Sm.bind (mVar 0) fun _ => rIo 0 (rNil))) [6] (iArgs rng1 (mCons (mVar 4) (mNil)))
noncomputable def c__law_rows_2 : Sm W := mComp false (tgN 8) (Sm.ret true) (mArgs tupW (mCons (mVar 8) (mCons (mCall f__law_tag 1 (Sm.bind (mVar 0) fun _ => rIo 0 (rNil))) (mNil)))) [8] (iLst (mVar 5))
noncomputable def b__law_rows_1 : Sm Fl := sSeq (sSet 4 true (mCall f__law_take 2 (Sm.bind (mVar 0) fun _ => rIo 0 (rVal (mBin ixW true (mArgs (lstW false) (mCons (mC (.int 1)) (mCons (mBin (addW false) true (mVar 1) (mC (.int 1))) (mCons (mC (.int 4)) (mCons (mBin (addW false) true (mVar 1) (mC (.int 1))) (mNil)))))) (mCall f__law_take 2 (Sm.bind (mVar 0) fun _ => rIo 0 (rVal (mC (.int 4)) (rNil))))) (rNil))))) (sSeq (sSet 5 true (mFz (c__law_rows_1))) (sSeq (sSet 7 true (mCall f__law_take 2 (Sm.bind (mVar 0) fun _ => rIo 0 (rVal (mC (.int 4)) (rNil))))) (sSeq (sIf (toB (mBin eqW true (mVar 7) (mC (.int 1)))) (sSet 5 true (mUn (sortedW false) (mVar 5))) (sNil)) (sSeq (sIf (toB (mBin eqW true (mVar 7) (mC (.int 2)))) (sSet 5 true (mBin (mulW false) true (mSlice false true (mVar 5) (mNo) (mPart (mC (.int 1)))) (mVar 4))) (sNil)) (sDrop (mMut 2 fAppend (mCons (mFz (c__law_rows_2)) (mNil))))))))
noncomputable def b__law_rows : Sm Fl := sSeq (sSet 2 true (mArgs (lstW true) (mNil))) (sSeq (sFor (tgN 3) b__law_rows_1 [3, 4, 5, 7] (iArgs rng1 (mCons (mBin (addW false) true (mC (.int 1)) (mCall f__law_take 2 (Sm.bind (mVar 0) fun _ => rIo 0 (rVal (mC (.int 6)) (rNil))))) (mNil)))) (sRet true (mMove 2)))
noncomputable def f__law_rows : Fn := fnSem 9 [true, false] b__law_rows
theorem w__law_rows {f : Addr} {fd : FuncData} (F : Fun K "_law_rows" "_law_rows" s__law_rows f fd) (g : mg "_law_rows" = some (.ref f)) (hb : Binds K fd ["deck", "most"] []) (m_range : mg "range" = none) (m_sorted : mg "sorted" = none) (F__law_take : FnT P w K mg base CA "_law_take" 2 1 f__law_take) (F__law_key : FnT P w K mg base CA "_law_key" 1 2 f__law_key) (F__law_tag : FnT P w K mg base CA "_law_tag" 1 2 f__law_tag) : FnT P w K mg base CA "_law_rows" 2 3 f__law_rows :=
  fnt_body F g hb sc__law_rows rfl rfl rfl fun cdv A outer s H E hr => (mss_cons (ms_set (i := 2) sc__law_rows.nd (me_lst true ma_nil)) (mss_cons (ms_for [3, 4, 5, 7] zf_pass rfl (mi_range1 m_range (ma_cons (p1 := false) (p2 := true) (me_op (p1 := true) (p2 := false) (k1 := true) op_addW me_int (me_call F__law_take (hr.mono (by decide)) zf_takes (mr_io 0 (pv 0) (mr_val (p1 := true) (p2 := true) me_int mr_nil)) (by rfl))) ma_nil)) (mg_name (i := 3) sc__law_rows.nd) (mss_cons (ms_set (i := 4) sc__law_rows.nd (me_call F__law_take (hr.mono (by decide)) zf_takes (mr_io 0 (pv 0) (mr_val (p1 := false) (p2 := true) (me_ix (p1 := true) (p2 := false) (k1 := true) (me_lst false (ma_cons (p1 := true) (p2 := true) me_int (ma_cons (p1 := true) (p2 := true) (me_op (p1 := true) (p2 := true) (k1 := false) op_addW (me_var 1 (pv 1)) me_int) (ma_cons (p1 := true) (p2 := true) me_int (ma_cons (p1 := true) (p2 := true) (me_op (p1 := true) (p2 := true) (k1 := false) op_addW (me_var 1 (pv 1)) me_int) ma_nil))))) (me_call F__law_take (hr.mono (by decide)) zf_takes (mr_io 0 (pv 0) (mr_val (p1 := true) (p2 := true) me_int mr_nil)) (by rfl))) mr_nil)) (by rfl))) (mss_cons (ms_setLc (i := 5) false rfl sc__law_rows.nd (own := [("k", 6)]) (p := true) (pt := true) (pe := false) (mi_range1 m_range (ma_cons (p1 := true) (p2 := true) (me_var 4 (pv 4)) ma_nil)) (show BlkOk N__law_rows (defScope s__law_rows) _ _ from blkOk_by (own := [("k", 6)]) (by decide +kernel)) (fun _ _ _ _ _ => (mg_name (i := 6) sc__law_rows.nd)) (fun _ _ _ _ _ => mts_nil) (fun _ _ _ _ _ => (me_call F__law_key (hr.mono (by decide)) blk_takes (mr_io 0 (pv 0) mr_nil) (by rfl)))) (mss_cons (ms_set (i := 7) sc__law_rows.nd (me_call F__law_take (hr.mono (by decide)) zf_takes (mr_io 0 (pv 0) (mr_val (p1 := true) (p2 := true) me_int mr_nil)) (by rfl))) (mss_cons (ms_if (mt_cmp (p1 := true) (p2 := true) (k1 := false) (op_eqW hr) (me_var 7 (pv 7)) me_int) (mss_one (ms_set (i := 5) sc__law_rows.nd (me_sorted false hr m_sorted (me_var 5 (pv 5))))) mss_nil) (mss_cons (ms_if (mt_cmp (p1 := true) (p2 := true) (k1 := false) (op_eqW hr) (me_var 7 (pv 7)) me_int) (mss_one (ms_set (i := 5) sc__law_rows.nd (me_op (p1 := true) (p2 := true) (k1 := true) op_mulW (me_slice false (p := true) (p1 := true) (p2 := true) (k1 := false) (me_var 5 (pv 5)) mo_no (mo_some me_int)) (me_var 4 (pv 4))))) mss_nil) (mss_one (ms_expr (me_append (pv 2) (ma_cons (p1 := false) (p2 := true) (me_fz (me_lc rfl sc__law_rows.nd (own := [("key", 8)]) (p := true) (pt := true) (pe := false) (mi_list (me_var 5 (pv 5))) (show BlkOk N__law_rows (defScope s__law_rows) _ _ from blkOk_by (own := [("key", 8)]) (by decide +kernel)) (fun _ _ _ _ _ => (mg_name (i := 8) sc__law_rows.nd)) (fun _ _ _ _ _ => mts_nil) (fun _ _ _ _ _ => (me_tup (ma_cons (p1 := true) (p2 := false) (me_var 8 (pv 8)) (ma_cons (p1 := false) (p2 := true) (me_call F__law_tag (hr.mono (by decide)) blk_takes (mr_io 0 (pv 0) mr_nil) (by rfl)) ma_nil)))))) ma_nil)))))))))) (mss_one (ms_ret (me_move 2 (pv 2) rfl)))))
/-! ### _law_row_written -/
abbrev s__law_row_written : Stmt := topS 31
abbrev N__law_row_written : List Str := ["row", "found", "key", "tag"]
theorem sc__law_row_written : FnScope N__law_row_written ["row"] (defScope s__law_row_written) := ⟨rfl, rfl, rfl, by decide +kernel, rfl, by decide +kernel, by decide +kernel⟩
noncomputable def b__law_row_written_1 : Sm Fl := sSet 1 true (mBin (addW false) true (mBin (addW false) true (mBin (addW false) true (mBin (addW false) true (mVar 1) (mC (.str ", "))) (mUn strOfW (mVar 2))) (mC (.str ":"))) (mVar 3))
noncomputable def b__law_row_written : Sm Fl := sSeq (sSet 1 true (mC (.str ""))) (sSeq (sFor (tgT [2, 3]) b__law_row_written_1 [2, 3] (iLst (mVar 0))) (sSeq (sIf (toB (mBin eqW true (mVar 0) (mArgs (lstW false) (mNil)))) (sRet true (mC (.str "-"))) (sNil)) (sRet true (mSlice true true (mVar 1) (mPart (mC (.int 2))) (mNo)))))
noncomputable def f__law_row_written : Fn := fnSem 4 [false] b__law_row_written
theorem w__law_row_written {f : Addr} {fd : FuncData} (F : Fun K "_law_row_written" "_law_row_written" s__law_row_written f fd) (g : mg "_law_row_written" = some (.ref f)) (hb : Binds K fd ["row"] []) (m_str : mg "str" = none) : FnT P w K mg base CA "_law_row_written" 1 1 f__law_row_written :=
  fnt_body F g hb sc__law_row_written rfl rfl rfl fun cdv A outer s H E hr => (mss_cons (ms_set (i := 1) sc__law_row_written.nd me_str) (mss_cons (ms_for [2, 3] zf_pass rfl (mi_list (me_var 0 (pv 0))) (mg_tup rfl (mgs_cons (i := 2) sc__law_row_written.nd (mgs_cons (i := 3) sc__law_row_written.nd mgs_nil))) (mss_one (ms_set (i := 1) sc__law_row_written.nd (me_op (p1 := true) (p2 := true) (k1 := true) op_addW (me_op (p1 := true) (p2 := true) (k1 := true) op_addW (me_op (p1 := true) (p2 := true) (k1 := true) op_addW (me_op (p1 := true) (p2 := true) (k1 := false) op_addW (me_var 1 (pv 1)) me_str) (me_strOf m_str (me_var 2 (pv 2)))) me_str) (me_var 3 (pv 3)))))) (mss_cons (ms_if (mt_cmp (p1 := true) (p2 := true) (k1 := false) (op_eqW hr) (me_var 0 (pv 0)) (me_lst false ma_nil)) (mss_one (ms_ret me_str)) mss_nil) (mss_one (ms_ret (me_slice true (p := true) (p1 := true) (p2 := true) (k1 := false) (me_var 1 (pv 1)) (mo_some me_int) mo_no))))))
/-! ### _law_written -/
abbrev s__law_written : Stmt := topS 32
abbrev N__law_written : List Str := ["rows", "row"]
theorem sc__law_written : FnScope N__law_written ["rows"] (defScope s__law_written) := ⟨rfl, rfl, rfl, by decide +kernel, rfl, by decide +kernel, by decide +kernel⟩
noncomputable def c__law_written_1 : Sm W := mComp true (tgN 1) (Sm.ret true) (mFz (mCallP f__law_row_written (Sm.bind (mCons (mVar 1) (mNil)) fun ws => if ws.length = 1 then Sm.ret ws else fun _ => .bad))) [1] (iLst (mVar 0))
noncomputable def b__law_written : Sm Fl := sRet true (mMeth tyStr joinW true (mC (.str "; ")) (mCons (mFz (c__law_written_1)) (mNil)))
noncomputable def f__law_written : Fn := fnSem 2 [false] b__law_written
theorem w__law_written {f : Addr} {fd : FuncData} (F : Fun K "_law_written" "_law_written" s__law_written f fd) (g : mg "_law_written" = some (.ref f)) (hb : Binds K fd ["rows"] []) (F__law_row_written : FnT P w K mg base CA "_law_row_written" 1 1 f__law_row_written) : FnT P w K mg base CA "_law_written" 1 2 f__law_written :=
  fnt_body F g hb sc__law_written rfl rfl rfl fun cdv A outer s H E hr => (mss_one (ms_ret (me_join (p1 := true) (p2 := true) (k1 := true) me_str (ma_cons (p1 := true) (p2 := true) (me_fz (me_lc rfl sc__law_written.nd (own := [("row", 1)]) (p := true) (pt := true) (pe := true) (mi_list (me_var 0 (pv 0))) (show BlkOk N__law_written (defScope s__law_written) _ _ from blkOk_by (own := [("row", 1)]) (by decide +kernel)) (fun _ _ _ _ _ => (mg_name (i := 1) sc__law_written.nd)) (fun _ _ _ _ _ => mts_nil) (fun _ _ _ _ _ => (me_fz (me_callP F__law_row_written (hr.mono (by decide)) blk_takes (ma_cons (p1 := true) (p2 := true) (me_var 1 (pv 1)) ma_nil) (by rfl)))))) ma_nil))))
/-! ### _law_alike -/
abbrev s__law_alike : Stmt := topS 33
abbrev N__law_alike : List Str := ["found", "due", "k"]
theorem sc__law_alike : FnScope N__law_alike ["found", "due"] (defScope s__law_alike) := ⟨rfl, rfl, rfl, by decide +kernel, rfl, by decide +kernel, by decide +kernel⟩
noncomputable def c__law_alike_1 (g_self : Fn) : Sm W := mComp true (tgN 2) (mNot (toB (mCallP g_self (Sm.bind (mCons (mBin ixW true (mVar 0) (mVar 2)) (mCons (mBin ixW true (mVar 1) (mVar 2)) (mNil))) fun ws => if ws.length = 2 then Sm.ret ws else fun _ => .bad)))) (mVar 2) [2] (iArgs rng1 (mCons (mUn lenW (mVar 1)) (mNil)))
noncomputable def b__law_alike (g_self : Fn) : Sm Fl := sSeq (sIf (toB (mBin (isNW false) true (mVar 1) (mC .non))) (sRet true (mBin (isNW false) true (mVar 0) (mC .non))) (sNil)) (sSeq (sIf (mOr (toB (mUn (isiW ["tuple"]) (mVar 1))) (toB (mUn (isiW ["list"]) (mVar 1)))) (sSeq (sIf (mOr (toB (mBin neW true (mUn (isiW ["tuple"]) (mVar 0)) (mUn (isiW ["tuple"]) (mVar 1)))) (toB (mBin neW true (mUn (isiW ["list"]) (mVar 0)) (mUn (isiW ["list"]) (mVar 1))))) (sRet true (mC (.bl false))) (sNil)) (sSeq (sIf (toB (mBin neW true (mUn lenW (mVar 0)) (mUn lenW (mVar 1)))) (sRet true (mC (.bl false))) (sNil)) (sRet true (mBin eqW true ((c__law_alike_1 g_self)) (mArgs (lstW true) (mNil)))))) (sNil)) (sSeq (sIf (toB (mUn (isiW ["str"]) (mVar 1))) (sRet true (mAndV (mUn (isiW ["str"]) (mVar 0)) (mBin eqW true (mVar 0) (mVar 1)))) (sNil)) (sRet true (mAndV (mUn (isiW ["int"]) (mVar 0)) (mAndV (mNotV (mUn (isiW ["bool"]) (mVar 0))) (mBin eqW true (mVar 0) (mVar 1)))))))
noncomputable def f__law_alike : Nat → Fn
  | 0 => fun _ => .bad
  | n + 1 => fnSem 3 [false, false] (b__law_alike (f__law_alike n))
theorem w__law_alike {f : Addr} {fd : FuncData} (F : Fun K "_law_alike" "_law_alike" s__law_alike f fd) (g : mg "_law_alike" = some (.ref f)) (hb : Binds K fd ["found", "due"] []) (m_bool : mg "bool" = none) (m_int : mg "int" = none) (m_isinstance : mg "isinstance" = none) (m_len : mg "len" = none) (m_list : mg "list" = none) (m_range : mg "range" = none) (m_str : mg "str" = none) (m_tuple : mg "tuple" = none) : ∀ n : Nat, FnT P w K mg base CA "_law_alike" 2 (1 + n) (f__law_alike n)
  | 0 => fnt_bad F g hb rfl
  | n + 1 => have F_self := w__law_alike F g hb m_bool m_int m_isinstance m_len m_list m_range m_str m_tuple n
    fnt_body F g hb sc__law_alike rfl rfl rfl fun cdv A outer s H E hr => (mss_cons (ms_if (mt_cmp (p1 := true) (p2 := true) (k1 := false) op_isNW (me_var 1 (pv 1)) me_non) (mss_one (ms_ret (me_cmp (p1 := true) (p2 := true) (k1 := false) op_isNW (me_var 0 (pv 0)) me_non))) mss_nil) (mss_cons (ms_if (mt_w (mw_or (p1 := true) (p2 := true) (mt_val (me_isi ["tuple"] (ca_ty (by rfl) m_tuple PyProof.Rows.boot_tuple) m_isinstance (me_var 1 (pv 1)))) (mw_or1 (mt_val (me_isi ["list"] (ca_ty (by rfl) m_list PyProof.Rows.boot_list) m_isinstance (me_var 1 (pv 1))))))) (mss_cons (ms_if (mt_w (mw_or (p1 := true) (p2 := true) (mt_cmp (p1 := true) (p2 := true) (k1 := true) (op_neW hr) (me_isi ["tuple"] (ca_ty (by rfl) m_tuple PyProof.Rows.boot_tuple) m_isinstance (me_var 0 (pv 0))) (me_isi ["tuple"] (ca_ty (by rfl) m_tuple PyProof.Rows.boot_tuple) m_isinstance (me_var 1 (pv 1)))) (mw_or1 (mt_cmp (p1 := true) (p2 := true) (k1 := true) (op_neW hr) (me_isi ["list"] (ca_ty (by rfl) m_list PyProof.Rows.boot_list) m_isinstance (me_var 0 (pv 0))) (me_isi ["list"] (ca_ty (by rfl) m_list PyProof.Rows.boot_list) m_isinstance (me_var 1 (pv 1))))))) (mss_one (ms_ret me_bl)) mss_nil) (mss_cons (ms_if (mt_cmp (p1 := true) (p2 := true) (k1 := true) (op_neW hr) (me_len m_len (me_var 0 (pv 0))) (me_len m_len (me_var 1 (pv 1)))) (mss_one (ms_ret me_bl)) mss_nil) (mss_one (ms_ret (me_cmp (p1 := true) (p2 := true) (k1 := true) (op_eqW hr) (me_lc rfl sc__law_alike.nd (own := [("k", 2)]) (p := true) (pt := true) (pe := true) (mi_range1 m_range (ma_cons (p1 := true) (p2 := true) (me_len m_len (me_var 1 (pv 1))) ma_nil)) (show BlkOk N__law_alike (defScope s__law_alike) _ _ from blkOk_by (own := [("k", 2)]) (by decide +kernel)) (fun _ _ _ _ _ => (mg_name (i := 2) sc__law_alike.nd)) (fun _ _ _ _ _ => (mts_one (mt_not (mt_val (me_callP F_self (hr.mono (by first | omega | (simp only [Nat.add_eq]; omega))) blk_takes (ma_cons (p1 := true) (p2 := true) (me_ix (p1 := true) (p2 := true) (k1 := false) (me_var 0 (pv 0)) (me_var 2 (pv 2))) (ma_cons (p1 := true) (p2 := true) (me_ix (p1 := true) (p2 := true) (k1 := false) (me_var 1 (pv 1)) (me_var 2 (pv 2))) ma_nil)) (by rfl)))))) (fun _ _ _ _ _ => (me_var 2 (pv 2)))) (me_lst true ma_nil)))))) mss_nil) (mss_cons (ms_if (mt_val (me_isi ["str"] (ca_ty (by rfl) m_str PyProof.Rows.boot_str) m_isinstance (me_var 1 (pv 1)))) (mss_one (ms_ret (me_and (p1 := true) (p2 := true) (me_isi ["str"] (ca_ty (by rfl) m_str PyProof.Rows.boot_str) m_isinstance (me_var 0 (pv 0))) (me_one (me_cmp (p1 := true) (p2 := true) (k1 := false) (op_eqW hr) (me_var 0 (pv 0)) (me_var 1 (pv 1))))))) mss_nil) (mss_one (ms_ret (me_and (p1 := true) (p2 := true) (me_isi ["int"] (ca_ty (by rfl) m_int PyProof.Rows.boot_int) m_isinstance (me_var 0 (pv 0))) (me_and (p1 := true) (p2 := true) (me_not (me_isi ["bool"] (ca_ty (by rfl) m_bool PyProof.Rows.boot_bool) m_isinstance (me_var 0 (pv 0)))) (me_one (me_cmp (p1 := true) (p2 := true) (k1 := false) (op_eqW hr) (me_var 0 (pv 0)) (me_var 1 (pv 1)))))))))))
/-! ### _law_thing -/
abbrev s__law_thing : Stmt := topS 34
abbrev N__law_thing : List Str := ["word", "key", "mark", "tag", "figures", "sign"]
theorem sc__law_thing : FnScope N__law_thing ["word"] (defScope s__law_thing) := ⟨rfl, rfl, rfl, by decide +kernel, rfl, by decide +kernel, by decide +kernel⟩
noncomputable def c__law_thing_1 : Sm W := mComp true (tgN 5) (toB (mBin (inW true) true (mVar 5) (mC (.str "0123456789")))) (mVar 5) [5] (iChr (mVar 4))
noncomputable def c__law_thing_2 : Sm W := mComp true (tgN 5) (toB (mBin (inW true) true (mVar 5) (mC (.str "abcdefghijklmnopqrstuvwxyz")))) (mVar 5) [5] (iChr (mVar 3))
noncomputable def b__law_thing : Sm Fl := sSeq (sAsg (tgT [1, 2, 3]) (mMeth tyStr partW true (mVar 0) (mCons (mC (.str ":")) (mNil)))) (sSeq (sSet 4 false (mVar 1)) (sSeq (sIf (toB (mBin eqW true (mSlice false true (mVar 1) (mNo) (mPart (mC (.int 1)))) (mC (.str "-")))) (sSet 4 true (mSlice false true (mVar 1) (mPart (mC (.int 1))) (mNo))) (sNil)) (sSeq (sIf (mOr (toB (mBin eqW true (mVar 4) (mC (.str "")))) (mOr (toB (mBin gtW true (mUn lenW (mVar 4)) (mC (.int 30)))) (toB (mBin neW true (mFz (c__law_thing_1)) (mArgs (lstW false) (mNil)))))) (sRet true (mC .non)) (sNil)) (sSeq (sIf (mOr (mAnd (toB (mBin gtW true (mUn lenW (mVar 4)) (mC (.int 1)))) (toB (mBin eqW true (mBin ixW true (mVar 4) (mC (.int 0))) (mC (.str "0"))))) (mOr (toB (mBin eqW true (mVar 1) (mC (.str "-0")))) (mOr (toB (mBin ltW true (mUn lenW (mVar 3)) (mC (.int 1)))) (toB (mBin gtW true (mUn lenW (mVar 3)) (mC (.int 8))))))) (sRet true (mC .non)) (sNil)) (sSeq (sIf (toB (mBin neW true (mFz (c__law_thing_2)) (mArgs (lstW false) (mNil)))) (sRet true (mC .non)) (sNil)) (sRet true (mArgs tupW (mCons (mUn toIntW (mVar 1)) (mCons (mVar 3) (mNil))))))))))
noncomputable def f__law_thing : Fn := fnSem 6 [false] b__law_thing
theorem w__law_thing {f : Addr} {fd : FuncData} (F : Fun K "_law_thing" "_law_thing" s__law_thing f fd) (g : mg "_law_thing" = some (.ref f)) (hb : Binds K fd ["word"] []) (m_int : mg "int" = none) (m_len : mg "len" = none) : FnT P w K mg base CA "_law_thing" 1 1 f__law_thing :=
  fnt_body F g hb sc__law_thing rfl rfl rfl fun cdv A outer s H E hr => (mss_cons (ms_asg (me_part (p1 := true) (p2 := true) (k1 := false) (me_var 0 (pv 0)) (ma_cons (p1 := true) (p2 := true) me_str ma_nil)) (mg_tup rfl (mgs_cons (i := 1) sc__law_thing.nd (mgs_cons (i := 2) sc__law_thing.nd (mgs_cons (i := 3) sc__law_thing.nd mgs_nil))))) (mss_cons (ms_set (i := 4) sc__law_thing.nd (me_var 1 (pv 1))) (mss_cons (ms_if (mt_cmp (p1 := true) (p2 := true) (k1 := true) (op_eqW hr) (me_slice false (p := true) (p1 := true) (p2 := true) (k1 := false) (me_var 1 (pv 1)) mo_no (mo_some me_int)) me_str) (mss_one (ms_set (i := 4) sc__law_thing.nd (me_slice false (p := true) (p1 := true) (p2 := true) (k1 := false) (me_var 1 (pv 1)) (mo_some me_int) mo_no))) mss_nil) (mss_cons (ms_if (mt_w (mw_or (p1 := true) (p2 := true) (mt_cmp (p1 := true) (p2 := true) (k1 := false) (op_eqW hr) (me_var 4 (pv 4)) me_str) (mw_or (p1 := true) (p2 := true) (mt_cmp (p1 := true) (p2 := true) (k1 := true) (op_gtW hr) (me_len m_len (me_var 4 (pv 4))) me_int) (mw_or1 (mt_cmp (p1 := true) (p2 := true) (k1 := true) (op_neW hr) (me_fz (me_lc rfl sc__law_thing.nd (own := [("sign", 5)]) (p := true) (pt := true) (pe := true) (mi_chr (me_var 4 (pv 4))) (show BlkOk N__law_thing (defScope s__law_thing) _ _ from blkOk_by (own := [("sign", 5)]) (by decide +kernel)) (fun _ _ _ _ _ => (mg_name (i := 5) sc__law_thing.nd)) (fun _ _ _ _ _ => (mts_one (mt_cmp (p1 := true) (p2 := true) (k1 := false) (op_notInW hr) (me_var 5 (pv 5)) me_str))) (fun _ _ _ _ _ => (me_var 5 (pv 5))))) (me_lst false ma_nil)))))) (mss_one (ms_ret me_non)) mss_nil) (mss_cons (ms_if (mt_w (mw_or (p1 := true) (p2 := true) (mt_w (mw_and (p1 := true) (p2 := true) (mt_cmp (p1 := true) (p2 := true) (k1 := true) (op_gtW hr) (me_len m_len (me_var 4 (pv 4))) me_int) (mw_and1 (mt_cmp (p1 := true) (p2 := true) (k1 := true) (op_eqW hr) (me_ix (p1 := true) (p2 := true) (k1 := false) (me_var 4 (pv 4)) me_int) me_str)))) (mw_or (p1 := true) (p2 := true) (mt_cmp (p1 := true) (p2 := true) (k1 := false) (op_eqW hr) (me_var 1 (pv 1)) me_str) (mw_or (p1 := true) (p2 := true) (mt_cmp (p1 := true) (p2 := true) (k1 := true) (op_ltW hr) (me_len m_len (me_var 3 (pv 3))) me_int) (mw_or1 (mt_cmp (p1 := true) (p2 := true) (k1 := true) (op_gtW hr) (me_len m_len (me_var 3 (pv 3))) me_int)))))) (mss_one (ms_ret me_non)) mss_nil) (mss_cons (ms_if (mt_cmp (p1 := true) (p2 := true) (k1 := true) (op_neW hr) (me_fz (me_lc rfl sc__law_thing.nd (own := [("sign", 5)]) (p := true) (pt := true) (pe := true) (mi_chr (me_var 3 (pv 3))) (show BlkOk N__law_thing (defScope s__law_thing) _ _ from blkOk_by (own := [("sign", 5)]) (by decide +kernel)) (fun _ _ _ _ _ => (mg_name (i := 5) sc__law_thing.nd)) (fun _ _ _ _ _ => (mts_one (mt_cmp (p1 := true) (p2 := true) (k1 := false) (op_notInW hr) (me_var 5 (pv 5)) me_str))) (fun _ _ _ _ _ => (me_var 5 (pv 5))))) (me_lst false ma_nil)) (mss_one (ms_ret me_non)) mss_nil) (mss_one (ms_ret (me_tup (ma_cons (p1 := true) (p2 := true) (me_intOf rfl m_int (me_var 1 (pv 1))) (ma_cons (p1 := true) (p2 := true) (me_var 3 (pv 3)) ma_nil)))))))))))
/-! ### _law_read -/
abbrev s__law_read : Stmt := topS 35
abbrev N__law_read : List Str := ["text", "parts", "rows", "part", "row", "word"]
theorem sc__law_read : FnScope N__law_read ["text"] (defScope s__law_read) := ⟨rfl, rfl, rfl, by decide +kernel, rfl, by decide +kernel, by decide +kernel⟩
noncomputable def c__law_read_1 : Sm W := mComp true (tgN 5) (Sm.ret true) (mCallP f__law_thing (Sm.bind (mCons (mVar 5) (mNil)) fun ws => if ws.length = 1 then Sm.ret ws else fun _ => .bad)) [5] (iLst (mMeth tyStr (split1W false) true (mVar 3) (mCons (mC (.str ", ")) (mNil))))
noncomputable def b__law_read_1 : Sm Fl := sSeq (sSet 4 true (mArgs (lstW false) (mNil))) (sSeq (sIf (toB (mBin neW true (mVar 3) (mC (.str "-")))) (sSet 4 true (mFz (c__law_read_1))) (sNil)) (sSeq (sIf (toB (mBin (inW false) true (mC .non) (mVar 4))) (sRet true (mC .non)) (sNil)) (sDrop (mMut 2 fAppend (mCons (mVar 4) (mNil))))))
noncomputable def b__law_read : Sm Fl := sSeq (sSet 1 true (mMeth tyStr (split1W false) true (mVar 0) (mCons (mC (.str "; ")) (mNil)))) (sSeq (sIf (toB (mBin gtW true (mUn lenW (mVar 1)) (mC (.int 6)))) (sRet true (mC .non)) (sNil)) (sSeq (sSet 2 true (mArgs (lstW true) (mNil))) (sSeq (sFor (tgN 3) b__law_read_1 [3, 4] (iLst (mVar 1))) (sRet true (mMove 2)))))
noncomputable def f__law_read : Fn := fnSem 6 [false] b__law_read
theorem w__law_read {f : Addr} {fd : FuncData} (F : Fun K "_law_read" "_law_read" s__law_read f fd) (g : mg "_law_read" = some (.ref f)) (hb : Binds K fd ["text"] []) (m_len : mg "len" = none) (F__law_thing : FnT P w K mg base CA "_law_thing" 1 1 f__law_thing) : FnT P w K mg base CA "_law_read" 1 2 f__law_read :=
  fnt_body F g hb sc__law_read rfl rfl rfl fun cdv A outer s H E hr => (mss_cons (ms_set (i := 1) sc__law_read.nd (me_split false (p1 := true) (p2 := true) (k1 := false) (me_var 0 (pv 0)) (ma_cons (p1 := true) (p2 := true) me_str ma_nil))) (mss_cons (ms_if (mt_cmp (p1 := true) (p2 := true) (k1 := true) (op_gtW hr) (me_len m_len (me_var 1 (pv 1))) me_int) (mss_one (ms_ret me_non)) mss_nil) (mss_cons (ms_set (i := 2) sc__law_read.nd (me_lst true ma_nil)) (mss_cons (ms_for [3, 4] zf_pass rfl (mi_list (me_var 1 (pv 1))) (mg_name (i := 3) sc__law_read.nd) (mss_cons (ms_set (i := 4) sc__law_read.nd (me_lst false ma_nil)) (mss_cons (ms_if (mt_cmp (p1 := true) (p2 := true) (k1 := false) (op_neW hr) (me_var 3 (pv 3)) me_str) (mss_one (ms_setLc (i := 4) false rfl sc__law_read.nd (own := [("word", 5)]) (p := true) (pt := true) (pe := true) (mi_list (me_split false (p1 := true) (p2 := true) (k1 := false) (me_var 3 (pv 3)) (ma_cons (p1 := true) (p2 := true) me_str ma_nil))) (show BlkOk N__law_read (defScope s__law_read) _ _ from blkOk_by (own := [("word", 5)]) (by decide +kernel)) (fun _ _ _ _ _ => (mg_name (i := 5) sc__law_read.nd)) (fun _ _ _ _ _ => mts_nil) (fun _ _ _ _ _ => (me_callP F__law_thing (hr.mono (by decide)) blk_takes (ma_cons (p1 := true) (p2 := true) (me_var 5 (pv 5)) ma_nil) (by rfl))))) mss_nil) (mss_cons (ms_if (mt_cmp (p1 := true) (p2 := true) (k1 := true) (op_inW hr) me_non (me_var 4 (pv 4))) (mss_one (ms_ret me_non)) mss_nil) (mss_one (ms_expr (me_append (pv 2) (ma_cons (p1 := true) (p2 := true) (me_var 4 (pv 4)) ma_nil)))))))) (mss_one (ms_ret (me_move 2 (pv 2) rfl)))))))
/-! ### _law_asked -/
abbrev isTab_NoDeed_NoName_NoNumber_NoRow : Nat → Option Bool := tabU [some 2, some 4, some 1, some 5] 6
abbrev isTab_ValueError : Nat → Option Bool := tabU [none] 6
abbrev isTab_NoText : Nat → Option Bool := tabU [some 3] 6
def acc_LotError (c : Nat) : Option Bool := if c < 6 then some (true) else none
abbrev s__law_asked : Stmt := topS 36
abbrev N__law_asked : List Str := ["text", "found", "caught", "e"]
theorem sc__law_asked : FnScope N__law_asked ["text"] (defScope s__law_asked) := ⟨rfl, rfl, rfl, by decide +kernel, rfl, by decide +kernel, by decide +kernel⟩
noncomputable def b__law_asked_1 : Sm Fl := sSet 1 true (mFzD (mCall f_read_rows 1 (rValX (mVar 0) (rNil))))
noncomputable def b__law_asked : Sm Fl := sSeq (sSet 1 true (mC .non)) (sSeq (sSet 2 true (mC .non)) (sSeq (sTry acc_LotError 3 2 b__law_asked_1) (sSeq (sIf (toB (mBin (isNW false) true (mVar 2) (mC .non))) (sRet true (mArgs tupW (mCons (mC (.str "told")) (mCons (mVar 1) (mNil))))) (sNil)) (sSeq (sIf (mOr (toB (mUn (isxW isTab_NoDeed_NoName_NoNumber_NoRow) (mVar 2))) (mNot (toB (mUn (isxW isTab_ValueError) (mVar 2))))) (sRet true (mArgs tupW (mCons (mC (.str "odd")) (mCons (mC .non) (mNil))))) (sNil)) (sRet true (mArgs tupW (mCons (mBin ixW true (mArgs (lstW false) (mCons (mC (.str "odd")) (mCons (mC (.str "NoText")) (mNil)))) (mUn toIntW (mUn (isxW isTab_NoText) (mVar 2)))) (mCons (mC .non) (mNil)))))))))
noncomputable def f__law_asked : Fn := fnSem 4 [false] b__law_asked
theorem w__law_asked {f : Addr} {fd : FuncData} (F : Fun K "_law_asked" "_law_asked" s__law_asked f fd) (g : mg "_law_asked" = some (.ref f)) (hb : Binds K fd ["text"] []) (m_ValueError : mg "ValueError" = none) (m_int : mg "int" = none) (m_isinstance : mg "isinstance" = none) (k_LotError : ClsT K mg CA "LotError" 0) (k_NoDeed : ClsT K mg CA "NoDeed" 2) (k_NoName : ClsT K mg CA "NoName" 4) (k_NoNumber : ClsT K mg CA "NoNumber" 1) (k_NoRow : ClsT K mg CA "NoRow" 5) (k_NoText : ClsT K mg CA "NoText" 3) (h_isTab_NoDeed_NoName_NoNumber_NoRow : ∀ c b, isTab_NoDeed_NoName_NoNumber_NoRow c = some b → ExcC K (CA c) ∧ isAns K (.ref (CA c)) [.ref (CA 2), .ref (CA 4), .ref (CA 1), .ref (CA 5)] false = some b) (h_isTab_ValueError : ∀ c b, isTab_ValueError c = some b → ExcC K (CA c) ∧ isAns K (.ref (CA c)) [.type "ValueError"] true = some b) (h_isTab_NoText : ∀ c b, isTab_NoText c = some b → ExcC K (CA c) ∧ isAns K (.ref (CA c)) [.ref (CA 3)] true = some b) (h_acc_LotError : ∀ k b, acc_LotError k = some b → PySem.W.exmOne K (.ref (CA k)) (.ref (CA 0)) = some b) (F_read_rows : FnT P w K mg base CA "read_rows" 1 5 f_read_rows) : FnT P w K mg base CA "_law_asked" 1 6 f__law_asked :=
  fnt_body F g hb sc__law_asked rfl rfl rfl fun cdv A outer s H E hr => (mss_cons (ms_set (i := 1) sc__law_asked.nd me_non) (mss_cons (ms_set (i := 2) sc__law_asked.nd me_non) (mss_cons (ms_try (i := 3) (j := 2) acc_LotError h_acc_LotError ⟨by rfl, by decide, .inl k_LotError.g⟩ zf_takes (fun _ _ _ tk pas => (mss_one (ms_set (i := 1) sc__law_asked.nd (me_fzD (me_call F_read_rows (hr.mono (by decide)) tk (mr_valX (p1 := true) (p2 := true) (me_var 0 (pv 0)) mr_nil) (by rfl)))))) sc__law_asked.nd) (mss_cons (ms_if (mt_cmp (p1 := true) (p2 := true) (k1 := false) op_isNW (me_var 2 (pv 2)) me_non) (mss_one (ms_ret (me_tup (ma_cons (p1 := true) (p2 := true) me_str (ma_cons (p1 := true) (p2 := true) (me_var 1 (pv 1)) ma_nil))))) mss_nil) (mss_cons (ms_if (mt_w (mw_or (p1 := true) (p2 := true) (mt_val (me_isx isTab_NoDeed_NoName_NoNumber_NoRow (ca_tup (cas_cons (ca_own (by rfl) (k_NoDeed).g) (cas_cons (ca_own (by rfl) (k_NoName).g) (cas_cons (ca_own (by rfl) (k_NoNumber).g) (cas_cons (ca_own (by rfl) (k_NoRow).g) cas_nil)))) (by show (4 : Nat) ≤ sizeLine; decide)) m_isinstance h_isTab_NoDeed_NoName_NoNumber_NoRow (me_var 2 (pv 2)))) (mw_or1 (mt_not (mt_val (me_isx isTab_ValueError (ca_ty (by rfl) m_ValueError boot_VE) m_isinstance h_isTab_ValueError (me_var 2 (pv 2)))))))) (mss_one (ms_ret (me_tup (ma_cons (p1 := true) (p2 := true) me_str (ma_cons (p1 := true) (p2 := true) me_non ma_nil))))) mss_nil) (mss_one (ms_ret (me_tup (ma_cons (p1 := true) (p2 := true) (me_ix (p1 := true) (p2 := true) (k1 := true) (me_lst false (ma_cons (p1 := true) (p2 := true) me_str (ma_cons (p1 := true) (p2 := true) me_str ma_nil))) (me_intOf rfl m_int (me_isx isTab_NoText (ca_own (by rfl) (k_NoText).g) m_isinstance h_isTab_NoText (me_var 2 (pv 2))))) (ma_cons (p1 := true) (p2 := true) me_non ma_nil))))))))))
/-! ### _law_changed -/
abbrev s__law_changed : Stmt := topS 37
abbrev N__law_changed : List Str := ["text", "deck", "at", "sign", "way"]
theorem sc__law_changed : FnScope N__law_changed ["text", "deck"] (defScope s__law_changed) := ⟨rfl, rfl, rfl, by decide +kernel, rfl, by decide +kernel, by decide +kernel⟩
noncomputable def b__law_changed : Sm Fl := sSeq (sSet 2 true (mBin modW true (mBin (addW false) true (mCall f__law_take 2 (Sm.bind (mVar 1) fun _ => rIo 1 (rVal (mC (.int 64)) (rNil)))) (mBin (mulW false) true (mC (.int 64)) (mCall f__law_take 2 (Sm.bind (mVar 1) fun _ => rIo 1 (rVal (mC (.int 64)) (rNil)))))) (mBin (addW false) true (mUn lenW (mVar 0)) (mC (.int 1))))) (sSeq (sSet 3 true (mBin ixW true (mC (.str " 019-:,;abZ+_.\n\t/{`(=@\x5bhmqz258~")) (mCall f__law_take 2 (Sm.bind (mVar 1) fun _ => rIo 1 (rVal (mC (.int 31)) (rNil)))))) (sSeq (sSet 4 true (mCall f__law_take 2 (Sm.bind (mVar 1) fun _ => rIo 1 (rVal (mC (.int 7)) (rNil))))) (sSeq (sIf (toB (mBin eqW true (mVar 4) (mC (.int 0)))) (sRet true (mBin (addW true) true (mSlice true true (mVar 0) (mNo) (mPart (mVar 2))) (mSlice true true (mVar 0) (mPart (mBin (addW true) true (mVar 2) (mC (.int 1)))) (mNo)))) (sNil)) (sSeq (sIf (toB (mBin ltW true (mVar 4) (mC (.int 3)))) (sRet true (mBin (addW true) true (mBin (addW true) true (mSlice true true (mVar 0) (mNo) (mPart (mVar 2))) (mVar 3)) (mSlice true true (mVar 0) (mPart (mBin subW true (mBin (addW true) true (mVar 2) (mVar 4)) (mC (.int 1)))) (mNo)))) (sNil)) (sSeq (sIf (toB (mBin eqW true (mVar 4) (mC (.int 3)))) (sRet true (mBin (addW true) true (mBin (addW true) true (mSlice true true (mVar 0) (mNo) (mPart (mVar 2))) (mUn revZW (mSlice true true (mVar 0) (mPart (mVar 2)) (mPart (mBin (addW true) true (mVar 2) (mC (.int 2))))))) (mSlice true true (mVar 0) (mPart (mBin (addW true) true (mVar 2) (mC (.int 2)))) (mNo)))) (sNil)) (sSeq (sIf (toB (mBin eqW true (mVar 4) (mC (.int 4)))) (sRet true (mBin (addW true) true (mBin (addW true) true (mSlice true true (mVar 0) (mNo) (mPart (mVar 2))) (mSlice true true (mVar 0) (mPart (mVar 2)) (mPart (mBin (addW true) true (mVar 2) (mC (.int 5)))))) (mSlice true true (mVar 0) (mPart (mVar 2)) (mNo)))) (sNil)) (sSeq (sIf (toB (mBin eqW true (mVar 4) (mC (.int 5)))) (sRet true (mBin (addW true) false (mVar 0) (mBin ixW true (mArgs (lstW true) (mCons (mC (.str " ")) (mCons (mC (.str ";")) (mCons (mC (.str "; ")) (mCons (mC (.str ", ")) (mCons (mC (.str "; -")) (mCons (mC (.str ", -")) (mCons (mC (.str "\n")) (mCons (mC (.str "a")) (mNil)))))))))) (mCall f__law_take 2 (Sm.bind (mVar 1) fun _ => rIo 1 (rVal (mC (.int 8)) (rNil))))))) (sNil)) (sRet true (mBin (addW true) true (mBin ixW true (mArgs (lstW true) (mCons (mC (.str " ")) (mCons (mC (.str "-")) (mCons (mC (.str "; ")) (mCons (mC (.str ", ")) (mCons (mC (.str "0")) (mCons (mC (.str "- ")) (mNil)))))))) (mCall f__law_take 2 (Sm.bind (mVar 1) fun _ => rIo 1 (rVal (mC (.int 6)) (rNil))))) (mVar 0))))))))))
noncomputable def f__law_changed : Fn := fnSem 5 [false, true] b__law_changed
theorem w__law_changed {f : Addr} {fd : FuncData} (F : Fun K "_law_changed" "_law_changed" s__law_changed f fd) (g : mg "_law_changed" = some (.ref f)) (hb : Binds K fd ["text", "deck"] []) (m_len : mg "len" = none) (F__law_take : FnT P w K mg base CA "_law_take" 2 1 f__law_take) : FnT P w K mg base CA "_law_changed" 2 2 f__law_changed :=
  fnt_body F g hb sc__law_changed rfl rfl rfl fun cdv A outer s H E hr => (mss_cons (ms_set (i := 2) sc__law_changed.nd (me_op (p1 := false) (p2 := true) (k1 := true) op_modW (me_op (p1 := false) (p2 := false) (k1 := true) op_addW (me_call F__law_take (hr.mono (by decide)) zf_takes (mr_io 1 (pv 1) (mr_val (p1 := true) (p2 := true) me_int mr_nil)) (by rfl)) (me_op (p1 := true) (p2 := false) (k1 := true) op_mulW me_int (me_call F__law_take (hr.mono (by decide)) zf_takes (mr_io 1 (pv 1) (mr_val (p1 := true) (p2 := true) me_int mr_nil)) (by rfl)))) (me_op (p1 := true) (p2 := true) (k1 := true) op_addW (me_len m_len (me_var 0 (pv 0))) me_int))) (mss_cons (ms_set (i := 3) sc__law_changed.nd (me_ix (p1 := true) (p2 := false) (k1 := true) me_str (me_call F__law_take (hr.mono (by decide)) zf_takes (mr_io 1 (pv 1) (mr_val (p1 := true) (p2 := true) me_int mr_nil)) (by rfl)))) (mss_cons (ms_set (i := 4) sc__law_changed.nd (me_call F__law_take (hr.mono (by decide)) zf_takes (mr_io 1 (pv 1) (mr_val (p1 := true) (p2 := true) me_int mr_nil)) (by rfl))) (mss_cons (ms_if (mt_cmp (p1 := true) (p2 := true) (k1 := false) (op_eqW hr) (me_var 4 (pv 4)) me_int) (mss_one (ms_ret (me_op (p1 := true) (p2 := true) (k1 := true) op_addW (me_slice true (p := true) (p1 := true) (p2 := true) (k1 := false) (me_var 0 (pv 0)) mo_no (mo_some (me_var 2 (pv 2)))) (me_slice true (p := true) (p1 := true) (p2 := true) (k1 := false) (me_var 0 (pv 0)) (mo_some (me_op (p1 := true) (p2 := true) (k1 := false) op_addW (me_var 2 (pv 2)) me_int)) mo_no)))) mss_nil) (mss_cons (ms_if (mt_cmp (p1 := true) (p2 := true) (k1 := false) (op_ltW hr) (me_var 4 (pv 4)) me_int) (mss_one (ms_ret (me_op (p1 := true) (p2 := true) (k1 := true) op_addW (me_op (p1 := true) (p2 := true) (k1 := true) op_addW (me_slice true (p := true) (p1 := true) (p2 := true) (k1 := false) (me_var 0 (pv 0)) mo_no (mo_some (me_var 2 (pv 2)))) (me_var 3 (pv 3))) (me_slice true (p := true) (p1 := true) (p2 := true) (k1 := false) (me_var 0 (pv 0)) (mo_some (me_op (p1 := true) (p2 := true) (k1 := true) op_subW (me_op (p1 := true) (p2 := true) (k1 := false) op_addW (me_var 2 (pv 2)) (me_var 4 (pv 4))) me_int)) mo_no)))) mss_nil) (mss_cons (ms_if (mt_cmp (p1 := true) (p2 := true) (k1 := false) (op_eqW hr) (me_var 4 (pv 4)) me_int) (mss_one (ms_ret (me_op (p1 := true) (p2 := true) (k1 := true) op_addW (me_op (p1 := true) (p2 := true) (k1 := true) op_addW (me_slice true (p := true) (p1 := true) (p2 := true) (k1 := false) (me_var 0 (pv 0)) mo_no (mo_some (me_var 2 (pv 2)))) (me_revZ (me_slice true (p := true) (p1 := true) (p2 := true) (k1 := false) (me_var 0 (pv 0)) (mo_some (me_var 2 (pv 2))) (mo_some (me_op (p1 := true) (p2 := true) (k1 := false) op_addW (me_var 2 (pv 2)) me_int))))) (me_slice true (p := true) (p1 := true) (p2 := true) (k1 := false) (me_var 0 (pv 0)) (mo_some (me_op (p1 := true) (p2 := true) (k1 := false) op_addW (me_var 2 (pv 2)) me_int)) mo_no)))) mss_nil) (mss_cons (ms_if (mt_cmp (p1 := true) (p2 := true) (k1 := false) (op_eqW hr) (me_var 4 (pv 4)) me_int) (mss_one (ms_ret (me_op (p1 := true) (p2 := true) (k1 := true) op_addW (me_op (p1 := true) (p2 := true) (k1 := true) op_addW (me_slice true (p := true) (p1 := true) (p2 := true) (k1 := false) (me_var 0 (pv 0)) mo_no (mo_some (me_var 2 (pv 2)))) (me_slice true (p := true) (p1 := true) (p2 := true) (k1 := false) (me_var 0 (pv 0)) (mo_some (me_var 2 (pv 2))) (mo_some (me_op (p1 := true) (p2 := true) (k1 := false) op_addW (me_var 2 (pv 2)) me_int)))) (me_slice true (p := true) (p1 := true) (p2 := true) (k1 := false) (me_var 0 (pv 0)) (mo_some (me_var 2 (pv 2))) mo_no)))) mss_nil) (mss_cons (ms_if (mt_cmp (p1 := true) (p2 := true) (k1 := false) (op_eqW hr) (me_var 4 (pv 4)) me_int) (mss_one (ms_ret (me_op (p1 := true) (p2 := false) (k1 := false) op_addW (me_var 0 (pv 0)) (me_ix (p1 := true) (p2 := false) (k1 := true) (me_lst true (ma_cons (p1 := true) (p2 := true) me_str (ma_cons (p1 := true) (p2 := true) me_str (ma_cons (p1 := true) (p2 := true) me_str (ma_cons (p1 := true) (p2 := true) me_str (ma_cons (p1 := true) (p2 := true) me_str (ma_cons (p1 := true) (p2 := true) me_str (ma_cons (p1 := true) (p2 := true) me_str (ma_cons (p1 := true) (p2 := true) me_str ma_nil))))))))) (me_call F__law_take (hr.mono (by decide)) zf_takes (mr_io 1 (pv 1) (mr_val (p1 := true) (p2 := true) me_int mr_nil)) (by rfl)))))) mss_nil) (mss_one (ms_ret (me_op (p1 := false) (p2 := true) (k1 := true) op_addW (me_ix (p1 := true) (p2 := false) (k1 := true) (me_lst true (ma_cons (p1 := true) (p2 := true) me_str (ma_cons (p1 := true) (p2 := true) me_str (ma_cons (p1 := true) (p2 := true) me_str (ma_cons (p1 := true) (p2 := true) me_str (ma_cons (p1 := true) (p2 := true) me_str (ma_cons (p1 := true) (p2 := true) me_str ma_nil))))))) (me_call F__law_take (hr.mono (by decide)) zf_takes (mr_io 1 (pv 1) (mr_val (p1 := true) (p2 := true) me_int mr_nil)) (by rfl))) (me_var 0 (pv 0)))))))))))))
/-! ### _law_parts_changed -/
abbrev s__law_parts_changed : Stmt := topS 38
abbrev N__law_parts_changed : List Str := ["text", "deck", "parts", "at", "words", "to", "key", "mark", "tag", "odd", "bad", "way"]
theorem sc__law_parts_changed : FnScope N__law_parts_changed ["text", "deck"] (defScope s__law_parts_changed) := ⟨rfl, rfl, rfl, by decide +kernel, rfl, by decide +kernel, by decide +kernel⟩
noncomputable def b__law_parts_changed : Sm Fl := sSeq (sSet 2 true (mMeth tyStr (split1W true) true (mVar 0) (mCons (mC (.str "; ")) (mNil)))) (sSeq (sSet 3 true (mCall f__law_take 2 (Sm.bind (mVar 1) fun _ => rIo 1 (rVal (mUn lenW (mVar 2)) (rNil))))) (sSeq (sSet 4 true (mMeth tyStr (split1W true) true (mBin ixW true (mVar 2) (mVar 3)) (mCons (mC (.str ", ")) (mNil)))) (sSeq (sSet 5 true (mCall f__law_take 2 (Sm.bind (mVar 1) fun _ => rIo 1 (rVal (mUn lenW (mVar 4)) (rNil))))) (sSeq (sAsg (tgT [6, 7, 8]) (mMeth tyStr partW true (mBin ixW true (mVar 4) (mVar 5)) (mCons (mC (.str ":")) (mNil)))) (sSeq (sSet 9 true (mArgs (lstW false) (mCons (mC (.str "-0")) (mCons (mC (.str "00")) (mCons (mC (.str "07")) (mCons (mC (.str "+1")) (mCons (mC (.str "1_0")) (mCons (mC (.str "")) (mCons (mBin mulZW true (mC (.str "1")) (mC (.int 30))) (mCons (mBin mulZW true (mC (.str "1")) (mC (.int 31))) (mCons (mBin (addW false) true (mC (.str "-")) (mBin mulZW true (mC (.str "9")) (mC (.int 30)))) (mCons (mBin (addW false) true (mC (.str "-")) (mBin mulZW true (mC (.str "9")) (mC (.int 31)))) (mCons (mC (.str "--1")) (mCons (mC (.str "1.0")) (mNil))))))))))))))) (sSeq (sSet 10 true (mArgs (lstW false) (mCons (mC (.str "")) (mCons (mC (.str "A")) (mCons (mC (.str "aaaaaaaaa")) (mCons (mC (.str "a1")) (mCons (mC (.str "a b")) (mCons (mC (.str "a:b")) (mCons (mC (.str "a-")) (mCons (mC (.str " a")) (mCons (mC (.str "a ")) (mNil)))))))))))) (sSeq (sSet 11 true (mCall f__law_take 2 (Sm.bind (mVar 1) fun _ => rIo 1 (rVal (mC (.int 6)) (rNil))))) (sSeq (sIf (toB (mBin eqW true (mVar 11) (mC (.int 0)))) (sSto 4 (mVar 5) (mBin (addW false) true (mBin (addW false) true (mBin ixW false (mVar 9) (mCall f__law_take 2 (Sm.bind (mVar 1) fun _ => rIo 1 (rVal (mC (.int 12)) (rNil))))) (mC (.str ":"))) (mSlice false true (mBin (addW false) true (mVar 8) (mC (.str "a"))) (mNo) (mPart (mC (.int 8)))))) (sIf (toB (mBin eqW true (mVar 11) (mC (.int 1)))) (sSto 4 (mVar 5) (mBin (addW false) true (mBin (addW false) true (mVar 6) (mC (.str ":"))) (mBin ixW false (mVar 10) (mCall f__law_take 2 (Sm.bind (mVar 1) fun _ => rIo 1 (rVal (mC (.int 9)) (rNil))))))) (sIf (toB (mBin eqW true (mVar 11) (mC (.int 2)))) (sSto 4 (mVar 5) (mBin (addW false) true (mVar 6) (mVar 8))) (sIf (toB (mBin eqW true (mVar 11) (mC (.int 3)))) (sSet 4 true (mBin (addW true) true (mVar 4) (mArgs (lstW true) (mCons (mC (.str "-")) (mNil))))) (sNil))))) (sGo (gFz 4) (sSeq (sSto 2 (mVar 3) (mMeth tyStr joinW true (mC (.str ", ")) (mCons (mVar 4) (mNil)))) (sSeq (sIf (toB (mBin eqW true (mVar 11) (mC (.int 4)))) (sSet 2 true (mBin (addW true) true (mSlice true true (mVar 2) (mNo) (mPart (mVar 3))) (mSlice true true (mVar 2) (mPart (mBin (addW true) true (mVar 3) (mC (.int 1)))) (mNo)))) (sNil)) (sSeq (sIf (toB (mBin eqW true (mVar 11) (mC (.int 5)))) (sGo (gFz 2) (sSet 2 true (mBin (addW true) false (mVar 2) (mBin (mulW true) true (mSlice true true (mVar 2) (mPart (mVar 3)) (mPart (mBin (addW true) true (mVar 3) (mC (.int 1))))) (mBin (addW true) true (mC (.int 1)) (mCall f__law_take 2 (Sm.bind (mVar 1) fun _ => rIo 1 (rVal (mC (.int 6)) (rNil))))))))) (sNil)) (sGo (gFz 2) (sRet true (mMeth tyStr joinW true (mC (.str "; ")) (mCons (mVar 2) (mNil)))))))))))))))))
noncomputable def f__law_parts_changed : Fn := fnSem 12 [false, true] b__law_parts_changed
theorem w__law_parts_changed {f : Addr} {fd : FuncData} (F : Fun K "_law_parts_changed" "_law_parts_changed" s__law_parts_changed f fd) (g : mg "_law_parts_changed" = some (.ref f)) (hb : Binds K fd ["text", "deck"] []) (m_len : mg "len" = none) (F__law_take : FnT P w K mg base CA "_law_take" 2 1 f__law_take) : FnT P w K mg base CA "_law_parts_changed" 2 2 f__law_parts_changed :=
  fnt_body F g hb sc__law_parts_changed rfl rfl rfl fun cdv A outer s H E hr => (mss_cons (ms_set (i := 2) sc__law_parts_changed.nd (me_split true (p1 := true) (p2 := true) (k1 := false) (me_var 0 (pv 0)) (ma_cons (p1 := true) (p2 := true) me_str ma_nil))) (mss_cons (ms_set (i := 3) sc__law_parts_changed.nd (me_call F__law_take (hr.mono (by decide)) zf_takes (mr_io 1 (pv 1) (mr_val (p1 := true) (p2 := true) (me_len m_len (me_var 2 (pv 2))) mr_nil)) (by rfl))) (mss_cons (ms_set (i := 4) sc__law_parts_changed.nd (me_split true (p1 := true) (p2 := true) (k1 := true) (me_ix (p1 := true) (p2 := true) (k1 := false) (me_var 2 (pv 2)) (me_var 3 (pv 3))) (ma_cons (p1 := true) (p2 := true) me_str ma_nil))) (mss_cons (ms_set (i := 5) sc__law_parts_changed.nd (me_call F__law_take (hr.mono (by decide)) zf_takes (mr_io 1 (pv 1) (mr_val (p1 := true) (p2 := true) (me_len m_len (me_var 4 (pv 4))) mr_nil)) (by rfl))) (mss_cons (ms_asg (me_part (p1 := true) (p2 := true) (k1 := true) (me_ix (p1 := true) (p2 := true) (k1 := false) (me_var 4 (pv 4)) (me_var 5 (pv 5))) (ma_cons (p1 := true) (p2 := true) me_str ma_nil)) (mg_tup rfl (mgs_cons (i := 6) sc__law_parts_changed.nd (mgs_cons (i := 7) sc__law_parts_changed.nd (mgs_cons (i := 8) sc__law_parts_changed.nd mgs_nil))))) (mss_cons (ms_set (i := 9) sc__law_parts_changed.nd (me_lst false (ma_cons (p1 := true) (p2 := true) me_str (ma_cons (p1 := true) (p2 := true) me_str (ma_cons (p1 := true) (p2 := true) me_str (ma_cons (p1 := true) (p2 := true) me_str (ma_cons (p1 := true) (p2 := true) me_str (ma_cons (p1 := true) (p2 := true) me_str (ma_cons (p1 := true) (p2 := true) (me_op (p1 := true) (p2 := true) (k1 := true) op_mulZ me_str me_int) (ma_cons (p1 := true) (p2 := true) (me_op (p1 := true) (p2 := true) (k1 := true) op_mulZ me_str me_int) (ma_cons (p1 := true) (p2 := true) (me_op (p1 := true) (p2 := true) (k1 := true) op_addW me_str (me_op (p1 := true) (p2 := true) (k1 := true) op_mulZ me_str me_int)) (ma_cons (p1 := true) (p2 := true) (me_op (p1 := true) (p2 := true) (k1 := true) op_addW me_str (me_op (p1 := true) (p2 := true) (k1 := true) op_mulZ me_str me_int)) (ma_cons (p1 := true) (p2 := true) me_str (ma_cons (p1 := true) (p2 := true) me_str ma_nil)))))))))))))) (mss_cons (ms_set (i := 10) sc__law_parts_changed.nd (me_lst false (ma_cons (p1 := true) (p2 := true) me_str (ma_cons (p1 := true) (p2 := true) me_str (ma_cons (p1 := true) (p2 := true) me_str (ma_cons (p1 := true) (p2 := true) me_str (ma_cons (p1 := true) (p2 := true) me_str (ma_cons (p1 := true) (p2 := true) me_str (ma_cons (p1 := true) (p2 := true) me_str (ma_cons (p1 := true) (p2 := true) me_str (ma_cons (p1 := true) (p2 := true) me_str ma_nil))))))))))) (mss_cons (ms_set (i := 11) sc__law_parts_changed.nd (me_call F__law_take (hr.mono (by decide)) zf_takes (mr_io 1 (pv 1) (mr_val (p1 := true) (p2 := true) me_int mr_nil)) (by rfl))) (mss_cons (ms_if (mt_cmp (p1 := true) (p2 := true) (k1 := false) (op_eqW hr) (me_var 11 (pv 11)) me_int) (mss_one (ms_sto (me_op (p1 := false) (p2 := true) (k1 := true) op_addW (me_op (p1 := false) (p2 := true) (k1 := true) op_addW (me_ix (p1 := true) (p2 := false) (k1 := false) (me_var 9 (pv 9)) (me_call F__law_take (hr.mono (by decide)) zf_takes (mr_io 1 (pv 1) (mr_val (p1 := true) (p2 := true) me_int mr_nil)) (by rfl))) me_str) (me_slice false (p := true) (p1 := true) (p2 := true) (k1 := true) (me_op (p1 := true) (p2 := true) (k1 := false) op_addW (me_var 8 (pv 8)) me_str) mo_no (mo_some me_int))) (pv 4) (me_var 5 (pv 5)))) (mss_one (ms_if (mt_cmp (p1 := true) (p2 := true) (k1 := false) (op_eqW hr) (me_var 11 (pv 11)) me_int) (mss_one (ms_sto (me_op (p1 := true) (p2 := false) (k1 := true) op_addW (me_op (p1 := true) (p2 := true) (k1 := false) op_addW (me_var 6 (pv 6)) me_str) (me_ix (p1 := true) (p2 := false) (k1 := false) (me_var 10 (pv 10)) (me_call F__law_take (hr.mono (by decide)) zf_takes (mr_io 1 (pv 1) (mr_val (p1 := true) (p2 := true) me_int mr_nil)) (by rfl)))) (pv 4) (me_var 5 (pv 5)))) (mss_one (ms_if (mt_cmp (p1 := true) (p2 := true) (k1 := false) (op_eqW hr) (me_var 11 (pv 11)) me_int) (mss_one (ms_sto (me_op (p1 := true) (p2 := true) (k1 := false) op_addW (me_var 6 (pv 6)) (me_var 8 (pv 8))) (pv 4) (me_var 5 (pv 5)))) (mss_one (ms_if (mt_cmp (p1 := true) (p2 := true) (k1 := false) (op_eqW hr) (me_var 11 (pv 11)) me_int) (mss_one (ms_set (i := 4) sc__law_parts_changed.nd (me_op (p1 := true) (p2 := true) (k1 := false) op_addW (me_var 4 (pv 4)) (me_lst true (ma_cons (p1 := true) (p2 := true) me_str ma_nil))))) mss_nil))))))) (mss_fz 4 (mss_cons (ms_sto (me_join (p1 := true) (p2 := true) (k1 := true) me_str (ma_cons (p1 := true) (p2 := true) (me_var 4 (pv 4)) ma_nil)) (pv 2) (me_var 3 (pv 3))) (mss_cons (ms_if (mt_cmp (p1 := true) (p2 := true) (k1 := false) (op_eqW hr) (me_var 11 (pv 11)) me_int) (mss_one (ms_set (i := 2) sc__law_parts_changed.nd (me_op (p1 := true) (p2 := true) (k1 := true) op_addW (me_slice true (p := true) (p1 := true) (p2 := true) (k1 := false) (me_var 2 (pv 2)) mo_no (mo_some (me_var 3 (pv 3)))) (me_slice true (p := true) (p1 := true) (p2 := true) (k1 := false) (me_var 2 (pv 2)) (mo_some (me_op (p1 := true) (p2 := true) (k1 := false) op_addW (me_var 3 (pv 3)) me_int)) mo_no)))) mss_nil) (mss_cons (ms_if (mt_cmp (p1 := true) (p2 := true) (k1 := false) (op_eqW hr) (me_var 11 (pv 11)) me_int) (mss_fz 2 (mss_one (ms_set (i := 2) sc__law_parts_changed.nd (me_op (p1 := true) (p2 := false) (k1 := false) op_addW (me_var 2 (pv 2)) (me_op (p1 := true) (p2 := false) (k1 := true) op_mulW (me_slice true (p := true) (p1 := true) (p2 := true) (k1 := false) (me_var 2 (pv 2)) (mo_some (me_var 3 (pv 3))) (mo_some (me_op (p1 := true) (p2 := true) (k1 := false) op_addW (me_var 3 (pv 3)) me_int))) (me_op (p1 := true) (p2 := false) (k1 := true) op_addW me_int (me_call F__law_take (hr.mono (by decide)) zf_takes (mr_io 1 (pv 1) (mr_val (p1 := true) (p2 := true) me_int mr_nil)) (by rfl)))))))) mss_nil) (mss_fz 2 (mss_one (ms_ret (me_join (p1 := true) (p2 := true) (k1 := true) me_str (ma_cons (p1 := true) (p2 := true) (me_var 2 (pv 2)) ma_nil))))))))))))))))))
/-! ### _law_odd -/
abbrev s__law_odd : Stmt := topS 39
abbrev N__law_odd : List Str := ["number", "some"]
theorem sc__law_odd : FnScope N__law_odd ["number"] (defScope s__law_odd) := ⟨rfl, rfl, rfl, by decide +kernel, rfl, by decide +kernel, by decide +kernel⟩
noncomputable def b__law_odd : Sm Fl := sSeq (sSet 1 true (mArgs (lstW false) (mCons (mC (.str "")) (mCons (mC (.str " ")) (mCons (mC (.str "-")) (mCons (mC (.str "--")) (mCons (mC (.str "- ")) (mCons (mC (.str "; ")) (mCons (mC (.str "-; -")) (mNil)))))))))) (sSeq (sSet 1 true (mBin (addW false) true (mVar 1) (mArgs (lstW false) (mCons (mC (.str "-; -; -; -; -; -")) (mCons (mC (.str "-; -; -; -; -; -; -")) (mCons (mC (.str "-;-")) (mCons (mC (.str "-, -")) (mCons (mC (.str "1:a")) (mCons (mC (.str "1:a, ")) (mNil)))))))))) (sSeq (sSet 1 true (mBin (addW false) true (mVar 1) (mArgs (lstW false) (mCons (mC (.str ", 1:a")) (mCons (mC (.str "1:a,2:b")) (mCons (mC (.str "1:a,  2:b")) (mCons (mC (.str "1:a; 2:b")) (mCons (mC (.str "1:a;2:b")) (mCons (mC (.str "1 :a")) (mNil)))))))))) (sSeq (sSet 1 true (mBin (addW false) true (mVar 1) (mArgs (lstW false) (mCons (mC (.str "1: a")) (mCons (mC (.str "1:a:b")) (mCons (mC (.str ":a")) (mCons (mC (.str "1:")) (mCons (mC (.str "1")) (mCons (mC (.str "a:1")) (mNil)))))))))) (sSeq (sSet 1 true (mBin (addW false) true (mVar 1) (mArgs (lstW false) (mCons (mC (.str "0:a")) (mCons (mC (.str "-0:a")) (mCons (mC (.str "00:a")) (mCons (mC (.str "-1:a")) (mCons (mC (.str "- 1:a")) (mCons (mC (.str "+1:a")) (mNil)))))))))) (sSeq (sSet 1 true (mBin (addW false) true (mVar 1) (mArgs (lstW false) (mCons (mC (.str "1:A")) (mCons (mC (.str "1:aaaaaaaa")) (mCons (mC (.str "1:aaaaaaaaa")) (mCons (mC (.str "-; 1:a")) (mCons (mC (.str "1:a, -")) (mNil))))))))) (sSeq (sSet 1 true (mBin (addW false) true (mVar 1) (mArgs (lstW false) (mCons (mC (.str "none")) (mCons (mC (.str "[]")) (mCons (mC (.str "(1, a)")) (mCons (mC (.str "1:a\n")) (mCons (mC (.str "1:a; ")) (mCons (mC (.str "1:a;")) (mNil)))))))))) (sRet true (mBin ixW true (mVar 1) (mBin modW true (mVar 0) (mUn lenW (mVar 1)))))))))))
noncomputable def f__law_odd : Fn := fnSem 2 [false] b__law_odd
theorem w__law_odd {f : Addr} {fd : FuncData} (F : Fun K "_law_odd" "_law_odd" s__law_odd f fd) (g : mg "_law_odd" = some (.ref f)) (hb : Binds K fd ["number"] []) (m_len : mg "len" = none) : FnT P w K mg base CA "_law_odd" 1 1 f__law_odd :=
  fnt_body F g hb sc__law_odd rfl rfl rfl fun cdv A outer s H E hr => (mss_cons (ms_set (i := 1) sc__law_odd.nd (me_lst false (ma_cons (p1 := true) (p2 := true) me_str (ma_cons (p1 := true) (p2 := true) me_str (ma_cons (p1 := true) (p2 := true) me_str (ma_cons (p1 := true) (p2 := true) me_str (ma_cons (p1 := true) (p2 := true) me_str (ma_cons (p1 := true) (p2 := true) me_str (ma_cons (p1 := true) (p2 := true) me_str ma_nil))))))))) (mss_cons (ms_set (i := 1) sc__law_odd.nd (me_op (p1 := true) (p2 := true) (k1 := false) op_addW (me_var 1 (pv 1)) (me_lst false (ma_cons (p1 := true) (p2 := true) me_str (ma_cons (p1 := true) (p2 := true) me_str (ma_cons (p1 := true) (p2 := true) me_str (ma_cons (p1 := true) (p2 := true) me_str (ma_cons (p1 := true) (p2 := true) me_str (ma_cons (p1 := true) (p2 := true) me_str ma_nil))))))))) (mss_cons (ms_set (i := 1) sc__law_odd.nd (me_op (p1 := true) (p2 := true) (k1 := false) op_addW (me_var 1 (pv 1)) (me_lst false (ma_cons (p1 := true) (p2 := true) me_str (ma_cons (p1 := true) (p2 := true) me_str (ma_cons (p1 := true) (p2 := true) me_str (ma_cons (p1 := true) (p2 := true) me_str (ma_cons (p1 := true) (p2 := true) me_str (ma_cons (p1 := true) (p2 := true) me_str ma_nil))))))))) (mss_cons (ms_set (i := 1) sc__law_odd.nd (me_op (p1 := true) (p2 := true) (k1 := false) op_addW (me_var 1 (pv 1)) (me_lst false (ma_cons (p1 := true) (p2 := true) me_str (ma_cons (p1 := true) (p2 := true) me_str (ma_cons (p1 := true) (p2 := true) me_str (ma_cons (p1 := true) (p2 := true) me_str (ma_cons (p1 := true) (p2 := true) me_str (ma_cons (p1 := true) (p2 := true) me_str ma_nil))))))))) (mss_cons (ms_set (i := 1) sc__law_odd.nd (me_op (p1 := true) (p2 := true) (k1 := false) op_addW (me_var 1 (pv 1)) (me_lst false (ma_cons (p1 := true) (p2 := true) me_str (ma_cons (p1 := true) (p2 := true) me_str (ma_cons (p1 := true) (p2 := true) me_str (ma_cons (p1 := true) (p2 := true) me_str (ma_cons (p1 := true) (p2 := true) me_str (ma_cons (p1 := true) (p2 := true) me_str ma_nil))))))))) (mss_cons (ms_set (i := 1) sc__law_odd.nd (me_op (p1 := true) (p2 := true) (k1 := false) op_addW (me_var 1 (pv 1)) (me_lst false (ma_cons (p1 := true) (p2 := true) me_str (ma_cons (p1 := true) (p2 := true) me_str (ma_cons (p1 := true) (p2 := true) me_str (ma_cons (p1 := true) (p2 := true) me_str (ma_cons (p1 := true) (p2 := true) me_str ma_nil)))))))) (mss_cons (ms_set (i := 1) sc__law_odd.nd (me_op (p1 := true) (p2 := true) (k1 := false) op_addW (me_var 1 (pv 1)) (me_lst false (ma_cons (p1 := true) (p2 := true) me_str (ma_cons (p1 := true) (p2 := true) me_str (ma_cons (p1 := true) (p2 := true) me_str (ma_cons (p1 := true) (p2 := true) me_str (ma_cons (p1 := true) (p2 := true) me_str (ma_cons (p1 := true) (p2 := true) me_str ma_nil))))))))) (mss_one (ms_ret (me_ix (p1 := true) (p2 := true) (k1 := false) (me_var 1 (pv 1)) (me_op (p1 := true) (p2 := true) (k1 := false) op_modW (me_var 0 (pv 0)) (me_len m_len (me_var 1 (pv 1))))))))))))))
/-! ### law -/
abbrev s_law : Stmt := topS 40
abbrev N_law : List Str := ["script", "k", "text", "ways", "way", "due", "kept", "word", "found"]
theorem sc_law : FnScope N_law ["script"] (defScope s_law) := ⟨rfl, rfl, rfl, by decide +kernel, rfl, by decide +kernel, by decide +kernel⟩
noncomputable def b_law_1 : Sm Fl := sSeq (sSet 2 true (mCallP f__law_written (Sm.bind (mCons (mFz (mCallU f__law_rows 2 (mCallP f__law_deck (Sm.bind (mCons (mCallP f__law_cell_at (Sm.bind (mCons (mVar 0) (mCons (mVar 1) (mNil))) fun ws => if ws.length = 2 then Sm.ret ws else fun _ => .bad)) (mCons (mC (.int 130)) (mNil))) fun ws => if ws.length = 2 then Sm.ret ws else fun _ => .bad)) (mCons (mC (.int 8)) (mNil)))) (mNil)) fun ws => if ws.length = 1 then Sm.ret ws else fun _ => .bad))) (sSeq (sSet 3 true (mSlice true true (mCallP f__law_numbers (Sm.bind (mCons (mCallP f__law_cell_at (Sm.bind (mCons (mVar 0) (mCons (mVar 1) (mNil))) fun ws => if ws.length = 2 then Sm.ret ws else fun _ => .bad)) (mCons (mC (.int 142)) (mNil))) fun ws => if ws.length = 2 then Sm.ret ws else fun _ => .bad)) (mPart (mC (.int 130))) (mNo))) (sSeq (sSet 4 true (mCall f__law_take 2 (Sm.bind (mVar 3) fun _ => rIo 3 (rVal (mC (.int 8)) (rNil))))) (sSeq (sIf (toB (mBin ltW true (mVar 4) (mC (.int 3)))) (sSet 2 true (mFz (mCall f__law_changed 2 (rValX (mVar 2) (Sm.bind (mVar 3) fun _ => rIo 3 (rNil)))))) (sNil)) (sSeq (sIf (mOr (toB (mBin eqW true (mVar 4) (mC (.int 3)))) (toB (mBin eqW true (mVar 4) (mC (.int 4))))) (sSet 2 true (mCall f__law_parts_changed 2 (rValX (mVar 2) (Sm.bind (mVar 3) fun _ => rIo 3 (rNil))))) (sNil)) (sSeq (sIf (toB (mBin eqW true (mVar 4) (mC (.int 5)))) (sSet 2 true (mCallP f__law_odd (Sm.bind (mCons (mCall f__law_take 2 (Sm.bind (mVar 3) fun _ => rIo 3 (rVal (mC (.int 64)) (rNil)))) (mNil)) fun ws => if ws.length = 1 then Sm.ret ws else fun _ => .bad))) (sNil)) (sSeq (sSet 2 true (mSlice false true (mVar 2) (mNo) (mPart (mC (.int 4000))))) (sSeq (sSet 5 true (mFz (mCall f__law_read 1 (rValX (mVar 2) (rNil))))) (sSeq (sIf (mAnd (toB (mBin eqW true (mVar 4) (mC (.int 6)))) (toB (mBin eqW true (mCall f__law_take 2 (Sm.bind (mVar 3) fun _ => rIo 3 (rVal (mC (.int 2)) (rNil)))) (mC (.int 0))))) (sSeq (sSet 2 true (mPick (rVal (mC .non) (rVal (mC (.int 7)) (rVal (mArgs (lstW false) (mCons (mArgs (lstW false) (mNil)) (mNil))) (rVal (mArgs (lstW false) (mCons (mC (.str "-")) (mNil))) (rVal (mC (.bl true)) (rValX (mC .edc) (rVal (mArgs tupW (mCons (mC (.str "-")) (mNil))) (rVal (mC (.int 0)) (rNil))))))))) (mCall f__law_take 2 (Sm.bind (mVar 3) fun _ => rIo 3 (rVal (mC (.int 8)) (rNil)))))) (sSet 5 true (mC .non))) (sNil)) (sSeq (sSet 6 true (mUn strXW (mVar 2))) (sSeq (sAsg (tgT [7, 8]) (mCall f__law_asked 1 (rValX (mVar 2) (rNil)))) (sSeq (sIf (mOr (toB (mBin neW true (mUn strXW (mVar 2)) (mVar 6))) (toB (mBin neW true (mVar 7) (mBin ixW true (mArgs (lstW false) (mCons (mC (.str "told")) (mCons (mC (.str "NoText")) (mNil)))) (mUn toIntW (mBin (isNW false) true (mVar 5) (mC .non))))))) (sRet true (mC (.bl false))) (sNil)) (sIf (mAnd (toB (mBin (isNW true) true (mVar 5) (mC .non))) (mNot (toB (mCallP (f__law_alike 5) (Sm.bind (mCons (mVar 8) (mCons (mVar 5) (mNil))) fun ws => if ws.length = 2 then Sm.ret ws else fun _ => .bad))))) (sRet true (mC (.bl false))) (sNil)))))))))))))
noncomputable def b_law : Sm Fl := sSeq (sFor (tgN 1) b_law_1 [1, 2, 3, 4, 5, 6, 7, 8] (iArgs rng1 (mCons (mArgs max2W (mCons (mC (.int 1)) (mCons (mArgs min2W (mCons (mUn lenW (mVar 0)) (mCons (mC (.int 12)) (mNil)))) (mNil)))) (mNil)))) (sRet true (mC (.bl true)))
noncomputable def f_law : Fn := fnSem 9 [false] b_law
theorem o_law {f : Addr} {fd : FuncData} (F : Fun K "law" "law" s_law f fd) (m_int : mg "int" = none) (m_len : mg "len" = none) (m_max : mg "max" = none) (m_min : mg "min" = none) (m_range : mg "range" = none) (m_str : mg "str" = none) (F__law_cell_at : FnT P w K mg base CA "_law_cell_at" 2 1 f__law_cell_at) (F__law_numbers : FnT P w K mg base CA "_law_numbers" 2 1 f__law_numbers) (F__law_deck : FnT P w K mg base CA "_law_deck" 2 2 f__law_deck) (F__law_take : FnT P w K mg base CA "_law_take" 2 1 f__law_take) (F__law_rows : FnT P w K mg base CA "_law_rows" 2 3 f__law_rows) (F__law_written : FnT P w K mg base CA "_law_written" 1 2 f__law_written) (F__law_alike : FnT P w K mg base CA "_law_alike" 2 6 (f__law_alike 5)) (F__law_read : FnT P w K mg base CA "_law_read" 1 2 f__law_read) (F__law_asked : FnT P w K mg base CA "_law_asked" 1 6 f__law_asked) (F__law_changed : FnT P w K mg base CA "_law_changed" 2 2 f__law_changed) (F__law_parts_changed : FnT P w K mg base CA "_law_parts_changed" 2 2 f__law_parts_changed) (F__law_odd : FnT P w K mg base CA "_law_odd" 1 1 f__law_odd) : AnsAt callerA [] P w K mg base f fd ["script"] (spOf ⟨K, CA⟩ 1 f_law) :=
  top_body (k := 7 - 1) ⟨rfl, by decide, by decide⟩ F sc_law rfl rfl fun cdv s H E hr => (mss_cons (ms_for [1, 2, 3, 4, 5, 6, 7, 8] zf_pass rfl (mi_range1 m_range (ma_cons (p1 := true) (p2 := true) (me_max2 rfl m_max (ma_cons (p1 := true) (p2 := true) me_int (ma_cons (p1 := true) (p2 := true) (me_min2 rfl m_min (ma_cons (p1 := true) (p2 := true) (me_len m_len (me_var 0 (pv 0))) (ma_cons (p1 := true) (p2 := true) me_int ma_nil))) ma_nil))) ma_nil)) (mg_name (i := 1) sc_law.nd) (mss_cons (ms_set (i := 2) sc_law.nd (me_callP F__law_written (hr.mono (by decide)) zf_takes (ma_cons (p1 := false) (p2 := true) (me_fz (me_callU F__law_rows (hr.mono (by decide)) zf_takes (me_callP F__law_deck (hr.mono (by decide)) zf_takes (ma_cons (p1 := true) (p2 := true) (me_callP F__law_cell_at (hr.mono (by decide)) zf_takes (ma_cons (p1 := true) (p2 := true) (me_var 0 (pv 0)) (ma_cons (p1 := true) (p2 := true) (me_var 1 (pv 1)) ma_nil)) (by rfl)) (ma_cons (p1 := true) (p2 := true) me_int ma_nil)) (by rfl)) (ma_cons (p1 := true) (p2 := true) me_int ma_nil) (by rfl))) ma_nil) (by rfl))) (mss_cons (ms_set (i := 3) sc_law.nd (me_slice true (p := true) (p1 := true) (p2 := true) (k1 := true) (me_callP F__law_numbers (hr.mono (by decide)) zf_takes (ma_cons (p1 := true) (p2 := true) (me_callP F__law_cell_at (hr.mono (by decide)) zf_takes (ma_cons (p1 := true) (p2 := true) (me_var 0 (pv 0)) (ma_cons (p1 := true) (p2 := true) (me_var 1 (pv 1)) ma_nil)) (by rfl)) (ma_cons (p1 := true) (p2 := true) me_int ma_nil)) (by rfl)) (mo_some me_int) mo_no)) (mss_cons (ms_set (i := 4) sc_law.nd (me_call F__law_take (hr.mono (by decide)) zf_takes (mr_io 3 (pv 3) (mr_val (p1 := true) (p2 := true) me_int mr_nil)) (by rfl))) (mss_cons (ms_if (mt_cmp (p1 := true) (p2 := true) (k1 := false) (op_ltW hr) (me_var 4 (pv 4)) me_int) (mss_one (ms_set (i := 2) sc_law.nd (me_fz (me_call F__law_changed (hr.mono (by decide)) zf_takes (mr_valX (p1 := true) (p2 := true) (me_var 2 (pv 2)) (mr_io 3 (pv 3) mr_nil)) (by rfl))))) mss_nil) (mss_cons (ms_if (mt_w (mw_or (p1 := true) (p2 := true) (mt_cmp (p1 := true) (p2 := true) (k1 := false) (op_eqW hr) (me_var 4 (pv 4)) me_int) (mw_or1 (mt_cmp (p1 := true) (p2 := true) (k1 := false) (op_eqW hr) (me_var 4 (pv 4)) me_int)))) (mss_one (ms_set (i := 2) sc_law.nd (me_call F__law_parts_changed (hr.mono (by decide)) zf_takes (mr_valX (p1 := true) (p2 := true) (me_var 2 (pv 2)) (mr_io 3 (pv 3) mr_nil)) (by rfl)))) mss_nil) (mss_cons (ms_if (mt_cmp (p1 := true) (p2 := true) (k1 := false) (op_eqW hr) (me_var 4 (pv 4)) me_int) (mss_one (ms_set (i := 2) sc_law.nd (me_callP F__law_odd (hr.mono (by decide)) zf_takes (ma_cons (p1 := false) (p2 := true) (me_call F__law_take (hr.mono (by decide)) zf_takes (mr_io 3 (pv 3) (mr_val (p1 := true) (p2 := true) me_int mr_nil)) (by rfl)) ma_nil) (by rfl)))) mss_nil) (mss_cons (ms_set (i := 2) sc_law.nd (me_slice false (p := true) (p1 := true) (p2 := true) (k1 := false) (me_var 2 (pv 2)) mo_no (mo_some me_int))) (mss_cons (ms_set (i := 5) sc_law.nd (me_fz (me_call F__law_read (hr.mono (by decide)) zf_takes (mr_valX (p1 := true) (p2 := true) (me_var 2 (pv 2)) mr_nil) (by rfl)))) (mss_cons (ms_if (mt_w (mw_and (p1 := true) (p2 := false) (mt_cmp (p1 := true) (p2 := true) (k1 := false) (op_eqW hr) (me_var 4 (pv 4)) me_int) (mw_and1 (mt_cmp (p1 := false) (p2 := true) (k1 := true) (op_eqW hr) (me_call F__law_take (hr.mono (by decide)) zf_takes (mr_io 3 (pv 3) (mr_val (p1 := true) (p2 := true) me_int mr_nil)) (by rfl)) me_int)))) (mss_cons (ms_set (i := 2) sc_law.nd (me_pick (p1 := true) (p2 := false) (mr_val (p1 := true) (p2 := true) me_non (mr_val (p1 := true) (p2 := true) me_int (mr_val (p1 := true) (p2 := true) (me_lst false (ma_cons (p1 := true) (p2 := true) (me_lst false ma_nil) ma_nil)) (mr_val (p1 := true) (p2 := true) (me_lst false (ma_cons (p1 := true) (p2 := true) me_str ma_nil)) (mr_val (p1 := true) (p2 := true) me_bl (mr_valX (p1 := true) (p2 := true) me_edc (mr_val (p1 := true) (p2 := true) (me_tup (ma_cons (p1 := true) (p2 := true) me_str ma_nil)) (mr_val (p1 := true) (p2 := true) me_int mr_nil)))))))) (me_call F__law_take (hr.mono (by decide)) zf_takes (mr_io 3 (pv 3) (mr_val (p1 := true) (p2 := true) me_int mr_nil)) (by rfl)))) (mss_one (ms_set (i := 5) sc_law.nd me_non))) mss_nil) (mss_cons (ms_set (i := 6) sc_law.nd (me_strX rfl hr.units m_str (me_var 2 (pv 2)))) (mss_cons (ms_asg (me_call F__law_asked (hr.mono (by decide)) zf_takes (mr_valX (p1 := true) (p2 := true) (me_var 2 (pv 2)) mr_nil) (by rfl)) (mg_tup rfl (mgs_cons (i := 7) sc_law.nd (mgs_cons (i := 8) sc_law.nd mgs_nil)))) (mss_cons (ms_if (mt_w (mw_or (p1 := true) (p2 := true) (mt_cmp (p1 := true) (p2 := true) (k1 := true) (op_neW hr) (me_strX rfl hr.units m_str (me_var 2 (pv 2))) (me_var 6 (pv 6))) (mw_or1 (mt_cmp (p1 := true) (p2 := true) (k1 := false) (op_neW hr) (me_var 7 (pv 7)) (me_ix (p1 := true) (p2 := true) (k1 := true) (me_lst false (ma_cons (p1 := true) (p2 := true) me_str (ma_cons (p1 := true) (p2 := true) me_str ma_nil))) (me_intOf rfl m_int (me_cmp (p1 := true) (p2 := true) (k1 := false) op_isNW (me_var 5 (pv 5)) me_non))))))) (mss_one (ms_ret me_bl)) mss_nil) (mss_one (ms_if (mt_w (mw_and (p1 := true) (p2 := true) (mt_cmp (p1 := true) (p2 := true) (k1 := false) op_isNotNW (me_var 5 (pv 5)) me_non) (mw_and1 (mt_not (mt_val (me_callP F__law_alike (hr.mono (by decide)) zf_takes (ma_cons (p1 := true) (p2 := true) (me_var 8 (pv 8)) (ma_cons (p1 := true) (p2 := true) (me_var 5 (pv 5)) ma_nil)) (by rfl))))))) (mss_one (ms_ret me_bl)) mss_nil))))))))))))))) (mss_one (ms_ret me_bl)))
end
end Ev
namespace Ev
open PySem PySem.Spec L2
local macro_rules
  | `(tactic| simp_arith [$ls,*] $[$l:location]?) => `(tactic| simp only [↓r_bind, ↓r_ret, ↓r_lft, ↓r_c, ↓r_var2, ↓r_move, ↓r_un, ↓r_bin, ↓r_chain, ↓r_toB, ↓r_ofB, ↓r_and, ↓r_or, ↓r_not, ↓r_nil, ↓r_cons, ↓r_args, ↓r_iargs, ↓r_ilst, ↓r_part, ↓r_no, ↓r_slice, ↓r_callP, ↓r_rnil, ↓r_rval, ↓r_rvalX, ↓r_pick, pas_str, pas_int, pas_bl, pas_non, pas_tup, pas_lst, pas_edc, pick_edc, ↓r_rio, ↓r_call, ↓r_callL, ↓r_fz, ↓r_seq, ↓r_snil, ↓r_if, ↓r_drop, ↓r_sret, ↓r_set, ↓r_asg, ↓r_aug, ↓r_sfor, ↓r_mut, ↓r_sto, ↓r_go, ↓r_gfz, ↓r_push, ↓r_gfzD, ↓r_fzD,  ↓r_raise, ↓r_try, ↓r_itup, ↓r_iseq, ↓r_andV, ↓r_orV, ↓r_notV, ↓r_fn, ↓r_meth, ↓r_augS, ↓r_ichr, ↓r_pair, ↓r_mutN, ↓r_mutT, ↓r_app, ↓r_gfzC, ↓r_callO, ↓r_asgN, ↓r_takeK, pick_nst, pick_ntp, w_strL, w_zip3, ↓r_dnew, ↓r_key1, ↓r_keyT, ↓r_dget, ↓r_dget2, ↓r_dput, ↓r_mutP, ↓r_mutKP, ↓r_stoP, ↓r_stoN, ↓r_dputP, ↓r_fldP, ↓r_callM, ↓r_makeL, ↓r_gfzK, ↓r_gfzP, ↓r_dpopP, ↓r_augP, ↓r_forP, ↓r_chainI, ↓r_callT, ↓r_ikeys, ↓r_keyCut, w_keyI, w_keyS, w_keyT2, w_lookT, w_lookK, w_lookDT, w_lookDK, w_dputT, w_dputK, w_dkeysT, w_dkeysK, isDW_dct, frz_dct, pick_dct, w_geX, ty_str, and_self,
      maskL_nil, maskL_cons, frz_non, frz_bl, frz_int, frz_str, frz_tup, frz_lst, frz_scr, fz_lst, fz_int, fz_tup, fz_str, fz_bl, w_lst, w_tup, w_add, w_addL, w_addB, w_sub, w_mul, w_rep, w_fdiv, w_mod, w_pow, w_neg, w_lt, w_le, w_ge, w_gt, w_bl, w_intW, w_toI, w_toB, w_max2, w_min2, w_abs, w_lenL, w_lenC, w_lenT, w_listL, w_listC, w_listT, w_tupL, w_rev, w_ixL, w_ixC, w_ixT, w_cutL, w_cutC, w_frzL, w_frzC, w_rng1, w_rng2, w_enum, w_enumC, w_zip, w_app, w_ext, w_pop, w_sum, w_isx, w_isiI, w_isiB, w_tgN, w_tgT, w_killN, w_killC, w_takeN, w_takeV, w_takeI, w_putI, w_putV, w_putN, w_lendN, w_lendV, w_lendI, flat_bl, flat_int, flat_non,
      pick_non, pick_bl, pick_int, pick_str, pick_tup, pick_lst, pick_scr, pick_exc, pick_T, pick_R, pick_N, frzT, frzR, frzN, w_seqL, w_seqT, w_seqC, w_zipT, w_zipA, w_tupLt, w_leX, eqW_int, neW_int, eqW_nil, neW_nil, eqW_str, neW_str, List.cons_append, List.nil_append, List.length_cons, List.length_nil, List.replicate_succ, List.replicate_zero, List.getElem?_cons_zero, List.getElem?_cons_succ, List.set_cons_zero, List.set_cons_succ, List.length_map, Option.map_some, Option.bind_some, cond_true, cond_false, Bool.true_or, Bool.or_true, Bool.false_or, Bool.or_false, Bool.not_true, Bool.not_false, Bool.true_and, Bool.false_and, Nat.reduceSub, Nat.reduceAdd, Nat.reduceLeDiff, ↓reduceIte, if_true, if_false, reduceCtorEq, decide_true, decide_false, decide_eq_true_eq, Nat.zero_add, Nat.add_zero, $ls,*] $[$l]?)
/-! ### a comprehension, by what holds between its things -/
theorem mLc_inv {α β : Type} {f : Tg} {tt : Sm Bool} {te : Sm W} {vs : List Nat} (e : α → W) (d : β → W) (P : β → Prop) (I : Nat → List W → Prop) : ∀ {xs : List α} {acc env : List W}, I xs.length (killE vs env) → acc.length + xs.length ≤ sizeLine →
    (∀ x ∈ xs, ∀ n env, I (n + 1) env → ∃ y env', lcOne f tt te vs (e x) env = .ok (some (d y)) env' ∧ P y ∧ I n env') → ∃ (ys : List β) (env' : List W), mLc f tt te vs (xs.map e) acc env = .ok (acc ++ ys.map d) env' ∧ I 0 env' ∧ ys.length = xs.length ∧ ∀ y ∈ ys, P y
  | [], acc, env, i, hl, _ => ⟨[], killE vs env, by rw [List.map_nil, List.map_nil, List.append_nil, mLc], i, rfl, fun _ z => nomatch z⟩
  | x :: xs, acc, env, i, hl, h => by
    rw [List.length_cons] at hl
    obtain ⟨y, env', h1, h2, h3⟩ := h x List.mem_cons_self _ _ i
    obtain ⟨env2, h4, h5⟩ := mLc_cons (xs := xs.map e) (acc := acc) h1 (by omega)
    rw [← h4] at h3
    obtain ⟨ys, env3, g1, g2, g3, g4⟩ := mLc_inv (acc := acc ++ [d y]) e d P I h3 (by rw [List.length_append, List.length_singleton]; omega) fun z hz => h z (List.mem_cons_of_mem _ hz)
    refine ⟨y :: ys, env3, ?_, g2, by rw [List.length_cons, g3, List.length_cons], fun z hz => ?_⟩
    · rw [List.map_cons, h5]
      show mLc f tt te vs (xs.map e) (acc ++ [d y]) env2 = _
      rw [g1, List.map_cons, List.append_assoc]
      rfl
    · rcases List.mem_cons.mp hz with rfl | hz
      · exact h2
      · exact g4 z hz
theorem comp_inv {α β : Type} {f : Tg} {tt : Sm Bool} {te : Sm W} {vs : List Nat} {mi : Sm (List W)} {env env1 : List W} (e : α → W) (d : β → W) (P : β → Prop) (I : Nat → List W → Prop) {xs : List α} (hm : mi env = .ok (xs.map e) env1) (hi : I xs.length (killE vs env1)) (hl : xs.length ≤ sizeLine)
    (h : ∀ x ∈ xs, ∀ n env, I (n + 1) env → ∃ y env', lcOne f tt te vs (e x) env = .ok (some (d y)) env' ∧ P y ∧ I n env') : ∃ (ys : List β) (env' : List W), mComp false f tt te vs mi env = .ok (.lst true (ys.map d)) env' ∧ I 0 env' ∧ ys.length = xs.length ∧ ∀ y ∈ ys, P y := by
  obtain ⟨ys, env', h1, h2, h3, h4⟩ := mLc_inv (acc := []) (env := env1) (f := f) (tt := tt) (te := te) (vs := vs) e d P I hi (by simpa using hl) h
  refine ⟨ys, env', ?_, h2, h3, h4⟩
  unfold mComp
  rw [r_bind, hm]
  dsimp only
  rw [h1]
  rfl
theorem cut_takeN (xs : List W) (k : Nat) : cutL xs none (some (k : Int)) = xs.take k := by
  unfold cutL
  rw [HT.sIx_none, HT.sIx_nat, List.drop_zero, Nat.sub_zero]
  rcases Nat.le_total k xs.length with h | h
  · rw [Nat.min_eq_left h]
  · rw [Nat.min_eq_right h, List.take_of_length_le (Nat.le_refl _), List.take_of_length_le h]
/-! ### decks -/
theorem powW18 : powW (.int 10) (.int 18) = some (.int 1000000000000000000) := by
  have h : powOk 10 18 := ⟨by decide, by decide, by decide⟩
  rw [w_pow, if_pos h]
  rfl
theorem powW29 : powW (.int 10) (.int 29) = some (.int 100000000000000000000000000000) := by
  have h : powOk 10 29 := ⟨by decide, by decide, by decide⟩
  rw [w_pow, if_pos h]
  rfl
def cellAt (ns : List Int) (k : Nat) : Int := (ns[k]?).getD 0
theorem e_cell (ns : List Int) (k : Nat) : f__law_cell_at [.scr (ns.map W.int), .int k] = .ok (.int (cellAt ns k)) [.dead, .dead] := by
  unfold f__law_cell_at b__law_cell_at
  by_cases h : k < ns.length
  · have h2 : (k : Int) < (ns.length : Int) := by omega
    simp_arith [h2, atI_map, List.getElem?_eq_getElem h, cellAt, Option.getD_some]
  · have h2 : ¬ (k : Int) < (ns.length : Int) := by omega
    simp_arith [h2, cellAt, List.getElem?_eq_none (Nat.le_of_not_lt h), Option.getD_none]
abbrev dk (d : List Int) : W := .lst true (d.map W.int)
theorem dk_app (d : List Int) (x : Int) : d.map W.int ++ [W.int x] = (d ++ [x]).map W.int := by rw [List.map_append]; rfl
theorem e_numbers (c : Int) (m : Nat) (hm : m ≤ 1000) : ∃ d : List Int, d.length = m ∧ f__law_numbers [.int c, .int (m : Int)] = .ok (dk d) [.dead, .dead] := by
  have lg := line_ge
  have hr : rngOk (m : Int) := rngOk_of (by omega) (by omega)
  obtain ⟨env', e1, d, r, s, q1, rfl⟩ := mFor_inv (f := tgN 5) (body := b__law_numbers_1) (kill := [5, 6]) (xs := List.range m) (fun i : Nat => W.int (0 + (i : Int)))
    (fun n env => ∃ (d : List Int) (r s : Int), d.length + n = m ∧ env = [.int c, .int (m : Int), dk d, .int r, .int s, .dead, .dead]) (env := [.int c, .int (m : Int), .lst true [], .int c, .int (c % 2147483647), .dead, .dead])
    ⟨[], c, c % 2147483647, by simp, rfl⟩ (by
    rintro k hk n env ⟨d, r, s, q1, rfl⟩
    have hl : d.length < sizeLine := by omega
    have hk2 : mulOk 7 (0 + (k : Int)) := mulOk_l (by omega) (by omega)
    by_cases h1 : 1000000000000000000 ≤ c ∧ 0 < r
    · obtain ⟨h1, h2⟩ := h1
      refine ⟨[.int c, .int m, dk (d ++ [r % 64]), .int (r / 64), .int s, .dead, .dead], ?_, d ++ [r % 64], r / 64, s, by rw [List.length_append, List.length_singleton]; omega, rfl⟩
      unfold b__law_numbers_1 turn
      simp_arith [↓powW18, h1, h2, hl, Int.reduceLT, divOk_of (j := 64) (by decide) (by decide), dk_app]
    · obtain ⟨s', hs⟩ : ∃ s', s' = (s + 7 * (0 + (k : Int)) + 3) * 48271 % 2147483647 := ⟨_, rfl⟩
      have k1 : mulOk s' s' := mulOk_l (by omega) (by omega)
      have go : turn (tgN 5) b__law_numbers_1 [5, 6] (W.int (0 + (k : Int))) [.int c, .int m, dk d, .int r, .int s, .dead, .dead] = .ok .nx [.int c, .int m, dk (d ++ [s' * s' % 2147483629 * 69621 % 2147483587 / 8 % 720720]), .int r, .int s', .dead, .dead] := by
        unfold b__law_numbers_1 turn
        by_cases h3 : 1000000000000000000 ≤ c
        · have h4 : ¬ 0 < r := fun z => h1 ⟨h3, z⟩
          simp_arith [↓powW18, h3, h4, hl, Int.reduceLT, divOk_of (j := 8) (by decide) (by decide), dk_app, hk2, mulOk_r (j := 48271) (by decide) (by decide), ← hs, k1, mulOk_r (j := 69621) (by decide) (by decide)]
        · simp_arith [↓powW18, h3, hl, Int.reduceLT, divOk_of (j := 8) (by decide) (by decide), dk_app, hk2, mulOk_r (j := 48271) (by decide) (by decide), ← hs, k1, mulOk_r (j := 69621) (by decide) (by decide)]
      exact ⟨_, go, _, r, s', by rw [List.length_append, List.length_singleton]; omega, rfl⟩)
  refine ⟨d, by omega, ?_⟩
  unfold f__law_numbers b__law_numbers
  simp_arith [hr, rngL_nat, Int.toNat_natCast, Nat.zero_le, Int.reduceLT, e1]
theorem e_deck (c : Int) (m : Nat) (hm : m ≤ 1000) : ∃ d : List Int, d.length = m ∧ f__law_deck [.int c, .int (m : Int)] = .ok (dk d) [.dead, .dead] := by
  obtain ⟨d, h1, h2⟩ := e_numbers c m hm
  refine ⟨d.reverse, by rw [List.length_reverse, h1], ?_⟩
  unfold f__law_deck b__law_deck
  simp_arith [h2, dk, List.map_reverse]
theorem e_take (d : List Int) (many : Int) (m0 : 0 < many) : ∃ (v : Int) (d' : List Int), 0 ≤ v ∧ v < many ∧ f__law_take [dk d, .int many] = .ok (.int v) [dk d', .dead] := by
  unfold f__law_take b__law_take
  rcases List.eq_nil_or_concat d with rfl | ⟨xs, x, rfl⟩
  · exact ⟨0, [], Int.le_refl _, m0, by simp_arith [Nat.zero_le, List.map_nil]⟩
  · have h : (xs ++ [x]).map W.int = xs.map W.int ++ [.int x] := by simp
    refine ⟨x % many, xs, Int.emod_nonneg _ (by omega), Int.emod_lt_of_pos _ m0, ?_⟩
    simp_arith [List.concat_eq_append, h, Nat.zero_le, List.append_eq_nil_iff, and_false, m0]
/-! ### keys, tags -/
def keyOk (v : Int) : Prop := v.natAbs < 10 ^ 30
theorem keyOk_of {v : Int} (h1 : -1000000000000000000000000000000 < v) (h2 : v < 1000000000000000000000000000000) : keyOk v := by
  unfold keyOk
  rw [show (10 : Nat) ^ 30 = 1000000000000000000000000000000 by decide]
  omega
theorem pick_two (b : Bool) (x y : Int) (i : Int) (h : i = 0 ∨ i = 1) : ixW (.lst b [.int x, .int y]) (.int i) = some (.int (if i = 0 then x else y)) := by
  rcases h with rfl | rfl
  · rfl
  · rfl
theorem e_key (d : List Int) : ∃ (v : Int) (d' : List Int), keyOk v ∧ f__law_key [dk d] = .ok (.int v) [dk d'] := by
  have lg := line_ge
  have h2 : 2 ≤ sizeLine := by omega
  obtain ⟨way, d1, w0, w1, t1⟩ := e_take d 8 (by decide)
  obtain ⟨num, d2, n0, n1, t2⟩ := e_take d1 64 (by decide)
  unfold f__law_key b__law_key
  by_cases c1 : way < 4
  · exact ⟨num % 6, d2, keyOk_of (by omega) (by omega), by simp_arith [t1, t2, c1, Int.reduceLT]⟩
  · by_cases c2 : way = 4
    · subst c2
      exact ⟨0 - num % 6, d2, keyOk_of (by omega) (by omega), by simp_arith [t1, t2, Int.reduceLT]⟩
    · by_cases c3 : way = 5
      · subst c3
        exact ⟨num * 1009 - 30000, d2, keyOk_of (by omega) (by omega), by simp_arith [t1, t2, Int.reduceLT, Int.reduceEq, mulOk_r (j := 1009) (by decide) (by decide)]⟩
      · obtain ⟨far, hf⟩ : ∃ far : Int, far = 100000000000000000000000000000 * (1 + num % 9) + num * 7919 := ⟨_, rfl⟩
        have k1 : mulOk 100000000000000000000000000000 (1 + num % 9) := mulOk_r (by omega) (by omega)
        have f1 : 0 ≤ far := by omega
        have f2 : far < 1000000000000000000000000000000 := by omega
        have pk := pick_two true far (0 - far) (way - 6) (by omega)
        refine ⟨if way - 6 = 0 then far else 0 - far, d2, ?_, ?_⟩
        · split
          · exact keyOk_of (by omega) (by omega)
          · exact keyOk_of (by omega) (by omega)
        · have pk2 := pick_two false far (0 - far) (way - 6) (by omega)
          simp only [w_ixL] at pk pk2
          simp_arith [t1, t2, c1, c2, c3, ↓powW29, Int.reduceLT, k1, mulOk_r (j := 7919) (by decide) (by decide), ← hf, h2, pk, pk2]
def encRs (rs : List (List Th)) : W := .lst false (rs.map encR)
def abcL : List Nat := (Str.cps "abcdefghijklmnopqrstuvwxyz").toList
def tagOk (z : Str) : Prop := 1 ≤ z.length ∧ z.length ≤ 8 ∧ ∀ c ∈ z.cps.toList, c ∈ abcL
theorem abc26_len : Str.length "abcdefghijklmnopqrstuvwxyz" = 26 := by decide
theorem abc_at (v : Int) (v0 : 0 ≤ v) (v1 : v < 26) : ∃ c : Nat, c ∈ abcL ∧ ixW (.str "abcdefghijklmnopqrstuvwxyz") (.int v) = some (.str ⟨#[c]⟩) := by
  have h : (Str.length "abcdefghijklmnopqrstuvwxyz") ≤ sizeLine := by rw [abc26_len]; have := line_ge; omega
  have hl : (Str.cps "abcdefghijklmnopqrstuvwxyz").toList.length = 26 := by decide
  refine ⟨(Str.cps "abcdefghijklmnopqrstuvwxyz").toList[v.toNat]'(by rw [hl]; omega), List.getElem_mem _, ?_⟩
  show (if (Str.length "abcdefghijklmnopqrstuvwxyz") ≤ sizeLine then (atI (Str.cps "abcdefghijklmnopqrstuvwxyz").toList v).map fun c => W.str ⟨#[c]⟩ else none) = _
  rw [if_pos h, atI_pos _ v0, List.getElem?_eq_getElem (by rw [hl]; omega)]
  rfl
/-- one-sign texts put together -/
theorem join_signs : ∀ cs : List Nat, TL.tl (Txt.join "" (cs.map fun c => (⟨#[c]⟩ : Str))) = cs := by
  intro cs
  rw [TL.join_eq, TL.tl_join]
  have e : TL.tl "" = [] := rfl
  rw [e]
  induction cs with
  | nil => rfl
  | cons c r ih =>
    cases r with
    | nil => rfl
    | cons d r =>
      show [c] ++ ([] ++ TL.joinL [] ((((d :: r).map fun c => (⟨#[c]⟩ : Str))).map TL.tl)) = _
      rw [ih]
      rfl
theorem jn_signs (cs : List Nat) (h : cs.length ≤ 1000) : jnOk "" (cs.map fun c => (⟨#[c]⟩ : Str)) := by
  unfold jnOk
  have e : ((cs.map fun c => (⟨#[c]⟩ : Str)).map (·.length)).sum = cs.length := by
    rw [List.map_map]
    induction cs with
    | nil => rfl
    | cons c r ih =>
      rw [List.map_cons, List.sum_cons, ih (by rw [List.length_cons] at h; omega), List.length_cons]
      show 1 + r.length = _
      omega
  have z : Str.length "" = 0 := rfl
  rw [e, z, List.length_map]
  omega
theorem e_tag (d : List Int) : ∃ (z : Str) (d' : List Int), tagOk z ∧ f__law_tag [dk d] = .ok (.str z) [dk d'] := by
  have lg := line_ge
  have h5 : 5 ≤ sizeLine := by omega
  obtain ⟨num, d1, n0, n1, t1⟩ := e_take d 720720 (by decide)
  unfold f__law_tag b__law_tag
  by_cases c : num % 2 = 0
  · have key : ∃ z : Str, tagOk z ∧ atI [W.str "a", W.str "b", W.str "ab", W.str "zzzzzzzz", W.str "x"] (num / 2 % 5) = some (.str z) := by
      have : num / 2 % 5 = 0 ∨ num / 2 % 5 = 1 ∨ num / 2 % 5 = 2 ∨ num / 2 % 5 = 3 ∨ num / 2 % 5 = 4 := by omega
      rcases this with h | h | h | h | h <;> rw [h]
      · exact ⟨"a", by unfold tagOk; decide, rfl⟩
      · exact ⟨"b", by unfold tagOk; decide, rfl⟩
      · exact ⟨"ab", by unfold tagOk; decide, rfl⟩
      · exact ⟨"zzzzzzzz", by unfold tagOk; decide, rfl⟩
      · exact ⟨"x", by unfold tagOk; decide, rfl⟩
    obtain ⟨z, hz, e⟩ := key
    exact ⟨z, d1, hz, by simp_arith [t1, c, Int.reduceLT, divOk_of (j := 2) (by decide) (by decide), h5, e]⟩
  · obtain ⟨m, hm⟩ : ∃ m : Nat, (m : Int) = 1 + num / 4 % 8 := ⟨(1 + num / 4 % 8).toNat, by omega⟩
    have hr : rngOk (m : Int) := rngOk_of (by omega) (by omega)
    have hc : ∃ cs : List Nat, cs.length = m ∧ (∀ c ∈ cs, c ∈ abcL) ∧ c__law_tag_1 [dk d1, .int num, .str "abcdefghijklmnopqrstuvwxyz", .int m, .dead] = .ok (.lst true ((cs.map fun c => (⟨#[c]⟩ : Str)).map W.str)) [dk d1, .int num, .str "abcdefghijklmnopqrstuvwxyz", .int m, .dead] := by
      have at_ : ∀ j : Nat, ∃ c : Nat, c ∈ abcL ∧ ixW (.str "abcdefghijklmnopqrstuvwxyz") (.int ((num / 2 + (0 + (j : Int)) * (num / 16 + (0 + (j : Int)))) % 26)) = some (.str ⟨#[c]⟩) := fun j =>
        abc_at _ (Int.emod_nonneg _ (by decide)) (Int.emod_lt_of_pos _ (by decide))
      obtain ⟨g, hg⟩ := Classical.axiomOfChoice at_
      refine ⟨(List.range m).map g, by rw [List.length_map, List.length_range], fun c hc => ?_, ?_⟩
      · obtain ⟨j, _, rfl⟩ := List.mem_map.mp hc
        exact (hg j).1
      · unfold c__law_tag_1
        rw [comp_map (fun i : Nat => W.int (0 + (i : Int))) (fun j => W.str ⟨#[g j]⟩) (xs := List.range m) (by simp_arith [hr, rngL_nat, Int.toNat_natCast]) (by rw [List.length_range]; omega) (by
          intro j hj
          have hj2 := List.mem_range.mp hj
          have sp := (hg j).2
          have k0 : mulOk (0 + (j : Int)) (num / 16 + (0 + (j : Int))) := mulOk_l (by omega) (by omega)
          unfold lcOne
          simp_arith [Int.reduceLT, divOk_of (j := 2) (by decide) (by decide), divOk_of (j := 16) (by decide) (by decide), k0, ↓sp])]
        rw [List.map_map, List.map_map]
        rfl
    obtain ⟨cs, l1, l2, hc⟩ := hc
    have tj := join_signs cs
    refine ⟨Txt.join "" (cs.map fun c => (⟨#[c]⟩ : Str)), d1, ⟨?_, ?_, fun c hc => ?_⟩, ?_⟩
    · rw [TL.len_tl, tj]; omega
    · rw [TL.len_tl, tj]; omega
    · have : c ∈ TL.tl (Txt.join "" (cs.map fun c => (⟨#[c]⟩ : Str))) := hc
      rw [tj] at this
      exact l2 c this
    · have jn := jn_signs cs (by omega)
      simp_arith [t1, c, Int.reduceLT, divOk_of (j := 4) (by decide) (by decide), ← hm, hc, w_join jn]
theorem e_whole (i : Int) : f_is_whole_number [.int i] = .ok (.bl true) [.dead] := by
  unfold f_is_whole_number b_is_whole_number
  have h1 : isiW ["int"] (.int i) = some (.bl true) := rfl
  have h2 : isiW ["bool"] (.int i) = some (.bl false) := rfl
  simp_arith [h1, h2]
/-! ### rows drawn -/
structure RowsOk (rs : List (List Th)) : Prop where
  ne : 1 ≤ rs.length
  six : rs.length ≤ 6
  len : ∀ r ∈ rs, r.length ≤ 200
  key : ∀ r ∈ rs, ∀ t ∈ r, keyOk t.1 ∧ tagOk t.2
theorem e_keys (d : List Int) (most rows hand : W) (many : Nat) (hm : many ≤ 1000) : ∃ (ks : List Int) (d' : List Int), ks.length = many ∧ (∀ k ∈ ks, keyOk k) ∧
    c__law_rows_1 [dk d, most, rows, hand, .int (many : Int), .dead, .dead, .dead, .dead] = .ok (.lst true (ks.map W.int)) [dk d', most, rows, hand, .int (many : Int), .dead, .dead, .dead, .dead] := by
  have lg := line_ge
  have hr : rngOk (many : Int) := rngOk_of (by omega) (by omega)
  unfold c__law_rows_1
  obtain ⟨ks, env', g1, ⟨d', rfl⟩, g3, g4⟩ := comp_inv (f := tgN 6) (tt := Sm.ret true) (te := (mCall f__law_key 1 (Sm.bind (mVar 0) fun _ => rIo 0 (rNil)))) (vs := [6]) (mi := iArgs rng1 (mCons (mVar 4) (mNil)))
    (env := [dk d, most, rows, hand, .int (many : Int), .dead, .dead, .dead, .dead]) (env1 := [dk d, most, rows, hand, .int (many : Int), .dead, .dead, .dead, .dead])
    (fun i : Nat => W.int (0 + (i : Int))) W.int keyOk (fun n env => ∃ d', env = [dk d', most, rows, hand, .int (many : Int), .dead, .dead, .dead, .dead]) (xs := List.range many)
    (by simp_arith [hr, rngL_nat, Int.toNat_natCast]) ⟨d, rfl⟩ (by rw [List.length_range]; omega) (by
      rintro x hx n env ⟨d', rfl⟩
      obtain ⟨v, d2, hv, e⟩ := e_key d'
      refine ⟨v, [dk d2, most, rows, hand, .int (many : Int), .dead, .dead, .dead, .dead], ?_, hv, d2, rfl⟩
      unfold lcOne
      simp_arith [e])
  exact ⟨ks, d', by rw [g3, List.length_range], g4, g1⟩
theorem e_things (d : List Int) (most rows hand many way : W) (ks : List Int) (hk : ∀ k ∈ ks, keyOk k) (hl : ks.length ≤ 1000) : ∃ (r : List Th) (d' : List Int), r.length = ks.length ∧ (∀ t ∈ r, keyOk t.1 ∧ tagOk t.2) ∧
    c__law_rows_2 [dk d, most, rows, hand, many, .lst false (ks.map W.int), .dead, way, .dead] = .ok (.lst true (r.map encT)) [dk d', most, rows, hand, many, .lst false (ks.map W.int), .dead, way, .dead] := by
  have lg := line_ge
  have h2 : 2 ≤ sizeLine := by omega
  unfold c__law_rows_2
  obtain ⟨r, env', g1, ⟨d', rfl⟩, g3, g4⟩ := comp_inv (f := tgN 8) (tt := Sm.ret true) (te := (mArgs tupW (mCons (mVar 8) (mCons (mCall f__law_tag 1 (Sm.bind (mVar 0) fun _ => rIo 0 (rNil))) (mNil))))) (vs := [8]) (mi := iLst (mVar 5))
    (env := [dk d, most, rows, hand, many, .lst false (ks.map W.int), .dead, way, .dead]) (env1 := [dk d, most, rows, hand, many, .lst false (ks.map W.int), .dead, way, .dead])
    W.int encT (fun t => keyOk t.1 ∧ tagOk t.2) (fun n env => ∃ d', env = [dk d', most, rows, hand, many, .lst false (ks.map W.int), .dead, way, .dead]) (xs := ks)
    (by simp_arith []) ⟨d, rfl⟩ (by omega) (by
      rintro x hx n env ⟨d', rfl⟩
      obtain ⟨z, d2, hz, e⟩ := e_tag d'
      refine ⟨(x, z), [dk d2, most, rows, hand, many, .lst false (ks.map W.int), .dead, way, .dead], ?_, ⟨hk x hx, hz⟩, d2, rfl⟩
      unfold lcOne
      simp_arith [e, h2]
      rfl)
  exact ⟨r, d', g3, g4, g1⟩
theorem pick_four (b : Bool) (x : Int) (i : Int) (h0 : 0 ≤ i) (h4 : i < 4) : ∃ m : Nat, ((m : Int) = 1 ∨ (m : Int) = x ∨ (m : Int) = 4 ∨ x < 0) ∧ (0 ≤ x → atI [W.int 1, W.int x, W.int 4, W.int x] i = some (.int (m : Int))) := by
  have : i = 0 ∨ i = 1 ∨ i = 2 ∨ i = 3 := by omega
  by_cases hx : 0 ≤ x
  · obtain ⟨n, rfl⟩ : ∃ n : Nat, x = n := ⟨x.toNat, by omega⟩
    rcases this with h | h | h | h <;> rw [h]
    · exact ⟨1, .inl rfl, fun _ => rfl⟩
    · exact ⟨n, .inr (.inl rfl), fun _ => rfl⟩
    · exact ⟨4, .inr (.inr (.inl rfl)), fun _ => rfl⟩
    · exact ⟨n, .inr (.inl rfl), fun _ => rfl⟩
  · exact ⟨0, .inr (.inr (.inr (by omega))), fun h => absurd h hx⟩
/-- the keys, sorted, alike, or as drawn -/
theorem e_keys3 (ks : List Int) (hk : ∀ k ∈ ks, keyOk k) (m : Nat) (hm : m ≤ 1000) (hl : ks.length ≤ m) : (∀ k ∈ ks.mergeSort (fun a b => decide (a ≤ b)), keyOk k) ∧ (ks.mergeSort (fun a b => decide (a ≤ b))).length ≤ m ∧
    (∀ k ∈ (List.replicate m (ks.take 1)).flatten, keyOk k) ∧ (List.replicate m (ks.take 1)).flatten.length ≤ m := by
  refine ⟨fun k h => hk k ((List.mergeSort_perm ks _).mem_iff.mp h), by rw [List.length_mergeSort]; exact hl, fun k h => ?_, ?_⟩
  · obtain ⟨l, h1, h2⟩ := List.mem_flatten.mp h
    rw [(List.mem_replicate.mp h1).2] at h2
    exact hk k (List.mem_of_mem_take h2)
  · rw [List.length_flatten, List.map_replicate, List.sum_replicate_nat, List.length_take]
    have : min 1 ks.length ≤ 1 := by omega
    calc m * min 1 ks.length ≤ m * 1 := Nat.mul_le_mul_left _ this
      _ = m := Nat.mul_one _
theorem rows_turn (d : List Int) (most : Nat) (hm : most ≤ 190) (rs : List (List Th)) (hr : rs.length ≤ 100) (i : Nat) : ∃ (r : List Th) (d' : List Int), r.length ≤ max 4 (most + 1) ∧ (∀ t ∈ r, keyOk t.1 ∧ tagOk t.2) ∧
    turn (tgN 3) b__law_rows_1 [3, 4, 5, 7] (W.int (0 + (i : Int))) [dk d, .int (most : Int), .lst true (rs.map encR), .dead, .dead, .dead, .dead, .dead, .dead] = .ok .nx [dk d', .int (most : Int), .lst true ((rs ++ [r]).map encR), .dead, .dead, .dead, .dead, .dead, .dead] := by
  have lg := line_ge
  have h4 : 4 ≤ sizeLine := by omega
  obtain ⟨v, d1, v0, v1, t1⟩ := e_take d 4 (by decide)
  obtain ⟨x, hx1, hx2⟩ := pick_four true ((most : Int) + 1) v v0 v1
  have hx := hx2 (by omega)
  have x1 : 1 ≤ x := by omega
  obtain ⟨u, d2, u0, u1, t2⟩ := e_take d1 (x : Int) (by omega)
  obtain ⟨many, rfl⟩ : ∃ n : Nat, u = n := ⟨u.toNat, by omega⟩
  have hmany : many ≤ 1000 := by omega
  obtain ⟨ks, d3, k1, k2, c1⟩ := e_keys d2 (.int (most : Int)) (.lst true (rs.map encR)) (.int (0 + (i : Int))) many hmany
  obtain ⟨way, d4, w0, w1, t3⟩ := e_take d3 4 (by decide)
  have k3 := e_keys3 ks k2 many hmany (by omega)
  have kf : ∃ ks' : List Int, ks'.length ≤ many ∧ (∀ k ∈ ks', keyOk k) ∧ (way = 1 → ks' = ks.mergeSort (fun a b => decide (a ≤ b))) ∧ (way = 2 → ks' = (List.replicate many (ks.take 1)).flatten) ∧ (way ≠ 1 → way ≠ 2 → ks' = ks) := by
    by_cases h1 : way = 1
    · exact ⟨_, k3.2.1, k3.1, fun _ => rfl, fun h => by omega, fun h => absurd h1 h⟩
    · by_cases h2 : way = 2
      · exact ⟨_, k3.2.2.2, k3.2.2.1, fun h => absurd h h1, fun _ => rfl, fun _ h => absurd h2 h⟩
      · exact ⟨ks, by omega, k2, fun h => absurd h h1, fun h => absurd h h2, fun _ _ => rfl⟩
  obtain ⟨ks', l1, l2, q1, q2, q3⟩ := kf
  obtain ⟨r, d5, r1, r2, c2⟩ := e_things d4 (.int (most : Int)) (.lst true (rs.map encR)) (.int (0 + (i : Int))) (.int (many : Int)) (.int way) ks' l2 (by omega)
  refine ⟨r, d5, by omega, r2, ?_⟩
  have er : (rs ++ [r]).map encR = rs.map encR ++ [.lst false (r.map encT)] := by rw [List.map_append]; rfl
  have hz : rs.length < sizeLine := by omega
  unfold b__law_rows_1 turn
  by_cases w1 : way = 1
  · have e1 := q1 w1
    subst w1
    subst e1
    have so := sortedW_int false false ks (by omega)
    simp_arith [t1, h4, hx, t2, c1, t3, so, Int.reduceEq, c2, er, hz]
  · by_cases w2 : way = 2
    · have e2 := q2 w2
      subst w2
      subst e2
      have ct : cutL (ks.map W.int) none (some 1) = (ks.take 1).map W.int := by
        rw [show (1 : Int) = ((1 : Nat) : Int) from rfl, cut_takeN, List.map_take]
      have rp : repOk ((ks.take 1).map W.int).length (many : Int) := by
        refine ⟨by omega, by omega, ?_⟩
        rw [List.length_map, List.length_take, Int.toNat_natCast]
        calc min 1 ks.length * many ≤ 1 * many := Nat.mul_le_mul_right _ (by omega)
          _ ≤ sizeLine := by omega
      have fl : (List.replicate many ((ks.take 1).map W.int)).flatten = ((List.replicate many (ks.take 1)).flatten).map W.int := by
        rw [List.map_flatten, List.map_replicate]
      have mw : mulW false (.lst false ((ks.take 1).map W.int)) (.int (many : Int)) = some (.lst false (((List.replicate many (ks.take 1)).flatten).map W.int)) := by
        rw [w_rep, if_pos rp, Int.toNat_natCast, fl]
      simp_arith [t1, h4, hx, t2, c1, t3, Int.reduceEq, ct, ↓mw, c2, er, hz]
    · have e3 := q3 w1 w2
      subst e3
      simp_arith [t1, h4, hx, t2, c1, t3, w1, w2, c2, er, hz]
theorem e_rows (d : List Int) (most : Nat) (hm : most ≤ 190) : ∃ (rs : List (List Th)) (d' : List Int), RowsOk rs ∧ (∀ r ∈ rs, r.length ≤ max 4 (most + 1)) ∧ f__law_rows [dk d, .int (most : Int)] = .ok (.lst true (rs.map encR)) [dk d', .dead] := by
  have lg := line_ge
  obtain ⟨v, d1, v0, v1, t1⟩ := e_take d 6 (by decide)
  obtain ⟨hs, hv⟩ : ∃ hs : Nat, (hs : Int) = 1 + v := ⟨(1 + v).toNat, by omega⟩
  have hr : rngOk (hs : Int) := rngOk_of (by omega) (by omega)
  obtain ⟨env', e1, rs, d', q1, q2, rfl⟩ := mFor_inv (f := tgN 3) (body := b__law_rows_1) (kill := [3, 4, 5, 7]) (xs := List.range hs) (fun i : Nat => W.int (0 + (i : Int)))
    (fun n env => ∃ (rs : List (List Th)) (d' : List Int), rs.length + n = hs ∧ (∀ r ∈ rs, r.length ≤ max 4 (most + 1) ∧ ∀ t ∈ r, keyOk t.1 ∧ tagOk t.2) ∧ env = [dk d', .int (most : Int), .lst true (rs.map encR), .dead, .dead, .dead, .dead, .dead, .dead])
    (env := [dk d1, .int (most : Int), .lst true [], .dead, .dead, .dead, .dead, .dead, .dead]) ⟨[], d1, by simp, (fun r h => nomatch h), rfl⟩ (by
    rintro i hi n env ⟨rs, d', q1, q2, rfl⟩
    obtain ⟨r, d2, r1, r2, ht⟩ := rows_turn d' most hm rs (by omega) i
    refine ⟨_, ht, rs ++ [r], d2, by rw [List.length_append, List.length_singleton]; omega, fun x hx => ?_, rfl⟩
    rcases List.mem_append.mp hx with h | h
    · exact q2 x h
    · rw [List.mem_singleton.mp h]; exact ⟨r1, r2⟩)
  refine ⟨rs, d', ⟨by omega, by omega, fun r hr => ?_, fun r hr => (q2 r hr).2⟩, fun r hr => (q2 r hr).1, ?_⟩
  · have := (q2 r hr).1
    omega
  · unfold f__law_rows b__law_rows
    simp_arith [t1, ← hv, hr, rngL_nat, Int.toNat_natCast, Nat.zero_le, e1]
/-! ### rows written -/
def thS (t : Th) : Str := keyS t.1 ++ ":" ++ t.2
def rowS (r : List Th) : Str := if r = [] then "-" else Txt.join ", " (r.map thS)
def rowsS (rs : List (List Th)) : Str := Txt.join "; " (rs.map rowS)
def thOk (t : Th) : Prop := keyOk t.1 ∧ tagOk t.2
theorem keyS_len (k : Int) (h : keyOk k) : (keyS k).length ≤ 31 := by
  rw [TL.len_tl, tl_key]
  exact keyL_len k h
theorem colon_len : Str.length ":" = 1 := rfl
theorem comma_len : Str.length ", " = 2 := rfl
theorem semi_len : Str.length "; " = 2 := rfl
theorem thS_len (t : Th) (h : thOk t) : (thS t).length ≤ 40 := by
  have h1 := keyS_len t.1 h.1
  have h2 := h.2.2.1
  unfold thS
  rw [Str.length_append, Str.length_append, colon_len]
  omega
theorem sum_le (n : Nat) : ∀ ys : List Str, (∀ y ∈ ys, y.length ≤ n) → (ys.map (·.length)).sum ≤ ys.length * n
  | [], _ => by simp
  | y :: ys, h => by
    have h1 := h y List.mem_cons_self
    have h2 := sum_le n ys fun x hx => h x (List.mem_cons_of_mem _ hx)
    rw [List.map_cons, List.sum_cons, List.length_cons, Nat.succ_mul]
    omega
theorem txt_join_len (a : Str) (ys : List Str) : (Txt.join a ys).length ≤ (ys.map (·.length)).sum + ys.length * a.length := by
  have h := join_len (TL.tl a) (ys.map TL.tl)
  rw [TL.len_tl, TL.join_eq, TL.tl_join]
  have e : ((ys.map TL.tl).map List.length).sum = (ys.map (·.length)).sum := by
    rw [List.map_map]
    congr 1
  rw [e, List.length_map] at h
  rw [TL.len_tl a]
  split at h
  · omega
  · omega
theorem rowS_len (r : List Th) (h : ∀ t ∈ r, thOk t) (hl : r.length ≤ 300) : (rowS r).length ≤ 12600 := by
  unfold rowS
  split
  · show 1 ≤ 12600
    omega
  · have h1 := sum_le 40 (r.map thS) fun y hy => by
      obtain ⟨t, ht, rfl⟩ := List.mem_map.mp hy
      exact thS_len t (h t ht)
    have h2 := txt_join_len ", " (r.map thS)
    rw [comma_len] at h2
    rw [List.length_map] at h1 h2
    omega
theorem rows_jn (rs : List (List Th)) (h : ∀ r ∈ rs, ∀ t ∈ r, thOk t) (hl : ∀ r ∈ rs, r.length ≤ 300) (h8 : rs.length ≤ 100) : jnOk "; " (rs.map rowS) := by
  unfold jnOk
  have h1 := sum_le 12600 (rs.map rowS) fun y hy => by
    obtain ⟨t, ht, rfl⟩ := List.mem_map.mp hy
    exact rowS_len t (h t ht) (hl t ht)
  rw [semi_len]
  rw [List.length_map] at h1 ⊢
  omega
theorem keyOk_log {k : Int} (h : keyOk k) : k.natAbs < 2 ^ 1900 := Nat.lt_of_lt_of_le h (by decide)
/-! ### rows written by the law -/
def wrStep (s : Str) (t : Th) : Str := s ++ ", " ++ keyS t.1 ++ ":" ++ t.2
theorem wr_fold : ∀ (r : List Th) (s : Str), TL.tl (r.foldl wrStep s) = TL.tl s ++ (r.flatMap fun t => TL.tl ", " ++ TL.tl (thS t))
  | [], s => by simp
  | t :: r, s => by
    rw [List.foldl_cons, wr_fold r, List.flatMap_cons]
    unfold wrStep thS
    simp only [TL.tl_append, List.append_assoc]
theorem joinL_flat (S : List Nat) (p : List Nat) : ∀ ps : List (List Nat), TL.joinL S (p :: ps) = p ++ (ps.flatMap fun q => S ++ q)
  | [] => by simp [TL.joinL]
  | q :: r => by
    show p ++ (S ++ TL.joinL S (q :: r)) = _
    rw [joinL_flat S q r, List.flatMap_cons, List.append_assoc]
theorem wr_row (r : List Th) (hr : r ≠ []) : cutS (r.foldl wrStep "") (some 2) none = rowS r := by
  refine TL.ext_tl ?_
  rw [show (2 : Int) = ((2 : Nat) : Int) from rfl, tl_dropN, wr_fold]
  unfold rowS
  rw [if_neg hr, TL.join_eq, TL.tl_join]
  cases r with
  | nil => exact absurd rfl hr
  | cons t r =>
    have e : TL.tl ", " = [44, 32] := rfl
    have e0 : TL.tl "" = [] := rfl
    rw [List.map_cons, List.map_cons, joinL_flat, List.flatMap_cons, e, e0, List.flatMap_map, List.flatMap_map]
    rfl
theorem wr_len : ∀ (r : List Th) (s : Str), (∀ t ∈ r, thOk t) → (r.foldl wrStep s).length ≤ s.length + 50 * r.length
  | [], s, _ => by simp
  | t :: r, s, h => by
    have ih := wr_len r (wrStep s t) fun x hx => h x (List.mem_cons_of_mem _ hx)
    have hk := keyS_len t.1 (h t List.mem_cons_self).1
    have ht2 := (h t List.mem_cons_self).2.2.1
    have h1 := colon_len
    have h2 := comma_len
    have e : (wrStep s t).length ≤ s.length + 50 := by
      unfold wrStep
      rw [Str.length_append, Str.length_append, Str.length_append, Str.length_append]
      omega
    rw [List.foldl_cons, List.length_cons]
    omega
theorem e_written_row (r : List Th) (h : ∀ t ∈ r, thOk t) (hl : r.length ≤ 300) : f__law_row_written [encR r] = .ok (.str (rowS r)) [.dead] := by
  have lg := line_ge
  have e1 := (mFor_fold (f := tgT [2, 3]) (body := b__law_row_written_1) (kill := [2, 3]) (xs := r) encT (fun s : Str => [encR r, .str s, .dead, .dead]) wrStep (fun n s => s.length + 50 * n ≤ 20000) (s := "") (by
    have : Str.length "" = 0 := rfl
    omega) (by
    intro t ht n s hi
    have hk := keyS_len t.1 (h t ht).1
    have ht2 := (h t ht).2.2.1
    have h1 := colon_len
    have h2 := comma_len
    have a1 : addW false (.str s) (.str ", ") = some (.str (s ++ ", ")) := w_addZ _ _ _ (by omega)
    have a2 : addW false (.str (s ++ ", ")) (.str (keyS t.1)) = some (.str (s ++ ", " ++ keyS t.1)) := w_addZ _ _ _ (by rw [Str.length_append]; omega)
    have a3 : addW false (.str (s ++ ", " ++ keyS t.1)) (.str ":") = some (.str (s ++ ", " ++ keyS t.1 ++ ":")) := w_addZ _ _ _ (by rw [Str.length_append, Str.length_append]; omega)
    have a4 : addW false (.str (s ++ ", " ++ keyS t.1 ++ ":")) (.str t.2) = some (.str (wrStep s t)) := w_addZ _ _ _ (by rw [Str.length_append, Str.length_append, Str.length_append]; omega)
    refine ⟨?_, ?_⟩
    · unfold b__law_row_written_1 turn encT
      simp_arith [tgL, pick_R, a1, w_strOf t.1 (keyOk_log (h t ht).1), a2, a3, a4]
    · unfold wrStep
      rw [Str.length_append, Str.length_append, Str.length_append, Str.length_append]
      omega)).1
  have hs : (r.foldl wrStep "").length ≤ 20000 := by
    have z := wr_len r "" h
    have : Str.length "" = 0 := rfl
    omega
  unfold f__law_row_written b__law_row_written
  unfold encR at e1 ⊢
  by_cases c : r = []
  · subst c
    simp_arith [e1, Nat.zero_le, List.map_nil, rowS, mFor_nil]
  · have c2 : ¬ r.map encT = [] := by simpa using c
    have wr := wr_row r c
    simp_arith [e1, Nat.zero_le, c2, w_cutZ true (r.foldl wrStep "") (some 2) none (by omega), wr]
theorem e_written (rs : List (List Th)) (h : ∀ r ∈ rs, ∀ t ∈ r, thOk t) (hl : ∀ r ∈ rs, r.length ≤ 300) (h8 : rs.length ≤ 100) : f__law_written [encRs rs] = .ok (.str (rowsS rs)) [.dead] := by
  unfold f__law_written b__law_written encRs
  have lg := line_ge
  have hc : c__law_written_1 [.lst false (rs.map encR), .dead] = .ok (.lst true ((rs.map rowS).map W.str)) [.lst false (rs.map encR), .dead] := by
    unfold c__law_written_1
    rw [comp_map encR (fun r => W.str (rowS r)) (xs := rs) (by simp_arith []) (by omega) (by
      intro r hr
      unfold lcOne
      simp_arith [pick_R, e_written_row r (h r hr) (hl r hr)]), List.map_map]
    rfl
  simp_arith [hc, w_join (rows_jn rs h hl h8), rowsS]
abbrev cNT : Nat := 3
/-! ### texts read -/
open TL in
theorem fig_filter (F : List Nat) : (F.filter fun c => !isFig c) = [] ↔ ∀ c ∈ F, isFig c = true := by
  rw [List.filter_eq_nil_iff]
  constructor
  · intro h c hc
    have := h c hc
    simpa using this
  · intro h c hc
    simp [h c hc]
theorem e_kf1 (z y : Str) (h : y.length ≤ 1000000) : c_key_from_1 [.str z, .str y, .dead] = .ok (.lst true (((TL.tl y).filter fun c => !isFig c).map fun c => W.str ⟨#[c]⟩)) [.str z, .str y, .dead] := by
  unfold c_key_from_1
  have lg := line_ge
  exact comp_filter (fun c : Nat => W.str ⟨#[c]⟩) (fun c => !isFig c) (fun c : Nat => W.str ⟨#[c]⟩) (xs := TL.tl y) (by simp_arith []) (by rw [← TL.len_tl]; omega) (by
    intro c hc
    have hw : inW true (.str ⟨#[c]⟩) (.str "0123456789") = some (.bl (!isFig c)) := by
      rw [w_inS, ← fig_mem c]
      simp
    unfold lcOne
    simp_arith [hw]
    cases isFig c <;> rfl)
open Classical in
theorem e_keyfrom (z : Str) (hz : z.length ≤ 900000) : f_key_from [.str z] = if OkKey (TL.tl z) then .ok (.int (keyV (TL.tl z))) [.dead] else .ex cNT [.dead] := by
  have lg := line_ge
  obtain ⟨F, hF⟩ : ∃ F, F = figsL (TL.tl z) := ⟨_, rfl⟩
  have cut1 : cutW false (.str z) none (some 1) = some (.str (cutS z none (some 1))) := w_cutZ _ _ _ _ (by omega)
  have cut2 : cutW false (.str z) (some 1) none = some (.str (cutS z (some 1) none)) := w_cutZ _ _ _ _ (by omega)
  have dash : decide (cutS z none (some 1) = "-") = decide ((TL.tl z).take 1 = [45]) := by
    rw [str_dec, tl_take1]
    rfl
  have full : ∃ y : Str, TL.tl y = F ∧ y.length ≤ z.length ∧ (if (TL.tl z).take 1 = [45] then y = cutS z (some 1) none else y = z) := by
    by_cases c : (TL.tl z).take 1 = [45]
    · refine ⟨cutS z (some 1) none, by rw [hF, tl_drop1]; unfold figsL; rw [if_pos c], ?_, by rw [if_pos c]⟩
      rw [TL.len_tl, tl_drop1, TL.len_tl z, List.length_drop]
      omega
    · exact ⟨z, by rw [hF]; unfold figsL; rw [if_neg c], Nat.le_refl _, by rw [if_neg c]⟩
  obtain ⟨y, y1, y2, y3⟩ := full
  have yl := TL.len_tl y
  rw [y1] at yl
  have hc := e_kf1 z y (by omega)
  rw [y1] at hc
  have eA : eqW (.str y) (.str "") = some (.bl (decide (F = []))) := by
    rw [eqW_str, str_dec, y1]
    rfl
  have eL : lenW (.str y) = some (.int (F.length : Int)) := by rw [w_lenS y (by omega), yl]
  have eE : eqW (.str z) (.str "-0") = some (.bl (decide (TL.tl z = [45, 48]))) := by
    rw [eqW_str, str_dec]
    rfl
  have neC : neW (.lst false ((F.filter fun c => !isFig c).map fun c => W.str ⟨#[c]⟩)) (.lst false []) = some (.bl (!decide ((F.filter fun c => !isFig c) = []))) := by
    rw [neW_nil]
    congr 3
    rw [Bool.eq_iff_iff, decide_eq_true_eq, decide_eq_true_eq]
    exact List.map_eq_nil_iff
  have head : ∀ c, F[0]? = some c → ixW (.str y) (.int 0) = some (.str ⟨#[c]⟩) := fun c h => w_ixZ y 0 c (by omega) (by rw [y1]; exact h)
  have headE : ∀ c : Nat, eqW (.str ⟨#[c]⟩) (.str "0") = some (.bl (decide (c = 48))) := fun c => by
    rw [eqW_str, str_dec]
    congr 2
    rw [Bool.eq_iff_iff, decide_eq_true_eq, decide_eq_true_eq]
    show [c] = [48] ↔ _
    simp
  unfold f_key_from b_key_from
  by_cases d : (TL.tl z).take 1 = [45]
  all_goals
    first
      | (rw [if_pos d] at y3; rw [← y3] at cut2)
      | (rw [if_neg d] at y3; replace y3 := y3.symm; subst y3)
    by_cases a : F = []
    · have no : ¬ OkKey (TL.tl z) := fun k => k.ne (by rw [← hF]; exact a)
      rw [if_neg no]
      simp_arith [cut1, cut2, ↓dash, d, eA, a]
    · by_cases b : 30 < F.length
      · have no : ¬ OkKey (TL.tl z) := fun k => by have := k.len; rw [← hF] at this; omega
        have b' : (30 : Int) < (F.length : Int) := by omega
        rw [if_neg no]
        simp_arith [cut1, cut2, ↓dash, d, eA, a, eL, b']
      · have b' : ¬ (30 : Int) < (F.length : Int) := by omega
        by_cases c : (F.filter fun c => !isFig c) = []
        · have hfig := (fig_filter F).mp c
          by_cases e : 1 < F.length ∧ F[0]? = some 48
          · have no : ¬ OkKey (TL.tl z) := fun k => k.led (by rw [← hF]; exact e)
            have e1 : (1 : Int) < (F.length : Int) := by omega
            have e2 := head 48 e.2
            rw [if_neg no]
            simp_arith [cut1, cut2, ↓dash, d, eA, a, eL, b', hc, Nat.zero_le, List.map_nil, List.map_eq_nil_iff, c, e1, e2, headE]
          · by_cases g : TL.tl z = [45, 48]
            · have no : ¬ OkKey (TL.tl z) := fun k => k.neg g
              have eE1 : eqW (.str z) (.str "-0") = some (.bl true) := by rw [eE, decide_eq_true g]
              rw [if_neg no]
              by_cases e1 : 1 < F.length
              · have e1' : (1 : Int) < (F.length : Int) := by omega
                have e0 : F[0]? = some F[0] := List.getElem?_eq_getElem (by omega)
                have e2 := head _ e0
                have e3 : ¬ F[0] = 48 := fun h => e ⟨e1, by rw [e0, h]⟩
                simp_arith [cut1, cut2, ↓dash, d, eA, a, eL, b', hc, Nat.zero_le, List.map_nil, List.map_eq_nil_iff, c, e1', e2, headE, e3, eE1]
              · have e1' : ¬ (1 : Int) < (F.length : Int) := by omega
                simp_arith [cut1, cut2, ↓dash, d, eA, a, eL, b', hc, Nat.zero_le, List.map_nil, List.map_eq_nil_iff, c, e1', eE1]
            · have ok : OkKey (TL.tl z) := ⟨by rw [← hF]; exact a, by rw [← hF]; omega, by rw [← hF]; exact hfig, by rw [← hF]; exact e, g⟩
              obtain ⟨i1, i2⟩ := ok.int
              have ti := w_toIntS z _ (by omega) i1
              rw [if_pos ok]
              by_cases e1 : 1 < F.length
              · have e1' : (1 : Int) < (F.length : Int) := by omega
                have e0 : F[0]? = some F[0] := List.getElem?_eq_getElem (by omega)
                have e2 := head _ e0
                have e3 : ¬ F[0] = 48 := fun h => e ⟨e1, by rw [e0, h]⟩
                simp_arith [cut1, cut2, ↓dash, d, eA, a, eL, b', hc, Nat.zero_le, List.map_nil, List.map_eq_nil_iff, c, e1', e2, headE, e3, eE, g, ti]
              · have e1' : ¬ (1 : Int) < (F.length : Int) := by omega
                simp_arith [cut1, cut2, ↓dash, d, eA, a, eL, b', hc, Nat.zero_le, List.map_nil, List.map_eq_nil_iff, c, e1', eE, g, ti]
        · have no : ¬ OkKey (TL.tl z) := fun k => c ((fig_filter F).mpr (by rw [hF]; exact k.fig))
          rw [if_neg no]
          simp_arith [cut1, cut2, ↓dash, d, eA, a, eL, b', hc, Nat.zero_le, List.map_nil, List.map_eq_nil_iff, c]
/-! ### lists of lists, changed -/
def encO (r : List Th) : W := .lst true (r.map encT)
theorem fz_nst (rs : List (List Th)) : (W.nst (rs.map encO)).fzD = .lst false (rs.map encR) := by
  rw [W.fzD, fzDs_map, List.map_map]
  rfl
theorem fzOks_all : ∀ ws : List W, (∀ w ∈ ws, w.fzOk = true) → fzOks ws = true
  | [], _ => rfl
  | w :: ws, h => by rw [fzOks, h w List.mem_cons_self, fzOks_all ws fun x hx => h x (List.mem_cons_of_mem _ hx)]; rfl
theorem ok_nst (rs : List (List Th)) : (W.nst (rs.map encO)).fzOk = true := by
  rw [W.fzOk]
  refine fzOks_all _ fun w hw => ?_
  obtain ⟨r, _, rfl⟩ := List.mem_map.mp hw
  rfl
/-! ### are_rows of any lists of keys with texts -/
def tagB (z : Str) : Bool := decide (1 ≤ z.length) && (decide (z.length ≤ 8) && z.cps.toList.all fun c => decide (c ∈ (Str.cps "abcdefghijklmnopqrstuvwxyz").toList))
theorem e_istag_any (z : Str) (hz : z.length ≤ 900000) : f_is_tag [.str z] = .ok (.bl (tagB z)) [.dead] := by
  unfold f_is_tag b_is_tag
  have lg := line_ge
  have hlen : z.cps.toList.length = z.length := Array.length_toList
  have i1 : isiW ["str"] (.str z) = some (.bl true) := rfl
  have hl : lenW (.str z) = some (.int (z.length : Int)) := w_lenS z (by omega)
  have c1 : c_is_tag_1 [.str z, .dead] = .ok (.lst true ((z.cps.toList.filter fun c => !decide (c ∈ (Str.cps "abcdefghijklmnopqrstuvwxyz").toList)).map fun c : Nat => W.str ⟨#[c]⟩)) [.str z, .dead] := by
    unfold c_is_tag_1
    rw [comp_filter (fun c : Nat => W.str ⟨#[c]⟩) (fun c => !decide (c ∈ (Str.cps "abcdefghijklmnopqrstuvwxyz").toList)) (fun c : Nat => W.str ⟨#[c]⟩) (xs := z.cps.toList) (by simp_arith []) (by omega) (by
      intro c hc
      have hw : inW true (.str ⟨#[c]⟩) (.str "abcdefghijklmnopqrstuvwxyz") = some (.bl (!decide (c ∈ (Str.cps "abcdefghijklmnopqrstuvwxyz").toList))) := by
        rw [w_inS]
        cases decide (c ∈ (Str.cps "abcdefghijklmnopqrstuvwxyz").toList) <;> rfl
      unfold lcOne
      cases hd : decide (c ∈ (Str.cps "abcdefghijklmnopqrstuvwxyz").toList)
      · rw [hd] at hw
        simp_arith [hw]
      · rw [hd] at hw
        simp_arith [hw])]
  obtain ⟨l, hl0⟩ : ∃ l, l = (z.cps.toList.filter fun c => !decide (c ∈ (Str.cps "abcdefghijklmnopqrstuvwxyz").toList)).map fun c : Nat => W.str ⟨#[c]⟩ := ⟨_, rfl⟩
  have all : decide (l = []) = z.cps.toList.all fun c => decide (c ∈ (Str.cps "abcdefghijklmnopqrstuvwxyz").toList) := by
    rw [hl0, Bool.eq_iff_iff, decide_eq_true_eq, List.all_eq_true, List.map_eq_nil_iff, List.filter_eq_nil_iff]
    constructor
    · intro h c hc
      simpa using h c hc
    · intro h c hc
      rw [h c hc]
      decide
  have eL := fun b => eqW_nil b true l
  rw [← hl0] at c1
  unfold tagB
  rw [← all]
  by_cases g1 : 1 ≤ z.length
  · by_cases g2 : z.length ≤ 8
    · have g1' : (1 : Int) ≤ (z.length : Int) := by omega
      have g2' : (z.length : Int) ≤ 8 := by omega
      rw [decide_eq_true g1, decide_eq_true g2, Bool.true_and, Bool.true_and]
      simp_arith [i1, hl, w_leX, g1', g2', c1, ↓eL, Nat.zero_le]
      try rfl
    · have g1' : (1 : Int) ≤ (z.length : Int) := by omega
      have g2' : ¬ (z.length : Int) ≤ 8 := by omega
      rw [decide_eq_false g2, Bool.false_and, Bool.and_false]
      simp_arith [i1, hl, w_leX, g1', g2']
      try rfl
  · have g1' : ¬ (1 : Int) ≤ (z.length : Int) := by omega
    rw [decide_eq_false g1, Bool.false_and]
    simp_arith [i1, hl, w_leX, g1']
    try rfl
theorem e_keyed_any (t : Th) (h : t.2.length ≤ 900000) : f_is_keyed [encT t] = .ok (.bl (tagB t.2)) [.dead] := by
  unfold f_is_keyed b_is_keyed
  have i1 : isiW ["tuple"] (encT t) = some (.bl true) := rfl
  have i2 : lenW (encT t) = some (.int 2) := rfl
  have i3 : ixW (encT t) (.int 0) = some (.int t.1) := rfl
  have i4 : ixW (encT t) (.int 1) = some (.str t.2) := rfl
  simp_arith [pick_T, i1, i2, i3, i4, e_whole, e_istag_any t.2 h]
theorem eq_nilL (l : List W) (b : Bool) : eqW (.lst b l) (.lst true []) = some (.bl (decide (l = []))) := eqW_nil b true l
theorem filt_all {α : Type} (p : α → Bool) (e : α → W) (l : List α) : decide ((l.filter fun x => !p x).map e = []) = l.all p := by
  rw [Bool.eq_iff_iff, decide_eq_true_eq, List.all_eq_true, List.map_eq_nil_iff, List.filter_eq_nil_iff]
  constructor
  · intro h c hc
    simpa using h c hc
  · intro h c hc
    rw [h c hc]
    decide
def rowB (r : List Th) : Bool := r.all fun t => tagB t.2
theorem e_isrow_any (r : List Th) (hl : r.length ≤ 950000) (h : ∀ t ∈ r, t.2.length ≤ 900000) : f_is_row [encR r] = .ok (.bl (rowB r)) [.dead] := by
  unfold f_is_row b_is_row
  have lg := line_ge
  have i1 : isiW ["list"] (.lst false (r.map encT)) = some (.bl true) := rfl
  have c1 : c_is_row_1 [.lst false (r.map encT), .dead] = .ok (.lst true ((r.filter fun t => !tagB t.2).map encT)) [.lst false (r.map encT), .dead] := by
    unfold c_is_row_1
    rw [comp_filter encT (fun t => !tagB t.2) encT (xs := r) (by simp_arith []) (by omega) (by
      intro t ht
      have k := e_keyed_any t (h t ht)
      unfold lcOne
      cases hb : tagB t.2
      · rw [hb] at k
        simp_arith [pick_T, k]
      · rw [hb] at k
        simp_arith [pick_T, k])]
  have fa := filt_all (fun t : Th => tagB t.2) encT r
  show fnSem _ _ _ [.lst false (r.map encT)] = _
  unfold rowB
  rw [← fa]
  simp_arith [i1, c1, eq_nilL, Nat.zero_le]
  try rfl
def areB (rs : List (List Th)) : Bool := decide (1 ≤ rs.length) && (decide (rs.length ≤ 6) && rs.all rowB)
theorem e_arerows_any (rs : List (List Th)) (h0 : rs.length ≤ 950000) (hl : ∀ r ∈ rs, r.length ≤ 950000) (h : ∀ r ∈ rs, ∀ t ∈ r, t.2.length ≤ 900000) : f_are_rows [encRs rs] = .ok (.bl (areB rs)) [.dead] := by
  unfold f_are_rows b_are_rows
  have lg := line_ge
  have i1 : isiW ["list"] (.lst false (rs.map encR)) = some (.bl true) := rfl
  have c1 : c_are_rows_1 [.lst false (rs.map encR), .dead] = .ok (.lst true ((rs.filter fun r => !rowB r).map encR)) [.lst false (rs.map encR), .dead] := by
    unfold c_are_rows_1
    rw [comp_filter encR (fun r => !rowB r) encR (xs := rs) (by simp_arith []) (by omega) (by
      intro r hr
      have k := e_isrow_any r (hl r hr) (h r hr)
      unfold lcOne
      cases hb : rowB r
      · rw [hb] at k
        simp_arith [pick_R, k]
      · rw [hb] at k
        simp_arith [pick_R, k])]
  have fa := filt_all rowB encR rs
  unfold encRs areB
  by_cases g1 : 1 ≤ rs.length
  · by_cases g2 : rs.length ≤ 6
    · have g1' : (1 : Int) ≤ (rs.length : Int) := by omega
      have g2' : (rs.length : Int) ≤ 6 := by omega
      rw [decide_eq_true g1, decide_eq_true g2, Bool.true_and, Bool.true_and, ← fa]
      simp_arith [i1, w_leX, g1', g2', c1, eq_nilL, Nat.zero_le]
      try rfl
    · have g1' : (1 : Int) ≤ (rs.length : Int) := by omega
      have g2' : ¬ (rs.length : Int) ≤ 6 := by omega
      rw [decide_eq_false g2, Bool.false_and, Bool.and_false]
      simp_arith [i1, w_leX, g1', g2']
      try rfl
  · have g1' : ¬ (1 : Int) ≤ (rs.length : Int) := by omega
    rw [decide_eq_false g1, Bool.false_and]
    simp_arith [i1, w_leX, g1']
    try rfl
theorem lendE_of {i : Nat} {m : Sm W} {env env' : List W} {w0 w : W} (h0 : env[i]? = some w0) (hf : w0.fzOk = true) (hm : m (env.set i w0.fzD) = .ok w env') (ht : thinE w = true) : mLendE i m env = .ok w env := by
  rw [r_lendE, h0]
  dsimp only
  rw [if_pos hf, hm]
  dsimp only
  rw [if_pos ht]
/-! ### what is written, read -/
theorem sp_ok (a s : Str) (h1 : s.length ≠ 0) (h : a.length ≤ 999990) : spOk a s := ⟨by simpa using h1, by have := line_ge; omega⟩
theorem colon_ne : Str.length ":" ≠ 0 := by decide
theorem comma_ne : Str.length ", " ≠ 0 := by decide
theorem semi_ne : Str.length "; " ≠ 0 := by decide
/-! ### any text read -/
def allG {α β : Type} (g : α → Option β) : List α → Option (List β)
  | [] => some []
  | x :: xs => (g x).bind fun y => (allG g xs).map (y :: ·)
theorem allG_mem {α β : Type} {g : α → Option β} : ∀ {xs : List α} {ys : List β}, allG g xs = some ys → ∀ y ∈ ys, ∃ x ∈ xs, g x = some y
  | [], ys, h, y, hy => by
    cases h
    cases hy
  | x :: xs, ys, h, y, hy => by
    unfold allG at h
    cases e : g x with
    | none => rw [e] at h; cases h
    | some z =>
      rw [e, Option.bind_some] at h
      cases e2 : allG g xs with
      | none => rw [e2] at h; cases h
      | some zs =>
        rw [e2] at h
        cases h
        rcases List.mem_cons.mp hy with rfl | hy
        · exact ⟨x, List.mem_cons_self, e⟩
        · obtain ⟨x', h1, h2⟩ := allG_mem e2 y hy
          exact ⟨x', List.mem_cons_of_mem _ h1, h2⟩
theorem allG_len {α β : Type} {g : α → Option β} : ∀ {xs : List α} {ys : List β}, allG g xs = some ys → ys.length = xs.length
  | [], ys, h => by cases h; rfl
  | x :: xs, ys, h => by
    unfold allG at h
    cases e : g x with
    | none => rw [e] at h; cases h
    | some z =>
      rw [e, Option.bind_some] at h
      cases e2 : allG g xs with
      | none => rw [e2] at h; cases h
      | some zs =>
        rw [e2] at h
        cases h
        rw [List.length_cons, allG_len e2, List.length_cons]
section
variable {α β : Type} {f : Tg} {tt : Sm Bool} {te : Sm W} {vs : List Nat} {mi : Sm (List W)} {env : List W} (e : α → W) (enc : β → W) (g : α → Option β) (c : Nat)
theorem lcX_all (hf : ∀ y, (enc y).frz = true) : ∀ {xs : List α} {acc env' : List W}, acc.length + xs.length ≤ sizeLine → killE vs env' = killE vs env →
    (∀ x ∈ xs, ∃ env1, f (e x) (killE vs env) = some env1 ∧ tt env1 = .ok true env1 ∧ match g x with | some y => ∃ env2, te env1 = .ok (enc y) env2 ∧ killE vs env2 = killE vs env | none => ∃ env2, te env1 = .ex c env2) →
    match allG g xs with | some ys => ∃ env2, mLcX f tt te vs (xs.map e) acc env' = .ok (acc ++ ys.map enc) env2 | none => ∃ env2, mLcX f tt te vs (xs.map e) acc env' = .ex c env2
  | [], acc, env', _, _, _ => ⟨_, by rw [List.map_nil, List.map_nil, List.append_nil]; rfl⟩
  | x :: xs, acc, env', hl, hk, h => by
    rw [List.length_cons] at hl
    obtain ⟨env1, h1, h2, h3⟩ := h x List.mem_cons_self
    unfold allG
    rw [List.map_cons]
    unfold mLcX
    rw [hk, h1]
    dsimp only
    rw [h2]
    dsimp only
    cases hg : g x with
    | none =>
      rw [hg] at h3
      obtain ⟨env2, h4⟩ := h3
      exact ⟨env2, by rw [h4]⟩
    | some y =>
      rw [hg] at h3
      obtain ⟨env2, h4, h5⟩ := h3
      have ih := lcX_all hf (xs := xs) (acc := acc ++ [enc y]) (env' := env2) (by rw [List.length_append, List.length_singleton]; omega) h5 fun z hz => h z (List.mem_cons_of_mem _ hz)
      rw [Option.bind_some, h4]
      dsimp only
      rw [if_pos ⟨hf y, by omega⟩]
      cases hs : allG g xs with
      | none => rw [hs] at ih; exact ih
      | some ys =>
        rw [hs] at ih
        obtain ⟨env3, ih⟩ := ih
        rw [List.append_assoc] at ih
        exact ⟨env3, ih⟩
theorem compX_all {xs : List α} (hf : ∀ y, (enc y).frz = true) (hm : mi env = .ok (xs.map e) env) (hl : xs.length ≤ sizeLine)
    (h : ∀ x ∈ xs, ∃ env1, f (e x) (killE vs env) = some env1 ∧ tt env1 = .ok true env1 ∧ match g x with | some y => ∃ env2, te env1 = .ok (enc y) env2 ∧ killE vs env2 = killE vs env | none => ∃ env2, te env1 = .ex c env2) :
    mCompX f tt te vs mi env = match allG g xs with | some ys => .ok (.lst true (ys.map enc)) env | none => .ex c env := by
  have z := lcX_all (f := f) (tt := tt) (te := te) (vs := vs) (env := env) e enc g c hf (acc := []) (env' := env) (by simpa using hl) rfl h
  unfold mCompX
  rw [r_bind, hm]
  dsimp only
  cases hs : allG g xs with
  | none => rw [hs] at z; obtain ⟨_, z⟩ := z; rw [z]
  | some ys => rw [hs] at z; obtain ⟨_, z⟩ := z; rw [z]; rfl
theorem lcNX_all : ∀ {xs : List α} {acc env' : List W}, acc.length + xs.length ≤ sizeLine → killE vs env' = killE vs env →
    (∀ x ∈ xs, ∃ env1, f (e x) (killE vs env) = some env1 ∧ tt env1 = .ok true env1 ∧ match g x with | some y => ∃ env2, te env1 = .ok (enc y) env2 ∧ killE vs env2 = killE vs env | none => ∃ env2, te env1 = .ex c env2) →
    match allG g xs with | some ys => ∃ env2, mLcNX f tt te vs (xs.map e) acc env' = .ok (acc ++ ys.map enc) env2 | none => ∃ env2, mLcNX f tt te vs (xs.map e) acc env' = .ex c env2
  | [], acc, env', _, _, _ => ⟨_, by rw [List.map_nil, List.map_nil, List.append_nil]; rfl⟩
  | x :: xs, acc, env', hl, hk, h => by
    rw [List.length_cons] at hl
    obtain ⟨env1, h1, h2, h3⟩ := h x List.mem_cons_self
    unfold allG
    rw [List.map_cons]
    unfold mLcNX
    rw [hk, h1]
    dsimp only
    rw [h2]
    dsimp only
    cases hg : g x with
    | none =>
      rw [hg] at h3
      obtain ⟨env2, h4⟩ := h3
      exact ⟨env2, by rw [h4]⟩
    | some y =>
      rw [hg] at h3
      obtain ⟨env2, h4, h5⟩ := h3
      have ih := lcNX_all (xs := xs) (acc := acc ++ [enc y]) (env' := env2) (by rw [List.length_append, List.length_singleton]; omega) h5 fun z hz => h z (List.mem_cons_of_mem _ hz)
      rw [Option.bind_some, h4]
      dsimp only
      rw [if_pos (by omega)]
      cases hs : allG g xs with
      | none => rw [hs] at ih; exact ih
      | some ys =>
        rw [hs] at ih
        obtain ⟨env3, ih⟩ := ih
        rw [List.append_assoc] at ih
        exact ⟨env3, ih⟩
theorem compNX_all {xs : List α} (hm : mi env = .ok (xs.map e) env) (hl : xs.length ≤ sizeLine)
    (h : ∀ x ∈ xs, ∃ env1, f (e x) (killE vs env) = some env1 ∧ tt env1 = .ok true env1 ∧ match g x with | some y => ∃ env2, te env1 = .ok (enc y) env2 ∧ killE vs env2 = killE vs env | none => ∃ env2, te env1 = .ex c env2) :
    mCompNX f tt te vs mi env = match allG g xs with | some ys => .ok (.nst (ys.map enc)) env | none => .ex c env := by
  have z := lcNX_all (f := f) (tt := tt) (te := te) (vs := vs) (env := env) e enc g c (acc := []) (env' := env) (by simpa using hl) rfl h
  unfold mCompNX
  rw [r_bind, hm]
  dsimp only
  cases hs : allG g xs with
  | none => rw [hs] at z; obtain ⟨_, z⟩ := z; rw [z]
  | some ys => rw [hs] at z; obtain ⟨_, z⟩ := z; rw [z]; rfl
end
theorem strSub_len (x : Str) (i j : Nat) : (Builtin.Str.strSub x i j).length ≤ x.length := by
  rw [TL.len_tl, TL.tl_strSub x i j, List.length_take, List.length_drop, TL.len_tl x]
  omega
theorem txps_len (x : Str) (cuts : List Nat) (w : Nat) : ∀ p ∈ Builtin.Str.partsBetween x cuts w, p.length ≤ x.length := fun p hp => by
  unfold Builtin.Str.partsBetween at hp
  obtain ⟨q, _, rfl⟩ := List.mem_map.mp hp
  exact strSub_len x q.1 q.2
theorem txsp_len (x y : Str) : ∀ p ∈ Txt.split x y, p.length ≤ x.length := fun p hp => by
  unfold Txt.split at hp
  split at hp
  · rw [List.mem_singleton.mp hp]; exact Nat.le_refl _
  · split at hp
    · rw [List.mem_singleton.mp hp]; exact Nat.le_refl _
    · exact txps_len _ _ _ p hp
theorem txsp_cnt (x y : Str) : (Txt.split x y).length ≤ x.length + 2 := by
  have h := PySem.StrLaws.occ_length_le x y 0 x.length (x.length + 1)
  unfold Txt.split
  split
  · show 1 ≤ _; omega
  · split
    · show 1 ≤ _; omega
    · unfold Builtin.Str.partsBetween
      rw [List.length_map, List.length_zip, List.length_cons, List.length_map]
      omega
theorem txpa_len (x y : Str) : (Txt.partition x y).1.length ≤ x.length ∧ (Txt.partition x y).2.2.length ≤ x.length := by
  unfold Txt.partition
  split
  · exact ⟨strSub_len _ _ _, strSub_len _ _ _⟩
  · exact ⟨Nat.le_refl _, Nat.zero_le _⟩
open Classical in
noncomputable def thG (w : Str) : Option Th := if OkKey (TL.tl (Txt.partition w ":").1) then some (keyV (TL.tl (Txt.partition w ":").1), (Txt.partition w ":").2.2) else none
theorem thG_len {w : Str} {t : Th} (h : thG w = some t) : t.2.length ≤ w.length := by
  unfold thG at h
  split at h
  · cases h; exact (txpa_len w ":").2
  · cases h
theorem e_thingfrom_any (w : Str) (hw : w.length ≤ 900000) : f_thing_from [.str w] = match thG w with | some t => .ok (encT t) [.dead] | none => .ex 3 [.dead] := by
  have lg := line_ge
  have h2 : 2 ≤ sizeLine := by omega
  have pl := txpa_len w ":"
  obtain ⟨p1, hp1⟩ : ∃ p, p = (Txt.partition w ":").1 := ⟨_, rfl⟩
  obtain ⟨p2, hp2⟩ : ∃ p, p = (Txt.partition w ":").2.1 := ⟨_, rfl⟩
  obtain ⟨p3, hp3⟩ : ∃ p, p = (Txt.partition w ":").2.2 := ⟨_, rfl⟩
  have pw : partW (.str w) [.str ":"] = some (.tup [.str p1, .str p2, .str p3]) := by
    rw [hp1, hp2, hp3]
    exact w_part (sp_ok _ _ colon_ne (by omega))
  rw [← hp1] at pl
  have kf := e_keyfrom p1 (by omega)
  unfold thG
  rw [← hp1, ← hp3]
  unfold f_thing_from b_thing_from
  by_cases ok : OkKey (TL.tl p1)
  · rw [if_pos ok] at kf ⊢
    simp_arith [pw, tgL, kf, h2]
    rfl
  · rw [if_neg ok] at kf ⊢
    simp_arith [pw, tgL, kf, h2]
    try rfl
noncomputable def rowG (t : Str) : Option (List Th) := if t = "-" then some [] else allG thG (Txt.split t ", ")
theorem rowG_len {t : Str} {r : List Th} (h : rowG t = some r) : r.length ≤ t.length + 2 ∧ ∀ x ∈ r, x.2.length ≤ t.length := by
  unfold rowG at h
  split at h
  · cases h; exact ⟨Nat.zero_le _, fun _ z => nomatch z⟩
  · refine ⟨by rw [allG_len h]; exact txsp_cnt _ _, fun x hx => ?_⟩
    obtain ⟨w, h1, h2⟩ := allG_mem h x hx
    exact Nat.le_trans (thG_len h2) (txsp_len _ _ w h1)
theorem e_rowfrom_any (t : Str) (ht : t.length ≤ 900000) : f_row_from [.str t] = match rowG t with | some r => .ok (.lst true (r.map encT)) [.dead] | none => .ex 3 [.dead] := by
  have lg := line_ge
  have cnt := txsp_cnt t ", "
  have dash : eqW (.str t) (.str "-") = some (.bl (decide (t = "-"))) := eqW_str _ _
  unfold f_row_from b_row_from rowG
  by_cases d : t = "-"
  · rw [if_pos d]
    rw [decide_eq_true d] at dash
    simp_arith [↓dash, Nat.zero_le]
    try rfl
  · rw [if_neg d]
    rw [decide_eq_false d] at dash
    have hc : c_row_from_1 [.str t, .dead] = match allG thG (Txt.split t ", ") with | some ys => .ok (.lst true (ys.map encT)) [.str t, .dead] | none => .ex 3 [.str t, .dead] := by
      have sp : split1W false (.str t) [.str ", "] = some (.lst false ((Txt.split t ", ").map W.str)) := w_split (sp_ok _ _ comma_ne (by omega))
      unfold c_row_from_1
      rw [compX_all W.str encT thG 3 (xs := Txt.split t ", ") (fun _ => rfl) (by simp_arith [sp]) (by omega) (by
        intro w hw
        have lw := txsp_len _ _ w hw
        have e := e_thingfrom_any w (by omega)
        refine ⟨_, rfl, rfl, ?_⟩
        cases hg : thG w with
        | some y =>
          rw [hg] at e
          exact ⟨[.str t, .str w], by simp_arith [e], rfl⟩
        | none =>
          rw [hg] at e
          exact ⟨[.str t, .str w], by simp_arith [e]⟩)]
      cases allG thG (Txt.split t ", ") <;> rfl
    cases hs : allG thG (Txt.split t ", ") with
    | some ys =>
      rw [hs] at hc
      simp_arith [↓dash, hc]
      try rfl
    | none =>
      rw [hs] at hc
      simp_arith [↓dash, hc]
      try rfl
noncomputable def rowsG (t : Str) : Option (List (List Th)) := (allG rowG (Txt.split t "; ")).bind fun rs => if areB rs = true then some rs else none
theorem e_readrows_any (t : Str) (ht : t.length ≤ 900000) : f_read_rows [.str t] = match rowsG t with | some rs => .ok (.nst (rs.map encO)) [.dead] | none => .ex 3 [.dead] := by
  have lg := line_ge
  have cnt := txsp_cnt t "; "
  have i1 : isiW ["str"] (.str t) = some (.bl true) := rfl
  have hc : c_read_rows_1 [.str t, .dead, .dead] = match allG rowG (Txt.split t "; ") with | some ys => .ok (.nst (ys.map encO)) [.str t, .dead, .dead] | none => .ex 3 [.str t, .dead, .dead] := by
    have sp : split1W false (.str t) [.str "; "] = some (.lst false ((Txt.split t "; ").map W.str)) := w_split (sp_ok _ _ semi_ne (by omega))
    unfold c_read_rows_1
    rw [compNX_all W.str encO rowG 3 (xs := Txt.split t "; ") (by simp_arith [sp]) (by omega) (by
      intro w hw
      have lw := txsp_len _ _ w hw
      have e := e_rowfrom_any w (by omega)
      refine ⟨_, rfl, rfl, ?_⟩
      cases hg : rowG w with
      | some y =>
        rw [hg] at e
        refine ⟨[.str t, .dead, .str w], ?_, rfl⟩
        unfold encO
        simp_arith [e]
      | none =>
        rw [hg] at e
        exact ⟨[.str t, .dead, .str w], by simp_arith [e]⟩)]
    cases allG rowG (Txt.split t "; ") <;> rfl
  unfold f_read_rows b_read_rows rowsG
  cases hs : allG rowG (Txt.split t "; ") with
  | none =>
    rw [hs] at hc
    simp_arith [i1, hc]
    try rfl
  | some rs =>
    rw [hs] at hc
    have rl := allG_len hs
    have b1 : ∀ r ∈ rs, r.length ≤ 950000 ∧ ∀ x ∈ r, x.2.length ≤ 900000 := fun r hr => by
      obtain ⟨w, h1, h2⟩ := allG_mem hs r hr
      have := rowG_len h2
      have lw := txsp_len _ _ w h1
      exact ⟨by omega, fun x hx => by have := this.2 x hx; omega⟩
    have ar := e_arerows_any rs (by omega) (fun r hr => (b1 r hr).1) fun r hr => (b1 r hr).2
    have hle : mLendE 1 (mCallP f_are_rows (Sm.bind (mCons (mVar 1) (mNil)) fun ws => if ws.length = 1 then Sm.ret ws else fun _ => .bad)) [.str t, .nst (rs.map encO), .dead] = .ok (.bl (areB rs)) [.str t, .nst (rs.map encO), .dead] := by
      refine lendE_of (w0 := .nst (rs.map encO)) rfl (ok_nst rs) (env' := [.str t, .lst false (rs.map encR), .dead]) ?_ rfl
      rw [fz_nst]
      unfold encRs at ar
      simp_arith [ar]
    rw [Option.bind_some]
    cases hb : areB rs
    · rw [hb] at hle
      simp_arith [i1, hc, ↓hle, pick_nst]
      try rfl
    · rw [hb] at hle
      simp_arith [i1, hc, ↓hle, pick_nst]
      try rfl
theorem abc_range {c : Nat} (h : c ∈ abcL) : 97 ≤ c ∧ c ≤ 122 := by
  have e : abcL = [97, 98, 99, 100, 101, 102, 103, 104, 105, 106, 107, 108, 109, 110, 111, 112, 113, 114, 115, 116, 117, 118, 119, 120, 121, 122] := by decide
  rw [e] at h
  simp only [List.mem_cons, List.not_mem_nil, or_false] at h
  omega
theorem thS_free {s : Nat} (h1 : s ≠ 45) (h2 : s < 48 ∨ 57 < s) (h3 : s ≠ 58) (h4 : s < 97) (t : Th) (h : thOk t) : s ∉ TL.tl (thS t) := by
  unfold thS
  rw [TL.tl_append, TL.tl_append, tl_key]
  intro z
  rcases List.mem_append.mp z with z | z
  · rcases List.mem_append.mp z with z | z
    · exact keyL_free h1 h2 _ z
    · exact h3 (List.mem_singleton.mp z)
  · have := abc_range (h.2.2.2 s z)
    omega
theorem tl_rowS (r : List Th) (hr : r ≠ []) : TL.tl (rowS r) = TL.joinL [44, 32] ((r.map thS).map TL.tl) := by
  unfold rowS
  rw [if_neg hr, TL.join_eq, TL.tl_join]
  rfl
theorem joinL_mem {S : List Nat} {x : Nat} : ∀ {ps : List (List Nat)}, x ∈ TL.joinL S ps → x ∈ S ∨ ∃ p ∈ ps, x ∈ p
  | [], h => nomatch h
  | [p], h => .inr ⟨p, List.mem_cons_self, h⟩
  | p :: q :: r, h => by
    have h' : x ∈ p ++ (S ++ TL.joinL S (q :: r)) := h
    rcases List.mem_append.mp h' with z | z
    · exact .inr ⟨p, List.mem_cons_self, z⟩
    · rcases List.mem_append.mp z with y | y
      · exact .inl y
      · rcases joinL_mem y with u | ⟨p', h1, h2⟩
        · exact .inl u
        · exact .inr ⟨p', List.mem_cons_of_mem _ h1, h2⟩
theorem rowS_free {s : Nat} (h0 : s ≠ 45) (h2 : s < 48 ∨ 57 < s) (h3 : s ≠ 58) (h4 : s < 97) (h5 : s ≠ 44) (h6 : s ≠ 32) (r : List Th) (h : ∀ t ∈ r, thOk t) : s ∉ TL.tl (rowS r) := by
  by_cases c : r = []
  · subst c
    intro z
    have : s ∈ [45] := z
    exact h0 (List.mem_singleton.mp this)
  · rw [tl_rowS r c]
    intro z
    rcases joinL_mem z with y | ⟨p, h1, h2'⟩
    · simp only [List.mem_cons, List.not_mem_nil, or_false] at y
      omega
    · obtain ⟨q, hq, rfl⟩ := List.mem_map.mp h1
      obtain ⟨t, ht, rfl⟩ := List.mem_map.mp hq
      exact thS_free h0 h2 h3 h4 t (h t ht) h2'
theorem split_row (r : List Th) (hr : r ≠ []) (h : ∀ t ∈ r, thOk t) : Txt.split (rowS r) ", " = r.map thS := by
  unfold rowS
  rw [if_neg hr]
  refine TL.split_join (s := 44) (S := [32]) rfl (by decide +kernel) (by simpa using hr) fun p hp => ?_
  obtain ⟨t, ht, rfl⟩ := List.mem_map.mp hp
  exact thS_free (by decide) (by decide) (by decide) (by decide) t (h t ht)
theorem split_rows (rs : List (List Th)) (hr : rs ≠ []) (h : ∀ r ∈ rs, ∀ t ∈ r, thOk t) : Txt.split (rowsS rs) "; " = rs.map rowS := by
  unfold rowsS
  refine TL.split_join (s := 59) (S := [32]) rfl (by decide +kernel) (by simpa using hr) fun p hp => ?_
  obtain ⟨t, ht, rfl⟩ := List.mem_map.mp hp
  exact rowS_free (by decide) (by decide) (by decide) (by decide) (by decide) (by decide) t (h t ht)
theorem isN_int (i : Int) : isNW false (.int i) .non = some (.bl false) := rfl
theorem isN_str (i : Str) : isNW false (.str i) .non = some (.bl false) := rfl
theorem isN_tup (i : List W) : isNW false (.tup i) .non = some (.bl false) := rfl
theorem isN_lst (b : Bool) (i : List W) : isNW false (.lst b i) .non = some (.bl false) := rfl
theorem ne_bools (b c : Bool) : neW (.bl b) (.bl c) = some (.bl (!(b == c))) := by cases b <;> cases c <;> rfl
theorem alike_int (i : Int) (n : Nat) : f__law_alike (n + 1) [.int i, .int i] = .ok (.bl true) [.dead, .dead] := by
  have k1 : isiW ["tuple"] (.int i) = some (.bl false) := rfl
  have k3 : isiW ["list"] (.int i) = some (.bl false) := rfl
  have k2 : isiW ["str"] (.int i) = some (.bl false) := rfl
  show fnSem 3 [false, false] (b__law_alike (f__law_alike n)) _ = _
  unfold b__law_alike
  simp_arith [k1, k2, k3, isN_int]
theorem alike_str (i : Str) (n : Nat) : f__law_alike (n + 1) [.str i, .str i] = .ok (.bl true) [.dead, .dead] := by
  have k1 : isiW ["tuple"] (.str i) = some (.bl false) := rfl
  have k3 : isiW ["list"] (.str i) = some (.bl false) := rfl
  have k2 : isiW ["str"] (.str i) = some (.bl true) := rfl
  show fnSem 3 [false, false] (b__law_alike (f__law_alike n)) _ = _
  unfold b__law_alike
  simp_arith [k1, k2, k3, isN_str]
theorem alike_items (g : Fn) (x : W) (ws : List W) (hx : (x = .tup ws) ∨ (x = .lst false ws)) (hl : ws.length ≤ 100000) (hf : ∀ w ∈ ws, w.frz = true) (h : ∀ w ∈ ws, g [w, w] = .ok (.bl true) [.dead, .dead]) : c__law_alike_1 g [x, x, .dead] = .ok (.lst true []) [x, x, .dead] := by
  unfold c__law_alike_1
  have lg := line_ge
  have hr : rngOk (ws.length : Int) := rngOk_of (by omega) (by omega)
  rw [comp_filter (fun i : Nat => W.int (0 + (i : Int))) (fun _ => false) (fun k : Nat => W.int (0 + (k : Int))) (xs := List.range ws.length) (by
    rcases hx with rfl | rfl
    · simp_arith [hr, rngL_nat, Int.toNat_natCast]
    · simp_arith [hr, rngL_nat, Int.toNat_natCast]) (by rw [List.length_range]; omega) (by
    intro k hk
    have hk2 : k < ws.length := List.mem_range.mp hk
    have e0 : (0 : Int) + (k : Int) = (k : Int) := by omega
    have hm : ws[k] ∈ ws := List.getElem_mem hk2
    have ix : ixW x (.int (0 + (k : Int))) = some ws[k] := by
      rw [e0]
      rcases hx with rfl | rfl
      · rw [w_ixT, atI_nat, List.getElem?_eq_getElem hk2]
      · rw [w_ixL, atI_nat, List.getElem?_eq_getElem hk2]
    rcases hx with rfl | rfl
    · unfold lcOne
      simp_arith [↓ix, hf _ hm, h _ hm]
    · unfold lcOne
      simp_arith [↓ix, hf _ hm, h _ hm])]
  simp
theorem alike_tup (g : Nat) (ws : List W) (hl : ws.length ≤ 100000) (hf : ∀ w ∈ ws, w.frz = true) (h : ∀ w ∈ ws, f__law_alike g [w, w] = .ok (.bl true) [.dead, .dead]) : f__law_alike (g + 1) [.tup ws, .tup ws] = .ok (.bl true) [.dead, .dead] := by
  have k2 : isiW ["list"] (.tup ws) = some (.bl false) := rfl
  have k3 : isiW ["tuple"] (.tup ws) = some (.bl true) := rfl
  have e := alike_items (f__law_alike g) (.tup ws) ws (.inl rfl) hl hf h
  show fnSem 3 [false, false] (b__law_alike (f__law_alike g)) _ = _
  unfold b__law_alike
  simp_arith [k2, k3, ne_bools, beq_self_eq_true, e, Nat.zero_le, isN_tup]
theorem alike_lst (g : Nat) (ws : List W) (hl : ws.length ≤ 100000) (hf : ∀ w ∈ ws, w.frz = true) (h : ∀ w ∈ ws, f__law_alike g [w, w] = .ok (.bl true) [.dead, .dead]) : f__law_alike (g + 1) [.lst false ws, .lst false ws] = .ok (.bl true) [.dead, .dead] := by
  have k2 : isiW ["list"] (.lst false ws) = some (.bl true) := rfl
  have k3 : isiW ["tuple"] (.lst false ws) = some (.bl false) := rfl
  have e := alike_items (f__law_alike g) (.lst false ws) ws (.inr rfl) hl hf h
  show fnSem 3 [false, false] (b__law_alike (f__law_alike g)) _ = _
  unfold b__law_alike
  simp_arith [k2, k3, ne_bools, beq_self_eq_true, e, Nat.zero_le, isN_lst]
theorem alike_th (t : Th) (k : Nat) : f__law_alike (k + 2) [encT t, encT t] = .ok (.bl true) [.dead, .dead] := by
  refine alike_tup (k + 1) _ (by simp) (fun w hw => ?_) fun w hw => ?_
  · simp only [List.mem_cons, List.not_mem_nil, or_false] at hw
    rcases hw with rfl | rfl <;> rfl
  · simp only [List.mem_cons, List.not_mem_nil, or_false] at hw
    rcases hw with rfl | rfl
    · exact alike_int _ _
    · exact alike_str _ _
theorem alike_row (l : List Th) (k : Nat) (hl : l.length ≤ 100000) : f__law_alike (k + 3) [encR l, encR l] = .ok (.bl true) [.dead, .dead] := by
  refine alike_lst (k + 2) _ (by rw [List.length_map]; exact hl) (fun w hw => ?_) fun w hw => ?_
  · obtain ⟨n, _, rfl⟩ := List.mem_map.mp hw
    rfl
  · obtain ⟨n, _, rfl⟩ := List.mem_map.mp hw
    exact alike_th n k
theorem alike_rows (l : List (List Th)) (k : Nat) (hl : l.length ≤ 1000) (h : ∀ r ∈ l, r.length ≤ 100000) : f__law_alike (k + 4) [encRs l, encRs l] = .ok (.bl true) [.dead, .dead] := by
  refine alike_lst (k + 3) _ (by rw [List.length_map]; omega) (fun w hw => ?_) fun w hw => ?_
  · obtain ⟨n, _, rfl⟩ := List.mem_map.mp hw
    rfl
  · obtain ⟨n, hn, rfl⟩ := List.mem_map.mp hw
    exact alike_row n k (h n hn)
end Ev

namespace Ev
open PySem PySem.Spec L2
local macro_rules
  | `(tactic| simp_arith [$ls,*] $[$l:location]?) => `(tactic| simp only [↓r_bind, ↓r_ret, ↓r_lft, ↓r_c, ↓r_var2, ↓r_move, ↓r_un, ↓r_bin, ↓r_chain, ↓r_toB, ↓r_ofB, ↓r_and, ↓r_or, ↓r_not, ↓r_nil, ↓r_cons, ↓r_args, ↓r_iargs, ↓r_ilst, ↓r_part, ↓r_no, ↓r_slice, ↓r_callP, ↓r_rnil, ↓r_rval, ↓r_rvalX, ↓r_pick, pas_str, pas_int, pas_bl, pas_non, pas_tup, pas_lst, pas_edc, pick_edc, ↓r_rio, ↓r_call, ↓r_callL, ↓r_fz, ↓r_seq, ↓r_snil, ↓r_if, ↓r_drop, ↓r_sret, ↓r_set, ↓r_asg, ↓r_aug, ↓r_sfor, ↓r_mut, ↓r_sto, ↓r_go, ↓r_gfz, ↓r_push, ↓r_gfzD, ↓r_fzD,  ↓r_raise, ↓r_try, ↓r_itup, ↓r_iseq, ↓r_andV, ↓r_orV, ↓r_notV, ↓r_fn, ↓r_meth, ↓r_augS, ↓r_ichr, ↓r_pair, ↓r_mutN, ↓r_mutT, ↓r_app, ↓r_gfzC, ↓r_callO, ↓r_asgN, ↓r_takeK, pick_nst, pick_ntp, w_strL, w_zip3, ↓r_dnew, ↓r_key1, ↓r_keyT, ↓r_dget, ↓r_dget2, ↓r_dput, ↓r_mutP, ↓r_mutKP, ↓r_stoP, ↓r_stoN, ↓r_dputP, ↓r_fldP, ↓r_callM, ↓r_makeL, ↓r_gfzK, ↓r_gfzP, ↓r_dpopP, ↓r_augP, ↓r_forP, ↓r_chainI, ↓r_callT, ↓r_ikeys, ↓r_keyCut, w_keyI, w_keyS, w_keyT2, w_lookT, w_lookK, w_lookDT, w_lookDK, w_dputT, w_dputK, w_dkeysT, w_dkeysK, isDW_dct, frz_dct, pick_dct, w_geX, ty_str, and_self,
      maskL_nil, maskL_cons, frz_non, frz_bl, frz_int, frz_str, frz_tup, frz_lst, frz_scr, fz_lst, fz_int, fz_tup, fz_str, fz_bl, w_lst, w_tup, w_add, w_addL, w_addB, w_sub, w_mul, w_rep, w_fdiv, w_mod, w_pow, w_neg, w_lt, w_le, w_ge, w_gt, w_bl, w_intW, w_toI, w_toB, w_max2, w_min2, w_abs, w_lenL, w_lenC, w_lenT, w_listL, w_listC, w_listT, w_tupL, w_rev, w_ixL, w_ixC, w_ixT, w_cutL, w_cutC, w_frzL, w_frzC, w_rng1, w_rng2, w_enum, w_enumC, w_zip, w_app, w_ext, w_pop, w_sum, w_isx, w_isiI, w_isiB, w_tgN, w_tgT, w_killN, w_killC, w_takeN, w_takeV, w_takeI, w_putI, w_putV, w_putN, w_lendN, w_lendV, w_lendI, flat_bl, flat_int, flat_non,
      pick_non, pick_bl, pick_int, pick_str, pick_tup, pick_lst, pick_scr, pick_exc, pick_T, pick_R, pick_N, frzT, frzR, frzN, w_seqL, w_seqT, w_seqC, w_zipT, w_zipA, w_tupLt, w_leX, eqW_int, neW_int, eqW_nil, neW_nil, eqW_str, neW_str, List.cons_append, List.nil_append, List.length_cons, List.length_nil, List.replicate_succ, List.replicate_zero, List.getElem?_cons_zero, List.getElem?_cons_succ, List.set_cons_zero, List.set_cons_succ, List.length_map, Option.map_some, Option.bind_some, cond_true, cond_false, Bool.true_or, Bool.or_true, Bool.false_or, Bool.or_false, Bool.not_true, Bool.not_false, Bool.true_and, Bool.false_and, Nat.reduceSub, Nat.reduceAdd, Nat.reduceLeDiff, ↓reduceIte, if_true, if_false, reduceCtorEq, decide_true, decide_false, decide_eq_true_eq, Nat.zero_add, Nat.add_zero, $ls,*] $[$l]?)
noncomputable def lt0 : Sm Fl := sAsg (tgT [1, 2, 3]) (mMeth tyStr partW true (mVar 0) (mCons (mC (.str ":")) (mNil)))
noncomputable def lt1 : Sm Fl := sSet 4 false (mVar 1)
noncomputable def lt2 : Sm Fl := sIf (toB (mBin eqW true (mSlice false true (mVar 1) (mNo) (mPart (mC (.int 1)))) (mC (.str "-")))) (sSet 4 true (mSlice false true (mVar 1) (mPart (mC (.int 1))) (mNo))) (sNil)
noncomputable def lt3 : Sm Fl := sIf (mOr (toB (mBin eqW true (mVar 4) (mC (.str "")))) (mOr (toB (mBin gtW true (mUn lenW (mVar 4)) (mC (.int 30)))) (toB (mBin neW true (mFz (c__law_thing_1)) (mArgs (lstW false) (mNil)))))) (sRet true (mC .non)) (sNil)
noncomputable def ltL : Sm Bool := mAnd (toB (mBin gtW true (mUn lenW (mVar 4)) (mC (.int 1)))) (toB (mBin eqW true (mBin ixW true (mVar 4) (mC (.int 0))) (mC (.str "0"))))
noncomputable def lt4 : Sm Fl := sIf (mOr ltL (mOr (toB (mBin eqW true (mVar 1) (mC (.str "-0")))) (mOr (toB (mBin ltW true (mUn lenW (mVar 3)) (mC (.int 1)))) (toB (mBin gtW true (mUn lenW (mVar 3)) (mC (.int 8))))))) (sRet true (mC .non)) (sNil)
noncomputable def lt5 : Sm Fl := sIf (toB (mBin neW true (mFz (c__law_thing_2)) (mArgs (lstW false) (mNil)))) (sRet true (mC .non)) (sNil)
noncomputable def lt6 : Sm Fl := sRet true (mArgs tupW (mCons (mUn toIntW (mVar 1)) (mCons (mVar 3) (mNil))))
noncomputable def ltR : Sm Fl := sSeq lt3 (sSeq lt4 (sSeq lt5 (lt6)))
theorem lt_eq2 : b__law_thing = sSeq lt0 (sSeq lt1 (sSeq lt2 ltR)) := rfl
theorem e_lt1 (w p1 p2 p3 y : Str) (h : y.length ≤ 1000000) : c__law_thing_1 [.str w, .str p1, .str p2, .str p3, .str y, .dead] = .ok (.lst true (((TL.tl y).filter fun c => !isFig c).map fun c => W.str ⟨#[c]⟩)) [.str w, .str p1, .str p2, .str p3, .str y, .dead] := by
  unfold c__law_thing_1
  have lg := line_ge
  exact comp_filter (fun c : Nat => W.str ⟨#[c]⟩) (fun c => !isFig c) (fun c : Nat => W.str ⟨#[c]⟩) (xs := TL.tl y) (by simp_arith []) (by rw [← TL.len_tl]; omega) (by
    intro c hc
    have hw : inW true (.str ⟨#[c]⟩) (.str "0123456789") = some (.bl (!isFig c)) := by
      rw [w_inS, ← fig_mem c]
      simp
    unfold lcOne
    simp_arith [hw]
    cases isFig c <;> rfl)
theorem e_lt2 (w p1 p2 p3 y : Str) (h : p3.length ≤ 1000000) : c__law_thing_2 [.str w, .str p1, .str p2, .str p3, .str y, .dead] = .ok (.lst true ((p3.cps.toList.filter fun c => !decide (c ∈ (Str.cps "abcdefghijklmnopqrstuvwxyz").toList)).map fun c : Nat => W.str ⟨#[c]⟩)) [.str w, .str p1, .str p2, .str p3, .str y, .dead] := by
  unfold c__law_thing_2
  have lg := line_ge
  have hlen : p3.cps.toList.length = p3.length := Array.length_toList
  exact comp_filter (fun c : Nat => W.str ⟨#[c]⟩) (fun c => !decide (c ∈ (Str.cps "abcdefghijklmnopqrstuvwxyz").toList)) (fun c : Nat => W.str ⟨#[c]⟩) (xs := p3.cps.toList) (by simp_arith []) (by omega) (by
    intro c hc
    have hw : inW true (.str ⟨#[c]⟩) (.str "abcdefghijklmnopqrstuvwxyz") = some (.bl (!decide (c ∈ (Str.cps "abcdefghijklmnopqrstuvwxyz").toList))) := by
      rw [w_inS]
      cases decide (c ∈ (Str.cps "abcdefghijklmnopqrstuvwxyz").toList) <;> rfl
    unfold lcOne
    cases hd : decide (c ∈ (Str.cps "abcdefghijklmnopqrstuvwxyz").toList)
    · rw [hd] at hw
      simp_arith [hw]
    · rw [hd] at hw
      simp_arith [hw])
/-! what the law itself reads of a thing -/
open Classical in
noncomputable def thL (w : Str) : Option Th := if OkKey (TL.tl (Txt.partition w ":").1) ∧ tagB (Txt.partition w ":").2.2 = true then some (keyV (TL.tl (Txt.partition w ":").1), (Txt.partition w ":").2.2) else none
def encOp {α : Type} (e : α → W) : Option α → W
  | some x => e x
  | none => .non
open Classical in
theorem lt_rest (w p1 p2 p3 y : Str) (F : List Nat) (y1 : TL.tl y = F) (hF : F = figsL (TL.tl p1)) (l1 : p1.length ≤ 900000) (l3 : p3.length ≤ 900000) (ly : y.length ≤ 900000) :
    ltR [.str w, .str p1, .str p2, .str p3, .str y, .dead] = .ok (.rt (encOp encT (if OkKey (TL.tl p1) ∧ tagB p3 = true then some (keyV (TL.tl p1), p3) else none))) [.str w, .str p1, .str p2, .str p3, .str y, .dead] := by
  have lg := line_ge
  have yl := TL.len_tl y
  rw [y1] at yl
  have hc := e_lt1 w p1 p2 p3 y (by omega)
  rw [y1] at hc
  have hc2 := e_lt2 w p1 p2 p3 y (by omega)
  have eA : eqW (.str y) (.str "") = some (.bl (decide (F = []))) := by
    rw [eqW_str, str_dec, y1]
    rfl
  have eL : lenW (.str y) = some (.int (F.length : Int)) := by rw [w_lenS y (by omega), yl]
  have eT : lenW (.str p3) = some (.int (p3.length : Int)) := w_lenS p3 (by omega)
  have eE : eqW (.str p1) (.str "-0") = some (.bl (decide (TL.tl p1 = [45, 48]))) := by
    rw [eqW_str, str_dec]
    rfl
  obtain ⟨L, hL⟩ : ∃ L, L = F.filter fun c => !isFig c := ⟨_, rfl⟩
  obtain ⟨M, hM⟩ : ∃ M, M = p3.cps.toList.filter fun c => !decide (c ∈ (Str.cps "abcdefghijklmnopqrstuvwxyz").toList) := ⟨_, rfl⟩
  rw [← hL] at hc
  rw [← hM] at hc2
  have neC : ∀ L : List Nat, neW (.lst false (L.map fun c => W.str ⟨#[c]⟩)) (.lst false []) = some (.bl (!decide (L = []))) := fun L => by
    rw [neW_nil]
    congr 3
    rw [Bool.eq_iff_iff, decide_eq_true_eq, decide_eq_true_eq]
    exact List.map_eq_nil_iff
  have head : ∀ c, F[0]? = some c → ixW (.str y) (.int 0) = some (.str ⟨#[c]⟩) := fun c h => w_ixZ y 0 c (by omega) (by rw [y1]; exact h)
  have headE : ∀ c : Nat, eqW (.str ⟨#[c]⟩) (.str "0") = some (.bl (decide (c = 48))) := fun c => by
    rw [eqW_str, str_dec]
    congr 2
    rw [Bool.eq_iff_iff, decide_eq_true_eq, decide_eq_true_eq]
    show [c] = [48] ↔ _
    simp
  have tb : tagB p3 = (decide (1 ≤ p3.length) && (decide (p3.length ≤ 8) && decide (M = []))) := by
    unfold tagB
    congr 2
    rw [hM, Bool.eq_iff_iff, List.all_eq_true, decide_eq_true_eq, List.filter_eq_nil_iff]
    constructor
    · intro h c hc
      rw [h c hc]
      decide
    · intro h c hc
      simpa using h c hc
  unfold ltR lt3 lt4 lt5 lt6
  by_cases a : F = []
  · have no : ¬ (OkKey (TL.tl p1) ∧ tagB p3 = true) := fun k => k.1.ne (by rw [← hF]; exact a)
    rw [if_neg no]
    unfold encOp
    simp_arith [eA, a]
  by_cases b : 30 < F.length
  · have no : ¬ (OkKey (TL.tl p1) ∧ tagB p3 = true) := fun k => by have := k.1.len; rw [← hF] at this; omega
    have b' : (30 : Int) < (F.length : Int) := by omega
    rw [if_neg no]
    unfold encOp
    simp_arith [eA, a, eL, b']
  have b' : ¬ (30 : Int) < (F.length : Int) := by omega
  by_cases c : L = []
  case neg =>
    have no : ¬ (OkKey (TL.tl p1) ∧ tagB p3 = true) := fun k => c (by rw [hL]; exact (fig_filter F).mpr (by rw [hF]; exact k.1.fig))
    rw [if_neg no]
    unfold encOp
    simp_arith [eA, a, eL, b', hc, Nat.zero_le, List.map_eq_nil_iff, ↓neC, c]
  have hfig := (fig_filter F).mp (hL.symm.trans c)
  have led : ∃ r : Bool, (decide (1 < F.length ∧ F[0]? = some 48)) = r ∧ ∀ env, env = [W.str w, .str p1, .str p2, .str p3, .str y, .dead] → ltL env = .ok r env := by
    refine ⟨_, rfl, ?_⟩
    rintro env rfl
    unfold ltL
    by_cases e1 : 1 < F.length
    · have e1' : (1 : Int) < (F.length : Int) := by omega
      have e0 : F[0]? = some F[0] := List.getElem?_eq_getElem (by omega)
      have e2 := head _ e0
      by_cases e3 : F[0] = 48
      · rw [e3] at e2 e0
        rw [decide_eq_true ⟨e1, e0⟩]
        simp_arith [eL, e1', e2, headE]
      · rw [decide_eq_false fun z => e3 (by rw [e0] at z; exact Option.some.inj z.2)]
        simp_arith [eL, e1', e2, headE, e3]
    · have e1' : ¬ (1 : Int) < (F.length : Int) := by omega
      rw [decide_eq_false fun z => e1 z.1]
      simp_arith [eL, e1']
  obtain ⟨r, hr, led⟩ := led
  replace led := led _ rfl
  cases r with
  | true =>
    have e := of_decide_eq_true hr
    have no : ¬ (OkKey (TL.tl p1) ∧ tagB p3 = true) := fun k => k.1.led (by rw [← hF]; exact e)
    rw [if_neg no]
    unfold encOp
    simp_arith [eA, a, eL, b', hc, Nat.zero_le, List.map_nil, c, ↓led]
  | false =>
    have e := of_decide_eq_false hr
    by_cases g : TL.tl p1 = [45, 48]
    · have no : ¬ (OkKey (TL.tl p1) ∧ tagB p3 = true) := fun k => k.1.neg g
      have eE1 : eqW (.str p1) (.str "-0") = some (.bl true) := by rw [eE, decide_eq_true g]
      rw [if_neg no]
      unfold encOp
      simp_arith [eA, a, eL, b', hc, Nat.zero_le, List.map_nil, c, ↓led, eE1]
    have eE1 : eqW (.str p1) (.str "-0") = some (.bl false) := by rw [eE, decide_eq_false g]
    have ok : OkKey (TL.tl p1) := ⟨by rw [← hF]; exact a, by rw [← hF]; omega, by rw [← hF]; exact hfig, by rw [← hF]; exact e, g⟩
    obtain ⟨i1, i2⟩ := ok.int
    have ti := w_toIntS p1 _ (by omega) i1
    have h2 : 2 ≤ sizeLine := by omega
    by_cases t1 : 1 ≤ p3.length
    · have t1' : ¬ (p3.length : Int) < 1 := by omega
      by_cases t2 : p3.length ≤ 8
      · have t2' : ¬ (8 : Int) < (p3.length : Int) := by omega
        by_cases t3 : M = []
        · rw [if_pos ⟨ok, by rw [tb, decide_eq_true t1, decide_eq_true t2, decide_eq_true t3]; rfl⟩]
          unfold encOp encT
          simp_arith [eA, a, eL, b', hc, Nat.zero_le, List.map_nil, c, ↓led, eE1, eT, t1', t2', hc2, t3, ti, h2]
        · rw [if_neg fun k => by rw [tb, decide_eq_false t3] at k; simp at k]
          unfold encOp
          simp_arith [eA, a, eL, b', hc, Nat.zero_le, List.map_nil, c, ↓led, eE1, eT, t1', t2', hc2, t3, List.map_eq_nil_iff, ↓neC]
      · have t2' : (8 : Int) < (p3.length : Int) := by omega
        rw [if_neg fun k => by rw [tb, decide_eq_false t2] at k; simp at k]
        unfold encOp
        simp_arith [eA, a, eL, b', hc, Nat.zero_le, List.map_nil, c, ↓led, eE1, eT, t1', t2']
    · have t1' : (p3.length : Int) < 1 := by omega
      rw [if_neg fun k => by rw [tb, decide_eq_false t1] at k; simp at k]
      unfold encOp
      simp_arith [eA, a, eL, b', hc, Nat.zero_le, List.map_nil, c, ↓led, eE1, eT, t1']
theorem e_lthing (w : Str) (hw : w.length ≤ 900000) : f__law_thing [.str w] = .ok (encOp encT (thL w)) [.dead] := by
  have lg := line_ge
  have pl := txpa_len w ":"
  obtain ⟨p1, hp1⟩ : ∃ p, p = (Txt.partition w ":").1 := ⟨_, rfl⟩
  obtain ⟨p2, hp2⟩ : ∃ p, p = (Txt.partition w ":").2.1 := ⟨_, rfl⟩
  obtain ⟨p3, hp3⟩ : ∃ p, p = (Txt.partition w ":").2.2 := ⟨_, rfl⟩
  have pw : partW (.str w) [.str ":"] = some (.tup [.str p1, .str p2, .str p3]) := by
    rw [hp1, hp2, hp3]
    exact w_part (sp_ok _ _ colon_ne (by omega))
  rw [← hp1, ← hp3] at pl
  have cut1 : cutW false (.str p1) none (some 1) = some (.str (cutS p1 none (some 1))) := w_cutZ _ _ _ _ (by omega)
  have cut2 : cutW false (.str p1) (some 1) none = some (.str (cutS p1 (some 1) none)) := w_cutZ _ _ _ _ (by omega)
  have dash : decide (cutS p1 none (some 1) = "-") = decide ((TL.tl p1).take 1 = [45]) := by
    rw [str_dec, tl_take1]
    rfl
  unfold thL
  rw [← hp1, ← hp3]
  by_cases d : (TL.tl p1).take 1 = [45]
  · have rest := lt_rest w p1 p2 p3 (cutS p1 (some 1) none) _ rfl (by rw [tl_drop1]; unfold figsL; rw [if_pos d]) (by omega) (by omega) (by rw [TL.len_tl, tl_drop1, List.length_drop, ← TL.len_tl p1]; omega)
    unfold f__law_thing
    rw [lt_eq2]
    unfold lt0 lt1 lt2
    simp_arith [pw, tgL, cut1, cut2, ↓dash, d, rest]
  · have rest := lt_rest w p1 p2 p3 p1 _ rfl (by unfold figsL; rw [if_neg d]) (by omega) (by omega) (by omega)
    unfold f__law_thing
    rw [lt_eq2]
    unfold lt0 lt1 lt2
    simp_arith [pw, tgL, cut1, cut2, ↓dash, d, rest]
end Ev

namespace Ev
open PySem PySem.Spec L2
local macro_rules
  | `(tactic| simp_arith [$ls,*] $[$l:location]?) => `(tactic| simp only [↓r_bind, ↓r_ret, ↓r_lft, ↓r_c, ↓r_var2, ↓r_move, ↓r_un, ↓r_bin, ↓r_chain, ↓r_toB, ↓r_ofB, ↓r_and, ↓r_or, ↓r_not, ↓r_nil, ↓r_cons, ↓r_args, ↓r_iargs, ↓r_ilst, ↓r_part, ↓r_no, ↓r_slice, ↓r_callP, ↓r_rnil, ↓r_rval, ↓r_rvalX, ↓r_pick, pas_str, pas_int, pas_bl, pas_non, pas_tup, pas_lst, pas_edc, pick_edc, ↓r_rio, ↓r_call, ↓r_callL, ↓r_fz, ↓r_seq, ↓r_snil, ↓r_if, ↓r_drop, ↓r_sret, ↓r_set, ↓r_asg, ↓r_aug, ↓r_sfor, ↓r_mut, ↓r_sto, ↓r_go, ↓r_gfz, ↓r_push, ↓r_gfzD, ↓r_fzD,  ↓r_raise, ↓r_try, ↓r_itup, ↓r_iseq, ↓r_andV, ↓r_orV, ↓r_notV, ↓r_fn, ↓r_meth, ↓r_augS, ↓r_ichr, ↓r_pair, ↓r_mutN, ↓r_mutT, ↓r_app, ↓r_gfzC, ↓r_callO, ↓r_asgN, ↓r_takeK, pick_nst, pick_ntp, w_strL, w_zip3, ↓r_dnew, ↓r_key1, ↓r_keyT, ↓r_dget, ↓r_dget2, ↓r_dput, ↓r_mutP, ↓r_mutKP, ↓r_stoP, ↓r_stoN, ↓r_dputP, ↓r_fldP, ↓r_callM, ↓r_makeL, ↓r_gfzK, ↓r_gfzP, ↓r_dpopP, ↓r_augP, ↓r_forP, ↓r_chainI, ↓r_callT, ↓r_ikeys, ↓r_keyCut, w_keyI, w_keyS, w_keyT2, w_lookT, w_lookK, w_lookDT, w_lookDK, w_dputT, w_dputK, w_dkeysT, w_dkeysK, isDW_dct, frz_dct, pick_dct, w_geX, ty_str, and_self,
      maskL_nil, maskL_cons, frz_non, frz_bl, frz_int, frz_str, frz_tup, frz_lst, frz_scr, fz_lst, fz_int, fz_tup, fz_str, fz_bl, w_lst, w_tup, w_add, w_addL, w_addB, w_sub, w_mul, w_rep, w_fdiv, w_mod, w_pow, w_neg, w_lt, w_le, w_ge, w_gt, w_bl, w_intW, w_toI, w_toB, w_max2, w_min2, w_abs, w_lenL, w_lenC, w_lenT, w_listL, w_listC, w_listT, w_tupL, w_rev, w_ixL, w_ixC, w_ixT, w_cutL, w_cutC, w_frzL, w_frzC, w_rng1, w_rng2, w_enum, w_enumC, w_zip, w_app, w_ext, w_pop, w_sum, w_isx, w_isiI, w_isiB, w_tgN, w_tgT, w_killN, w_killC, w_takeN, w_takeV, w_takeI, w_putI, w_putV, w_putN, w_lendN, w_lendV, w_lendI, flat_bl, flat_int, flat_non,
      pick_non, pick_bl, pick_int, pick_str, pick_tup, pick_lst, pick_scr, pick_exc, pick_T, pick_R, pick_N, frzT, frzR, frzN, w_seqL, w_seqT, w_seqC, w_zipT, w_zipA, w_tupLt, w_leX, eqW_int, neW_int, eqW_nil, neW_nil, eqW_str, neW_str, List.cons_append, List.nil_append, List.length_cons, List.length_nil, List.replicate_succ, List.replicate_zero, List.getElem?_cons_zero, List.getElem?_cons_succ, List.set_cons_zero, List.set_cons_succ, List.length_map, Option.map_some, Option.bind_some, cond_true, cond_false, Bool.true_or, Bool.or_true, Bool.false_or, Bool.or_false, Bool.not_true, Bool.not_false, Bool.true_and, Bool.false_and, Nat.reduceSub, Nat.reduceAdd, Nat.reduceLeDiff, ↓reduceIte, if_true, if_false, reduceCtorEq, decide_true, decide_false, decide_eq_true_eq, Nat.zero_add, Nat.add_zero, $ls,*] $[$l]?)
noncomputable def ls0 : Sm Fl := sSet 4 true (mArgs (lstW false) (mNil))
noncomputable def ls1 : Sm Fl := sIf (toB (mBin neW true (mVar 3) (mC (.str "-")))) (sSet 4 true (mFz (c__law_read_1))) (sNil)
noncomputable def ls2 : Sm Fl := sIf (toB (mBin (inW false) true (mC .non) (mVar 4))) (sRet true (mC .non)) (sNil)
noncomputable def ls3 : Sm Fl := sDrop (mMut 2 fAppend (mCons (mVar 4) (mNil)))
theorem ls_eq : b__law_read_1 = sSeq ls0 (sSeq ls1 (sSeq ls2 (ls3))) := rfl
noncomputable def lr0 : Sm Fl := sSet 1 true (mMeth tyStr (split1W false) true (mVar 0) (mCons (mC (.str "; ")) (mNil)))
noncomputable def lr1 : Sm Fl := sIf (toB (mBin gtW true (mUn lenW (mVar 1)) (mC (.int 6)))) (sRet true (mC .non)) (sNil)
noncomputable def lr2 : Sm Fl := sSet 2 true (mArgs (lstW true) (mNil))
noncomputable def lr3 : Sm Fl := sFor (tgN 3) b__law_read_1 [3, 4] (iLst (mVar 1))
noncomputable def lr4 : Sm Fl := sRet true (mMove 2)
theorem lr_eq : b__law_read = sSeq lr0 (sSeq lr1 (sSeq lr2 (sSeq lr3 (lr4)))) := rfl
/-! ### the law's own reading, and that it is the program's -/
theorem allG_some {α β : Type} {g : α → Option β} : ∀ {xs : List α} {ys : List β}, allG g xs = some ys → xs.map g = ys.map some
  | [], ys, h => by cases h; rfl
  | x :: xs, ys, h => by
    unfold allG at h
    cases e : g x with
    | none => rw [e] at h; cases h
    | some z =>
      rw [e, Option.bind_some] at h
      cases e2 : allG g xs with
      | none => rw [e2] at h; cases h
      | some zs =>
        rw [e2] at h
        cases h
        rw [List.map_cons, List.map_cons, e, allG_some e2]
theorem allG_none {α β : Type} {g : α → Option β} : ∀ {xs : List α}, allG g xs = none → ∃ x ∈ xs, g x = none
  | [], h => by cases h
  | x :: xs, h => by
    unfold allG at h
    cases e : g x with
    | none => exact ⟨x, List.mem_cons_self, e⟩
    | some z =>
      rw [e, Option.bind_some] at h
      cases e2 : allG g xs with
      | none =>
        obtain ⟨y, h1, h2⟩ := allG_none e2
        exact ⟨y, List.mem_cons_of_mem _ h1, h2⟩
      | some zs => rw [e2] at h; cases h
theorem allG_if {α β : Type} (g g' : α → Option β) (p : β → Bool) : ∀ {xs : List α}, (∀ x ∈ xs, g' x = (g x).bind fun y => if p y = true then some y else none) → allG g' xs = (allG g xs).bind fun ys => if ys.all p = true then some ys else none
  | [], _ => rfl
  | x :: xs, h => by
    have ih := allG_if g g' p (xs := xs) fun y hy => h y (List.mem_cons_of_mem _ hy)
    unfold allG
    rw [h x List.mem_cons_self, ih]
    cases g x with
    | none => rfl
    | some y =>
      rw [Option.bind_some, Option.bind_some]
      cases hs : allG g xs with
      | none =>
        cases hp : p y <;> simp
      | some ys =>
        rw [Option.bind_some, Option.map_some, Option.bind_some, List.all_cons]
        cases hp : p y
        · simp
        · cases hq : ys.all p <;> simp
noncomputable def rowL (t : Str) : Option (List Th) := if t = "-" then some [] else allG thL (Txt.split t ", ")
open Classical in
theorem thL_eq (w : Str) : thL w = (thG w).bind fun t => if tagB t.2 = true then some t else none := by
  unfold thL thG
  by_cases k : OkKey (TL.tl (Txt.partition w ":").1)
  · rw [if_pos k, Option.bind_some]
    by_cases g : tagB (Txt.partition w ":").2.2 = true
    · rw [if_pos ⟨k, g⟩, if_pos g]
    · rw [if_neg fun z => g z.2, if_neg g]
  · rw [if_neg k, if_neg fun z => k z.1]
    rfl
theorem rowL_eq (t : Str) : rowL t = (rowG t).bind fun r => if rowB r = true then some r else none := by
  unfold rowL rowG
  by_cases d : t = "-"
  · rw [if_pos d, if_pos d]
    rfl
  · rw [if_neg d, if_neg d]
    exact allG_if thG thL (fun t => tagB t.2) fun x _ => thL_eq x
theorem txsp_pos (x y : Str) : 1 ≤ (Txt.split x y).length := by
  unfold Txt.split
  split
  · exact Nat.le_refl _
  · split
    · exact Nat.le_refl _
    · unfold Builtin.Str.partsBetween
      rw [List.length_map, List.length_zip, List.length_cons, List.length_append, List.length_singleton]
      omega
noncomputable def rowsL (t : Str) : Option (List (List Th)) := if 6 < (Txt.split t "; ").length then none else allG rowL (Txt.split t "; ")
theorem rowsL_eq (t : Str) : rowsL t = rowsG t := by
  unfold rowsL rowsG
  rw [allG_if rowG rowL rowB fun x _ => rowL_eq x]
  have ps := txsp_pos t "; "
  cases hs : allG rowG (Txt.split t "; ") with
  | none => rw [Option.bind_none, Option.bind_none]; split <;> rfl
  | some rs =>
    have hl := allG_len hs
    rw [Option.bind_some, Option.bind_some]
    unfold areB
    by_cases c : 6 < (Txt.split t "; ").length
    · rw [if_pos c, decide_eq_false (by omega : ¬ rs.length ≤ 6), Bool.false_and, Bool.and_false, if_neg (by decide)]
    · rw [if_neg c, decide_eq_true (by omega : rs.length ≤ 6), decide_eq_true (by omega : 1 ≤ rs.length), Bool.true_and, Bool.true_and]
theorem w_inNone (os : List (Option Th)) : inW false .non (.lst false (os.map (encOp encT))) = some (.bl (os.any (·.isNone))) := by
  have h : W.non.fd = true ∧ W.non.dat.depth ≤ 60 := ⟨rfl, by decide⟩
  show (if W.non.fd = true ∧ W.non.dat.depth ≤ 60 then (seqD (.lst false (os.map (encOp encT)))).map fun ds => W.bl (if false = true then !inD .non ds else inD .non ds) else none) = _
  rw [if_pos h]
  show some (W.bl (inD .non (datL (os.map (encOp encT))))) = _
  refine congrArg (fun x => some (W.bl x)) ?_
  unfold inD
  rw [datL_map, List.map_map, List.any_map]
  refine List.any_congr rfl fun o => ?_
  cases o with
  | none => rfl
  | some t => rfl
theorem e_lrow (a0 a1 a2 a4 : W) (p : Str) (hp : p.length ≤ 900000) : c__law_read_1 [a0, a1, a2, .str p, a4, .dead] = .ok (.lst true (((Txt.split p ", ").map thL).map (encOp encT))) [a0, a1, a2, .str p, a4, .dead] := by
  have lg := line_ge
  have cnt := txsp_cnt p ", "
  have sp : split1W false (.str p) [.str ", "] = some (.lst false ((Txt.split p ", ").map W.str)) := w_split (sp_ok _ _ comma_ne (by omega))
  unfold c__law_read_1
  rw [comp_map W.str (fun w => encOp encT (thL w)) (xs := Txt.split p ", ") (by simp_arith [sp]) (by omega) (by
    intro w hw
    have lw := txsp_len _ _ w hw
    have e := e_lthing w (by omega)
    unfold lcOne
    simp_arith [e]
    cases thL w <;> rfl)]
  rw [List.map_map]
  rfl
theorem any_none {α : Type} (l : List α) : (l.map some).any (·.isNone) = false := by
  rw [List.any_map, List.any_eq_false]
  intro x _ h
  cases h
theorem read_turn (T P : W) (acc : List (List Th)) (ha : acc.length ≤ 1000) (p : Str) (hp : p.length ≤ 900000) :
    match rowL p with
    | some r => turn (tgN 3) b__law_read_1 [3, 4] (.str p) [T, P, .lst true (acc.map encR), .dead, .dead, .dead] = .ok .nx [T, P, .lst true ((acc ++ [r]).map encR), .dead, .dead, .dead]
    | none => ∃ x, turn (tgN 3) b__law_read_1 [3, 4] (.str p) [T, P, .lst true (acc.map encR), .dead, .dead, .dead] = .ok (.rt .non) [T, P, .lst true (acc.map encR), .str p, x, .dead] := by
  have lg := line_ge
  have hz : acc.length < sizeLine := by omega
  have e1 := fun a0 a1 a2 a4 => e_lrow a0 a1 a2 a4 p hp
  have w0 := w_inNone []
  have rm : ∀ r : List Th, acc.map encR ++ [.lst false (r.map encT)] = (acc ++ [r]).map encR := fun r => by rw [List.map_append]; rfl
  unfold rowL
  by_cases d : p = "-"
  · have dash : neW (.str p) (.str "-") = some (.bl false) := by rw [neW_str, decide_eq_true d]; rfl
    have rm0 := rm []
    rw [if_pos d, ls_eq]
    unfold turn ls0 ls1 ls2 ls3
    rw [List.map_nil, List.any_nil] at w0
    rw [List.map_nil] at rm0
    simp_arith [↓dash, Nat.zero_le, w0, w_app, hz, rm0]
  · have dash : neW (.str p) (.str "-") = some (.bl true) := by rw [neW_str, decide_eq_false d]; rfl
    rw [if_neg d, ls_eq]
    have wn := w_inNone ((Txt.split p ", ").map thL)
    cases hs : allG thL (Txt.split p ", ") with
    | some r =>
      have em := allG_some hs
      rw [em, any_none] at wn
      have e1' : ∀ a0 a1 a2 a4 : W, c__law_read_1 [a0, a1, a2, .str p, a4, .dead] = .ok (.lst true (r.map encT)) [a0, a1, a2, .str p, a4, .dead] := fun a0 a1 a2 a4 => by
        rw [e1 a0 a1 a2 a4, em, List.map_map]
        rfl
      have wn' : inW false .non (.lst false (r.map encT)) = some (.bl false) := by
        rw [List.map_map] at wn
        exact wn
      have rm' := rm r
      dsimp only
      unfold turn ls0 ls1 ls2 ls3
      simp_arith [↓dash, Nat.zero_le, e1', wn', w_app, hz, rm']
    | none =>
      obtain ⟨x, h1, h2⟩ := allG_none hs
      have an : ((Txt.split p ", ").map thL).any (·.isNone) = true := List.any_eq_true.mpr ⟨none, List.mem_map.mpr ⟨x, h1, h2⟩, rfl⟩
      rw [an] at wn
      obtain ⟨L, hL⟩ : ∃ L, L = ((Txt.split p ", ").map thL).map (encOp encT) := ⟨_, rfl⟩
      rw [← hL] at wn
      rw [← hL] at e1
      refine ⟨.lst false L, ?_⟩
      unfold turn ls0 ls1 ls2 ls3
      simp_arith [↓dash, Nat.zero_le, e1, wn]
theorem read_loop (T P : W) : ∀ (ps : List Str) (acc : List (List Th)), acc.length + ps.length ≤ 1000 → (∀ p ∈ ps, p.length ≤ 900000) →
    match allG rowL ps with
    | some rs => mFor (tgN 3) b__law_read_1 [3, 4] (ps.map W.str) [T, P, .lst true (acc.map encR), .dead, .dead, .dead] = .ok .nx [T, P, .lst true ((acc ++ rs).map encR), .dead, .dead, .dead]
    | none => ∃ a b c, mFor (tgN 3) b__law_read_1 [3, 4] (ps.map W.str) [T, P, .lst true (acc.map encR), .dead, .dead, .dead] = .ok (.rt .non) [T, P, a, b, c, .dead]
  | [], acc, _, _ => by
    show mFor _ _ _ [] _ = _
    rw [mFor_nil, List.append_nil]
  | p :: ps, acc, hl, hp => by
    rw [List.length_cons] at hl
    have t := read_turn T P acc (by omega) p (hp p List.mem_cons_self)
    unfold allG
    rw [List.map_cons, mFor_cons]
    cases hr : rowL p with
    | none =>
      rw [hr] at t
      obtain ⟨x, t⟩ := t
      exact ⟨_, _, _, by rw [t]⟩
    | some r =>
      rw [hr] at t
      have ih := read_loop T P ps (acc ++ [r]) (by rw [List.length_append, List.length_singleton]; omega) fun q hq => hp q (List.mem_cons_of_mem _ hq)
      rw [Option.bind_some, t]
      dsimp only
      cases hs : allG rowL ps with
      | none =>
        rw [hs] at ih
        exact ih
      | some rs =>
        rw [hs] at ih
        dsimp only at ih
        rw [List.append_assoc] at ih
        exact ih
theorem e_lread (t : Str) (ht : t.length ≤ 5000) : f__law_read [.str t] = .ok (match rowsG t with | some rs => .lst true (rs.map encR) | none => .non) [.dead] := by
  have lg := line_ge
  have cnt := txsp_cnt t "; "
  have sp : split1W false (.str t) [.str "; "] = some (.lst false ((Txt.split t "; ").map W.str)) := w_split (sp_ok _ _ semi_ne (by omega))
  have hln : lenW (.lst false ((Txt.split t "; ").map W.str)) = some (.int ((Txt.split t "; ").length : Int)) := by
    show some (W.int (((Txt.split t "; ").map W.str).length : Int)) = _
    rw [List.length_map]
  rw [← rowsL_eq]
  unfold rowsL f__law_read
  rw [lr_eq]
  unfold lr0 lr1 lr2 lr3 lr4
  by_cases c : 6 < (Txt.split t "; ").length
  · have c' : (6 : Int) < ((Txt.split t "; ").length : Int) := by omega
    rw [if_pos c]
    simp_arith [sp, hln, c']
  · have c' : ¬ (6 : Int) < ((Txt.split t "; ").length : Int) := by omega
    have lp := fun T P => read_loop T P (Txt.split t "; ") [] (by rw [List.length_nil]; omega) fun p hp => by have := txsp_len _ _ p hp; omega
    rw [if_neg c]
    cases hs : allG rowL (Txt.split t "; ") with
    | none =>
      rw [hs] at lp
      obtain ⟨a, b, c, lp⟩ := lp (.str t) (.lst false ((Txt.split t "; ").map W.str))
      rw [List.map_nil] at lp
      simp_arith [sp, hln, c', Nat.zero_le, lp]
    | some rs =>
      rw [hs] at lp
      replace lp := lp (.str t) (.lst false ((Txt.split t "; ").map W.str))
      dsimp only at lp
      rw [List.map_nil, List.nil_append] at lp
      simp_arith [sp, hln, c', Nat.zero_le, lp]
end Ev

namespace Ev
open PySem PySem.Spec L2
local macro_rules
  | `(tactic| simp_arith [$ls,*] $[$l:location]?) => `(tactic| simp only [↓r_bind, ↓r_ret, ↓r_lft, ↓r_c, ↓r_var2, ↓r_move, ↓r_un, ↓r_bin, ↓r_chain, ↓r_toB, ↓r_ofB, ↓r_and, ↓r_or, ↓r_not, ↓r_nil, ↓r_cons, ↓r_args, ↓r_iargs, ↓r_ilst, ↓r_part, ↓r_no, ↓r_slice, ↓r_callP, ↓r_rnil, ↓r_rval, ↓r_rvalX, ↓r_pick, pas_str, pas_int, pas_bl, pas_non, pas_tup, pas_lst, pas_edc, pick_edc, ↓r_rio, ↓r_call, ↓r_callL, ↓r_fz, ↓r_seq, ↓r_snil, ↓r_if, ↓r_drop, ↓r_sret, ↓r_set, ↓r_asg, ↓r_aug, ↓r_sfor, ↓r_mut, ↓r_sto, ↓r_go, ↓r_gfz, ↓r_push, ↓r_gfzD, ↓r_fzD,  ↓r_raise, ↓r_try, ↓r_itup, ↓r_iseq, ↓r_andV, ↓r_orV, ↓r_notV, ↓r_fn, ↓r_meth, ↓r_augS, ↓r_ichr, ↓r_pair, ↓r_mutN, ↓r_mutT, ↓r_app, ↓r_gfzC, ↓r_callO, ↓r_asgN, ↓r_takeK, pick_nst, pick_ntp, w_strL, w_zip3, ↓r_dnew, ↓r_key1, ↓r_keyT, ↓r_dget, ↓r_dget2, ↓r_dput, ↓r_mutP, ↓r_mutKP, ↓r_stoP, ↓r_stoN, ↓r_dputP, ↓r_fldP, ↓r_callM, ↓r_makeL, ↓r_gfzK, ↓r_gfzP, ↓r_dpopP, ↓r_augP, ↓r_forP, ↓r_chainI, ↓r_callT, ↓r_ikeys, ↓r_keyCut, w_keyI, w_keyS, w_keyT2, w_lookT, w_lookK, w_lookDT, w_lookDK, w_dputT, w_dputK, w_dkeysT, w_dkeysK, isDW_dct, frz_dct, pick_dct, w_geX, ty_str, and_self,
      maskL_nil, maskL_cons, frz_non, frz_bl, frz_int, frz_str, frz_tup, frz_lst, frz_scr, fz_lst, fz_int, fz_tup, fz_str, fz_bl, w_lst, w_tup, w_add, w_addL, w_addB, w_sub, w_mul, w_rep, w_fdiv, w_mod, w_pow, w_neg, w_lt, w_le, w_ge, w_gt, w_bl, w_intW, w_toI, w_toB, w_max2, w_min2, w_abs, w_lenL, w_lenC, w_lenT, w_listL, w_listC, w_listT, w_tupL, w_rev, w_ixL, w_ixC, w_ixT, w_cutL, w_cutC, w_frzL, w_frzC, w_rng1, w_rng2, w_enum, w_enumC, w_zip, w_app, w_ext, w_pop, w_sum, w_isx, w_isiI, w_isiB, w_tgN, w_tgT, w_killN, w_killC, w_takeN, w_takeV, w_takeI, w_putI, w_putV, w_putN, w_lendN, w_lendV, w_lendI, flat_bl, flat_int, flat_non,
      pick_non, pick_bl, pick_int, pick_str, pick_tup, pick_lst, pick_scr, pick_exc, pick_T, pick_R, pick_N, frzT, frzR, frzN, w_seqL, w_seqT, w_seqC, w_zipT, w_zipA, w_tupLt, w_leX, eqW_int, neW_int, eqW_nil, neW_nil, eqW_str, neW_str, List.cons_append, List.nil_append, List.length_cons, List.length_nil, List.replicate_succ, List.replicate_zero, List.getElem?_cons_zero, List.getElem?_cons_succ, List.set_cons_zero, List.set_cons_succ, List.length_map, Option.map_some, Option.bind_some, cond_true, cond_false, Bool.true_or, Bool.or_true, Bool.false_or, Bool.or_false, Bool.not_true, Bool.not_false, Bool.true_and, Bool.false_and, Nat.reduceSub, Nat.reduceAdd, Nat.reduceLeDiff, ↓reduceIte, if_true, if_false, reduceCtorEq, decide_true, decide_false, decide_eq_true_eq, Nat.zero_add, Nat.add_zero, $ls,*] $[$l]?)
noncomputable def lk0 : Sm Fl := sSet 1 true (mC .non)
noncomputable def lk1 : Sm Fl := sSet 2 true (mC .non)
noncomputable def lk2 : Sm Fl := sTry acc_LotError 3 2 b__law_asked_1
noncomputable def lk3 : Sm Fl := sIf (toB (mBin (isNW false) true (mVar 2) (mC .non))) (sRet true (mArgs tupW (mCons (mC (.str "told")) (mCons (mVar 1) (mNil))))) (sNil)
noncomputable def lk4 : Sm Fl := sIf (mOr (toB (mUn (isxW isTab_NoDeed_NoName_NoNumber_NoRow) (mVar 2))) (mNot (toB (mUn (isxW isTab_ValueError) (mVar 2))))) (sRet true (mArgs tupW (mCons (mC (.str "odd")) (mCons (mC .non) (mNil))))) (sNil)
noncomputable def lk5 : Sm Fl := sRet true (mArgs tupW (mCons (mBin ixW true (mArgs (lstW false) (mCons (mC (.str "odd")) (mCons (mC (.str "NoText")) (mNil)))) (mUn toIntW (mUn (isxW isTab_NoText) (mVar 2)))) (mCons (mC .non) (mNil))))
theorem lk_eq : b__law_asked = sSeq lk0 (sSeq lk1 (sSeq lk2 (sSeq lk3 (sSeq lk4 (lk5))))) := rfl
/-! ### asked -/
theorem e_asked (t : Str) (ht : t.length ≤ 5000) : f__law_asked [.str t] = .ok (match rowsG t with | some rs => .tup [.str "told", encRs rs] | none => .tup [.str "NoText", .non]) [.dead] := by
  have lg := line_ge
  have h2 : 2 ≤ sizeLine := by omega
  have rd := e_readrows_any t (by omega)
  unfold f__law_asked
  rw [lk_eq]
  unfold lk0 lk1 lk2 lk3 lk4 lk5 b__law_asked_1 acc_LotError
  cases hs : rowsG t with
  | some rs =>
    rw [hs] at rd
    have fz := fz_nst rs
    have fo := ok_nst rs
    simp_arith [pas_str, rd, fz, fo, h2, pick_nst]
    rfl
  | none =>
    rw [hs] at rd
    simp_arith [pas_str, rd, h2, isTab_NoDeed_NoName_NoNumber_NoRow, isTab_ValueError, isTab_NoText]
    rfl
def oddS : List W := [.non, .int 7, .lst false [.lst false []], .lst false [.str "-"], .bl true, .edc, .tup [.str "-"], .int 0]
theorem asked_odd (w : W) (hp : w.pas = true) (hk : ∀ env, pickV (some w) env = .ok w env) (hi : isiW ["str"] w = some (.bl false)) : f__law_asked [w] = .ok (.tup [.str "NoText", .non]) [.dead] := by
  have lg := line_ge
  have h2 : 2 ≤ sizeLine := by omega
  have rd : f_read_rows [w] = .ex 3 [.dead] := by
    unfold f_read_rows b_read_rows
    simp_arith [hk, hi]
  unfold f__law_asked
  rw [lk_eq]
  unfold lk0 lk1 lk2 lk3 lk4 lk5 b__law_asked_1 acc_LotError
  simp_arith [hp, hk, rd, h2, isTab_NoDeed_NoName_NoNumber_NoRow, isTab_ValueError, isTab_NoText]
  rfl
theorem strX_int (i : Int) (h : i.natAbs.log2 < 1920) : ∃ s : Str, strXW (.int i) = some (.str s) := by
  refine ⟨toString i, ?_⟩
  show (if i.natAbs.log2 < 1920 then some (W.str (toString i)) else none) = _
  rw [if_pos h]
theorem strX_lst (b : Bool) (ws : List W) (h : W.many (.lst b ws) = true ∧ W.fd (.lst b ws) = true ∧ showOk (W.lst b ws).dat) : ∃ s : Str, strXW (.lst b ws) = some (.str s) := by
  refine ⟨(W.lst b ws).dat.shown, ?_⟩
  show (if W.many (.lst b ws) = true ∧ W.fd (.lst b ws) = true ∧ showOk (W.lst b ws).dat then some (W.str (W.lst b ws).dat.shown) else none) = _
  rw [if_pos h]
theorem strX_tup (ws : List W) (h : W.many (.tup ws) = true ∧ W.fd (.tup ws) = true ∧ showOk (W.tup ws).dat) : ∃ s : Str, strXW (.tup ws) = some (.str s) := by
  refine ⟨(W.tup ws).dat.shown, ?_⟩
  show (if W.many (.tup ws) = true ∧ W.fd (.tup ws) = true ∧ showOk (W.tup ws).dat then some (W.str (W.tup ws).dat.shown) else none) = _
  rw [if_pos h]
theorem odd_ok : ∀ w ∈ oddS, w.pas = true ∧ (∀ env, pickV (some w) env = .ok w env) ∧ isiW ["str"] w = some (.bl false) ∧ ∃ s : Str, strXW w = some (.str s) := by
  intro w hw
  unfold oddS at hw
  simp only [List.mem_cons, List.not_mem_nil, or_false] at hw
  rcases hw with rfl | rfl | rfl | rfl | rfl | rfl | rfl | rfl
  · exact ⟨rfl, fun _ => rfl, rfl, _, rfl⟩
  · exact ⟨rfl, fun _ => rfl, rfl, strX_int _ (by decide)⟩
  · exact ⟨rfl, fun _ => rfl, rfl, strX_lst _ _ (by decide +kernel)⟩
  · exact ⟨rfl, fun _ => rfl, rfl, strX_lst _ _ (by decide +kernel)⟩
  · exact ⟨rfl, fun _ => rfl, rfl, _, rfl⟩
  · exact ⟨rfl, fun _ => rfl, rfl, _, rfl⟩
  · exact ⟨rfl, fun _ => rfl, rfl, strX_tup _ (by decide +kernel)⟩
  · exact ⟨rfl, fun _ => rfl, rfl, strX_int _ (by decide)⟩
end Ev

namespace Ev
open PySem PySem.Spec L2
local macro_rules
  | `(tactic| simp_arith [$ls,*] $[$l:location]?) => `(tactic| simp only [↓r_bind, ↓r_ret, ↓r_lft, ↓r_c, ↓r_var2, ↓r_move, ↓r_un, ↓r_bin, ↓r_chain, ↓r_toB, ↓r_ofB, ↓r_and, ↓r_or, ↓r_not, ↓r_nil, ↓r_cons, ↓r_args, ↓r_iargs, ↓r_ilst, ↓r_part, ↓r_no, ↓r_slice, ↓r_callP, ↓r_rnil, ↓r_rval, ↓r_rvalX, ↓r_pick, pas_str, pas_int, pas_bl, pas_non, pas_tup, pas_lst, pas_edc, pick_edc, ↓r_rio, ↓r_call, ↓r_callL, ↓r_fz, ↓r_seq, ↓r_snil, ↓r_if, ↓r_drop, ↓r_sret, ↓r_set, ↓r_asg, ↓r_aug, ↓r_sfor, ↓r_mut, ↓r_sto, ↓r_go, ↓r_gfz, ↓r_push, ↓r_gfzD, ↓r_fzD,  ↓r_raise, ↓r_try, ↓r_itup, ↓r_iseq, ↓r_andV, ↓r_orV, ↓r_notV, ↓r_fn, ↓r_meth, ↓r_augS, ↓r_ichr, ↓r_pair, ↓r_mutN, ↓r_mutT, ↓r_app, ↓r_gfzC, ↓r_callO, ↓r_asgN, ↓r_takeK, pick_nst, pick_ntp, w_strL, w_zip3, ↓r_dnew, ↓r_key1, ↓r_keyT, ↓r_dget, ↓r_dget2, ↓r_dput, ↓r_mutP, ↓r_mutKP, ↓r_stoP, ↓r_stoN, ↓r_dputP, ↓r_fldP, ↓r_callM, ↓r_makeL, ↓r_gfzK, ↓r_gfzP, ↓r_dpopP, ↓r_augP, ↓r_forP, ↓r_chainI, ↓r_callT, ↓r_ikeys, ↓r_keyCut, w_keyI, w_keyS, w_keyT2, w_lookT, w_lookK, w_lookDT, w_lookDK, w_dputT, w_dputK, w_dkeysT, w_dkeysK, isDW_dct, frz_dct, pick_dct, w_geX, ty_str, and_self,
      maskL_nil, maskL_cons, frz_non, frz_bl, frz_int, frz_str, frz_tup, frz_lst, frz_scr, fz_lst, fz_int, fz_tup, fz_str, fz_bl, w_lst, w_tup, w_add, w_addL, w_addB, w_sub, w_mul, w_rep, w_fdiv, w_mod, w_pow, w_neg, w_lt, w_le, w_ge, w_gt, w_bl, w_intW, w_toI, w_toB, w_max2, w_min2, w_abs, w_lenL, w_lenC, w_lenT, w_listL, w_listC, w_listT, w_tupL, w_rev, w_ixL, w_ixC, w_ixT, w_cutL, w_cutC, w_frzL, w_frzC, w_rng1, w_rng2, w_enum, w_enumC, w_zip, w_app, w_ext, w_pop, w_sum, w_isx, w_isiI, w_isiB, w_tgN, w_tgT, w_killN, w_killC, w_takeN, w_takeV, w_takeI, w_putI, w_putV, w_putN, w_lendN, w_lendV, w_lendI, flat_bl, flat_int, flat_non,
      pick_non, pick_bl, pick_int, pick_str, pick_tup, pick_lst, pick_scr, pick_exc, pick_T, pick_R, pick_N, frzT, frzR, frzN, w_seqL, w_seqT, w_seqC, w_zipT, w_zipA, w_tupLt, w_leX, eqW_int, neW_int, eqW_nil, neW_nil, eqW_str, neW_str, List.cons_append, List.nil_append, List.length_cons, List.length_nil, List.replicate_succ, List.replicate_zero, List.getElem?_cons_zero, List.getElem?_cons_succ, List.set_cons_zero, List.set_cons_succ, List.length_map, Option.map_some, Option.bind_some, cond_true, cond_false, Bool.true_or, Bool.or_true, Bool.false_or, Bool.or_false, Bool.not_true, Bool.not_false, Bool.true_and, Bool.false_and, Nat.reduceSub, Nat.reduceAdd, Nat.reduceLeDiff, ↓reduceIte, if_true, if_false, reduceCtorEq, decide_true, decide_false, decide_eq_true_eq, Nat.zero_add, Nat.add_zero, $ls,*] $[$l]?)
/-! ### the rows that the law draws -/
theorem atM (L : List W) (m : Nat) (hm : L.length = m) (h : 0 < m) (n : Int) : ∃ x ∈ L, atI L (n % (m : Int)) = some x := by
  have n0 := Int.emod_nonneg n (show (m : Int) ≠ 0 by omega)
  have n1 := Int.emod_lt_of_pos n (show (0 : Int) < (m : Int) by omega)
  rw [atI_pos _ n0]
  exact ⟨_, List.getElem_mem (by omega), List.getElem?_eq_getElem (by omega)⟩
theorem seq_nx {a b : Sm Fl} {env e1 : List W} (h : a env = .ok .nx e1) : sSeq a b env = b e1 := by
  unfold sSeq Sm.bind
  rw [h]
theorem cutS_le (z : Str) (lo hi : Option Int) : (cutS z lo hi).length ≤ z.length := by
  unfold cutS
  exact Nat.le_trans (by rw [TL.len_tl]; exact Nat.le_refl _) (cutS_length z lo hi)
noncomputable def lc0 : Sm Fl := sSet 2 true (mBin modW true (mBin (addW false) true (mCall f__law_take 2 (Sm.bind (mVar 1) fun _ => rIo 1 (rVal (mC (.int 64)) (rNil)))) (mBin (mulW false) true (mC (.int 64)) (mCall f__law_take 2 (Sm.bind (mVar 1) fun _ => rIo 1 (rVal (mC (.int 64)) (rNil)))))) (mBin (addW false) true (mUn lenW (mVar 0)) (mC (.int 1))))
noncomputable def lc1 : Sm Fl := sSet 3 true (mBin ixW true (mC (.str " 019-:,;abZ+_.\n\t/{`(=@\x5bhmqz258~")) (mCall f__law_take 2 (Sm.bind (mVar 1) fun _ => rIo 1 (rVal (mC (.int 31)) (rNil)))))
noncomputable def lc2 : Sm Fl := sSet 4 true (mCall f__law_take 2 (Sm.bind (mVar 1) fun _ => rIo 1 (rVal (mC (.int 7)) (rNil))))
noncomputable def lc3 : Sm Fl := sIf (toB (mBin eqW true (mVar 4) (mC (.int 0)))) (sRet true (mBin (addW true) true (mSlice true true (mVar 0) (mNo) (mPart (mVar 2))) (mSlice true true (mVar 0) (mPart (mBin (addW true) true (mVar 2) (mC (.int 1)))) (mNo)))) (sNil)
noncomputable def lc4 : Sm Fl := sIf (toB (mBin ltW true (mVar 4) (mC (.int 3)))) (sRet true (mBin (addW true) true (mBin (addW true) true (mSlice true true (mVar 0) (mNo) (mPart (mVar 2))) (mVar 3)) (mSlice true true (mVar 0) (mPart (mBin subW true (mBin (addW true) true (mVar 2) (mVar 4)) (mC (.int 1)))) (mNo)))) (sNil)
noncomputable def lc5 : Sm Fl := sIf (toB (mBin eqW true (mVar 4) (mC (.int 3)))) (sRet true (mBin (addW true) true (mBin (addW true) true (mSlice true true (mVar 0) (mNo) (mPart (mVar 2))) (mUn revZW (mSlice true true (mVar 0) (mPart (mVar 2)) (mPart (mBin (addW true) true (mVar 2) (mC (.int 2))))))) (mSlice true true (mVar 0) (mPart (mBin (addW true) true (mVar 2) (mC (.int 2)))) (mNo)))) (sNil)
noncomputable def lc6 : Sm Fl := sIf (toB (mBin eqW true (mVar 4) (mC (.int 4)))) (sRet true (mBin (addW true) true (mBin (addW true) true (mSlice true true (mVar 0) (mNo) (mPart (mVar 2))) (mSlice true true (mVar 0) (mPart (mVar 2)) (mPart (mBin (addW true) true (mVar 2) (mC (.int 5)))))) (mSlice true true (mVar 0) (mPart (mVar 2)) (mNo)))) (sNil)
noncomputable def lc7 : Sm Fl := sIf (toB (mBin eqW true (mVar 4) (mC (.int 5)))) (sRet true (mBin (addW true) false (mVar 0) (mBin ixW true (mArgs (lstW true) (mCons (mC (.str " ")) (mCons (mC (.str ";")) (mCons (mC (.str "; ")) (mCons (mC (.str ", ")) (mCons (mC (.str "; -")) (mCons (mC (.str ", -")) (mCons (mC (.str "\n")) (mCons (mC (.str "a")) (mNil)))))))))) (mCall f__law_take 2 (Sm.bind (mVar 1) fun _ => rIo 1 (rVal (mC (.int 8)) (rNil))))))) (sNil)
noncomputable def lc8 : Sm Fl := sRet true (mBin (addW true) true (mBin ixW true (mArgs (lstW true) (mCons (mC (.str " ")) (mCons (mC (.str "-")) (mCons (mC (.str "; ")) (mCons (mC (.str ", ")) (mCons (mC (.str "0")) (mCons (mC (.str "- ")) (mNil)))))))) (mCall f__law_take 2 (Sm.bind (mVar 1) fun _ => rIo 1 (rVal (mC (.int 6)) (rNil))))) (mVar 0))
/-! ### a text changed a little -/
noncomputable def lcT : Sm Fl := sSeq lc3 (sSeq lc4 (sSeq lc5 (sSeq lc6 (sSeq lc7 (lc8)))))
theorem lc_eq2 : b__law_changed = sSeq lc0 (sSeq lc1 (sSeq lc2 lcT)) := rfl
theorem rng_cases (v : Int) (h0 : 0 ≤ v) (h7 : v < 7) : v = 0 ∨ v = 1 ∨ v = 2 ∨ v = 3 ∨ v = 4 ∨ v = 5 ∨ v = 6 := by omega
def endS : List Str := [" ", ";", "; ", ", ", "; -", ", -", "\n", "a"]
def begS : List Str := [" ", "-", "; ", ", ", "0", "- "]
theorem end_len : ∀ x ∈ endS, x.length ≤ 20 := by decide +kernel
theorem beg_len : ∀ x ∈ begS, x.length ≤ 20 := by decide +kernel
theorem e_changed (t : Str) (ht : t.length ≤ 80000) (d : List Int) : ∃ (u : Str) (d' : List Int), u.length ≤ 300000 ∧ f__law_changed [.str t, dk d] = .ok (.str u) [.dead, dk d'] := by
  have lg := line_ge
  have z6 : 6 ≤ sizeLine := by omega
  have z8 : 8 ≤ sizeLine := by omega
  have hl : lenW (.str t) = some (.int (t.length : Int)) := w_lenS t (by omega)
  have hp : (0 : Int) < (t.length : Int) + 1 := by omega
  obtain ⟨v1, d1, p1, q1, t1⟩ := e_take d 64 (by decide)
  obtain ⟨v2, d2, p2, q2, t2⟩ := e_take d1 64 (by decide)
  obtain ⟨v3, d3, p3, q3, t3⟩ := e_take d2 31 (by decide)
  obtain ⟨v4, d4, p4, q4, t4⟩ := e_take d3 7 (by decide)
  obtain ⟨a, ha⟩ : ∃ a : Int, a = (v1 + 64 * v2) % ((t.length : Int) + 1) := ⟨_, rfl⟩
  have hm : mulW false (.int 64) (.int v2) = some (.int (64 * v2)) := by
    rw [w_mul, if_pos (mulOk_l (by decide) (by decide))]
  obtain ⟨sg, lsg, hsg⟩ : ∃ sg : Str, sg.length = 1 ∧ ixW (.str " 019-:,;abZ+_.\n\t/{`(=@\x5bhmqz258~") (.int v3) = some (.str sg) := by
    obtain ⟨k, hk⟩ : ∃ k : Nat, (k : Int) = v3 := ⟨v3.toNat, by omega⟩
    have l31 : (TL.tl " 019-:,;abZ+_.\n\t/{`(=@\x5bhmqz258~").length = 31 := by decide +kernel
    have l31' : Str.length " 019-:,;abZ+_.\n\t/{`(=@\x5bhmqz258~" = 31 := by decide +kernel
    have ix := w_ixZ " 019-:,;abZ+_.\n\t/{`(=@\x5bhmqz258~" k _ (by omega) (List.getElem?_eq_getElem (by omega : k < (TL.tl " 019-:,;abZ+_.\n\t/{`(=@\x5bhmqz258~").length))
    rw [hk] at ix
    exact ⟨_, rfl, ix⟩
  have h0 : lc0 [.str t, dk d, .dead, .dead, .dead] = .ok .nx [.str t, dk d2, .int a, .dead, .dead] := by
    unfold lc0
    simp_arith [t1, t2, ↓hm, hl, hp, ha]
  have h1 : lc1 [.str t, dk d2, .int a, .dead, .dead] = .ok .nx [.str t, dk d3, .int a, .str sg, .dead] := by
    unfold lc1
    simp_arith [t3, ↓hsg]
  have h2 : lc2 [.str t, dk d3, .int a, .str sg, .dead] = .ok .nx [.str t, dk d4, .int a, .str sg, .int v4] := by
    unfold lc2
    simp_arith [t4]
  have fin : ∀ (u : Str) (d' : List Int) (e : List W), u.length ≤ 300000 → lcT [.str t, dk d4, .int a, .str sg, .int v4] = .ok (.rt (.str u)) (.str t :: dk d' :: e) → ∃ (u : Str) (d' : List Int), u.length ≤ 300000 ∧ f__law_changed [.str t, dk d] = .ok (.str u) [.dead, dk d'] := fun u d' e lt h => by
    refine ⟨u, d', lt, ?_⟩
    have bb : b__law_changed [.str t, dk d, .dead, .dead, .dead] = .ok (.rt (.str u)) (.str t :: dk d' :: e) := by
      rw [lc_eq2, seq_nx h0, seq_nx h1, seq_nx h2, h]
    have e1 : f__law_changed [.str t, dk d] = (match b__law_changed [.str t, dk d, .dead, .dead, .dead] with
      | .ok (.rt w) env => .ok w (maskL [false, true] env)
      | .ok .nx env => .ok .non (maskL [false, true] env)
      | .ok _ _ => .bad
      | .ex c env => .ex c (maskL [false, true] env)
      | .bad => .bad) := rfl
    rw [e1, bb]
    rfl
  have cut := fun lo hi => w_cutS true t lo hi (by omega)
  have lc := fun lo hi => cutS_le t lo hi
  obtain ⟨A, hA⟩ : ∃ A, A = cutS t none (some a) := ⟨_, rfl⟩
  have cA := cut none (some a)
  have lA := lc none (some a)
  rw [← hA] at cA lA
  rcases rng_cases v4 p4 q4 with w | w | w | w | w | w | w
  · have cB := cut (some (a + 1)) none
    have lB := lc (some (a + 1)) none
    obtain ⟨B, hB⟩ : ∃ B, B = cutS t (some (a + 1)) none := ⟨_, rfl⟩
    rw [← hB] at cB lB
    have ad := w_addZ true A B (by omega)
    refine fin (A ++ B) d4 [.int a, .str sg, .int v4] (by rw [Str.length_append]; omega) ?_
    unfold lcT lc3
    simp_arith [w, ↓cA, ↓cB, ↓ad]
  · have cB := cut (some (a + 1 - 1)) none
    have lB := lc (some (a + 1 - 1)) none
    obtain ⟨B, hB⟩ : ∃ B, B = cutS t (some (a + 1 - 1)) none := ⟨_, rfl⟩
    rw [← hB] at cB lB
    have ad := w_addZ true A sg (by omega)
    have ad2 := w_addZ true (A ++ sg) B (by rw [Str.length_append]; omega)
    refine fin (A ++ sg ++ B) d4 [.int a, .str sg, .int v4] (by rw [Str.length_append, Str.length_append]; omega) ?_
    subst w
    unfold lcT lc3 lc4
    simp_arith [Int.reduceEq, Int.reduceLT, ↓cA, ↓cB, ↓ad, ↓ad2]
  · have cB := cut (some (a + 2 - 1)) none
    have lB := lc (some (a + 2 - 1)) none
    obtain ⟨B, hB⟩ : ∃ B, B = cutS t (some (a + 2 - 1)) none := ⟨_, rfl⟩
    rw [← hB] at cB lB
    have ad := w_addZ true A sg (by omega)
    have ad2 := w_addZ true (A ++ sg) B (by rw [Str.length_append]; omega)
    refine fin (A ++ sg ++ B) d4 [.int a, .str sg, .int v4] (by rw [Str.length_append, Str.length_append]; omega) ?_
    subst w
    unfold lcT lc3 lc4
    simp_arith [Int.reduceEq, Int.reduceLT, ↓cA, ↓cB, ↓ad, ↓ad2]
  · have cM := cut (some a) (some (a + 2))
    have lM := lc (some a) (some (a + 2))
    have cB := cut (some (a + 2)) none
    have lB := lc (some (a + 2)) none
    obtain ⟨M, hM⟩ : ∃ M, M = cutS t (some a) (some (a + 2)) := ⟨_, rfl⟩
    obtain ⟨B, hB⟩ : ∃ B, B = cutS t (some (a + 2)) none := ⟨_, rfl⟩
    rw [← hB] at cB lB
    rw [← hM] at cM lM
    have rv := w_revZ M (by omega)
    have lr := revZ_le M
    have ad := w_addZ true A (revZ M) (by omega)
    have ad2 := w_addZ true (A ++ revZ M) B (by rw [Str.length_append]; omega)
    refine fin (A ++ revZ M ++ B) d4 [.int a, .str sg, .int v4] (by rw [Str.length_append, Str.length_append]; omega) ?_
    subst w
    unfold lcT lc3 lc4 lc5
    simp_arith [Int.reduceEq, Int.reduceLT, ↓cA, ↓cB, ↓cM, ↓rv, ↓ad, ↓ad2]
  · have cM := cut (some a) (some (a + 5))
    have lM := lc (some a) (some (a + 5))
    have cB := cut (some a) none
    have lB := lc (some a) none
    obtain ⟨M, hM⟩ : ∃ M, M = cutS t (some a) (some (a + 5)) := ⟨_, rfl⟩
    obtain ⟨B, hB⟩ : ∃ B, B = cutS t (some a) none := ⟨_, rfl⟩
    rw [← hB] at cB lB
    rw [← hM] at cM lM
    have ad := w_addZ true A M (by omega)
    have ad2 := w_addZ true (A ++ M) B (by rw [Str.length_append]; omega)
    refine fin (A ++ M ++ B) d4 [.int a, .str sg, .int v4] (by rw [Str.length_append, Str.length_append]; omega) ?_
    subst w
    unfold lcT lc3 lc4 lc5 lc6
    simp_arith [Int.reduceEq, Int.reduceLT, ↓cA, ↓cB, ↓cM, ↓ad, ↓ad2]
  · obtain ⟨v5, d5, p5, q5, t5⟩ := e_take d4 8 (by decide)
    obtain ⟨x, hx, ex⟩ := atM (endS.map W.str) 8 (by decide) (by decide) v5
    rw [show ((8 : Nat) : Int) = 8 from rfl] at ex
    rw [Int.emod_eq_of_lt p5 q5] at ex
    obtain ⟨u, hu, rfl⟩ := List.mem_map.mp hx
    have l := end_len u hu
    unfold endS at ex
    simp only [List.map_cons, List.map_nil] at ex
    have ad := w_addZ true t u (by omega)
    refine fin (t ++ u) d5 [.int a, .str sg, .int v4] (by rw [Str.length_append]; omega) ?_
    subst w
    unfold lcT lc3 lc4 lc5 lc6 lc7
    simp_arith [Int.reduceEq, Int.reduceLT, t5, z8, ↓ex, ↓ad]
  · obtain ⟨v5, d5, p5, q5, t5⟩ := e_take d4 6 (by decide)
    obtain ⟨x, hx, ex⟩ := atM (begS.map W.str) 6 (by decide) (by decide) v5
    rw [show ((6 : Nat) : Int) = 6 from rfl] at ex
    rw [Int.emod_eq_of_lt p5 q5] at ex
    obtain ⟨u, hu, rfl⟩ := List.mem_map.mp hx
    have l := beg_len u hu
    unfold begS at ex
    simp only [List.map_cons, List.map_nil] at ex
    have ad := w_addZ true u t (by omega)
    refine fin (u ++ t) d5 [.int a, .str sg, .int v4] (by rw [Str.length_append]; omega) ?_
    subst w
    unfold lcT lc3 lc4 lc5 lc6 lc7 lc8
    simp_arith [Int.reduceEq, Int.reduceLT, t5, z6, ↓ex, ↓ad]
end Ev

namespace Ev
open PySem PySem.Spec L2
local macro_rules
  | `(tactic| simp_arith [$ls,*] $[$l:location]?) => `(tactic| simp only [↓r_bind, ↓r_ret, ↓r_lft, ↓r_c, ↓r_var2, ↓r_move, ↓r_un, ↓r_bin, ↓r_chain, ↓r_toB, ↓r_ofB, ↓r_and, ↓r_or, ↓r_not, ↓r_nil, ↓r_cons, ↓r_args, ↓r_iargs, ↓r_ilst, ↓r_part, ↓r_no, ↓r_slice, ↓r_callP, ↓r_rnil, ↓r_rval, ↓r_rvalX, ↓r_pick, pas_str, pas_int, pas_bl, pas_non, pas_tup, pas_lst, pas_edc, pick_edc, ↓r_rio, ↓r_call, ↓r_callL, ↓r_fz, ↓r_seq, ↓r_snil, ↓r_if, ↓r_drop, ↓r_sret, ↓r_set, ↓r_asg, ↓r_aug, ↓r_sfor, ↓r_mut, ↓r_sto, ↓r_go, ↓r_gfz, ↓r_push, ↓r_gfzD, ↓r_fzD,  ↓r_raise, ↓r_try, ↓r_itup, ↓r_iseq, ↓r_andV, ↓r_orV, ↓r_notV, ↓r_fn, ↓r_meth, ↓r_augS, ↓r_ichr, ↓r_pair, ↓r_mutN, ↓r_mutT, ↓r_app, ↓r_gfzC, ↓r_callO, ↓r_asgN, ↓r_takeK, pick_nst, pick_ntp, w_strL, w_zip3, ↓r_dnew, ↓r_key1, ↓r_keyT, ↓r_dget, ↓r_dget2, ↓r_dput, ↓r_mutP, ↓r_mutKP, ↓r_stoP, ↓r_stoN, ↓r_dputP, ↓r_fldP, ↓r_callM, ↓r_makeL, ↓r_gfzK, ↓r_gfzP, ↓r_dpopP, ↓r_augP, ↓r_forP, ↓r_chainI, ↓r_callT, ↓r_ikeys, ↓r_keyCut, w_keyI, w_keyS, w_keyT2, w_lookT, w_lookK, w_lookDT, w_lookDK, w_dputT, w_dputK, w_dkeysT, w_dkeysK, isDW_dct, frz_dct, pick_dct, w_geX, ty_str, and_self,
      maskL_nil, maskL_cons, frz_non, frz_bl, frz_int, frz_str, frz_tup, frz_lst, frz_scr, fz_lst, fz_int, fz_tup, fz_str, fz_bl, w_lst, w_tup, w_add, w_addL, w_addB, w_sub, w_mul, w_rep, w_fdiv, w_mod, w_pow, w_neg, w_lt, w_le, w_ge, w_gt, w_bl, w_intW, w_toI, w_toB, w_max2, w_min2, w_abs, w_lenL, w_lenC, w_lenT, w_listL, w_listC, w_listT, w_tupL, w_rev, w_ixL, w_ixC, w_ixT, w_cutL, w_cutC, w_frzL, w_frzC, w_rng1, w_rng2, w_enum, w_enumC, w_zip, w_app, w_ext, w_pop, w_sum, w_isx, w_isiI, w_isiB, w_tgN, w_tgT, w_killN, w_killC, w_takeN, w_takeV, w_takeI, w_putI, w_putV, w_putN, w_lendN, w_lendV, w_lendI, flat_bl, flat_int, flat_non,
      pick_non, pick_bl, pick_int, pick_str, pick_tup, pick_lst, pick_scr, pick_exc, pick_T, pick_R, pick_N, frzT, frzR, frzN, w_seqL, w_seqT, w_seqC, w_zipT, w_zipA, w_tupLt, w_leX, eqW_int, neW_int, eqW_nil, neW_nil, eqW_str, neW_str, List.cons_append, List.nil_append, List.length_cons, List.length_nil, List.replicate_succ, List.replicate_zero, List.getElem?_cons_zero, List.getElem?_cons_succ, List.set_cons_zero, List.set_cons_succ, List.length_map, Option.map_some, Option.bind_some, cond_true, cond_false, Bool.true_or, Bool.or_true, Bool.false_or, Bool.or_false, Bool.not_true, Bool.not_false, Bool.true_and, Bool.false_and, Nat.reduceSub, Nat.reduceAdd, Nat.reduceLeDiff, ↓reduceIte, if_true, if_false, reduceCtorEq, decide_true, decide_false, decide_eq_true_eq, Nat.zero_add, Nat.add_zero, $ls,*] $[$l]?)
noncomputable def lp0 : Sm Fl := sSet 2 true (mMeth tyStr (split1W true) true (mVar 0) (mCons (mC (.str "; ")) (mNil)))
noncomputable def lp1 : Sm Fl := sSet 3 true (mCall f__law_take 2 (Sm.bind (mVar 1) fun _ => rIo 1 (rVal (mUn lenW (mVar 2)) (rNil))))
noncomputable def lp2 : Sm Fl := sSet 4 true (mMeth tyStr (split1W true) true (mBin ixW true (mVar 2) (mVar 3)) (mCons (mC (.str ", ")) (mNil)))
noncomputable def lp3 : Sm Fl := sSet 5 true (mCall f__law_take 2 (Sm.bind (mVar 1) fun _ => rIo 1 (rVal (mUn lenW (mVar 4)) (rNil))))
noncomputable def lp4 : Sm Fl := sAsg (tgT [6, 7, 8]) (mMeth tyStr partW true (mBin ixW true (mVar 4) (mVar 5)) (mCons (mC (.str ":")) (mNil)))
noncomputable def lp5 : Sm Fl := sSet 9 true (mArgs (lstW false) (mCons (mC (.str "-0")) (mCons (mC (.str "00")) (mCons (mC (.str "07")) (mCons (mC (.str "+1")) (mCons (mC (.str "1_0")) (mCons (mC (.str "")) (mCons (mBin mulZW true (mC (.str "1")) (mC (.int 30))) (mCons (mBin mulZW true (mC (.str "1")) (mC (.int 31))) (mCons (mBin (addW false) true (mC (.str "-")) (mBin mulZW true (mC (.str "9")) (mC (.int 30)))) (mCons (mBin (addW false) true (mC (.str "-")) (mBin mulZW true (mC (.str "9")) (mC (.int 31)))) (mCons (mC (.str "--1")) (mCons (mC (.str "1.0")) (mNil))))))))))))))
noncomputable def lp6 : Sm Fl := sSet 10 true (mArgs (lstW false) (mCons (mC (.str "")) (mCons (mC (.str "A")) (mCons (mC (.str "aaaaaaaaa")) (mCons (mC (.str "a1")) (mCons (mC (.str "a b")) (mCons (mC (.str "a:b")) (mCons (mC (.str "a-")) (mCons (mC (.str " a")) (mCons (mC (.str "a ")) (mNil)))))))))))
noncomputable def lp7 : Sm Fl := sSet 11 true (mCall f__law_take 2 (Sm.bind (mVar 1) fun _ => rIo 1 (rVal (mC (.int 6)) (rNil))))
noncomputable def lp8 : Sm Fl := sIf (toB (mBin eqW true (mVar 11) (mC (.int 0)))) (sSto 4 (mVar 5) (mBin (addW false) true (mBin (addW false) true (mBin ixW false (mVar 9) (mCall f__law_take 2 (Sm.bind (mVar 1) fun _ => rIo 1 (rVal (mC (.int 12)) (rNil))))) (mC (.str ":"))) (mSlice false true (mBin (addW false) true (mVar 8) (mC (.str "a"))) (mNo) (mPart (mC (.int 8)))))) (sIf (toB (mBin eqW true (mVar 11) (mC (.int 1)))) (sSto 4 (mVar 5) (mBin (addW false) true (mBin (addW false) true (mVar 6) (mC (.str ":"))) (mBin ixW false (mVar 10) (mCall f__law_take 2 (Sm.bind (mVar 1) fun _ => rIo 1 (rVal (mC (.int 9)) (rNil))))))) (sIf (toB (mBin eqW true (mVar 11) (mC (.int 2)))) (sSto 4 (mVar 5) (mBin (addW false) true (mVar 6) (mVar 8))) (sIf (toB (mBin eqW true (mVar 11) (mC (.int 3)))) (sSet 4 true (mBin (addW true) true (mVar 4) (mArgs (lstW true) (mCons (mC (.str "-")) (mNil))))) (sNil))))
noncomputable def lp9 : Sm Unit := gFz 4
noncomputable def lp10 : Sm Fl := sSto 2 (mVar 3) (mMeth tyStr joinW true (mC (.str ", ")) (mCons (mVar 4) (mNil)))
noncomputable def lp11 : Sm Fl := sIf (toB (mBin eqW true (mVar 11) (mC (.int 4)))) (sSet 2 true (mBin (addW true) true (mSlice true true (mVar 2) (mNo) (mPart (mVar 3))) (mSlice true true (mVar 2) (mPart (mBin (addW true) true (mVar 3) (mC (.int 1)))) (mNo)))) (sNil)
noncomputable def lp12 : Sm Fl := sIf (toB (mBin eqW true (mVar 11) (mC (.int 5)))) (sGo (gFz 2) (sSet 2 true (mBin (addW true) false (mVar 2) (mBin (mulW true) true (mSlice true true (mVar 2) (mPart (mVar 3)) (mPart (mBin (addW true) true (mVar 3) (mC (.int 1))))) (mBin (addW true) true (mC (.int 1)) (mCall f__law_take 2 (Sm.bind (mVar 1) fun _ => rIo 1 (rVal (mC (.int 6)) (rNil))))))))) (sNil)
noncomputable def lp13 : Sm Unit := gFz 2
noncomputable def lp14 : Sm Fl := sRet true (mMeth tyStr joinW true (mC (.str "; ")) (mCons (mVar 2) (mNil)))
theorem lp_eq : b__law_parts_changed = sSeq lp0 (sSeq lp1 (sSeq lp2 (sSeq lp3 (sSeq lp4 (sSeq lp5 (sSeq lp6 (sSeq lp7 (sSeq lp8 (sGo lp9 (sSeq lp10 (sSeq lp11 (sSeq lp12 (sGo lp13 (lp14)))))))))))))) := rfl
/-! ### parts of a text changed -/
theorem r_stoAt (i : Nat) (w : W) (n : Int) (env : List W) : stoAt i w (.int n) env = match env[i]? with
  | some (.lst true xs) => (match ixN xs.length n with
    | some k => .ok .nx (env.set i (.lst true (xs.set k w)))
    | none => .bad)
  | _ => .bad := rfl
theorem ixN_nat {n k : Nat} (h : k < n) : ixN n (k : Int) = some k := by
  unfold ixN
  rw [if_pos (by omega), if_pos (by omega), Int.toNat_natCast]
theorem mo0 : MulOk "1" 30 := by
  refine ⟨by decide, fun _ _ => by decide, fun _ _ => ?_⟩
  unfold PySem.Builtin.Str.tooLong
  have l0 : Str.length "1" * (30 : Int).toNat = 30 := by decide
  have lg := line_ge
  rw [l0]
  exact decide_eq_false (by omega)
theorem mo1 : MulOk "1" 31 := by
  refine ⟨by decide, fun _ _ => by decide, fun _ _ => ?_⟩
  unfold PySem.Builtin.Str.tooLong
  have l0 : Str.length "1" * (31 : Int).toNat = 31 := by decide
  have lg := line_ge
  rw [l0]
  exact decide_eq_false (by omega)
theorem mo2 : MulOk "9" 30 := by
  refine ⟨by decide, fun _ _ => by decide, fun _ _ => ?_⟩
  unfold PySem.Builtin.Str.tooLong
  have l0 : Str.length "9" * (30 : Int).toNat = 30 := by decide
  have lg := line_ge
  rw [l0]
  exact decide_eq_false (by omega)
theorem mo3 : MulOk "9" 31 := by
  refine ⟨by decide, fun _ _ => by decide, fun _ _ => ?_⟩
  unfold PySem.Builtin.Str.tooLong
  have l0 : Str.length "9" * (31 : Int).toNat = 31 := by decide
  have lg := line_ge
  rw [l0]
  exact decide_eq_false (by omega)
def odL : List Str := ["-0", "00", "07", "+1", "1_0", "", Txt.mul "1" 30, Txt.mul "1" 31, "-" ++ Txt.mul "9" 30, "-" ++ Txt.mul "9" 31, "--1", "1.0"]
def bdL : List Str := ["", "A", "aaaaaaaaa", "a1", "a b", "a:b", "a-", " a", "a "]
theorem od_len : ∀ x ∈ odL, x.length ≤ 40 := by decide +kernel
theorem bd_len : ∀ x ∈ bdL, x.length ≤ 40 := by decide +kernel
theorem jn_gen (a : Str) (ys : List Str) (n m : Nat) (h1 : ys.length ≤ n) (h2 : ∀ y ∈ ys, y.length ≤ m) (h3 : n * (m + a.length) ≤ 16000000) : jnOk a ys ∧ (Txt.join a ys).length ≤ n * (m + a.length) := by
  have s := sum_le m ys h2
  have l := txt_join_len a ys
  have e : ys.length * (m + a.length) = ys.length * m + ys.length * a.length := Nat.mul_add _ _ _
  have q : ys.length * (m + a.length) ≤ n * (m + a.length) := Nat.mul_le_mul_right _ h1
  unfold jnOk
  exact ⟨by omega, by omega⟩
theorem map_setS (ws : List Str) (b : Nat) (x : Str) : (ws.map W.str).set b (.str x) = (ws.set b x).map W.str := (List.map_set).symm
theorem set_len {n : Nat} {ws : List Str} {b : Nat} {x : Str} (h : ∀ w ∈ ws, w.length ≤ n) (hx : x.length ≤ n) : ∀ w ∈ ws.set b x, w.length ≤ n := fun w hw => by
  rcases List.mem_or_eq_of_mem_set hw with z | z
  · exact h w z
  · rw [z]; exact hx
theorem lp8_ok (T P A M : W) (d : List Int) (WS : List Str) (b : Nat) (k g : Str) (way : Int) (hb : b < WS.length) (hk : k.length ≤ 50) (hg : g.length ≤ 50) (hwl : WS.length ≤ 301) (hws : ∀ w ∈ WS, w.length ≤ 110) :
    ∃ (WS' : List Str) (d' : List Int), WS'.length ≤ 302 ∧ (∀ w ∈ WS', w.length ≤ 110) ∧ lp8 [T, dk d, P, A, .lst true (WS.map W.str), .int (b : Int), .str k, M, .str g, .lst false (odL.map W.str), .lst false (bdL.map W.str), .int way] =
      .ok .nx [T, dk d', P, A, .lst true (WS'.map W.str), .int (b : Int), .str k, M, .str g, .lst false (odL.map W.str), .lst false (bdL.map W.str), .int way] := by
  have lg := line_ge
  have ix : ixN WS.length (b : Int) = some b := ixN_nat hb
  have c1 : Str.length ":" = 1 := rfl
  have ca : Str.length "a" = 1 := rfl
  have e12 : ((12 : Nat) : Int) = 12 := rfl
  have e9 : ((9 : Nat) : Int) = 9 := rfl
  unfold lp8
  by_cases w0 : way = 0
  · obtain ⟨v, d', p, q, tk⟩ := e_take d 12 (by decide)
    obtain ⟨x, hx, ex⟩ := atM (odL.map W.str) 12 (by decide) (by decide) v
    rw [e12, Int.emod_eq_of_lt p q] at ex
    obtain ⟨u, hu, rfl⟩ := List.mem_map.mp hx
    have l := od_len u hu
    have a1 : addW false (.str u) (.str ":") = some (.str (u ++ ":")) := w_addZ _ _ _ (by omega)
    have a2 : addW false (.str g) (.str "a") = some (.str (g ++ "a")) := w_addZ _ _ _ (by omega)
    have cw := w_cutS false (g ++ "a") none (some 8) (by rw [Str.length_append]; omega)
    have lc := cutS_le (g ++ "a") none (some 8)
    rw [Str.length_append] at lc
    obtain ⟨C, hC⟩ : ∃ C, C = cutS (g ++ "a") none (some 8) := ⟨_, rfl⟩
    rw [← hC] at cw lc
    have a3 : addW false (.str (u ++ ":")) (.str C) = some (.str (u ++ ":" ++ C)) := w_addZ _ _ _ (by rw [Str.length_append]; omega)
    have ms := map_setS WS b (u ++ ":" ++ C)
    refine ⟨WS.set b (u ++ ":" ++ C), d', by rw [List.length_set]; omega, set_len hws (by rw [Str.length_append, Str.length_append]; omega), ?_⟩
    subst w0
    obtain ⟨OL, hO⟩ : ∃ L, L = odL.map W.str := ⟨_, rfl⟩
    rw [← hO] at ex ⊢
    simp_arith [tk, ↓ex, ↓a1, ↓a2, ↓a3, ↓cw, r_stoAt, List.length_map, ix, ms]
  by_cases w1 : way = 1
  · obtain ⟨v, d', p, q, tk⟩ := e_take d 9 (by decide)
    obtain ⟨x, hx, ex⟩ := atM (bdL.map W.str) 9 (by decide) (by decide) v
    rw [e9, Int.emod_eq_of_lt p q] at ex
    obtain ⟨u, hu, rfl⟩ := List.mem_map.mp hx
    have l := bd_len u hu
    have a1 : addW false (.str k) (.str ":") = some (.str (k ++ ":")) := w_addZ _ _ _ (by omega)
    have a3 : addW false (.str (k ++ ":")) (.str u) = some (.str (k ++ ":" ++ u)) := w_addZ _ _ _ (by rw [Str.length_append]; omega)
    have ms := map_setS WS b (k ++ ":" ++ u)
    refine ⟨WS.set b (k ++ ":" ++ u), d', by rw [List.length_set]; omega, set_len hws (by rw [Str.length_append, Str.length_append]; omega), ?_⟩
    subst w1
    obtain ⟨OL, hO⟩ : ∃ L, L = bdL.map W.str := ⟨_, rfl⟩
    rw [← hO] at ex ⊢
    simp_arith [Int.reduceEq, tk, ↓ex, ↓a1, ↓a3, r_stoAt, List.length_map, ix, ms]
  by_cases w2 : way = 2
  · have a1 : addW false (.str k) (.str g) = some (.str (k ++ g)) := w_addZ _ _ _ (by omega)
    have ms := map_setS WS b (k ++ g)
    refine ⟨WS.set b (k ++ g), d, by rw [List.length_set]; omega, set_len hws (by rw [Str.length_append]; omega), ?_⟩
    subst w2
    simp_arith [Int.reduceEq, ↓a1, r_stoAt, List.length_map, ix, ms]
  by_cases w3 : way = 3
  · have ap : WS.map W.str ++ [.str "-"] = (WS ++ [("-" : Str)]).map W.str := by rw [List.map_append]; rfl
    have h1 : 1 ≤ sizeLine := by omega
    have h2 : WS.length + 1 ≤ sizeLine := by omega
    refine ⟨WS ++ [("-" : Str)], d, by rw [List.length_append, List.length_singleton]; omega, fun w hw => ?_, ?_⟩
    · rcases List.mem_append.mp hw with z | z
      · exact hws w z
      · rw [List.mem_singleton.mp z]; decide
    · subst w3
      simp_arith [Int.reduceEq, List.length_map, h1, h2, ap]
  · refine ⟨WS, d, by omega, hws, ?_⟩
    simp_arith [w0, w1, w2, w3]
structure PtOk (t : Str) : Prop where
  cnt : (Txt.split t "; ").length ≤ 6
  prt : ∀ p ∈ Txt.split t "; ", p.length ≤ 13000
  wds : ∀ p ∈ Txt.split t "; ", (Txt.split p ", ").length ≤ 301
  wrd : ∀ p ∈ Txt.split t "; ", ∀ w ∈ Txt.split p ", ", w.length ≤ 50
theorem cutL_map {α β : Type} (f : α → β) (xs : List α) (lo hi : Option Int) : cutL (xs.map f) lo hi = (cutL xs lo hi).map f := by
  unfold cutL
  rw [List.length_map, List.map_take, List.map_drop]
theorem cutL_mem {α : Type} {xs : List α} {lo hi : Option Int} {x : α} (h : x ∈ cutL xs lo hi) : x ∈ xs := by
  unfold cutL at h
  exact List.mem_of_mem_drop (List.mem_of_mem_take h)
theorem cutL_len {α : Type} (xs : List α) (lo hi : Option Int) : (cutL xs lo hi).length ≤ xs.length := by
  unfold cutL
  rw [List.length_take, List.length_drop]
  omega
theorem rep_flat (n : Nat) (ws : List Str) : (List.replicate n (ws.map W.str)).flatten = ((List.replicate n ws).flatten).map W.str := by
  rw [List.map_flatten, List.map_replicate]
theorem rep_len {α : Type} (n : Nat) (ws : List α) : ((List.replicate n ws).flatten).length = n * ws.length := by
  rw [List.length_flatten, List.map_replicate, List.sum_replicate_nat]
theorem rep_mem {α : Type} {n : Nat} {ws : List α} {x : α} (h : x ∈ (List.replicate n ws).flatten) : x ∈ ws := by
  obtain ⟨l, h1, h2⟩ := List.mem_flatten.mp h
  rw [List.eq_of_mem_replicate h1] at h2
  exact h2
noncomputable def lpE : Sm Fl := sGo lp13 lp14
theorem lp_tail (t : Str) (d : List Int) (PS : List Str) (a : Nat) (X4 X5 X6 X7 X8 X9 X10 : W) (way : Int) (hc : PS.length ≤ 6) (hp : ∀ p ∈ PS, p.length ≤ 40000) :
    ∃ (u : Str) (d' : List Int) (e : List W), u.length ≤ 4000000 ∧ sSeq lp11 (sSeq lp12 (lpE)) [.str t, dk d, .lst true (PS.map W.str), .int (a : Int), X4, X5, X6, X7, X8, X9, X10, .int way] = .ok (.rt (.str u)) (.str t :: dk d' :: e) := by
  have sl := sizeLine_eq
  have sm : Str.length "; " = 2 := rfl
  have done : ∀ (d' : List Int) (QS : List Str), QS.length ≤ 42 → (∀ p ∈ QS, p.length ≤ 40000) →
      ∃ (u : Str), u.length ≤ 4000000 ∧ lpE [.str t, dk d', .lst true (QS.map W.str), .int (a : Int), X4, X5, X6, X7, X8, X9, X10, .int way] = .ok (.rt (.str u)) [.str t, dk d', .lst false (QS.map W.str), .int (a : Int), X4, X5, X6, X7, X8, X9, X10, .int way] := by
    intro d' QS h1 h2
    obtain ⟨j1, j2⟩ := jn_gen "; " QS 42 40000 h1 h2 (by rw [sm]; omega)
    rw [sm] at j2
    have jw : joinW (.str "; ") [.lst false (QS.map W.str)] = some (.str (Txt.join "; " QS)) := w_join j1
    refine ⟨Txt.join "; " QS, by omega, ?_⟩
    unfold lpE lp13 lp14
    simp_arith [r_gfz, ↓jw]
  unfold lp11 lp12
  by_cases w4 : way = 4
  · have ap : cutL (PS.map W.str) none (some (a : Int)) ++ cutL (PS.map W.str) (some ((a : Int) + 1)) none = (cutL PS none (some (a : Int)) ++ cutL PS (some ((a : Int) + 1)) none).map W.str := by rw [cutL_map, cutL_map, List.map_append]
    have l1 := cutL_len PS none (some (a : Int))
    have l2 := cutL_len PS (some ((a : Int) + 1)) none
    have l3 : (cutL (PS.map W.str) none (some (a : Int))).length + (cutL (PS.map W.str) (some ((a : Int) + 1)) none).length ≤ sizeLine := by rw [cutL_map, cutL_map, List.length_map, List.length_map]; omega
    obtain ⟨u, lu, h⟩ := done d (cutL PS none (some (a : Int)) ++ cutL PS (some ((a : Int) + 1)) none) (by rw [List.length_append]; omega) fun p hq => by
      rcases List.mem_append.mp hq with z | z <;> exact hp p (cutL_mem z)
    refine ⟨u, d, [.lst false ((cutL PS none (some (a : Int)) ++ cutL PS (some ((a : Int) + 1)) none).map W.str), .int (a : Int), X4, X5, X6, X7, X8, X9, X10, .int way], lu, ?_⟩
    subst w4
    rw [← ap] at h ⊢
    simp_arith [Int.reduceEq, l3, ↓h]
  by_cases w5 : way = 5
  · obtain ⟨v, d', p, q, tk⟩ := e_take d 6 (by decide)
    obtain ⟨n, hn⟩ : ∃ n : Nat, (n : Int) = 1 + v := ⟨(1 + v).toNat, by omega⟩
    have l1 := cutL_len PS (some (a : Int)) (some ((a : Int) + 1))
    obtain ⟨C, hC⟩ : ∃ C, C = cutL PS (some (a : Int)) (some ((a : Int) + 1)) := ⟨_, rfl⟩
    have hcm : ∀ p ∈ C, p ∈ PS := fun p h => by rw [hC] at h; exact cutL_mem h
    have cm : cutL (PS.map W.str) (some (a : Int)) (some ((a : Int) + 1)) = C.map W.str := by rw [cutL_map, hC]
    rw [← hC] at l1
    have cl : C.length * n ≤ 6 * 6 := Nat.mul_le_mul (by omega) (by omega)
    have cl2 : n * C.length ≤ 36 := by rw [Nat.mul_comm]; exact cl
    have ro : repOk C.length (1 + v) := ⟨by omega, by omega, by rw [← hn, Int.toNat_natCast]; omega⟩
    have rp : (List.replicate (1 + v).toNat (C.map W.str)).flatten = ((List.replicate n C).flatten).map W.str := by rw [← hn, Int.toNat_natCast, rep_flat]
    have ap : PS.map W.str ++ ((List.replicate n C).flatten).map W.str = (PS ++ (List.replicate n C).flatten).map W.str := (List.map_append).symm
    have l3 : PS.length + ((List.replicate n C).flatten).length ≤ sizeLine := by rw [rep_len]; omega
    obtain ⟨u, lu, h⟩ := done d' (PS ++ (List.replicate n C).flatten) (by rw [List.length_append, rep_len]; omega) fun p hq => by
      rcases List.mem_append.mp hq with z | z
      · exact hp p z
      · exact hp p (hcm p (rep_mem z))
    refine ⟨u, d', [.lst false ((PS ++ (List.replicate n C).flatten).map W.str), .int (a : Int), X4, X5, X6, X7, X8, X9, X10, .int way], lu, ?_⟩
    subst w5
    simp_arith [Int.reduceEq, r_gfz, tk, cm, ro, rp, ap, l3, List.length_map, ↓h]
  · obtain ⟨u, lu, h⟩ := done d PS (by omega) hp
    refine ⟨u, d, [.lst false (PS.map W.str), .int (a : Int), X4, X5, X6, X7, X8, X9, X10, .int way], lu, ?_⟩
    simp_arith [w4, w5, ↓h]
theorem e_parts (t : Str) (ht : t.length ≤ 80000) (ok : PtOk t) (d : List Int) : ∃ (u : Str) (d' : List Int), u.length ≤ 4000000 ∧ f__law_parts_changed [.str t, dk d] = .ok (.str u) [.dead, dk d'] := by
  have lg := line_ge
  obtain ⟨o1, o2, o3, o4⟩ := ok
  obtain ⟨PS, hPS⟩ : ∃ P, P = Txt.split t "; " := ⟨_, rfl⟩
  have pp := txsp_pos t "; "
  have sp : split1W true (.str t) [.str "; "] = some (.lst true ((Txt.split t "; ").map W.str)) := w_split (sp_ok _ _ semi_ne (by omega))
  rw [← hPS] at o1 o2 o3 o4 pp sp
  obtain ⟨v, d1, p1, q1, t1⟩ := e_take d (PS.length : Int) (by omega)
  obtain ⟨a, rfl⟩ : ∃ a : Nat, v = (a : Int) := ⟨v.toNat, by omega⟩
  have al : a < PS.length := by omega
  obtain ⟨p, hp⟩ : ∃ p, p = PS[a] := ⟨_, rfl⟩
  have pm : p ∈ PS := hp ▸ List.getElem_mem al
  have pi : atI (PS.map W.str) (a : Int) = some (.str p) := by rw [atI_map, List.getElem?_eq_getElem al, hp]; rfl
  have lp_ := o2 p pm
  obtain ⟨WS, hWS⟩ : ∃ P, P = Txt.split p ", " := ⟨_, rfl⟩
  have wp := txsp_pos p ", "
  have sw : split1W true (.str p) [.str ", "] = some (.lst true ((Txt.split p ", ").map W.str)) := w_split (sp_ok _ _ comma_ne (by omega))
  have w3 := o3 p pm
  have w4 := o4 p pm
  rw [← hWS] at w3 w4 wp sw
  obtain ⟨v2, d2, p2, q2, t2⟩ := e_take d1 (WS.length : Int) (by omega)
  obtain ⟨b, rfl⟩ : ∃ b : Nat, v2 = (b : Int) := ⟨v2.toNat, by omega⟩
  have bl : b < WS.length := by omega
  obtain ⟨w, hw⟩ : ∃ w, w = WS[b] := ⟨_, rfl⟩
  have wm : w ∈ WS := hw ▸ List.getElem_mem bl
  have wi : atI (WS.map W.str) (b : Int) = some (.str w) := by rw [atI_map, List.getElem?_eq_getElem bl, hw]; rfl
  have lw := w4 w wm
  have pl := txpa_len w ":"
  have pw : partW (.str w) [.str ":"] = some (.tup [.str (Txt.partition w ":").1, .str (Txt.partition w ":").2.1, .str (Txt.partition w ":").2.2]) := w_part (sp_ok _ _ colon_ne (by omega))
  obtain ⟨k, hk⟩ : ∃ k, k = (Txt.partition w ":").1 := ⟨_, rfl⟩
  obtain ⟨m, hm⟩ : ∃ k, k = (Txt.partition w ":").2.1 := ⟨_, rfl⟩
  obtain ⟨g, hg⟩ : ∃ k, k = (Txt.partition w ":").2.2 := ⟨_, rfl⟩
  rw [← hk, ← hg] at pl
  rw [← hk, ← hm, ← hg] at pw
  obtain ⟨way, d3, _, _, t3⟩ := e_take d2 6 (by decide)
  obtain ⟨WS', d4, n1, n2, h8⟩ := lp8_ok (.str t) (.lst true (PS.map W.str)) (.int (a : Int)) (.str m) d3 WS b k g way bl (by omega) (by omega) w3 fun x hx => by have := w4 x hx; omega
  have cm2 : Str.length ", " = 2 := rfl
  obtain ⟨j1, j2⟩ := jn_gen ", " WS' 302 110 n1 n2 (by rw [cm2]; omega)
  rw [cm2] at j2
  have jw : joinW (.str ", ") [.lst false (WS'.map W.str)] = some (.str (Txt.join ", " WS')) := w_join j1
  obtain ⟨J, hJ⟩ : ∃ J, J = Txt.join ", " WS' := ⟨_, rfl⟩
  rw [← hJ] at j2 jw
  obtain ⟨u, d5, e, lu, tail⟩ := lp_tail t d4 (PS.set a J) a (.lst false (WS'.map W.str)) (.int (b : Int)) (.str k) (.str m) (.str g) (.lst false (odL.map W.str)) (.lst false (bdL.map W.str)) way (by rw [List.length_set]; exact o1) (set_len (fun x hx => by have := o2 x hx; omega) (by omega))
  have h0 : lp0 [.str t, dk d, .dead, .dead, .dead, .dead, .dead, .dead, .dead, .dead, .dead, .dead] = .ok .nx [.str t, dk d, .lst true (PS.map W.str), .dead, .dead, .dead, .dead, .dead, .dead, .dead, .dead, .dead] := by
    unfold lp0
    simp_arith [ty_str, ↓sp]
  have h1 : lp1 [.str t, dk d, .lst true (PS.map W.str), .dead, .dead, .dead, .dead, .dead, .dead, .dead, .dead, .dead] = .ok .nx [.str t, dk d1, .lst true (PS.map W.str), .int (a : Int), .dead, .dead, .dead, .dead, .dead, .dead, .dead, .dead] := by
    unfold lp1
    simp_arith [List.length_map, t1]
  have h2 : lp2 [.str t, dk d1, .lst true (PS.map W.str), .int (a : Int), .dead, .dead, .dead, .dead, .dead, .dead, .dead, .dead] = .ok .nx [.str t, dk d1, .lst true (PS.map W.str), .int (a : Int), .lst true (WS.map W.str), .dead, .dead, .dead, .dead, .dead, .dead, .dead] := by
    unfold lp2
    simp_arith [ty_str, ↓pi, ↓sw]
  have h3 : lp3 [.str t, dk d1, .lst true (PS.map W.str), .int (a : Int), .lst true (WS.map W.str), .dead, .dead, .dead, .dead, .dead, .dead, .dead] = .ok .nx [.str t, dk d2, .lst true (PS.map W.str), .int (a : Int), .lst true (WS.map W.str), .int (b : Int), .dead, .dead, .dead, .dead, .dead, .dead] := by
    unfold lp3
    simp_arith [List.length_map, t2]
  have h4 : lp4 [.str t, dk d2, .lst true (PS.map W.str), .int (a : Int), .lst true (WS.map W.str), .int (b : Int), .dead, .dead, .dead, .dead, .dead, .dead] = .ok .nx [.str t, dk d2, .lst true (PS.map W.str), .int (a : Int), .lst true (WS.map W.str), .int (b : Int), .str k, .str m, .str g, .dead, .dead, .dead] := by
    unfold lp4
    simp_arith [ty_str, ↓wi, ↓pw, tgL]
  have m0 := w_mulZ mo0
  have m1 := w_mulZ mo1
  have m2 := w_mulZ mo2
  have m3 := w_mulZ mo3
  have ld : Str.length "-" = 1 := rfl
  have l2 : (Txt.mul "9" 30).length = 30 := by decide +kernel
  have l3 : (Txt.mul "9" 31).length = 31 := by decide +kernel
  have a2 : addW false (.str "-") (.str (Txt.mul "9" 30)) = some (.str ("-" ++ Txt.mul "9" 30)) := w_addZ _ _ _ (by omega)
  have a3 : addW false (.str "-") (.str (Txt.mul "9" 31)) = some (.str ("-" ++ Txt.mul "9" 31)) := w_addZ _ _ _ (by omega)
  have z12 : 12 ≤ sizeLine := by omega
  have z9 : 9 ≤ sizeLine := by omega
  have h5 : lp5 [.str t, dk d2, .lst true (PS.map W.str), .int (a : Int), .lst true (WS.map W.str), .int (b : Int), .str k, .str m, .str g, .dead, .dead, .dead] = .ok .nx [.str t, dk d2, .lst true (PS.map W.str), .int (a : Int), .lst true (WS.map W.str), .int (b : Int), .str k, .str m, .str g, .lst false (odL.map W.str), .dead, .dead] := by
    unfold lp5 odL
    simp_arith [↓m0, ↓m1, ↓m2, ↓m3, ↓a2, ↓a3, z12]
    try rfl
  have h6 : lp6 [.str t, dk d2, .lst true (PS.map W.str), .int (a : Int), .lst true (WS.map W.str), .int (b : Int), .str k, .str m, .str g, .lst false (odL.map W.str), .dead, .dead] = .ok .nx [.str t, dk d2, .lst true (PS.map W.str), .int (a : Int), .lst true (WS.map W.str), .int (b : Int), .str k, .str m, .str g, .lst false (odL.map W.str), .lst false (bdL.map W.str), .dead] := by
    unfold lp6 bdL
    simp_arith [z9]
    try rfl
  have h7 : lp7 [.str t, dk d2, .lst true (PS.map W.str), .int (a : Int), .lst true (WS.map W.str), .int (b : Int), .str k, .str m, .str g, .lst false (odL.map W.str), .lst false (bdL.map W.str), .dead] = .ok .nx [.str t, dk d3, .lst true (PS.map W.str), .int (a : Int), .lst true (WS.map W.str), .int (b : Int), .str k, .str m, .str g, .lst false (odL.map W.str), .lst false (bdL.map W.str), .int way] := by
    unfold lp7
    simp_arith [t3]
  have h9 : lp9 [.str t, dk d4, .lst true (PS.map W.str), .int (a : Int), .lst true (WS'.map W.str), .int (b : Int), .str k, .str m, .str g, .lst false (odL.map W.str), .lst false (bdL.map W.str), .int way] = .ok () [.str t, dk d4, .lst true (PS.map W.str), .int (a : Int), .lst false (WS'.map W.str), .int (b : Int), .str k, .str m, .str g, .lst false (odL.map W.str), .lst false (bdL.map W.str), .int way] := rfl
  have ix : ixN PS.length (a : Int) = some a := ixN_nat al
  have ms := map_setS PS a J
  have h10 : lp10 [.str t, dk d4, .lst true (PS.map W.str), .int (a : Int), .lst false (WS'.map W.str), .int (b : Int), .str k, .str m, .str g, .lst false (odL.map W.str), .lst false (bdL.map W.str), .int way] = .ok .nx [.str t, dk d4, .lst true ((PS.set a J).map W.str), .int (a : Int), .lst false (WS'.map W.str), .int (b : Int), .str k, .str m, .str g, .lst false (odL.map W.str), .lst false (bdL.map W.str), .int way] := by
    unfold lp10
    simp_arith [ty_str, ↓jw, r_stoAt, List.length_map, ix, ms]
  refine ⟨u, d5, lu, ?_⟩
  have bb : b__law_parts_changed [.str t, dk d, .dead, .dead, .dead, .dead, .dead, .dead, .dead, .dead, .dead, .dead] = .ok (.rt (.str u)) (.str t :: dk d5 :: e) := by
    rw [lp_eq, seq_nx h0, seq_nx h1, seq_nx h2, seq_nx h3, seq_nx h4, seq_nx h5, seq_nx h6, seq_nx h7, seq_nx h8, r_go, h9]
    dsimp only
    rw [seq_nx h10]
    exact tail
  have e1 : f__law_parts_changed [.str t, dk d] = (match b__law_parts_changed [.str t, dk d, .dead, .dead, .dead, .dead, .dead, .dead, .dead, .dead, .dead, .dead] with
    | .ok (.rt w) env => .ok w (maskL [false, true] env)
    | .ok .nx env => .ok .non (maskL [false, true] env)
    | .ok _ _ => .bad
    | .ex c env => .ex c (maskL [false, true] env)
    | .bad => .bad) := rfl
  rw [e1, bb]
  rfl
end Ev

namespace Ev
open PySem PySem.Spec L2
local macro_rules
  | `(tactic| simp_arith [$ls,*] $[$l:location]?) => `(tactic| simp only [↓r_bind, ↓r_ret, ↓r_lft, ↓r_c, ↓r_var2, ↓r_move, ↓r_un, ↓r_bin, ↓r_chain, ↓r_toB, ↓r_ofB, ↓r_and, ↓r_or, ↓r_not, ↓r_nil, ↓r_cons, ↓r_args, ↓r_iargs, ↓r_ilst, ↓r_part, ↓r_no, ↓r_slice, ↓r_callP, ↓r_rnil, ↓r_rval, ↓r_rvalX, ↓r_pick, pas_str, pas_int, pas_bl, pas_non, pas_tup, pas_lst, pas_edc, pick_edc, ↓r_rio, ↓r_call, ↓r_callL, ↓r_fz, ↓r_seq, ↓r_snil, ↓r_if, ↓r_drop, ↓r_sret, ↓r_set, ↓r_asg, ↓r_aug, ↓r_sfor, ↓r_mut, ↓r_sto, ↓r_go, ↓r_gfz, ↓r_push, ↓r_gfzD, ↓r_fzD,  ↓r_raise, ↓r_try, ↓r_itup, ↓r_iseq, ↓r_andV, ↓r_orV, ↓r_notV, ↓r_fn, ↓r_meth, ↓r_augS, ↓r_ichr, ↓r_pair, ↓r_mutN, ↓r_mutT, ↓r_app, ↓r_gfzC, ↓r_callO, ↓r_asgN, ↓r_takeK, pick_nst, pick_ntp, w_strL, w_zip3, ↓r_dnew, ↓r_key1, ↓r_keyT, ↓r_dget, ↓r_dget2, ↓r_dput, ↓r_mutP, ↓r_mutKP, ↓r_stoP, ↓r_stoN, ↓r_dputP, ↓r_fldP, ↓r_callM, ↓r_makeL, ↓r_gfzK, ↓r_gfzP, ↓r_dpopP, ↓r_augP, ↓r_forP, ↓r_chainI, ↓r_callT, ↓r_ikeys, ↓r_keyCut, w_keyI, w_keyS, w_keyT2, w_lookT, w_lookK, w_lookDT, w_lookDK, w_dputT, w_dputK, w_dkeysT, w_dkeysK, isDW_dct, frz_dct, pick_dct, w_geX, ty_str, and_self,
      maskL_nil, maskL_cons, frz_non, frz_bl, frz_int, frz_str, frz_tup, frz_lst, frz_scr, fz_lst, fz_int, fz_tup, fz_str, fz_bl, w_lst, w_tup, w_add, w_addL, w_addB, w_sub, w_mul, w_rep, w_fdiv, w_mod, w_pow, w_neg, w_lt, w_le, w_ge, w_gt, w_bl, w_intW, w_toI, w_toB, w_max2, w_min2, w_abs, w_lenL, w_lenC, w_lenT, w_listL, w_listC, w_listT, w_tupL, w_rev, w_ixL, w_ixC, w_ixT, w_cutL, w_cutC, w_frzL, w_frzC, w_rng1, w_rng2, w_enum, w_enumC, w_zip, w_app, w_ext, w_pop, w_sum, w_isx, w_isiI, w_isiB, w_tgN, w_tgT, w_killN, w_killC, w_takeN, w_takeV, w_takeI, w_putI, w_putV, w_putN, w_lendN, w_lendV, w_lendI, flat_bl, flat_int, flat_non,
      pick_non, pick_bl, pick_int, pick_str, pick_tup, pick_lst, pick_scr, pick_exc, pick_T, pick_R, pick_N, frzT, frzR, frzN, w_seqL, w_seqT, w_seqC, w_zipT, w_zipA, w_tupLt, w_leX, eqW_int, neW_int, eqW_nil, neW_nil, eqW_str, neW_str, List.cons_append, List.nil_append, List.length_cons, List.length_nil, List.replicate_succ, List.replicate_zero, List.getElem?_cons_zero, List.getElem?_cons_succ, List.set_cons_zero, List.set_cons_succ, List.length_map, Option.map_some, Option.bind_some, cond_true, cond_false, Bool.true_or, Bool.or_true, Bool.false_or, Bool.or_false, Bool.not_true, Bool.not_false, Bool.true_and, Bool.false_and, Nat.reduceSub, Nat.reduceAdd, Nat.reduceLeDiff, ↓reduceIte, if_true, if_false, reduceCtorEq, decide_true, decide_false, decide_eq_true_eq, Nat.zero_add, Nat.add_zero, $ls,*] $[$l]?)
noncomputable def lo0 : Sm Fl := sSet 1 true (mArgs (lstW false) (mCons (mC (.str "")) (mCons (mC (.str " ")) (mCons (mC (.str "-")) (mCons (mC (.str "--")) (mCons (mC (.str "- ")) (mCons (mC (.str "; ")) (mCons (mC (.str "-; -")) (mNil)))))))))
noncomputable def lo1 : Sm Fl := sSet 1 true (mBin (addW false) true (mVar 1) (mArgs (lstW false) (mCons (mC (.str "-; -; -; -; -; -")) (mCons (mC (.str "-; -; -; -; -; -; -")) (mCons (mC (.str "-;-")) (mCons (mC (.str "-, -")) (mCons (mC (.str "1:a")) (mCons (mC (.str "1:a, ")) (mNil)))))))))
noncomputable def lo2 : Sm Fl := sSet 1 true (mBin (addW false) true (mVar 1) (mArgs (lstW false) (mCons (mC (.str ", 1:a")) (mCons (mC (.str "1:a,2:b")) (mCons (mC (.str "1:a,  2:b")) (mCons (mC (.str "1:a; 2:b")) (mCons (mC (.str "1:a;2:b")) (mCons (mC (.str "1 :a")) (mNil)))))))))
noncomputable def lo3 : Sm Fl := sSet 1 true (mBin (addW false) true (mVar 1) (mArgs (lstW false) (mCons (mC (.str "1: a")) (mCons (mC (.str "1:a:b")) (mCons (mC (.str ":a")) (mCons (mC (.str "1:")) (mCons (mC (.str "1")) (mCons (mC (.str "a:1")) (mNil)))))))))
noncomputable def lo4 : Sm Fl := sSet 1 true (mBin (addW false) true (mVar 1) (mArgs (lstW false) (mCons (mC (.str "0:a")) (mCons (mC (.str "-0:a")) (mCons (mC (.str "00:a")) (mCons (mC (.str "-1:a")) (mCons (mC (.str "- 1:a")) (mCons (mC (.str "+1:a")) (mNil)))))))))
noncomputable def lo5 : Sm Fl := sSet 1 true (mBin (addW false) true (mVar 1) (mArgs (lstW false) (mCons (mC (.str "1:A")) (mCons (mC (.str "1:aaaaaaaa")) (mCons (mC (.str "1:aaaaaaaaa")) (mCons (mC (.str "-; 1:a")) (mCons (mC (.str "1:a, -")) (mNil))))))))
noncomputable def lo6 : Sm Fl := sSet 1 true (mBin (addW false) true (mVar 1) (mArgs (lstW false) (mCons (mC (.str "none")) (mCons (mC (.str "[]")) (mCons (mC (.str "(1, a)")) (mCons (mC (.str "1:a\n")) (mCons (mC (.str "1:a; ")) (mCons (mC (.str "1:a;")) (mNil)))))))))
noncomputable def lo7 : Sm Fl := sRet true (mBin ixW true (mVar 1) (mBin modW true (mVar 0) (mUn lenW (mVar 1))))
theorem lo_eq : b__law_odd = sSeq lo0 (sSeq lo1 (sSeq lo2 (sSeq lo3 (sSeq lo4 (sSeq lo5 (sSeq lo6 (lo7))))))) := rfl
noncomputable def lw0 : Sm Fl := sSet 2 true (mCallP f__law_written (Sm.bind (mCons (mFz (mCallU f__law_rows 2 (mCallP f__law_deck (Sm.bind (mCons (mCallP f__law_cell_at (Sm.bind (mCons (mVar 0) (mCons (mVar 1) (mNil))) fun ws => if ws.length = 2 then Sm.ret ws else fun _ => .bad)) (mCons (mC (.int 130)) (mNil))) fun ws => if ws.length = 2 then Sm.ret ws else fun _ => .bad)) (mCons (mC (.int 8)) (mNil)))) (mNil)) fun ws => if ws.length = 1 then Sm.ret ws else fun _ => .bad))
noncomputable def lw1 : Sm Fl := sSet 3 true (mSlice true true (mCallP f__law_numbers (Sm.bind (mCons (mCallP f__law_cell_at (Sm.bind (mCons (mVar 0) (mCons (mVar 1) (mNil))) fun ws => if ws.length = 2 then Sm.ret ws else fun _ => .bad)) (mCons (mC (.int 142)) (mNil))) fun ws => if ws.length = 2 then Sm.ret ws else fun _ => .bad)) (mPart (mC (.int 130))) (mNo))
noncomputable def lw2 : Sm Fl := sSet 4 true (mCall f__law_take 2 (Sm.bind (mVar 3) fun _ => rIo 3 (rVal (mC (.int 8)) (rNil))))
noncomputable def lw3 : Sm Fl := sIf (toB (mBin ltW true (mVar 4) (mC (.int 3)))) (sSet 2 true (mFz (mCall f__law_changed 2 (rValX (mVar 2) (Sm.bind (mVar 3) fun _ => rIo 3 (rNil)))))) (sNil)
noncomputable def lw4 : Sm Fl := sIf (mOr (toB (mBin eqW true (mVar 4) (mC (.int 3)))) (toB (mBin eqW true (mVar 4) (mC (.int 4))))) (sSet 2 true (mCall f__law_parts_changed 2 (rValX (mVar 2) (Sm.bind (mVar 3) fun _ => rIo 3 (rNil))))) (sNil)
noncomputable def lw5 : Sm Fl := sIf (toB (mBin eqW true (mVar 4) (mC (.int 5)))) (sSet 2 true (mCallP f__law_odd (Sm.bind (mCons (mCall f__law_take 2 (Sm.bind (mVar 3) fun _ => rIo 3 (rVal (mC (.int 64)) (rNil)))) (mNil)) fun ws => if ws.length = 1 then Sm.ret ws else fun _ => .bad))) (sNil)
noncomputable def lw6 : Sm Fl := sSet 2 true (mSlice false true (mVar 2) (mNo) (mPart (mC (.int 4000))))
noncomputable def lw7 : Sm Fl := sSet 5 true (mFz (mCall f__law_read 1 (rValX (mVar 2) (rNil))))
noncomputable def lw8 : Sm Fl := sIf (mAnd (toB (mBin eqW true (mVar 4) (mC (.int 6)))) (toB (mBin eqW true (mCall f__law_take 2 (Sm.bind (mVar 3) fun _ => rIo 3 (rVal (mC (.int 2)) (rNil)))) (mC (.int 0))))) (sSeq (sSet 2 true (mPick (rVal (mC .non) (rVal (mC (.int 7)) (rVal (mArgs (lstW false) (mCons (mArgs (lstW false) (mNil)) (mNil))) (rVal (mArgs (lstW false) (mCons (mC (.str "-")) (mNil))) (rVal (mC (.bl true)) (rValX (mC .edc) (rVal (mArgs tupW (mCons (mC (.str "-")) (mNil))) (rVal (mC (.int 0)) (rNil))))))))) (mCall f__law_take 2 (Sm.bind (mVar 3) fun _ => rIo 3 (rVal (mC (.int 8)) (rNil)))))) (sSet 5 true (mC .non))) (sNil)
noncomputable def lw9 : Sm Fl := sSet 6 true (mUn strXW (mVar 2))
noncomputable def lw10 : Sm Fl := sAsg (tgT [7, 8]) (mCall f__law_asked 1 (rValX (mVar 2) (rNil)))
noncomputable def lw11 : Sm Fl := sIf (mOr (toB (mBin neW true (mUn strXW (mVar 2)) (mVar 6))) (toB (mBin neW true (mVar 7) (mBin ixW true (mArgs (lstW false) (mCons (mC (.str "told")) (mCons (mC (.str "NoText")) (mNil)))) (mUn toIntW (mBin (isNW false) true (mVar 5) (mC .non))))))) (sRet true (mC (.bl false))) (sNil)
noncomputable def lw12 : Sm Fl := sIf (mAnd (toB (mBin (isNW true) true (mVar 5) (mC .non))) (mNot (toB (mCallP (f__law_alike 5) (Sm.bind (mCons (mVar 8) (mCons (mVar 5) (mNil))) fun ws => if ws.length = 2 then Sm.ret ws else fun _ => .bad))))) (sRet true (mC (.bl false))) (sNil)
/-! ### odd texts -/
def ob0 : List Str := ["", " ", "-", "--", "- ", "; ", "-; -"]
def ob1 : List Str := ["-; -; -; -; -; -", "-; -; -; -; -; -; -", "-;-", "-, -", "1:a", "1:a, "]
def ob2 : List Str := [", 1:a", "1:a,2:b", "1:a,  2:b", "1:a; 2:b", "1:a;2:b", "1 :a"]
def ob3 : List Str := ["1: a", "1:a:b", ":a", "1:", "1", "a:1"]
def ob4 : List Str := ["0:a", "-0:a", "00:a", "-1:a", "- 1:a", "+1:a"]
def ob5 : List Str := ["1:A", "1:aaaaaaaa", "1:aaaaaaaaa", "-; 1:a", "1:a, -"]
def ob6 : List Str := ["none", "[]", "(1, a)", "1:a\n", "1:a; ", "1:a;"]
def obS : List Str := ((((((ob0 ++ ob1) ++ ob2) ++ ob3) ++ ob4) ++ ob5) ++ ob6)
theorem ob_len : ∀ x ∈ obS, x.length ≤ 40 := by decide +kernel
theorem ob_cnt : obS.length = 42 := by decide +kernel
theorem mapS (a b : List Str) : a.map W.str ++ b.map W.str = (a ++ b).map W.str := (List.map_append).symm
theorem e_odd (n : Int) (h0 : 0 ≤ n) : ∃ u : Str, u.length ≤ 40 ∧ f__law_odd [.int n] = .ok (.str u) [.dead] := by
  have sl := sizeLine_eq
  have z0 : 7 ≤ sizeLine := by omega
  have h_0 : lo0 [.int n, .dead] = .ok .nx [.int n, .lst false (ob0.map W.str)] := by
    unfold lo0 ob0
    simp_arith [z0]
    try rfl
  have h_1 : ∀ (xs : List Str), xs.length ≤ 100 → lo1 [.int n, .lst false (xs.map W.str)] = .ok .nx [.int n, .lst false ((xs ++ ob1).map W.str)] := fun xs hx => by
    have z1 : 6 ≤ sizeLine := by omega
    have z2 : xs.length + 6 ≤ sizeLine := by omega
    rw [← mapS]
    unfold lo1 ob1
    simp_arith [z1, z2, List.length_map]
    try rfl
  have h_2 : ∀ (xs : List Str), xs.length ≤ 100 → lo2 [.int n, .lst false (xs.map W.str)] = .ok .nx [.int n, .lst false ((xs ++ ob2).map W.str)] := fun xs hx => by
    have z1 : 6 ≤ sizeLine := by omega
    have z2 : xs.length + 6 ≤ sizeLine := by omega
    rw [← mapS]
    unfold lo2 ob2
    simp_arith [z1, z2, List.length_map]
    try rfl
  have h_3 : ∀ (xs : List Str), xs.length ≤ 100 → lo3 [.int n, .lst false (xs.map W.str)] = .ok .nx [.int n, .lst false ((xs ++ ob3).map W.str)] := fun xs hx => by
    have z1 : 6 ≤ sizeLine := by omega
    have z2 : xs.length + 6 ≤ sizeLine := by omega
    rw [← mapS]
    unfold lo3 ob3
    simp_arith [z1, z2, List.length_map]
    try rfl
  have h_4 : ∀ (xs : List Str), xs.length ≤ 100 → lo4 [.int n, .lst false (xs.map W.str)] = .ok .nx [.int n, .lst false ((xs ++ ob4).map W.str)] := fun xs hx => by
    have z1 : 6 ≤ sizeLine := by omega
    have z2 : xs.length + 6 ≤ sizeLine := by omega
    rw [← mapS]
    unfold lo4 ob4
    simp_arith [z1, z2, List.length_map]
    try rfl
  have h_5 : ∀ (xs : List Str), xs.length ≤ 100 → lo5 [.int n, .lst false (xs.map W.str)] = .ok .nx [.int n, .lst false ((xs ++ ob5).map W.str)] := fun xs hx => by
    have z1 : 5 ≤ sizeLine := by omega
    have z2 : xs.length + 5 ≤ sizeLine := by omega
    rw [← mapS]
    unfold lo5 ob5
    simp_arith [z1, z2, List.length_map]
    try rfl
  have h_6 : ∀ (xs : List Str), xs.length ≤ 100 → lo6 [.int n, .lst false (xs.map W.str)] = .ok .nx [.int n, .lst false ((xs ++ ob6).map W.str)] := fun xs hx => by
    have z1 : 6 ≤ sizeLine := by omega
    have z2 : xs.length + 6 ≤ sizeLine := by omega
    rw [← mapS]
    unfold lo6 ob6
    simp_arith [z1, z2, List.length_map]
    try rfl
  obtain ⟨x, hx, ex⟩ := atM (obS.map W.str) 42 (by rw [List.length_map, ob_cnt]) (by decide) n
  obtain ⟨u, hu, rfl⟩ := List.mem_map.mp hx
  have l := ob_len u hu
  refine ⟨u, l, ?_⟩
  obtain ⟨L, hL⟩ : ∃ L, L = obS.map W.str := ⟨_, rfl⟩
  have hln : (L.length : Int) = 42 := by rw [hL, List.length_map, ob_cnt]; rfl
  rw [← hL] at ex
  rw [show ((42 : Nat) : Int) = 42 from rfl] at ex
  have h_7 : lo7 [.int n, .lst false L] = .ok (.rt (.str u)) [.int n, .lst false L] := by
    unfold lo7
    simp_arith [hln, Int.reduceLT, ↓ex]
  have bb : b__law_odd [.int n, .dead] = .ok (.rt (.str u)) [.int n, .lst false L] := by
    rw [lo_eq, seq_nx h_0, seq_nx (h_1 _ (by decide +kernel)), seq_nx (h_2 _ (by decide +kernel)), seq_nx (h_3 _ (by decide +kernel)), seq_nx (h_4 _ (by decide +kernel)), seq_nx (h_5 _ (by decide +kernel)), seq_nx (h_6 _ (by decide +kernel))]
    rw [hL] at h_7 ⊢
    exact h_7
  have e1 : f__law_odd [.int n] = (match b__law_odd [.int n, .dead] with
    | .ok (.rt w) env => .ok w (maskL [false] env)
    | .ok .nx env => .ok .non (maskL [false] env)
    | .ok _ _ => .bad
    | .ex c env => .ex c (maskL [false] env)
    | .bad => .bad) := rfl
  rw [e1, bb]
  rfl
end Ev

namespace Ev
open PySem PySem.Spec L2
local macro_rules
  | `(tactic| simp_arith [$ls,*] $[$l:location]?) => `(tactic| simp only [↓r_bind, ↓r_ret, ↓r_lft, ↓r_c, ↓r_var2, ↓r_move, ↓r_un, ↓r_bin, ↓r_chain, ↓r_toB, ↓r_ofB, ↓r_and, ↓r_or, ↓r_not, ↓r_nil, ↓r_cons, ↓r_args, ↓r_iargs, ↓r_ilst, ↓r_part, ↓r_no, ↓r_slice, ↓r_callP, ↓r_rnil, ↓r_rval, ↓r_rvalX, ↓r_pick, pas_str, pas_int, pas_bl, pas_non, pas_tup, pas_lst, pas_edc, pick_edc, ↓r_rio, ↓r_call, ↓r_callL, ↓r_fz, ↓r_seq, ↓r_snil, ↓r_if, ↓r_drop, ↓r_sret, ↓r_set, ↓r_asg, ↓r_aug, ↓r_sfor, ↓r_mut, ↓r_sto, ↓r_go, ↓r_gfz, ↓r_push, ↓r_gfzD, ↓r_fzD,  ↓r_raise, ↓r_try, ↓r_itup, ↓r_iseq, ↓r_andV, ↓r_orV, ↓r_notV, ↓r_fn, ↓r_meth, ↓r_augS, ↓r_ichr, ↓r_pair, ↓r_mutN, ↓r_mutT, ↓r_app, ↓r_gfzC, ↓r_callO, ↓r_asgN, ↓r_takeK, pick_nst, pick_ntp, w_strL, w_zip3, ↓r_dnew, ↓r_key1, ↓r_keyT, ↓r_dget, ↓r_dget2, ↓r_dput, ↓r_mutP, ↓r_mutKP, ↓r_stoP, ↓r_stoN, ↓r_dputP, ↓r_fldP, ↓r_callM, ↓r_makeL, ↓r_gfzK, ↓r_gfzP, ↓r_dpopP, ↓r_augP, ↓r_forP, ↓r_chainI, ↓r_callT, ↓r_ikeys, ↓r_keyCut, w_keyI, w_keyS, w_keyT2, w_lookT, w_lookK, w_lookDT, w_lookDK, w_dputT, w_dputK, w_dkeysT, w_dkeysK, isDW_dct, frz_dct, pick_dct, w_geX, ty_str, and_self,
      maskL_nil, maskL_cons, frz_non, frz_bl, frz_int, frz_str, frz_tup, frz_lst, frz_scr, fz_lst, fz_int, fz_tup, fz_str, fz_bl, w_lst, w_tup, w_add, w_addL, w_addB, w_sub, w_mul, w_rep, w_fdiv, w_mod, w_pow, w_neg, w_lt, w_le, w_ge, w_gt, w_bl, w_intW, w_toI, w_toB, w_max2, w_min2, w_abs, w_lenL, w_lenC, w_lenT, w_listL, w_listC, w_listT, w_tupL, w_rev, w_ixL, w_ixC, w_ixT, w_cutL, w_cutC, w_frzL, w_frzC, w_rng1, w_rng2, w_enum, w_enumC, w_zip, w_app, w_ext, w_pop, w_sum, w_isx, w_isiI, w_isiB, w_tgN, w_tgT, w_killN, w_killC, w_takeN, w_takeV, w_takeI, w_putI, w_putV, w_putN, w_lendN, w_lendV, w_lendI, flat_bl, flat_int, flat_non,
      pick_non, pick_bl, pick_int, pick_str, pick_tup, pick_lst, pick_scr, pick_exc, pick_T, pick_R, pick_N, frzT, frzR, frzN, w_seqL, w_seqT, w_seqC, w_zipT, w_zipA, w_tupLt, w_leX, eqW_int, neW_int, eqW_nil, neW_nil, eqW_str, neW_str, List.cons_append, List.nil_append, List.length_cons, List.length_nil, List.replicate_succ, List.replicate_zero, List.getElem?_cons_zero, List.getElem?_cons_succ, List.set_cons_zero, List.set_cons_succ, List.length_map, Option.map_some, Option.bind_some, cond_true, cond_false, Bool.true_or, Bool.or_true, Bool.false_or, Bool.or_false, Bool.not_true, Bool.not_false, Bool.true_and, Bool.false_and, Nat.reduceSub, Nat.reduceAdd, Nat.reduceLeDiff, ↓reduceIte, if_true, if_false, reduceCtorEq, decide_true, decide_false, decide_eq_true_eq, Nat.zero_add, Nat.add_zero, $ls,*] $[$l]?)
/-! ### one turn of the law -/
theorem rowsS_le (rs : List (List Th)) (h : ∀ r ∈ rs, ∀ t ∈ r, thOk t) (hl : ∀ r ∈ rs, r.length ≤ 300) (h6 : rs.length ≤ 6) : (rowsS rs).length ≤ 80000 := by
  unfold rowsS
  have h1 := sum_le 12600 (rs.map rowS) fun y hy => by
    obtain ⟨t, ht, rfl⟩ := List.mem_map.mp hy
    exact rowS_len t (h t ht) (hl t ht)
  have h2 := txt_join_len "; " (rs.map rowS)
  rw [semi_len] at h2
  rw [List.length_map] at h1 h2
  omega
theorem pt_of (rs : List (List Th)) (ok : RowsOk rs) : PtOk (rowsS rs) := by
  have hne : rs ≠ [] := fun z => by have := ok.ne; rw [z] at this; exact absurd this (by decide)
  have sp := split_rows rs hne ok.key
  refine ⟨by rw [sp, List.length_map]; exact ok.six, fun p hp => ?_, fun p hp => ?_, fun p hp w hw => ?_⟩
  · rw [sp] at hp
    obtain ⟨r, hr, rfl⟩ := List.mem_map.mp hp
    have := rowS_len r (ok.key r hr) (by have := ok.len r hr; omega)
    omega
  · rw [sp] at hp
    obtain ⟨r, hr, rfl⟩ := List.mem_map.mp hp
    by_cases c : r = []
    · have := txsp_cnt (rowS r) ", "
      have l : (rowS r).length = 1 := by rw [c]; rfl
      omega
    · rw [split_row r c (ok.key r hr), List.length_map]
      have := ok.len r hr
      omega
  · rw [sp] at hp
    obtain ⟨r, hr, rfl⟩ := List.mem_map.mp hp
    by_cases c : r = []
    · have := txsp_len (rowS r) ", " w hw
      have l : (rowS r).length = 1 := by rw [c]; rfl
      omega
    · rw [split_row r c (ok.key r hr)] at hw
      obtain ⟨t, ht, rfl⟩ := List.mem_map.mp hw
      have := thS_len t (ok.key r hr t ht)
      omega
theorem r_callU {env : List W} (g : Fn) (n : Nat) (mt : Sm W) (mv : Sm (List W)) {w2 w : W} {env1 env2 : List W} {ws : List W} {e2 : List W} (h1 : mt env = .ok w2 env1) (h2 : mv env1 = .ok ws env2) (h3 : mCall g n (Sm.ret (.io env1.length :: ws.map .v)) (env1 ++ [w2]) = .ok w e2) : mCallU g n mt mv env = .ok w e2.dropLast := by
  unfold mCallU
  rw [h1]
  dsimp only
  rw [h2]
  dsimp only
  rw [h3]
theorem avAt_odd (v : Int) (h0 : 0 ≤ v) (h8 : v < 8) : ∃ w ∈ oddS, avAt [.v .non, .v (.int 7), .v (.lst false [.lst false []]), .v (.lst false [.str "-"]), .v (.bl true), .v .edc, .v (.tup [.str "-"]), .v (.int 0)] v = some w := by
  have c : v = 0 ∨ v = 1 ∨ v = 2 ∨ v = 3 ∨ v = 4 ∨ v = 5 ∨ v = 6 ∨ v = 7 := by omega
  unfold oddS
  rcases c with c | c | c | c | c | c | c | c <;> rw [c]
  · exact ⟨.non, by simp, rfl⟩
  · exact ⟨.int 7, by simp, rfl⟩
  · exact ⟨.lst false [.lst false []], by simp, rfl⟩
  · exact ⟨.lst false [.str "-"], by simp, rfl⟩
  · exact ⟨.bl true, by simp, rfl⟩
  · exact ⟨.edc, by simp, rfl⟩
  · exact ⟨.tup [.str "-"], by simp, rfl⟩
  · exact ⟨.int 0, by simp, rfl⟩
theorem rowsG_len {t : Str} {rs : List (List Th)} (h : rowsG t = some rs) : rs.length ≤ 6 ∧ ∀ r ∈ rs, r.length ≤ t.length + 2 := by
  unfold rowsG at h
  cases hs : allG rowG (Txt.split t "; ") with
  | none => rw [hs] at h; cases h
  | some q =>
    rw [hs, Option.bind_some] at h
    split at h
    · rename_i ar
      cases h
      refine ⟨by unfold areB at ar; simp only [Bool.and_eq_true, decide_eq_true_eq] at ar; exact ar.2.1, fun r hr => ?_⟩
      obtain ⟨w, h1, h2⟩ := allG_mem hs r hr
      have := (rowG_len h2).1
      have := txsp_len _ _ w h1
      omega
    · cases h
noncomputable def lwR : Sm Fl := sSeq lw9 (sSeq lw10 (sSeq lw11 lw12))
theorem lw_eq2 : b_law_1 = sSeq lw0 (sSeq lw1 (sSeq lw2 (sSeq lw3 (sSeq lw4 (sSeq lw5 (sSeq lw6 (sSeq lw7 (sSeq lw8 lwR)))))))) := rfl
theorem rest_odd (S K D V : W) (w : W) (hw : w ∈ oddS) : ∃ x y z : W, lwR [S, K, w, D, V, .non, .dead, .dead, .dead] = .ok .nx [S, K, w, D, V, .non, x, y, z] := by
  obtain ⟨hp, hk, hi, s, hs⟩ := odd_ok w hw
  have ha := asked_odd w hp hk hi
  have z2 : 2 ≤ sizeLine := by have := line_ge; omega
  have i1 : isNW false W.non .non = some (.bl true) := rfl
  have i2 : isNW true W.non .non = some (.bl false) := rfl
  have ix : ixW (.lst false [.str "told", .str "NoText"]) (.int 1) = some (.str "NoText") := rfl
  have n1 : neW (.str s) (.str s) = some (.bl false) := by rw [neW_str, decide_eq_true rfl]; rfl
  refine ⟨.str s, .str "NoText", .non, ?_⟩
  unfold lwR lw9 lw10 lw11 lw12
  simp_arith [hk, hp, ↓hs, ha, tgL, n1, z2, i1, i2, ↓ix]
theorem rest_text (S K D V : W) (t : Str) (ht : t.length ≤ 4000) : ∃ x y z : W, lwR [S, K, .str t, D, V, (match rowsG t with | some rs => .lst false (rs.map encR) | none => .non), .dead, .dead, .dead] = .ok .nx [S, K, .str t, D, V, (match rowsG t with | some rs => .lst false (rs.map encR) | none => .non), x, y, z] := by
  have ha := e_asked t (by omega)
  have z2 : 2 ≤ sizeLine := by have := line_ge; omega
  have hs : strXW (.str t) = some (.str t) := rfl
  have n1 : neW (.str t) (.str t) = some (.bl false) := by rw [neW_str, decide_eq_true rfl]; rfl
  cases hr : rowsG t with
  | none =>
    rw [hr] at ha
    have i1 : isNW false W.non .non = some (.bl true) := rfl
    have i2 : isNW true W.non .non = some (.bl false) := rfl
    have ix : ixW (.lst false [.str "told", .str "NoText"]) (.int 1) = some (.str "NoText") := rfl
    refine ⟨.str t, .str "NoText", .non, ?_⟩
    dsimp only
    unfold lwR lw9 lw10 lw11 lw12
    simp_arith [pas_str, ↓hs, ha, tgL, n1, z2, i1, i2, ↓ix]
  | some rs =>
    rw [hr] at ha
    have bl := rowsG_len hr
    have al := alike_rows rs 1 (by omega) fun r hr => by have := bl.2 r hr; omega
    unfold encRs at ha al
    have i1 : isNW false (W.lst false (rs.map encR)) .non = some (.bl false) := rfl
    have i2 : isNW true (W.lst false (rs.map encR)) .non = some (.bl true) := rfl
    have ix : ixW (.lst false [.str "told", .str "NoText"]) (.int 0) = some (.str "told") := rfl
    refine ⟨.str t, .str "told", .lst false (rs.map encR), ?_⟩
    dsimp only
    unfold lwR lw9 lw10 lw11 lw12
    simp_arith [pas_str, ↓hs, ha, tgL, n1, z2, i1, i2, ↓ix, al]
theorem law_turn (ns : List Int) (S : W) (hS : S = .scr (ns.map W.int)) (k : Nat) : turn (tgN 1) b_law_1 [1, 2, 3, 4, 5, 6, 7, 8] (W.int (0 + (k : Int))) [S, .dead, .dead, .dead, .dead, .dead, .dead, .dead, .dead] = .ok .nx [S, .dead, .dead, .dead, .dead, .dead, .dead, .dead, .dead] := by
  have lg := line_ge
  have sl := sizeLine_eq
  have ec := e_cell ns k
  rw [← hS] at ec
  obtain ⟨K, hK⟩ : ∃ K : Int, (k : Int) = K := ⟨_, rfl⟩
  have e0 : (0 : Int) + (k : Int) = K := by omega
  rw [hK] at ec
  rw [e0]
  have pS : ∀ env, pickV (some S) env = .ok S env := fun _ => by rw [hS]; rfl
  have fS : S.frz = true := by rw [hS]; rfl
  obtain ⟨d, _, hd⟩ := e_deck (cellAt ns k) 130 (by omega)
  rw [show ((130 : Nat) : Int) = 130 from rfl] at hd
  obtain ⟨rs, d1, ok, _, hr⟩ := e_rows d 8 (by omega)
  rw [show ((8 : Nat) : Int) = 8 from rfl] at hr
  have hl3 : ∀ r ∈ rs, r.length ≤ 300 := fun r h => by have := ok.len r h; omega
  have hw := e_written rs ok.key hl3 (by have := ok.six; omega)
  have lT := rowsS_le rs ok.key hl3 ok.six
  obtain ⟨T, hT⟩ : ∃ T, T = rowsS rs := ⟨_, rfl⟩
  have ptk := pt_of rs ok
  rw [← hT] at hw lT ptk
  have h0 : lw0 [S, .int K, .dead, .dead, .dead, .dead, .dead, .dead, .dead] = .ok .nx [S, .int K, .str T, .dead, .dead, .dead, .dead, .dead, .dead] := by
    have cu : mCallU f__law_rows 2 (mCallP f__law_deck (Sm.bind (mCons (mCallP f__law_cell_at (Sm.bind (mCons (mVar 0) (mCons (mVar 1) (mNil))) fun ws => if ws.length = 2 then Sm.ret ws else fun _ => .bad)) (mCons (mC (.int 130)) (mNil))) fun ws => if ws.length = 2 then Sm.ret ws else fun _ => .bad)) (mCons (mC (.int 8)) (mNil)) [S, .int K, .dead, .dead, .dead, .dead, .dead, .dead, .dead] = .ok (.lst true (rs.map encR)) [S, .int K, .dead, .dead, .dead, .dead, .dead, .dead, .dead] := by
      have u1 : mCallP f__law_deck (Sm.bind (mCons (mCallP f__law_cell_at (Sm.bind (mCons (mVar 0) (mCons (mVar 1) (mNil))) fun ws => if ws.length = 2 then Sm.ret ws else fun _ => .bad)) (mCons (mC (.int 130)) (mNil))) fun ws => if ws.length = 2 then Sm.ret ws else fun _ => .bad) [S, .int K, .dead, .dead, .dead, .dead, .dead, .dead, .dead] = .ok (dk d) [S, .int K, .dead, .dead, .dead, .dead, .dead, .dead, .dead] := by
        simp_arith [pS, fS, ec, hd]
      have u2 : mCons (mC (.int 8)) (mNil) [S, .int K, .dead, .dead, .dead, .dead, .dead, .dead, .dead] = .ok [.int 8] [S, .int K, .dead, .dead, .dead, .dead, .dead, .dead, .dead] := by
        simp_arith []
      have u3 : mCall f__law_rows 2 (Sm.ret [.io 9, .v (.int 8)]) [S, .int K, .dead, .dead, .dead, .dead, .dead, .dead, .dead, dk d] = .ok (.lst true (rs.map encR)) [S, .int K, .dead, .dead, .dead, .dead, .dead, .dead, .dead, dk d1] := by
        simp_arith [hr]
      exact r_callU _ _ _ _ u1 u2 u3
    unfold lw0
    unfold encRs at hw
    simp_arith [↓cu, hw]
  obtain ⟨e, _, he⟩ := e_numbers (cellAt ns k) 142 (by omega)
  rw [show ((142 : Nat) : Int) = 142 from rfl] at he
  have ct : cutL (e.map W.int) (some 130) none = (cutL e (some 130) none).map W.int := cutL_map _ _ _ _
  obtain ⟨f, hf⟩ : ∃ f, f = cutL e (some 130) none := ⟨_, rfl⟩
  rw [← hf] at ct
  have h1 : lw1 [S, .int K, .str T, .dead, .dead, .dead, .dead, .dead, .dead] = .ok .nx [S, .int K, .str T, dk f, .dead, .dead, .dead, .dead, .dead] := by
    unfold lw1
    unfold dk at he ⊢
    simp_arith [pS, fS, ec, he, ct]
  obtain ⟨v, f1, v0, v1, t1⟩ := e_take f 8 (by decide)
  have h2 : lw2 [S, .int K, .str T, dk f, .dead, .dead, .dead, .dead, .dead] = .ok .nx [S, .int K, .str T, dk f1, .int v, .dead, .dead, .dead, .dead] := by
    unfold lw2
    simp_arith [t1]
  have mid : ∃ (U : Str) (g : List Int), U.length ≤ 4000000 ∧ ∀ M : Sm Fl, sSeq lw3 (sSeq lw4 (sSeq lw5 M)) [S, .int K, .str T, dk f1, .int v, .dead, .dead, .dead, .dead] = M [S, .int K, .str U, dk g, .int v, .dead, .dead, .dead, .dead] := by
    by_cases c1 : v < 3
    · obtain ⟨u, g, lu, hu⟩ := e_changed T lT f1
      have a3 : lw3 [S, .int K, .str T, dk f1, .int v, .dead, .dead, .dead, .dead] = .ok .nx [S, .int K, .str u, dk g, .int v, .dead, .dead, .dead, .dead] := by
        unfold lw3
        simp_arith [c1, pas_str, hu]
      have a4 : lw4 [S, .int K, .str u, dk g, .int v, .dead, .dead, .dead, .dead] = .ok .nx [S, .int K, .str u, dk g, .int v, .dead, .dead, .dead, .dead] := by
        have n3 : ¬ v = 3 := by omega
        have n4 : ¬ v = 4 := by omega
        unfold lw4
        simp_arith [n3, n4]
      have a5 : lw5 [S, .int K, .str u, dk g, .int v, .dead, .dead, .dead, .dead] = .ok .nx [S, .int K, .str u, dk g, .int v, .dead, .dead, .dead, .dead] := by
        have n5 : ¬ v = 5 := by omega
        unfold lw5
        simp_arith [n5]
      exact ⟨u, g, by omega, fun M => by rw [seq_nx a3, seq_nx a4, seq_nx a5]⟩
    have a3 : lw3 [S, .int K, .str T, dk f1, .int v, .dead, .dead, .dead, .dead] = .ok .nx [S, .int K, .str T, dk f1, .int v, .dead, .dead, .dead, .dead] := by
      unfold lw3
      simp_arith [c1]
    by_cases c2 : v = 3 ∨ v = 4
    · obtain ⟨u, g, lu, hu⟩ := e_parts T lT ptk f1
      have a4 : lw4 [S, .int K, .str T, dk f1, .int v, .dead, .dead, .dead, .dead] = .ok .nx [S, .int K, .str u, dk g, .int v, .dead, .dead, .dead, .dead] := by
        unfold lw4
        rcases c2 with c | c
        · simp_arith [c, pas_str, hu]
        · simp_arith [c, Int.reduceEq, pas_str, hu]
      have a5 : lw5 [S, .int K, .str u, dk g, .int v, .dead, .dead, .dead, .dead] = .ok .nx [S, .int K, .str u, dk g, .int v, .dead, .dead, .dead, .dead] := by
        have n5 : ¬ v = 5 := by omega
        unfold lw5
        simp_arith [n5]
      exact ⟨u, g, lu, fun M => by rw [seq_nx a3, seq_nx a4, seq_nx a5]⟩
    have a4 : lw4 [S, .int K, .str T, dk f1, .int v, .dead, .dead, .dead, .dead] = .ok .nx [S, .int K, .str T, dk f1, .int v, .dead, .dead, .dead, .dead] := by
      have n3 : ¬ v = 3 := fun h => c2 (.inl h)
      have n4 : ¬ v = 4 := fun h => c2 (.inr h)
      unfold lw4
      simp_arith [n3, n4]
    by_cases c3 : v = 5
    · obtain ⟨x, g, x0, _, tx⟩ := e_take f1 64 (by decide)
      obtain ⟨u, lu, hu⟩ := e_odd x x0
      have a5 : lw5 [S, .int K, .str T, dk f1, .int v, .dead, .dead, .dead, .dead] = .ok .nx [S, .int K, .str u, dk g, .int v, .dead, .dead, .dead, .dead] := by
        unfold lw5
        simp_arith [c3, tx, hu]
      exact ⟨u, g, by omega, fun M => by rw [seq_nx a3, seq_nx a4, seq_nx a5]⟩
    · have a5 : lw5 [S, .int K, .str T, dk f1, .int v, .dead, .dead, .dead, .dead] = .ok .nx [S, .int K, .str T, dk f1, .int v, .dead, .dead, .dead, .dead] := by
        unfold lw5
        simp_arith [c3]
      exact ⟨T, f1, by omega, fun M => by rw [seq_nx a3, seq_nx a4, seq_nx a5]⟩
  obtain ⟨U, g, lU, mid⟩ := mid
  have cw := w_cutS false U none (some 4000) (by omega)
  have lc : (cutS U none (some 4000)).length ≤ 4000 := by
    rw [TL.len_tl]
    unfold cutS
    rw [HT.sIx_none, show (4000 : Int) = ((4000 : Nat) : Int) from rfl, HT.sIx_nat, List.drop_zero, Nat.sub_zero]
    show ((TL.tl U).take (min 4000 U.length)).length ≤ 4000
    rw [List.length_take]
    omega
  obtain ⟨Z, hZ⟩ : ∃ Z, Z = cutS U none (some 4000) := ⟨_, rfl⟩
  rw [← hZ] at cw lc
  have h6 : lw6 [S, .int K, .str U, dk g, .int v, .dead, .dead, .dead, .dead] = .ok .nx [S, .int K, .str Z, dk g, .int v, .dead, .dead, .dead, .dead] := by
    unfold lw6
    simp_arith [↓cw]
  have rd := e_lread Z (by omega)
  obtain ⟨D, hD⟩ : ∃ D : W, D = (match rowsG Z with | some rs => .lst false (rs.map encR) | none => .non) := ⟨_, rfl⟩
  have h7 : lw7 [S, .int K, .str Z, dk g, .int v, .dead, .dead, .dead, .dead] = .ok .nx [S, .int K, .str Z, dk g, .int v, D, .dead, .dead, .dead] := by
    unfold lw7
    rw [hD]
    cases hrz : rowsG Z with
    | none =>
      rw [hrz] at rd
      simp_arith [pas_str, rd]
      rfl
    | some q =>
      rw [hrz] at rd
      simp_arith [pas_str, rd]
  have fin : ∃ (w : W) (g' : List Int) (D' x y z : W), sSeq lw8 lwR [S, .int K, .str Z, dk g, .int v, D, .dead, .dead, .dead] = .ok .nx [S, .int K, w, dk g', .int v, D', x, y, z] := by
    have rt := rest_text S (.int K)
    have same : lw8 [S, .int K, .str Z, dk g, .int v, D, .dead, .dead, .dead] = .ok .nx [S, .int K, .str Z, dk g, .int v, D, .dead, .dead, .dead] → ∃ (w : W) (g' : List Int) (D' x y z : W), sSeq lw8 lwR [S, .int K, .str Z, dk g, .int v, D, .dead, .dead, .dead] = .ok .nx [S, .int K, w, dk g', .int v, D', x, y, z] := fun h => by
      obtain ⟨x, y, z, h2⟩ := rt (dk g) (.int v) Z lc
      rw [← hD] at h2
      exact ⟨.str Z, g, D, x, y, z, by rw [seq_nx h, h2]⟩
    by_cases c : v = 6
    · obtain ⟨b, g1, b0, b1, tb⟩ := e_take g 2 (by decide)
      by_cases c2 : b = 0
      · obtain ⟨j, g2, j0, j1, tj⟩ := e_take g1 8 (by decide)
        obtain ⟨w, hw2, hav⟩ := avAt_odd j j0 j1
        obtain ⟨x, y, z, h2⟩ := rest_odd S (.int K) (dk g2) (.int v) w hw2
        have z0 : 0 ≤ sizeLine := by omega
        have z1 : 1 ≤ sizeLine := by omega
        have z8 : 8 ≤ sizeLine := by omega
        have h : lw8 [S, .int K, .str Z, dk g, .int v, D, .dead, .dead, .dead] = .ok .nx [S, .int K, w, dk g2, .int v, .non, .dead, .dead, .dead] := by
          unfold lw8
          simp_arith [c, tb, c2, tj, z0, z1, z8, ↓hav]
        exact ⟨w, g2, .non, x, y, z, by rw [seq_nx h, h2]⟩
      · obtain ⟨x, y, z, h2⟩ := rt (dk g1) (.int v) Z lc
        rw [← hD] at h2
        have h : lw8 [S, .int K, .str Z, dk g, .int v, D, .dead, .dead, .dead] = .ok .nx [S, .int K, .str Z, dk g1, .int v, D, .dead, .dead, .dead] := by
          unfold lw8
          simp_arith [c, tb, c2]
        exact ⟨.str Z, g1, D, x, y, z, by rw [seq_nx h, h2]⟩
    · refine same ?_
      unfold lw8
      simp_arith [c]
  obtain ⟨w, g', D', x, y, z, fin⟩ := fin
  have body : b_law_1 [S, .int K, .dead, .dead, .dead, .dead, .dead, .dead, .dead] = .ok .nx [S, .int K, w, dk g', .int v, D', x, y, z] := by
    rw [lw_eq2, seq_nx h0, seq_nx h1, seq_nx h2, mid, seq_nx h6, seq_nx h7, fin]
  unfold turn
  simp_arith [↓body]
theorem law_true (ns : List Int) (hl : ns.length ≤ 63) (hb : ∀ z ∈ ns, Builtin.Int.intBits z ≤ 1048576) : ∃ ws, f_law [.scr (ns.map W.int)] = .ok (.bl true) ws := by
  unfold f_law b_law
  obtain ⟨m, hm⟩ : ∃ m : Int, m = (if (if (12 : Int) < (ns.length : Int) then (12 : Int) else (ns.length : Int)) > 1 then (if (12 : Int) < (ns.length : Int) then (12 : Int) else (ns.length : Int)) else 1) := ⟨_, rfl⟩
  have hm2 : 1 ≤ m ∧ m ≤ 12 := by
    rw [hm]
    split <;> split <;> omega
  have hr : rngOk m := rngOk_of (by omega) (by omega)
  have h := mFor_all (f := tgN 1) (body := b_law_1) (kill := [1, 2, 3, 4, 5, 6, 7, 8]) (fun i : Nat => W.int (0 + (i : Int))) (xs := List.range m.toNat) fun k _ => law_turn ns (.scr (ns.map W.int)) rfl k
  refine ⟨[.dead], ?_⟩
  simp_arith [← hm, hr, rngL_nat, h]
end Ev

namespace Ev
open PySem PySem.Spec L2
theorem cf_of {K : PySem.W.Frag} {C0 C1 C2 C3 C4 C5 : Addr} (q0 : CF1 K C0 "LotError") (q1 : CF1 K C1 "NoNumber") (q2 : CF1 K C2 "NoDeed") (q3 : CF1 K C3 "NoText") (q4 : CF1 K C4 "NoName") (q5 : CF1 K C5 "NoRow") (s0_0 : PySem.W.subIn K (.ref C0) (.ref C0) = some true) (s0_1 : PySem.W.subIn K (.ref C0) (.ref C1) = some false) (s0_2 : PySem.W.subIn K (.ref C0) (.ref C2) = some false) (s0_3 : PySem.W.subIn K (.ref C0) (.ref C3) = some false) (s0_4 : PySem.W.subIn K (.ref C0) (.ref C4) = some false) (s0_5 : PySem.W.subIn K (.ref C0) (.ref C5) = some false) (s1_0 : PySem.W.subIn K (.ref C1) (.ref C0) = some true) (s1_1 : PySem.W.subIn K (.ref C1) (.ref C1) = some true) (s1_2 : PySem.W.subIn K (.ref C1) (.ref C2) = some false) (s1_3 : PySem.W.subIn K (.ref C1) (.ref C3) = some false) (s1_4 : PySem.W.subIn K (.ref C1) (.ref C4) = some false) (s1_5 : PySem.W.subIn K (.ref C1) (.ref C5) = some false) (s2_0 : PySem.W.subIn K (.ref C2) (.ref C0) = some true) (s2_1 : PySem.W.subIn K (.ref C2) (.ref C1) = some false) (s2_2 : PySem.W.subIn K (.ref C2) (.ref C2) = some true) (s2_3 : PySem.W.subIn K (.ref C2) (.ref C3) = some false) (s2_4 : PySem.W.subIn K (.ref C2) (.ref C4) = some false) (s2_5 : PySem.W.subIn K (.ref C2) (.ref C5) = some false) (s3_0 : PySem.W.subIn K (.ref C3) (.ref C0) = some true) (s3_1 : PySem.W.subIn K (.ref C3) (.ref C1) = some false) (s3_2 : PySem.W.subIn K (.ref C3) (.ref C2) = some false) (s3_3 : PySem.W.subIn K (.ref C3) (.ref C3) = some true) (s3_4 : PySem.W.subIn K (.ref C3) (.ref C4) = some false) (s3_5 : PySem.W.subIn K (.ref C3) (.ref C5) = some false) (s4_0 : PySem.W.subIn K (.ref C4) (.ref C0) = some true) (s4_1 : PySem.W.subIn K (.ref C4) (.ref C1) = some false) (s4_2 : PySem.W.subIn K (.ref C4) (.ref C2) = some false) (s4_3 : PySem.W.subIn K (.ref C4) (.ref C3) = some false) (s4_4 : PySem.W.subIn K (.ref C4) (.ref C4) = some true) (s4_5 : PySem.W.subIn K (.ref C4) (.ref C5) = some false) (s5_0 : PySem.W.subIn K (.ref C5) (.ref C0) = some true) (s5_1 : PySem.W.subIn K (.ref C5) (.ref C1) = some false) (s5_2 : PySem.W.subIn K (.ref C5) (.ref C2) = some false) (s5_3 : PySem.W.subIn K (.ref C5) (.ref C3) = some false) (s5_4 : PySem.W.subIn K (.ref C5) (.ref C4) = some false) (s5_5 : PySem.W.subIn K (.ref C5) (.ref C5) = some true) : ∃ A, CF K ["LotError", "NoNumber", "NoDeed", "NoText", "NoName", "NoRow"] A :=
  ⟨(fun c => [C0, C1, C2, C3, C4, C5].getD c 0), ⟨(fun c x h => match c, h with
    | 0, h => by cases h; exact q0
    | 1, h => by cases h; exact q1
    | 2, h => by cases h; exact q2
    | 3, h => by cases h; exact q3
    | 4, h => by cases h; exact q4
    | 5, h => by cases h; exact q5
    | n + 6, h => (nomatch h)), (fun c d hc hd => match c, d, hc, hd with
    | 0, 0, _, _ => s0_0
    | 0, 1, _, _ => s0_1
    | 0, 2, _, _ => s0_2
    | 0, 3, _, _ => s0_3
    | 0, 4, _, _ => s0_4
    | 0, 5, _, _ => s0_5
    | 1, 0, _, _ => s1_0
    | 1, 1, _, _ => s1_1
    | 1, 2, _, _ => s1_2
    | 1, 3, _, _ => s1_3
    | 1, 4, _, _ => s1_4
    | 1, 5, _, _ => s1_5
    | 2, 0, _, _ => s2_0
    | 2, 1, _, _ => s2_1
    | 2, 2, _, _ => s2_2
    | 2, 3, _, _ => s2_3
    | 2, 4, _, _ => s2_4
    | 2, 5, _, _ => s2_5
    | 3, 0, _, _ => s3_0
    | 3, 1, _, _ => s3_1
    | 3, 2, _, _ => s3_2
    | 3, 3, _, _ => s3_3
    | 3, 4, _, _ => s3_4
    | 3, 5, _, _ => s3_5
    | 4, 0, _, _ => s4_0
    | 4, 1, _, _ => s4_1
    | 4, 2, _, _ => s4_2
    | 4, 3, _, _ => s4_3
    | 4, 4, _, _ => s4_4
    | 4, 5, _, _ => s4_5
    | 5, 0, _, _ => s5_0
    | 5, 1, _, _ => s5_1
    | 5, 2, _, _ => s5_2
    | 5, 3, _, _ => s5_3
    | 5, 4, _, _ => s5_4
    | 5, 5, _, _ => s5_5
    | n + 6, _, h, _ => absurd h (by show ¬ n + 6 < 6; omega)
    | 0, n + 6, _, h => absurd h (by show ¬ n + 6 < 6; omega)
    | 1, n + 6, _, h => absurd h (by show ¬ n + 6 < 6; omega)
    | 2, n + 6, _, h => absurd h (by show ¬ n + 6 < 6; omega)
    | 3, n + 6, _, h => absurd h (by show ¬ n + 6 < 6; omega)
    | 4, n + 6, _, h => absurd h (by show ¬ n + 6 < 6; omega)
    | 5, n + 6, _, h => absurd h (by show ¬ n + 6 < 6; omega))⟩⟩
theorem all_mk {P : Program} {w : World} {K : PySem.W.Frag} {h : Heap} {mg : Str → Option Value} {fa : Addr} (X : K.In h) (G : h.Ns mainGlobals mg) (hfa : mg "law" = some (.ref fa)) (D_is_whole_number : DF K "is_whole_number" ["thing"] s_is_whole_number) (D_is_tag : DF K "is_tag" ["thing"] s_is_tag) (D_is_keyed : DF K "is_keyed" ["thing"] s_is_keyed) (D_is_row : DF K "is_row" ["thing"] s_is_row) (D_are_rows : DF K "are_rows" ["thing"] s_are_rows) (D_key_from : DF K "key_from" ["word"] s_key_from) (D_thing_from : DF K "thing_from" ["word"] s_thing_from) (D_row_from : DF K "row_from" ["text"] s_row_from) (D_read_rows : DF K "read_rows" ["text"] s_read_rows) (D__law_cell_at : DF K "_law_cell_at" ["script", "k"] s__law_cell_at) (D__law_numbers : DF K "_law_numbers" ["cell", "many"] s__law_numbers) (D__law_deck : DF K "_law_deck" ["cell", "many"] s__law_deck) (D__law_take : DF K "_law_take" ["deck", "many"] s__law_take) (D__law_key : DF K "_law_key" ["deck"] s__law_key) (D__law_tag : DF K "_law_tag" ["deck"] s__law_tag) (D__law_rows : DF K "_law_rows" ["deck", "most"] s__law_rows) (D__law_row_written : DF K "_law_row_written" ["row"] s__law_row_written) (D__law_written : DF K "_law_written" ["rows"] s__law_written) (D__law_alike : DF K "_law_alike" ["found", "due"] s__law_alike) (D__law_thing : DF K "_law_thing" ["word"] s__law_thing) (D__law_read : DF K "_law_read" ["text"] s__law_read) (D__law_asked : DF K "_law_asked" ["text"] s__law_asked) (D__law_changed : DF K "_law_changed" ["text", "deck"] s__law_changed) (D__law_parts_changed : DF K "_law_parts_changed" ["text", "deck"] s__law_parts_changed) (D__law_odd : DF K "_law_odd" ["number"] s__law_odd) (D_law : DF K "law" ["script"] s_law) (n_bool : PySem.W.nsIn K mainGlobals "bool" = some none) (n_int : PySem.W.nsIn K mainGlobals "int" = some none) (n_isinstance : PySem.W.nsIn K mainGlobals "isinstance" = some none) (n_len : PySem.W.nsIn K mainGlobals "len" = some none) (n_str : PySem.W.nsIn K mainGlobals "str" = some none) (n_tuple : PySem.W.nsIn K mainGlobals "tuple" = some none) (n_list : PySem.W.nsIn K mainGlobals "list" = some none) (n_range : PySem.W.nsIn K mainGlobals "range" = some none) (n_sorted : PySem.W.nsIn K mainGlobals "sorted" = some none) (n_ValueError : PySem.W.nsIn K mainGlobals "ValueError" = some none) (n_max : PySem.W.nsIn K mainGlobals "max" = some none) (n_min : PySem.W.nsIn K mainGlobals "min" = some none) {t_LETTERS : Tok} (n_LETTERS : PySem.W.nsIn K mainGlobals "LETTERS" = some (some (.str "abcdefghijklmnopqrstuvwxyz" t_LETTERS))) {t_LONGEST_TAG : Tok} (n_LONGEST_TAG : PySem.W.nsIn K mainGlobals "LONGEST_TAG" = some (some (.int 8 t_LONGEST_TAG))) {t_MOST_HANDS : Tok} (n_MOST_HANDS : PySem.W.nsIn K mainGlobals "MOST_HANDS" = some (some (.int 6 t_MOST_HANDS))) {t_FIGURES : Tok} (n_FIGURES : PySem.W.nsIn K mainGlobals "FIGURES" = some (some (.str "0123456789" t_FIGURES))) {t_MOST_FIGURES : Tok} (n_MOST_FIGURES : PySem.W.nsIn K mainGlobals "MOST_FIGURES" = some (some (.int 30 t_MOST_FIGURES))) (hA : ∃ A, CF K ["LotError", "NoNumber", "NoDeed", "NoText", "NoName", "NoRow"] A) :
    ∃ fd : FuncData, (∀ (s : Shared) (u : Value), BindsTo s fd ⟨[u], []⟩ [("script", u)]) ∧ ∃ CA : Nat → Addr, ∀ base : Heap, AnsAt callerA [] P w K mg base fa fd ["script"] (spOf ⟨K, CA⟩ 1 f_law) := by
  obtain ⟨f_is_whole_number_, fd_is_whole_number_, a_is_whole_number, F_is_whole_number_, b_is_whole_number_⟩ := D_is_whole_number
  obtain ⟨f_is_tag_, fd_is_tag_, a_is_tag, F_is_tag_, b_is_tag_⟩ := D_is_tag
  obtain ⟨f_is_keyed_, fd_is_keyed_, a_is_keyed, F_is_keyed_, b_is_keyed_⟩ := D_is_keyed
  obtain ⟨f_is_row_, fd_is_row_, a_is_row, F_is_row_, b_is_row_⟩ := D_is_row
  obtain ⟨f_are_rows_, fd_are_rows_, a_are_rows, F_are_rows_, b_are_rows_⟩ := D_are_rows
  obtain ⟨f_key_from_, fd_key_from_, a_key_from, F_key_from_, b_key_from_⟩ := D_key_from
  obtain ⟨f_thing_from_, fd_thing_from_, a_thing_from, F_thing_from_, b_thing_from_⟩ := D_thing_from
  obtain ⟨f_row_from_, fd_row_from_, a_row_from, F_row_from_, b_row_from_⟩ := D_row_from
  obtain ⟨f_read_rows_, fd_read_rows_, a_read_rows, F_read_rows_, b_read_rows_⟩ := D_read_rows
  obtain ⟨f__law_cell_at_, fd__law_cell_at_, a__law_cell_at, F__law_cell_at_, b__law_cell_at_⟩ := D__law_cell_at
  obtain ⟨f__law_numbers_, fd__law_numbers_, a__law_numbers, F__law_numbers_, b__law_numbers_⟩ := D__law_numbers
  obtain ⟨f__law_deck_, fd__law_deck_, a__law_deck, F__law_deck_, b__law_deck_⟩ := D__law_deck
  obtain ⟨f__law_take_, fd__law_take_, a__law_take, F__law_take_, b__law_take_⟩ := D__law_take
  obtain ⟨f__law_key_, fd__law_key_, a__law_key, F__law_key_, b__law_key_⟩ := D__law_key
  obtain ⟨f__law_tag_, fd__law_tag_, a__law_tag, F__law_tag_, b__law_tag_⟩ := D__law_tag
  obtain ⟨f__law_rows_, fd__law_rows_, a__law_rows, F__law_rows_, b__law_rows_⟩ := D__law_rows
  obtain ⟨f__law_row_written_, fd__law_row_written_, a__law_row_written, F__law_row_written_, b__law_row_written_⟩ := D__law_row_written
  obtain ⟨f__law_written_, fd__law_written_, a__law_written, F__law_written_, b__law_written_⟩ := D__law_written
  obtain ⟨f__law_alike_, fd__law_alike_, a__law_alike, F__law_alike_, b__law_alike_⟩ := D__law_alike
  obtain ⟨f__law_thing_, fd__law_thing_, a__law_thing, F__law_thing_, b__law_thing_⟩ := D__law_thing
  obtain ⟨f__law_read_, fd__law_read_, a__law_read, F__law_read_, b__law_read_⟩ := D__law_read
  obtain ⟨f__law_asked_, fd__law_asked_, a__law_asked, F__law_asked_, b__law_asked_⟩ := D__law_asked
  obtain ⟨f__law_changed_, fd__law_changed_, a__law_changed, F__law_changed_, b__law_changed_⟩ := D__law_changed
  obtain ⟨f__law_parts_changed_, fd__law_parts_changed_, a__law_parts_changed, F__law_parts_changed_, b__law_parts_changed_⟩ := D__law_parts_changed
  obtain ⟨f__law_odd_, fd__law_odd_, a__law_odd, F__law_odd_, b__law_odd_⟩ := D__law_odd
  obtain ⟨f_law_, fd_law_, a_law, F_law_, b_law_⟩ := D_law
  obtain ⟨A, hA⟩ := hA
  have e := hfa.symm.trans (PySem.W.mg_of X G a_law)
  cases e
  refine ⟨fd_law_, fun s u => b_law_ s [u] rfl, A, fun base => ?_⟩
  have W_is_whole_number := w_is_whole_number (P := P) (w := w) (mg := mg) (base := base) (CA := A) F_is_whole_number_ (PySem.W.mg_of X G a_is_whole_number) (binds_of b_is_whole_number_) (PySem.W.mg_none_of X G n_bool) (PySem.W.mg_none_of X G n_int) (PySem.W.mg_none_of X G n_isinstance)
  have W_is_tag := w_is_tag (P := P) (w := w) (mg := mg) (base := base) (CA := A) F_is_tag_ (PySem.W.mg_of X G a_is_tag) (binds_of b_is_tag_) (PySem.W.mg_none_of X G n_isinstance) (PySem.W.mg_none_of X G n_len) (PySem.W.mg_none_of X G n_str) (PySem.W.mg_of X G n_LETTERS) (PySem.W.mg_of X G n_LONGEST_TAG)
  have W_is_keyed := w_is_keyed (P := P) (w := w) (mg := mg) (base := base) (CA := A) F_is_keyed_ (PySem.W.mg_of X G a_is_keyed) (binds_of b_is_keyed_) (PySem.W.mg_none_of X G n_isinstance) (PySem.W.mg_none_of X G n_len) (PySem.W.mg_none_of X G n_tuple) W_is_whole_number W_is_tag
  have W_is_row := w_is_row (P := P) (w := w) (mg := mg) (base := base) (CA := A) F_is_row_ (PySem.W.mg_of X G a_is_row) (binds_of b_is_row_) (PySem.W.mg_none_of X G n_isinstance) (PySem.W.mg_none_of X G n_list) W_is_keyed
  have W_are_rows := w_are_rows (P := P) (w := w) (mg := mg) (base := base) (CA := A) F_are_rows_ (PySem.W.mg_of X G a_are_rows) (binds_of b_are_rows_) (PySem.W.mg_none_of X G n_isinstance) (PySem.W.mg_none_of X G n_len) (PySem.W.mg_none_of X G n_list) (PySem.W.mg_of X G n_MOST_HANDS) W_is_row
  have W_key_from := w_key_from (P := P) (w := w) (mg := mg) (base := base) (CA := A) F_key_from_ (PySem.W.mg_of X G a_key_from) (binds_of b_key_from_) (PySem.W.mg_none_of X G n_int) (PySem.W.mg_none_of X G n_len) (PySem.W.mg_of X G n_FIGURES) (PySem.W.mg_of X G n_MOST_FIGURES) (hA.clsT X G (c := 3) rfl)
  have W_thing_from := w_thing_from (P := P) (w := w) (mg := mg) (base := base) (CA := A) F_thing_from_ (PySem.W.mg_of X G a_thing_from) (binds_of b_thing_from_) W_key_from
  have W_row_from := w_row_from (P := P) (w := w) (mg := mg) (base := base) (CA := A) F_row_from_ (PySem.W.mg_of X G a_row_from) (binds_of b_row_from_) W_thing_from
  have W_read_rows := w_read_rows (P := P) (w := w) (mg := mg) (base := base) (CA := A) F_read_rows_ (PySem.W.mg_of X G a_read_rows) (binds_of b_read_rows_) (PySem.W.mg_none_of X G n_isinstance) (PySem.W.mg_none_of X G n_str) (hA.clsT X G (c := 3) rfl) W_are_rows W_row_from
  have W__law_cell_at := w__law_cell_at (P := P) (w := w) (mg := mg) (base := base) (CA := A) F__law_cell_at_ (PySem.W.mg_of X G a__law_cell_at) (binds_of b__law_cell_at_) (PySem.W.mg_none_of X G n_len)
  have W__law_numbers := w__law_numbers (P := P) (w := w) (mg := mg) (base := base) (CA := A) F__law_numbers_ (PySem.W.mg_of X G a__law_numbers) (binds_of b__law_numbers_) (PySem.W.mg_none_of X G n_range)
  have W__law_deck := w__law_deck (P := P) (w := w) (mg := mg) (base := base) (CA := A) F__law_deck_ (PySem.W.mg_of X G a__law_deck) (binds_of b__law_deck_) W__law_numbers
  have W__law_take := w__law_take (P := P) (w := w) (mg := mg) (base := base) (CA := A) F__law_take_ (PySem.W.mg_of X G a__law_take) (binds_of b__law_take_) 
  have W__law_key := w__law_key (P := P) (w := w) (mg := mg) (base := base) (CA := A) F__law_key_ (PySem.W.mg_of X G a__law_key) (binds_of b__law_key_) W__law_take
  have W__law_tag := w__law_tag (P := P) (w := w) (mg := mg) (base := base) (CA := A) F__law_tag_ (PySem.W.mg_of X G a__law_tag) (binds_of b__law_tag_) (PySem.W.mg_none_of X G n_range) W__law_take
  have W__law_rows := w__law_rows (P := P) (w := w) (mg := mg) (base := base) (CA := A) F__law_rows_ (PySem.W.mg_of X G a__law_rows) (binds_of b__law_rows_) (PySem.W.mg_none_of X G n_range) (PySem.W.mg_none_of X G n_sorted) W__law_take W__law_key W__law_tag
  have W__law_row_written := w__law_row_written (P := P) (w := w) (mg := mg) (base := base) (CA := A) F__law_row_written_ (PySem.W.mg_of X G a__law_row_written) (binds_of b__law_row_written_) (PySem.W.mg_none_of X G n_str)
  have W__law_written := w__law_written (P := P) (w := w) (mg := mg) (base := base) (CA := A) F__law_written_ (PySem.W.mg_of X G a__law_written) (binds_of b__law_written_) W__law_row_written
  have W__law_alike := w__law_alike (P := P) (w := w) (mg := mg) (base := base) (CA := A) F__law_alike_ (PySem.W.mg_of X G a__law_alike) (binds_of b__law_alike_) (PySem.W.mg_none_of X G n_bool) (PySem.W.mg_none_of X G n_int) (PySem.W.mg_none_of X G n_isinstance) (PySem.W.mg_none_of X G n_len) (PySem.W.mg_none_of X G n_list) (PySem.W.mg_none_of X G n_range) (PySem.W.mg_none_of X G n_str) (PySem.W.mg_none_of X G n_tuple) 5
  have W__law_thing := w__law_thing (P := P) (w := w) (mg := mg) (base := base) (CA := A) F__law_thing_ (PySem.W.mg_of X G a__law_thing) (binds_of b__law_thing_) (PySem.W.mg_none_of X G n_int) (PySem.W.mg_none_of X G n_len)
  have W__law_read := w__law_read (P := P) (w := w) (mg := mg) (base := base) (CA := A) F__law_read_ (PySem.W.mg_of X G a__law_read) (binds_of b__law_read_) (PySem.W.mg_none_of X G n_len) W__law_thing
  have W__law_asked := w__law_asked (P := P) (w := w) (mg := mg) (base := base) (CA := A) F__law_asked_ (PySem.W.mg_of X G a__law_asked) (binds_of b__law_asked_) (PySem.W.mg_none_of X G n_ValueError) (PySem.W.mg_none_of X G n_int) (PySem.W.mg_none_of X G n_isinstance) (hA.clsT X G (c := 0) rfl) (hA.clsT X G (c := 2) rfl) (hA.clsT X G (c := 4) rfl) (hA.clsT X G (c := 1) rfl) (hA.clsT X G (c := 5) rfl) (hA.clsT X G (c := 3) rfl) (hA.tab [some 2, some 4, some 1, some 5] false rfl (by decide) (by decide)) (hA.tab [none] true rfl (by decide) (by decide)) (hA.tab [some 3] true rfl (by decide) (by decide)) (hA.acc 0 rfl (by decide)) W_read_rows
  have W__law_changed := w__law_changed (P := P) (w := w) (mg := mg) (base := base) (CA := A) F__law_changed_ (PySem.W.mg_of X G a__law_changed) (binds_of b__law_changed_) (PySem.W.mg_none_of X G n_len) W__law_take
  have W__law_parts_changed := w__law_parts_changed (P := P) (w := w) (mg := mg) (base := base) (CA := A) F__law_parts_changed_ (PySem.W.mg_of X G a__law_parts_changed) (binds_of b__law_parts_changed_) (PySem.W.mg_none_of X G n_len) W__law_take
  have W__law_odd := w__law_odd (P := P) (w := w) (mg := mg) (base := base) (CA := A) F__law_odd_ (PySem.W.mg_of X G a__law_odd) (binds_of b__law_odd_) (PySem.W.mg_none_of X G n_len)
  exact o_law F_law_ (PySem.W.mg_none_of X G n_int) (PySem.W.mg_none_of X G n_len) (PySem.W.mg_none_of X G n_max) (PySem.W.mg_none_of X G n_min) (PySem.W.mg_none_of X G n_range) (PySem.W.mg_none_of X G n_str) W__law_cell_at W__law_numbers W__law_deck W__law_take W__law_rows W__law_written W__law_alike W__law_read W__law_asked W__law_changed W__law_parts_changed W__law_odd
end Ev
open PySem PySem.W PyProof.Rows
set_option maxRecDepth 100000 in
set_option maxHeartbeats 0 in
theorem PySem.Challenge.cw_evenlots_k45_texts_of_no_rows_holds : PySem.Challenge.rw_evenlots_k45_texts_of_no_rows.Holds := by
  w_on; o_law; k_head; (case hw => w_witness2)
  k_fill
  refine Ev.walk_topA (l := PySem.Challenge.rw_evenlots_k45_texts_of_no_rows) Ev.f_law rfl rfl (fun w h Y => PySem.W.kIn_of Y) ?F Ev.law_true
  case F =>
    intro w mg fa h KX G hmg
    refine' Ev.all_mk KX G hmg ?d_is_whole_number ?d_is_tag ?d_is_keyed ?d_is_row ?d_are_rows ?d_key_from ?d_thing_from ?d_row_from ?d_read_rows ?d__law_cell_at ?d__law_numbers ?d__law_deck ?d__law_take ?d__law_key ?d__law_tag ?d__law_rows ?d__law_row_written ?d__law_written ?d__law_alike ?d__law_thing ?d__law_read ?d__law_asked ?d__law_changed ?d__law_parts_changed ?d__law_odd ?d_law ?n_bool ?n_int ?n_isinstance ?n_len ?n_str ?n_tuple ?n_list ?n_range ?n_sorted ?n_ValueError ?n_max ?n_min ?n_LETTERS ?n_LONGEST_TAG ?n_MOST_HANDS ?n_FIGURES ?n_MOST_FIGURES ?hA
    case d_is_whole_number =>
      refine' Ev.DF.mk (fun _ _ _ _ _ _ us hl => match us, hl with | [_], _ => rfl) ?a_is_whole_number ?l_is_whole_number ?c_is_whole_number ?k_is_whole_number
      (case a_is_whole_number => k_is); (case l_is_whole_number => k_is); (case c_is_whole_number => k_is); (case k_is_whole_number => k_is)
    case d_is_tag =>
      refine' Ev.DF.mk (fun _ _ _ _ _ _ us hl => match us, hl with | [_], _ => rfl) ?a_is_tag ?l_is_tag ?c_is_tag ?k_is_tag
      (case a_is_tag => k_is); (case l_is_tag => k_is); (case c_is_tag => k_is); (case k_is_tag => k_is)
    case d_is_keyed =>
      refine' Ev.DF.mk (fun _ _ _ _ _ _ us hl => match us, hl with | [_], _ => rfl) ?a_is_keyed ?l_is_keyed ?c_is_keyed ?k_is_keyed
      (case a_is_keyed => k_is); (case l_is_keyed => k_is); (case c_is_keyed => k_is); (case k_is_keyed => k_is)
    case d_is_row =>
      refine' Ev.DF.mk (fun _ _ _ _ _ _ us hl => match us, hl with | [_], _ => rfl) ?a_is_row ?l_is_row ?c_is_row ?k_is_row
      (case a_is_row => k_is); (case l_is_row => k_is); (case c_is_row => k_is); (case k_is_row => k_is)
    case d_are_rows =>
      refine' Ev.DF.mk (fun _ _ _ _ _ _ us hl => match us, hl with | [_], _ => rfl) ?a_are_rows ?l_are_rows ?c_are_rows ?k_are_rows
      (case a_are_rows => k_is); (case l_are_rows => k_is); (case c_are_rows => k_is); (case k_are_rows => k_is)
    case d_key_from =>
      refine' Ev.DF.mk (fun _ _ _ _ _ _ us hl => match us, hl with | [_], _ => rfl) ?a_key_from ?l_key_from ?c_key_from ?k_key_from
      (case a_key_from => k_is); (case l_key_from => k_is); (case c_key_from => k_is); (case k_key_from => k_is)
    case d_thing_from =>
      refine' Ev.DF.mk (fun _ _ _ _ _ _ us hl => match us, hl with | [_], _ => rfl) ?a_thing_from ?l_thing_from ?c_thing_from ?k_thing_from
      (case a_thing_from => k_is); (case l_thing_from => k_is); (case c_thing_from => k_is); (case k_thing_from => k_is)
    case d_row_from =>
      refine' Ev.DF.mk (fun _ _ _ _ _ _ us hl => match us, hl with | [_], _ => rfl) ?a_row_from ?l_row_from ?c_row_from ?k_row_from
      (case a_row_from => k_is); (case l_row_from => k_is); (case c_row_from => k_is); (case k_row_from => k_is)
    case d_read_rows =>
      refine' Ev.DF.mk (fun _ _ _ _ _ _ us hl => match us, hl with | [_], _ => rfl) ?a_read_rows ?l_read_rows ?c_read_rows ?k_read_rows
      (case a_read_rows => k_is); (case l_read_rows => k_is); (case c_read_rows => k_is); (case k_read_rows => k_is)
    case d__law_cell_at =>
      refine' Ev.DF.mk (fun _ _ _ _ _ _ us hl => match us, hl with | [_, _], _ => rfl) ?a__law_cell_at ?l__law_cell_at ?c__law_cell_at ?k__law_cell_at
      (case a__law_cell_at => k_is); (case l__law_cell_at => k_is); (case c__law_cell_at => k_is); (case k__law_cell_at => k_is)
    case d__law_numbers =>
      refine' Ev.DF.mk (fun _ _ _ _ _ _ us hl => match us, hl with | [_, _], _ => rfl) ?a__law_numbers ?l__law_numbers ?c__law_numbers ?k__law_numbers
      (case a__law_numbers => k_is); (case l__law_numbers => k_is); (case c__law_numbers => k_is); (case k__law_numbers => k_is)
    case d__law_deck =>
      refine' Ev.DF.mk (fun _ _ _ _ _ _ us hl => match us, hl with | [_, _], _ => rfl) ?a__law_deck ?l__law_deck ?c__law_deck ?k__law_deck
      (case a__law_deck => k_is); (case l__law_deck => k_is); (case c__law_deck => k_is); (case k__law_deck => k_is)
    case d__law_take =>
      refine' Ev.DF.mk (fun _ _ _ _ _ _ us hl => match us, hl with | [_, _], _ => rfl) ?a__law_take ?l__law_take ?c__law_take ?k__law_take
      (case a__law_take => k_is); (case l__law_take => k_is); (case c__law_take => k_is); (case k__law_take => k_is)
    case d__law_key =>
      refine' Ev.DF.mk (fun _ _ _ _ _ _ us hl => match us, hl with | [_], _ => rfl) ?a__law_key ?l__law_key ?c__law_key ?k__law_key
      (case a__law_key => k_is); (case l__law_key => k_is); (case c__law_key => k_is); (case k__law_key => k_is)
    case d__law_tag =>
      refine' Ev.DF.mk (fun _ _ _ _ _ _ us hl => match us, hl with | [_], _ => rfl) ?a__law_tag ?l__law_tag ?c__law_tag ?k__law_tag
      (case a__law_tag => k_is); (case l__law_tag => k_is); (case c__law_tag => k_is); (case k__law_tag => k_is)
    case d__law_rows =>
      refine' Ev.DF.mk (fun _ _ _ _ _ _ us hl => match us, hl with | [_, _], _ => rfl) ?a__law_rows ?l__law_rows ?c__law_rows ?k__law_rows
      (case a__law_rows => k_is); (case l__law_rows => k_is); (case c__law_rows => k_is); (case k__law_rows => k_is)
    case d__law_row_written =>
      refine' Ev.DF.mk (fun _ _ _ _ _ _ us hl => match us, hl with | [_], _ => rfl) ?a__law_row_written ?l__law_row_written ?c__law_row_written ?k__law_row_written
      (case a__law_row_written => k_is); (case l__law_row_written => k_is); (case c__law_row_written => k_is); (case k__law_row_written => k_is)
    case d__law_written =>
      refine' Ev.DF.mk (fun _ _ _ _ _ _ us hl => match us, hl with | [_], _ => rfl) ?a__law_written ?l__law_written ?c__law_written ?k__law_written
      (case a__law_written => k_is); (case l__law_written => k_is); (case c__law_written => k_is); (case k__law_written => k_is)
    case d__law_alike =>
      refine' Ev.DF.mk (fun _ _ _ _ _ _ us hl => match us, hl with | [_, _], _ => rfl) ?a__law_alike ?l__law_alike ?c__law_alike ?k__law_alike
      (case a__law_alike => k_is); (case l__law_alike => k_is); (case c__law_alike => k_is); (case k__law_alike => k_is)
    case d__law_thing =>
      refine' Ev.DF.mk (fun _ _ _ _ _ _ us hl => match us, hl with | [_], _ => rfl) ?a__law_thing ?l__law_thing ?c__law_thing ?k__law_thing
      (case a__law_thing => k_is); (case l__law_thing => k_is); (case c__law_thing => k_is); (case k__law_thing => k_is)
    case d__law_read =>
      refine' Ev.DF.mk (fun _ _ _ _ _ _ us hl => match us, hl with | [_], _ => rfl) ?a__law_read ?l__law_read ?c__law_read ?k__law_read
      (case a__law_read => k_is); (case l__law_read => k_is); (case c__law_read => k_is); (case k__law_read => k_is)
    case d__law_asked =>
      refine' Ev.DF.mk (fun _ _ _ _ _ _ us hl => match us, hl with | [_], _ => rfl) ?a__law_asked ?l__law_asked ?c__law_asked ?k__law_asked
      (case a__law_asked => k_is); (case l__law_asked => k_is); (case c__law_asked => k_is); (case k__law_asked => k_is)
    case d__law_changed =>
      refine' Ev.DF.mk (fun _ _ _ _ _ _ us hl => match us, hl with | [_, _], _ => rfl) ?a__law_changed ?l__law_changed ?c__law_changed ?k__law_changed
      (case a__law_changed => k_is); (case l__law_changed => k_is); (case c__law_changed => k_is); (case k__law_changed => k_is)
    case d__law_parts_changed =>
      refine' Ev.DF.mk (fun _ _ _ _ _ _ us hl => match us, hl with | [_, _], _ => rfl) ?a__law_parts_changed ?l__law_parts_changed ?c__law_parts_changed ?k__law_parts_changed
      (case a__law_parts_changed => k_is); (case l__law_parts_changed => k_is); (case c__law_parts_changed => k_is); (case k__law_parts_changed => k_is)
    case d__law_odd =>
      refine' Ev.DF.mk (fun _ _ _ _ _ _ us hl => match us, hl with | [_], _ => rfl) ?a__law_odd ?l__law_odd ?c__law_odd ?k__law_odd
      (case a__law_odd => k_is); (case l__law_odd => k_is); (case c__law_odd => k_is); (case k__law_odd => k_is)
    case d_law =>
      refine' Ev.DF.mk (fun _ _ _ _ _ _ us hl => match us, hl with | [_], _ => rfl) ?a_law ?l_law ?c_law ?k_law
      (case a_law => k_is); (case l_law => k_is); (case c_law => k_is); (case k_law => k_is)
    (case n_bool => k_is)
    (case n_int => k_is)
    (case n_isinstance => k_is)
    (case n_len => k_is)
    (case n_str => k_is)
    (case n_tuple => k_is)
    (case n_list => k_is)
    (case n_range => k_is)
    (case n_sorted => k_is)
    (case n_ValueError => k_is)
    (case n_max => k_is)
    (case n_min => k_is)
    (case n_LETTERS => k_is)
    (case n_LONGEST_TAG => k_is)
    (case n_MOST_HANDS => k_is)
    (case n_FIGURES => k_is)
    (case n_MOST_FIGURES => k_is)
    case hA =>
      refine' Ev.cf_of ?q0 ?q1 ?q2 ?q3 ?q4 ?q5 ?s0_0 ?s0_1 ?s0_2 ?s0_3 ?s0_4 ?s0_5 ?s1_0 ?s1_1 ?s1_2 ?s1_3 ?s1_4 ?s1_5 ?s2_0 ?s2_1 ?s2_2 ?s2_3 ?s2_4 ?s2_5 ?s3_0 ?s3_1 ?s3_2 ?s3_3 ?s3_4 ?s3_5 ?s4_0 ?s4_1 ?s4_2 ?s4_3 ?s4_4 ?s4_5 ?s5_0 ?s5_1 ?s5_2 ?s5_3 ?s5_4 ?s5_5
      case q0 =>
        refine' ⟨?ns0, ?x0, ?k0, ?b0, ?t0, ?v0, ⟨?e01, ?e02, ?e03, ?e04, ?e05, ?e06, ?e07, ?e08⟩⟩
        (case ns0 => k_is); (case x0 => k_exc); (case k0 => k_is); (case b0 => k_is); (case t0 => k_is); (case v0 => k_is)
        all_goals k_is
      case q1 =>
        refine' ⟨?ns1, ?x1, ?k1, ?b1, ?t1, ?v1, ⟨?e11, ?e12, ?e13, ?e14, ?e15, ?e16, ?e17, ?e18⟩⟩
        (case ns1 => k_is); (case x1 => k_exc); (case k1 => k_is); (case b1 => k_is); (case t1 => k_is); (case v1 => k_is)
        all_goals k_is
      case q2 =>
        refine' ⟨?ns2, ?x2, ?k2, ?b2, ?t2, ?v2, ⟨?e21, ?e22, ?e23, ?e24, ?e25, ?e26, ?e27, ?e28⟩⟩
        (case ns2 => k_is); (case x2 => k_exc); (case k2 => k_is); (case b2 => k_is); (case t2 => k_is); (case v2 => k_is)
        all_goals k_is
      case q3 =>
        refine' ⟨?ns3, ?x3, ?k3, ?b3, ?t3, ?v3, ⟨?e31, ?e32, ?e33, ?e34, ?e35, ?e36, ?e37, ?e38⟩⟩
        (case ns3 => k_is); (case x3 => k_exc); (case k3 => k_is); (case b3 => k_is); (case t3 => k_is); (case v3 => k_is)
        all_goals k_is
      case q4 =>
        refine' ⟨?ns4, ?x4, ?k4, ?b4, ?t4, ?v4, ⟨?e41, ?e42, ?e43, ?e44, ?e45, ?e46, ?e47, ?e48⟩⟩
        (case ns4 => k_is); (case x4 => k_exc); (case k4 => k_is); (case b4 => k_is); (case t4 => k_is); (case v4 => k_is)
        all_goals k_is
      case q5 =>
        refine' ⟨?ns5, ?x5, ?k5, ?b5, ?t5, ?v5, ⟨?e51, ?e52, ?e53, ?e54, ?e55, ?e56, ?e57, ?e58⟩⟩
        (case ns5 => k_is); (case x5 => k_exc); (case k5 => k_is); (case b5 => k_is); (case t5 => k_is); (case v5 => k_is)
        all_goals k_is
      all_goals first | rfl | k_is

